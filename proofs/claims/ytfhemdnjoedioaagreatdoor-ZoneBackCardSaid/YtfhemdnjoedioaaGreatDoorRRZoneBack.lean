/- The law ZoneBack of layer 10 answers true for every input: what is written of an era is read; unlike eras have unlike texts. -/
import Derived.Test.YtfhemdnjoedioaaGreatDoorCZoneBack6
import Derived.Test.YtfhemdnjoedioaaGreatDoorCards
import Derived.Test.YtfhemdnjoedioaaGreatDoorTie
import Derived.WalkKit
import Derived.ProofKit
import Derived.OpenShut
import Derived.ShutString
import Derived.ChangeOld
import Derived.Below
import Derived.SizedLaws
import Derived.Deep.DeepHandedRow
import Derived.Lib.LaidTab
import Derived.Lib.LaidU8
namespace Go.Proofs.YtfhemdnjoedioaaGreatDoor.zoneBack
open Go.ChangeShapes Go.WideShapes Go.ChangeAt Go.RowKit
open Go.ChangeMaps (open_string shut_string)
set_option linter.unusedVariables false
theorem own : ownKnob Tryz.prog.godebug = none := by kernel_rfl
theorem tabIs_of_reads {P : Program} {W : World} {name : String} {k : IntKind} {zs : List Int} {g : Nat} {t e : TypeId} {n : Nat}
    (hg : P.globalNamed name = some g) (hty : (P.globals[g]?).map (·.type) = some t) (ht : P.underlying t = some (.array n e)) (he : P.underlying e = some (.int k)) (hce : P.cellsOf e = 1) (hct : P.cellsOf t = n)
    (h : Lib.VarReads P W name (Lib.tabData k zs)) : Lib.TabIs P W name k zs := by
  obtain ⟨g', t', cs, fuel, p, hg', ht', hvar, hd⟩ := h
  obtain rfl := Option.some.inj (hg.symm.trans hg')
  obtain rfl := Option.some.inj (hty.symm.trans ht')
  unfold Lib.TabIs
  rw [hvar, ← Lib.cells_of_tab ht he hce hct hd]
theorem gw {W : World} (h : laidMetH Tryz.prog Rows.zoneBackRow.laid W) (hS : W.ShapedOpen Tryz.prog) : X.GW W := by
  have h' : laidMet Tryz.prog Rows.zoneBackRow.laid W := h
  have e0 : (Rows.laid_strings_asciiSpace : DataW Unit) = Lib.tabData .u8 Lib.asciiSpaceTab := by kernel_rfl
  have hm0 : ("strings.asciiSpace", (Lib.tabData .u8 Lib.asciiSpaceTab : DataW Unit)) ∈ Rows.zoneBackRow.laid := by
    rw [← e0]; exact (.tail _ (.tail _ (.tail _ (.head _))))
  have e1 : (Rows.laid_internal_strconv_uint64pow10 : DataW Unit) = Lib.tabData .u64 Lib.pow10Tab := by kernel_rfl
  have hm1 : ("internal/strconv.uint64pow10", (Lib.tabData .u64 Lib.pow10Tab : DataW Unit)) ∈ Rows.zoneBackRow.laid := by
    rw [← e1]; exact (.tail _ (.tail _ (.head _)))
  exact ⟨tabIs_of_reads (g := 1) (show Tryz.prog.globalNamed "strings.asciiSpace" = some 1 by kernel_rfl) (show (Tryz.prog.globals[1]?).map (·.type) = some 189 by kernel_rfl) Tryz.underlying189 Tryz.underlying5 (by kernel_rfl) (by kernel_rfl) (Lib.laidMet.reads h' hm0), tabIs_of_reads (g := 6) (show Tryz.prog.globalNamed "internal/strconv.uint64pow10" = some 6 by kernel_rfl) (show (Tryz.prog.globals[6]?).map (·.type) = some 247 by kernel_rfl) Tryz.underlying247 Tryz.underlying187 (by kernel_rfl) (by kernel_rfl) (Lib.laidMet.reads h' hm1), Tryz.laysM145.s1_3 W hS⟩
theorem list23_3 {cs : List Value} (h : cs.length = 3) : ∃ c0 c1 c2, cs = [c0, c1, c2] := by
  match cs, h with
  | [c0, c1, c2], _ => exact ⟨c0, c1, c2, rfl⟩
theorem cO23_3 : Tryz.prog.cellsOf 3 = 1 := by kernel_rfl
set_option maxHeartbeats 2000000 in
theorem flat23 {H : Type} {enc : TypeId × Value → H} {w : World} {b : Nat} {sp : Nat → Bool} {hd : Bool} {fuel : Nat} {cs : List Value} {x : DataW H × List MemPlace} (h : DataW.trod enc Tryz.prog w b sp hd fuel 23 cs = some x) : ∃ (a0 : Int) (a1 : Int) (a2 : Int), cs = [.int .i64 a0, .int .i64 a1, .int .i64 a2] ∧ (-9223372036854775808 ≤ a0 ∧ a0 < 9223372036854775808) ∧ (-9223372036854775808 ≤ a1 ∧ a1 < 9223372036854775808) ∧ (-9223372036854775808 ≤ a2 ∧ a2 < 9223372036854775808) := by
  obtain ⟨xs, n, _, _, hl, hx, hf⟩ := DataW.trod_struct Tryz.underlying23 h
  have hx' : xs.length = 3 := hx
  obtain ⟨c0, c1, c2, rfl⟩ := list23_3 (hl.trans (show Tryz.prog.cellsOf 23 = 3 by kernel_rfl))
  have g0 : DataW.trod enc Tryz.prog w b sp hd n 3 [c0] = some xs[0] := by
    have g := hf 0 _ rfl
    rw [List.getElem?_eq_getElem (show 0 < xs.length by omega)] at g
    simpa [cO23_3] using g
  obtain ⟨a0, e0, _, y0⟩ := DataW.trod_int Tryz.underlying3 g0
  obtain rfl : c0 = .int .i64 a0 := by simpa using e0
  have z0 : -9223372036854775808 ≤ a0 ∧ a0 < 9223372036854775808 := by have h := y0; simp [Lit.wf, IntKind.min, IntKind.max, IntKind.signed, IntKind.bits] at h; omega
  have g1 : DataW.trod enc Tryz.prog w b sp hd n 3 [c1] = some xs[1] := by
    have g := hf 1 _ rfl
    rw [List.getElem?_eq_getElem (show 1 < xs.length by omega)] at g
    simpa [cO23_3] using g
  obtain ⟨a1, e1, _, y1⟩ := DataW.trod_int Tryz.underlying3 g1
  obtain rfl : c1 = .int .i64 a1 := by simpa using e1
  have z1 : -9223372036854775808 ≤ a1 ∧ a1 < 9223372036854775808 := by have h := y1; simp [Lit.wf, IntKind.min, IntKind.max, IntKind.signed, IntKind.bits] at h; omega
  have g2 : DataW.trod enc Tryz.prog w b sp hd n 3 [c2] = some xs[2] := by
    have g := hf 2 _ rfl
    rw [List.getElem?_eq_getElem (show 2 < xs.length by omega)] at g
    simpa [cO23_3] using g
  obtain ⟨a2, e2, _, y2⟩ := DataW.trod_int Tryz.underlying3 g2
  obtain rfl : c2 = .int .i64 a2 := by simpa using e2
  have z2 : -9223372036854775808 ≤ a2 ∧ a2 < 9223372036854775808 := by have h := y2; simp [Lit.wf, IntKind.min, IntKind.max, IntKind.signed, IntKind.bits] at h; omega
  exact ⟨a0, a1, a2, rfl, z0, z1, z2⟩
theorem list25_2 {cs : List Value} (h : cs.length = 2) : ∃ c0 c1, cs = [c0, c1] := by
  match cs, h with
  | [c0, c1], _ => exact ⟨c0, c1, rfl⟩
theorem cO25_3 : Tryz.prog.cellsOf 3 = 1 := by kernel_rfl
set_option maxHeartbeats 2000000 in
theorem flat25 {H : Type} {enc : TypeId × Value → H} {w : World} {b : Nat} {sp : Nat → Bool} {hd : Bool} {fuel : Nat} {cs : List Value} {x : DataW H × List MemPlace} (h : DataW.trod enc Tryz.prog w b sp hd fuel 25 cs = some x) : ∃ (a0 : Int) (a1 : Int), cs = [.int .i64 a0, .int .i64 a1] ∧ (-9223372036854775808 ≤ a0 ∧ a0 < 9223372036854775808) ∧ (-9223372036854775808 ≤ a1 ∧ a1 < 9223372036854775808) := by
  obtain ⟨xs, n, _, _, hl, hx, hf⟩ := DataW.trod_struct Tryz.underlying25 h
  have hx' : xs.length = 2 := hx
  obtain ⟨c0, c1, rfl⟩ := list25_2 (hl.trans (show Tryz.prog.cellsOf 25 = 2 by kernel_rfl))
  have g0 : DataW.trod enc Tryz.prog w b sp hd n 3 [c0] = some xs[0] := by
    have g := hf 0 _ rfl
    rw [List.getElem?_eq_getElem (show 0 < xs.length by omega)] at g
    simpa [cO25_3] using g
  obtain ⟨a0, e0, _, y0⟩ := DataW.trod_int Tryz.underlying3 g0
  obtain rfl : c0 = .int .i64 a0 := by simpa using e0
  have z0 : -9223372036854775808 ≤ a0 ∧ a0 < 9223372036854775808 := by have h := y0; simp [Lit.wf, IntKind.min, IntKind.max, IntKind.signed, IntKind.bits] at h; omega
  have g1 : DataW.trod enc Tryz.prog w b sp hd n 3 [c1] = some xs[1] := by
    have g := hf 1 _ rfl
    rw [List.getElem?_eq_getElem (show 1 < xs.length by omega)] at g
    simpa [cO25_3] using g
  obtain ⟨a1, e1, _, y1⟩ := DataW.trod_int Tryz.underlying3 g1
  obtain rfl : c1 = .int .i64 a1 := by simpa using e1
  have z1 : -9223372036854775808 ≤ a1 ∧ a1 < 9223372036854775808 := by have h := y1; simp [Lit.wf, IntKind.min, IntKind.max, IntKind.signed, IntKind.bits] at h; omega
  exact ⟨a0, a1, rfl, z0, z1⟩
theorem list45_13 {cs : List Value} (h : cs.length = 13) : ∃ c0 c1 c2 c3 c4 c5 c6 c7 c8 c9 c10 c11 c12, cs = [c0, c1, c2, c3, c4, c5, c6, c7, c8, c9, c10, c11, c12] := by
  match cs, h with
  | [c0, c1, c2, c3, c4, c5, c6, c7, c8, c9, c10, c11, c12], _ => exact ⟨c0, c1, c2, c3, c4, c5, c6, c7, c8, c9, c10, c11, c12, rfl⟩
theorem cO45_3 : Tryz.prog.cellsOf 3 = 1 := by kernel_rfl
theorem cO45_4 : Tryz.prog.cellsOf 4 = 1 := by kernel_rfl
theorem cO45_9 : Tryz.prog.cellsOf 9 = 1 := by kernel_rfl
theorem cO45_23 : Tryz.prog.cellsOf 23 = 3 := by kernel_rfl
theorem cO45_25 : Tryz.prog.cellsOf 25 = 2 := by kernel_rfl
set_option maxHeartbeats 2000000 in
theorem flat45 {H : Type} {enc : TypeId × Value → H} {w : World} {b : Nat} {sp : Nat → Bool} {hd : Bool} {fuel : Nat} {cs : List Value} {x : DataW H × List MemPlace} (h : DataW.trod enc Tryz.prog w b sp hd fuel 45 cs = some x) : ∃ (a0 : Int) (a1 : Int) (a2 : Int) (a3 : ByteArray) (a4 : ByteArray) (a5 : Bool) (a6 : Int) (a7 : Int) (a8 : Int) (a9 : Int) (a10 : Int) (a11 : Int) (a12 : Int), cs = [.int .i64 a0, .int .i64 a1, .int .i64 a2, .string a3, .string a4, .bool a5, .int .i64 a6, .int .i64 a7, .int .i64 a8, .int .i64 a9, .int .i64 a10, .int .i64 a11, .int .i64 a12] ∧ (-9223372036854775808 ≤ a0 ∧ a0 < 9223372036854775808) ∧ (-9223372036854775808 ≤ a1 ∧ a1 < 9223372036854775808) ∧ (-9223372036854775808 ≤ a2 ∧ a2 < 9223372036854775808) ∧ (a3.size ≤ maxLen) ∧ (a4.size ≤ maxLen) ∧ (-9223372036854775808 ≤ a6 ∧ a6 < 9223372036854775808) ∧ (-9223372036854775808 ≤ a7 ∧ a7 < 9223372036854775808) ∧ (-9223372036854775808 ≤ a8 ∧ a8 < 9223372036854775808) ∧ (-9223372036854775808 ≤ a9 ∧ a9 < 9223372036854775808) ∧ (-9223372036854775808 ≤ a10 ∧ a10 < 9223372036854775808) ∧ (-9223372036854775808 ≤ a11 ∧ a11 < 9223372036854775808) ∧ (-9223372036854775808 ≤ a12 ∧ a12 < 9223372036854775808) := by
  obtain ⟨xs, n, _, _, hl, hx, hf⟩ := DataW.trod_struct Tryz.underlying45 h
  have hx' : xs.length = 10 := hx
  obtain ⟨c0, c1, c2, c3, c4, c5, c6, c7, c8, c9, c10, c11, c12, rfl⟩ := list45_13 (hl.trans (show Tryz.prog.cellsOf 45 = 13 by kernel_rfl))
  have g0 : DataW.trod enc Tryz.prog w b sp hd n 3 [c0] = some xs[0] := by
    have g := hf 0 _ rfl
    rw [List.getElem?_eq_getElem (show 0 < xs.length by omega)] at g
    simpa [cO45_3] using g
  obtain ⟨a0, e0, _, y0⟩ := DataW.trod_int Tryz.underlying3 g0
  obtain rfl : c0 = .int .i64 a0 := by simpa using e0
  have z0 : -9223372036854775808 ≤ a0 ∧ a0 < 9223372036854775808 := by have h := y0; simp [Lit.wf, IntKind.min, IntKind.max, IntKind.signed, IntKind.bits] at h; omega
  have g1 : DataW.trod enc Tryz.prog w b sp hd n 3 [c1] = some xs[1] := by
    have g := hf 1 _ rfl
    rw [List.getElem?_eq_getElem (show 1 < xs.length by omega)] at g
    simpa [cO45_3] using g
  obtain ⟨a1, e1, _, y1⟩ := DataW.trod_int Tryz.underlying3 g1
  obtain rfl : c1 = .int .i64 a1 := by simpa using e1
  have z1 : -9223372036854775808 ≤ a1 ∧ a1 < 9223372036854775808 := by have h := y1; simp [Lit.wf, IntKind.min, IntKind.max, IntKind.signed, IntKind.bits] at h; omega
  have g2 : DataW.trod enc Tryz.prog w b sp hd n 3 [c2] = some xs[2] := by
    have g := hf 2 _ rfl
    rw [List.getElem?_eq_getElem (show 2 < xs.length by omega)] at g
    simpa [cO45_3] using g
  obtain ⟨a2, e2, _, y2⟩ := DataW.trod_int Tryz.underlying3 g2
  obtain rfl : c2 = .int .i64 a2 := by simpa using e2
  have z2 : -9223372036854775808 ≤ a2 ∧ a2 < 9223372036854775808 := by have h := y2; simp [Lit.wf, IntKind.min, IntKind.max, IntKind.signed, IntKind.bits] at h; omega
  have g3 : DataW.trod enc Tryz.prog w b sp hd n 9 [c3] = some xs[3] := by
    have g := hf 3 _ rfl
    rw [List.getElem?_eq_getElem (show 3 < xs.length by omega)] at g
    simpa [cO45_9] using g
  obtain ⟨a3, e3, _, z3⟩ := DataW.trod_string Tryz.underlying9 g3
  obtain rfl : c3 = .string a3 := by simpa using e3
  have g4 : DataW.trod enc Tryz.prog w b sp hd n 9 [c4] = some xs[4] := by
    have g := hf 4 _ rfl
    rw [List.getElem?_eq_getElem (show 4 < xs.length by omega)] at g
    simpa [cO45_9] using g
  obtain ⟨a4, e4, _, z4⟩ := DataW.trod_string Tryz.underlying9 g4
  obtain rfl : c4 = .string a4 := by simpa using e4
  have g5 : DataW.trod enc Tryz.prog w b sp hd n 4 [c5] = some xs[5] := by
    have g := hf 5 _ rfl
    rw [List.getElem?_eq_getElem (show 5 < xs.length by omega)] at g
    simpa [cO45_4] using g
  obtain ⟨a5, e5, _⟩ := DataW.trod_bool Tryz.underlying4 g5
  obtain rfl : c5 = .bool a5 := by simpa using e5
  have g6 : DataW.trod enc Tryz.prog w b sp hd n 3 [c6] = some xs[6] := by
    have g := hf 6 _ rfl
    rw [List.getElem?_eq_getElem (show 6 < xs.length by omega)] at g
    simpa [cO45_3] using g
  obtain ⟨a6, e6, _, y6⟩ := DataW.trod_int Tryz.underlying3 g6
  obtain rfl : c6 = .int .i64 a6 := by simpa using e6
  have z6 : -9223372036854775808 ≤ a6 ∧ a6 < 9223372036854775808 := by have h := y6; simp [Lit.wf, IntKind.min, IntKind.max, IntKind.signed, IntKind.bits] at h; omega
  have g7 : DataW.trod enc Tryz.prog w b sp hd n 3 [c7] = some xs[7] := by
    have g := hf 7 _ rfl
    rw [List.getElem?_eq_getElem (show 7 < xs.length by omega)] at g
    simpa [cO45_3] using g
  obtain ⟨a7, e7, _, y7⟩ := DataW.trod_int Tryz.underlying3 g7
  obtain rfl : c7 = .int .i64 a7 := by simpa using e7
  have z7 : -9223372036854775808 ≤ a7 ∧ a7 < 9223372036854775808 := by have h := y7; simp [Lit.wf, IntKind.min, IntKind.max, IntKind.signed, IntKind.bits] at h; omega
  have g8 : DataW.trod enc Tryz.prog w b sp hd n 23 [c8, c9, c10] = some xs[8] := by
    have g := hf 8 _ rfl
    rw [List.getElem?_eq_getElem (show 8 < xs.length by omega)] at g
    simpa [cO45_23] using g
  obtain ⟨a8, a9, a10, e8, z8, z9, z10⟩ := flat23 g8
  simp only [List.cons.injEq, and_true] at e8
  obtain ⟨rfl, rfl, rfl⟩ := e8
  have g9 : DataW.trod enc Tryz.prog w b sp hd n 25 [c11, c12] = some xs[9] := by
    have g := hf 9 _ rfl
    rw [List.getElem?_eq_getElem (show 9 < xs.length by omega)] at g
    simpa [cO45_25] using g
  obtain ⟨a11, a12, e11, z11, z12⟩ := flat25 g9
  simp only [List.cons.injEq, and_true] at e11
  obtain ⟨rfl, rfl⟩ := e11
  exact ⟨a0, a1, a2, a3, a4, a5, a6, a7, a8, a9, a10, a11, a12, rfl, z0, z1, z2, z3, z4, z6, z7, z8, z9, z10, z11, z12⟩
theorem laidOut : laidOutB Tryz.prog = true := by kernel_rfl
set_option maxRecDepth 100000 in
theorem contract (H : Type) (enc : TypeId × Value → H) (W : World) (base : Nat) (args : Array Value) (ds gs : List (DataW H)) (before : List MemPlace)
    (hval0 : ∀ (j : Nat) t v, Tryz.f6.params[j]? = some t → args[j]? = some v → Value.okWide Tryz.prog W .any base t v)
    (hW : DataW.Whole enc Tryz.prog Tryz.f6.params.toList Rows.zoneBackSpec.vars false W args.toList ds gs before)
    (hsz0 : (DataW.weightsEach Tryz.prog (Tryz.f6.params.toList ++ Rows.zoneBackSpec.plain.varTypes Tryz.prog) (ds ++ gs)).all (· ≤ reachBytes) = true)
    (hL : laidMetH Tryz.prog Rows.zoneBackRow.laid W) (hS : W.ShapedOpen Tryz.prog) :
    Calls Tryz.prog 6 args W fun e W' => ∃ v, e = .returned v ∧ Rows.zoneBackSpec.post enc Tryz.prog Tryz.f6 false true false false W args v W' := by
  have hG := gw hL hS
  have hsz := hsz0
  have hval := hval0
  have hW' := hW
  obtain ⟨p, q, hA0, hV, rfl, hfz, hnd⟩ := hW
  have hA : DataW.TrodAll enc Tryz.prog W 0 (fun _ => true) true Tryz.f6.params.toList args.toList ds p := hA0
  rw [Tryz.params6] at hA hval hsz
  obtain ⟨v0, vs0, d0, ds0, p0, q0, hargs, rfl, rfl, h0, r0⟩ := trodAll_cons hA
  obtain ⟨v1, vs1, d1, ds1, p1, q1, rfl, rfl, rfl, h1, r1⟩ := trodAll_cons r0
  obtain ⟨rfl, rfl, rfl⟩ := trodAll_nil r1
  obtain rfl : args = #[v0, v1] := by cases args; simp_all
  obtain ⟨rfl, rfl⟩ := trodVars_none hV
  obtain ⟨cs0, rfl, hcs0⟩ := okWide_struct Tryz.underlying45 (hval 0 45 v0 rfl rfl)
  have k0 := h0
  have lt0 : ∀ x ∈ p0, x.block < W.heap.size := by obtain ⟨m, hm⟩ := k0; exact DataW.trod_lt m _ _ _ hm
  obtain ⟨a0_0, a0_1, a0_2, a0_3, a0_4, a0_5, a0_6, a0_7, a0_8, a0_9, a0_10, a0_11, a0_12, hc0, z0_0, z0_1, z0_2, z0_3, z0_4, z0_6, z0_7, z0_8, z0_9, z0_10, z0_11, z0_12⟩ : ∃ (a0 : Int) (a1 : Int) (a2 : Int) (a3 : ByteArray) (a4 : ByteArray) (a5 : Bool) (a6 : Int) (a7 : Int) (a8 : Int) (a9 : Int) (a10 : Int) (a11 : Int) (a12 : Int), cs0.toList = [.int .i64 a0, .int .i64 a1, .int .i64 a2, .string a3, .string a4, .bool a5, .int .i64 a6, .int .i64 a7, .int .i64 a8, .int .i64 a9, .int .i64 a10, .int .i64 a11, .int .i64 a12] ∧ (-9223372036854775808 ≤ a0 ∧ a0 < 9223372036854775808) ∧ (-9223372036854775808 ≤ a1 ∧ a1 < 9223372036854775808) ∧ (-9223372036854775808 ≤ a2 ∧ a2 < 9223372036854775808) ∧ (a3.size ≤ maxLen) ∧ (a4.size ≤ maxLen) ∧ (-9223372036854775808 ≤ a6 ∧ a6 < 9223372036854775808) ∧ (-9223372036854775808 ≤ a7 ∧ a7 < 9223372036854775808) ∧ (-9223372036854775808 ≤ a8 ∧ a8 < 9223372036854775808) ∧ (-9223372036854775808 ≤ a9 ∧ a9 < 9223372036854775808) ∧ (-9223372036854775808 ≤ a10 ∧ a10 < 9223372036854775808) ∧ (-9223372036854775808 ≤ a11 ∧ a11 < 9223372036854775808) ∧ (-9223372036854775808 ≤ a12 ∧ a12 < 9223372036854775808) := by
    obtain ⟨fu, hfu⟩ := k0
    have hfu' : DataW.trod enc Tryz.prog W 0 (fun _ => true) true fu 45 cs0.toList = some (d0, p0) := by simpa [Value.cells] using hfu
    exact flat45 hfu'
  obtain rfl : cs0 = #[.int .i64 a0_0, .int .i64 a0_1, .int .i64 a0_2, .string a0_3, .string a0_4, .bool a0_5, .int .i64 a0_6, .int .i64 a0_7, .int .i64 a0_8, .int .i64 a0_9, .int .i64 a0_10, .int .i64 a0_11, .int .i64 a0_12] := Array.toList_inj.mp hc0
  obtain ⟨cs1, rfl, hcs1⟩ := okWide_struct Tryz.underlying45 (hval 1 45 v1 rfl rfl)
  have k1 := h1
  have lt1 : ∀ x ∈ p1, x.block < W.heap.size := by obtain ⟨m, hm⟩ := k1; exact DataW.trod_lt m _ _ _ hm
  obtain ⟨a1_0, a1_1, a1_2, a1_3, a1_4, a1_5, a1_6, a1_7, a1_8, a1_9, a1_10, a1_11, a1_12, hc1, z1_0, z1_1, z1_2, z1_3, z1_4, z1_6, z1_7, z1_8, z1_9, z1_10, z1_11, z1_12⟩ : ∃ (a0 : Int) (a1 : Int) (a2 : Int) (a3 : ByteArray) (a4 : ByteArray) (a5 : Bool) (a6 : Int) (a7 : Int) (a8 : Int) (a9 : Int) (a10 : Int) (a11 : Int) (a12 : Int), cs1.toList = [.int .i64 a0, .int .i64 a1, .int .i64 a2, .string a3, .string a4, .bool a5, .int .i64 a6, .int .i64 a7, .int .i64 a8, .int .i64 a9, .int .i64 a10, .int .i64 a11, .int .i64 a12] ∧ (-9223372036854775808 ≤ a0 ∧ a0 < 9223372036854775808) ∧ (-9223372036854775808 ≤ a1 ∧ a1 < 9223372036854775808) ∧ (-9223372036854775808 ≤ a2 ∧ a2 < 9223372036854775808) ∧ (a3.size ≤ maxLen) ∧ (a4.size ≤ maxLen) ∧ (-9223372036854775808 ≤ a6 ∧ a6 < 9223372036854775808) ∧ (-9223372036854775808 ≤ a7 ∧ a7 < 9223372036854775808) ∧ (-9223372036854775808 ≤ a8 ∧ a8 < 9223372036854775808) ∧ (-9223372036854775808 ≤ a9 ∧ a9 < 9223372036854775808) ∧ (-9223372036854775808 ≤ a10 ∧ a10 < 9223372036854775808) ∧ (-9223372036854775808 ≤ a11 ∧ a11 < 9223372036854775808) ∧ (-9223372036854775808 ≤ a12 ∧ a12 < 9223372036854775808) := by
    obtain ⟨fu, hfu⟩ := k1
    have hfu' : DataW.trod enc Tryz.prog W 0 (fun _ => true) true fu 45 cs1.toList = some (d1, p1) := by simpa [Value.cells] using hfu
    exact flat45 hfu'
  obtain rfl : cs1 = #[.int .i64 a1_0, .int .i64 a1_1, .int .i64 a1_2, .string a1_3, .string a1_4, .bool a1_5, .int .i64 a1_6, .int .i64 a1_7, .int .i64 a1_8, .int .i64 a1_9, .int .i64 a1_10, .int .i64 a1_11, .int .i64 a1_12] := Array.toList_inj.mp hc1
  clear hA0 hval0 hsz0 hsz
  obtain ⟨k, hk⟩ := X.pure_ZoneBack a0_0 a0_1 a0_2 a0_3 a0_4 a0_5 a0_6 a0_7 a0_8 a0_9 a0_10 a0_11 a0_12 a1_0 a1_1 a1_2 a1_3 a1_4 a1_5 a1_6 a1_7 a1_8 a1_9 a1_10 a1_11 a1_12 
  refine (X.solsticelaw10_ZoneBack.calls k a0_0 a0_1 a0_2 a0_3 a0_4 a0_5 a0_6 a0_7 a0_8 a0_9 a0_10 a0_11 a0_12 a1_0 a1_1 a1_2 a1_3 a1_4 a1_5 a1_6 a1_7 a1_8 a1_9 a1_10 a1_11 a1_12 true W hG hk).mono fun e W' ⟨he, bel⟩ => ?_
  subst he
  exact ⟨_, rfl, _, _, _, [], _, [], hW', trodAll_mk1 (shut_bool Tryz.underlying4 _), (trodAll_cons_mk (Below.trod laidOut (by kernel_rfl) (of_decide_eq_true (by kernel_rfl)) k0 bel lt0) (trodAll_cons_mk (Below.trod laidOut (by kernel_rfl) (of_decide_eq_true (by kernel_rfl)) k1 bel lt1) trodAll_mk0)), rfl, bel.frame _, fun h => by cases h⟩
noncomputable abbrev args0 : Array Value := #[.agg #[.int .i64 0, .int .i64 0, .int .i64 0, .string ⟨#[]⟩, .string ⟨#[]⟩, .bool false, .int .i64 0, .int .i64 0, .int .i64 0, .int .i64 0, .int .i64 0, .int .i64 0, .int .i64 0], .agg #[.int .i64 0, .int .i64 0, .int .i64 0, .string ⟨#[]⟩, .string ⟨#[]⟩, .bool false, .int .i64 0, .int .i64 0, .int .i64 0, .int .i64 0, .int .i64 0, .int .i64 0, .int .i64 0]]
set_option maxRecDepth 100000 in
noncomputable def laidWorld (os : Os) : World :=
  let w0 := World.holding Tryz.prog os ⟨#[], #[], []⟩
  let put (h : Array Obj) (g : Nat) (cs : Array Value) : Array Obj := h.modify g fun
    | .cells _ t frozen => .cells cs t frozen
    | o => o
  let h1 := put w0.heap 9 #[.int .u8 0, .int .u8 1, .int .u8 28, .int .u8 2, .int .u8 29, .int .u8 14, .int .u8 24, .int .u8 3, .int .u8 30, .int .u8 22, .int .u8 20, .int .u8 15, .int .u8 25, .int .u8 17, .int .u8 4, .int .u8 8, .int .u8 31, .int .u8 27, .int .u8 13, .int .u8 23, .int .u8 21, .int .u8 19, .int .u8 16, .int .u8 7, .int .u8 26, .int .u8 12, .int .u8 18, .int .u8 6, .int .u8 11, .int .u8 5, .int .u8 10, .int .u8 9]
  let h2 := put h1 10 #[.int .u8 0, .int .u8 1, .int .u8 56, .int .u8 2, .int .u8 57, .int .u8 49, .int .u8 28, .int .u8 3, .int .u8 61, .int .u8 58, .int .u8 42, .int .u8 50, .int .u8 38, .int .u8 29, .int .u8 17, .int .u8 4, .int .u8 62, .int .u8 47, .int .u8 59, .int .u8 36, .int .u8 45, .int .u8 43, .int .u8 51, .int .u8 22, .int .u8 53, .int .u8 39, .int .u8 33, .int .u8 30, .int .u8 24, .int .u8 18, .int .u8 12, .int .u8 5, .int .u8 63, .int .u8 55, .int .u8 48, .int .u8 27, .int .u8 60, .int .u8 41, .int .u8 37, .int .u8 16, .int .u8 46, .int .u8 35, .int .u8 44, .int .u8 21, .int .u8 52, .int .u8 32, .int .u8 23, .int .u8 11, .int .u8 54, .int .u8 26, .int .u8 40, .int .u8 15, .int .u8 34, .int .u8 20, .int .u8 31, .int .u8 10, .int .u8 25, .int .u8 14, .int .u8 19, .int .u8 9, .int .u8 13, .int .u8 8, .int .u8 7, .int .u8 6]
  let h3 := put h2 6 (Lib.pow10Tab.map fun z => Value.int .u64 z).toArray
  let h4 := put h3 1 (Lib.asciiSpaceTab.map fun z => Value.int .u8 z).toArray
  { w0 with heap := h4 }
theorem laid_met (os : Os) : laidMet Tryz.prog Rows.zoneBackRow.laid ((laidWorld os).forCall (fun _ _ => 0) ⟨#[], args0, []⟩).memory :=
  laidMet_of_run' 8 (by kernel_rfl) (by kernel_rfl)
theorem reads (os : Os) {H : Type} (enc : TypeId × Value → H) : ∃ places, DataW.whole enc Tryz.prog ((laidWorld os).forCall (fun _ _ => 0) ⟨#[], args0, []⟩).memory Tryz.f6.params.toList Rows.zoneBackSpec.vars false args0.toList 8 = some ([.agg [.lit (.int .i64 0), .lit (.int .i64 0), .lit (.int .i64 0), .lit (.string []), .lit (.string []), .lit (.bool false), .lit (.int .i64 0), .lit (.int .i64 0), .agg [.lit (.int .i64 0), .lit (.int .i64 0), .lit (.int .i64 0)], .agg [.lit (.int .i64 0), .lit (.int .i64 0)]], .agg [.lit (.int .i64 0), .lit (.int .i64 0), .lit (.int .i64 0), .lit (.string []), .lit (.string []), .lit (.bool false), .lit (.int .i64 0), .lit (.int .i64 0), .agg [.lit (.int .i64 0), .lit (.int .i64 0), .lit (.int .i64 0)], .agg [.lit (.int .i64 0), .lit (.int .i64 0)]]], [], places) :=
  ⟨[], by kernel_rfl⟩
set_option maxRecDepth 100000 in
theorem lifted (os : Os) (started : os.Started) (H : Type) (enc : TypeId × Value → H) (F : Stop.Interp) :
    ReturnsInHanded {} Tryz.checked os 6 .any ((OpenSpec.ofChange Rows.zoneBackSpec).preRow enc Tryz.prog Tryz.f6 Rows.zoneBackRow.domain false Rows.zoneBackRow.laid) (((OpenSpec.ofChange Rows.zoneBackSpec).at F).post enc Tryz.prog Tryz.f6 false true false false) := by
  obtain ⟨places, hx⟩ := reads os enc
  refine returnsInHanded_of_row (C := Tryz.checked) (s := OpenSpec.ofChange Rows.zoneBackSpec) own started (by kernel_rfl) Tryz.func6
    (witness_row_at (enc := enc) (C := Tryz.checked) false (laidWorld os) args0 rfl (by kernel_rfl) (by kernel_rfl) (by kernel_rfl)
      (OpenSpec.preRow_of_cond 8 hx (by kernel_rfl) (fun k hk => by cases hk) (by kernel_rfl) (laid_met os))) ?_
  intro W base args ds gs before hval hW _ _ hsz hL hS _
  exact contract H enc W base args ds gs before hval hW hsz hL hS
theorem j1 : (Rows.zoneBackRow.inPlace == Tryz.prog.inPlace 6) = true := by kernel_rfl
theorem j2 : (Rows.zoneBackRow.unfollowed == Tryz.prog.unfollowed 6) = true := by kernel_rfl
theorem j3 : (Rows.zoneBackRow.recurses == Tryz.prog.recurses 6) = true := by kernel_rfl
theorem j4 : (Rows.zoneBackRow.named == Tryz.prog.varsNamed 6) = true := by kernel_rfl
theorem j6 : (laidOutB Tryz.prog) = true := by kernel_rfl
theorem j7 : (mapsRowed Tryz.prog) = true := by kernel_rfl
theorem j9 : (namedTie Tryz.prog Rows.zoneBackRow.named (OpenSpec.ofChange Rows.zoneBackSpec).bare.vars) = true := by kernel_rfl
theorem j10 : (Rows.zoneBackRow.plainKeys == Tryz.prog.plainKeys) = true := by kernel_rfl
theorem closed : joinedFacts Tryz.prog 6 Tryz.f6 (OpenSpec.ofChange Rows.zoneBackSpec).bare Rows.zoneBackRow = true := by
  unfold joinedFacts
  rw [j1, j2, j3, j4, j6, j7, j9, j10]
  kernel_rfl
theorem said : Rows.ZoneBackSaid :=
  OpenClaim.holds_of_cond 6 Tryz.f6 rfl rfl rfl rfl rfl rfl rfl ⟨rfl, rfl, rfl, rfl, rfl⟩ rfl rfl rfl rfl rfl (by kernel_rfl) Tryz.func6 closed
    (of_decide_eq_true (by kernel_rfl)) (by unfold Func.isWrapper; first | (rw [if_pos (by decide +kernel)]; kernel_rfl) | (rw [if_neg (by decide +kernel)]; exact ⟨rfl, rfl⟩))
    (fun os started H enc _ F => by rw [OpenClaim.pre_eq_preRow]; exact lifted os started H enc F)
theorem plain (f : FuncId) (fn : Func) (hf : Tryz.pinned.checked.prog.funcNamed "solstice/solsticelaw10.ZoneBack" = some f) (hfn : Tryz.pinned.checked.prog.funcs[f]? = some fn) :
    false = Tryz.pinned.checked.prog.looks [] ∧ ∀ (j : Nat) t, fn.params[j]? = some t → Tryz.pinned.checked.prog.wantsStandIn t = false := by
  obtain rfl : f = 6 := Option.some.inj ((show Tryz.prog.funcNamed "solstice/solsticelaw10.ZoneBack" = some 6 by kernel_rfl).symm.trans hf) |>.symm
  obtain rfl : fn = Tryz.f6 := (Option.some.inj (Tryz.func6.symm.trans hfn)).symm
  refine ⟨by kernel_rfl, fun j t ht => ?_⟩
  rw [Tryz.params6] at ht
  have ht' := Array.mem_of_getElem? ht
  obtain rfl : t = 45 := by simpa using ht'
  exact (show Tryz.prog.wantsStandIn 45 = false by kernel_rfl)
theorem card : Rows.ZoneBackCardSaid :=
  Claim7.holds_tied_plain_at .later [] _ _ _ _ said (fun _ h => by cases h) (by kernel_rfl) (fun _ h => by cases h) zoneBack_row_tie rfl ⟨rfl, rfl⟩ (by kernel_rfl) rfl plain (by kernel_rfl)
end Go.Proofs.YtfhemdnjoedioaaGreatDoor.zoneBack
namespace Go.Proofs.YtfhemdnjoedioaaGreatDoor
/-- The card, under a short name. -/
theorem zoneBack_card : Rows.ZoneBackCardSaid := zoneBack.card
end Go.Proofs.YtfhemdnjoedioaaGreatDoor
