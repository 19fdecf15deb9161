import Derived.Below
import Derived.Deep.Draws
import Derived.Deep.AppendLies
import Derived.Maps.AppendAt
import Derived.OwnWalk
import Derived.Laws.BytesArg
import Derived.Laws.MakeOwn
import Derived.Laws.OwnMore
import Derived.Deep.OwnRows
import Derived.Tactics
import Derived.Lib.ConvBytes
import Derived.Laws.Slices
import Derived.WalkKit
import Derived.KernelRfl
import Derived.RowKit3
import Derived.Deep.LoopGhost
import Derived.Deep.QuietTactic
import Derived.BigQuiet
import Derived.WideLaws
import Derived.Deep.DeepCutAuto
import Derived.Deep.CutBlock
import Derived.Deep.RegionHeld3
import Derived.Laws.Rows
import Derived.Lib.AppendStr
import Derived.ArgAppend
import Derived.Laws.IdiomCopy
import Derived.RowKit
import Derived.OrdersHeld
import Derived.Laws.BitsLemmas
import Derived.Laws.StructEq
import Derived.Test.YtfhemdnjoedioaaGreatDoorProg
import Derived.Lib.AppendIntMem
import Derived.Shelf.Strings.Fields
import Derived.Lib.ItoaNum
import Derived.Shelf.Strings.Builder1
import Derived.Shelf.Strings.Builder2
import Derived.Shelf.Strings.OnBuilder
import Derived.Shelf.Small.Bits
import Derived.Shelf.Small.Strs
import Derived.Shelf.Strings.BuilderF
import Derived.Shelf.Strconv.Itoa0
import Derived.Shelf.Strconv.Itoa1
import Derived.Shelf.LaysM
import Derived.Shelf.Strconv.Itoa2
import Derived.Shelf.Strconv.Itoa3
import Derived.Shelf.Strings.Search1
import Derived.Shelf.Strings.Search2
import Derived.Shelf.Strings.Search3
import Derived.Shelf.Strings.Cut
import Derived.Shelf.Strings.Count
import Derived.Shelf.Strings.Shaped
import Derived.Shelf.Sort.Plain
import Derived.Shelf.Strings.Prefix
import Derived.Shelf.Strings.Split
import Derived.Shelf.Strings.Fold
import Derived.Shelf.Unicode.Latin
import Derived.Shelf.Bits.Mul64
import Derived.Shelf.Strings.Repeat
import Derived.Shelf.Unicode.DecodeSlow
import Derived.Shelf.Unicode.DecodeAny
import Derived.Shelf.Unicode.Is16White
import Derived.Shelf.Unicode.IsSpaceAny
import Derived.Shelf.Unicode.CaseLookup
import Derived.Shelf.Unicode.CaseConvert
import Derived.Shelf.Unicode.Is16Any
import Derived.Shelf.Unicode.Is32Any
import Derived.Shelf.Unicode.ExclAny
import Derived.Shelf.Slices.CompactS
import Derived.Shelf.Slices.Cells
import Derived.Shelf.Slices.In.SortNone
import Derived.Outline
import Derived.Test.YtfhemdnjoedioaaGreatDoorCRuleYears5
section
namespace Go.Proofs.YtfhemdnjoedioaaGreatDoor.X
open Go.RowKit Go.Proofs.YtfhemdnjoedioaaGreatDoorW.PrintWords Go.Proofs.YtfhemdnjoedioaaGreatDoorW.PrintLast Go.Proofs.YtfhemdnjoedioaaGreatDoorW.PrintMore
attribute [local go_sem] max2_int min2_int max_two min_two max_three min_three max_four min_four
set_option linter.unusedVariables false
set_option linter.unusedSimpArgs false
attribute [local go_sem high] eqA27
def solsticelaw09_RuleYears.j0 : Nat → ByteArray → ByteArray → Int → Int → Int → Option (Bool)
 | 0, _, _, _, _, _ => none
 | k + 1, x8, x9, x10, x11, x12 => (rule_Parse.f k (([(⟨#[82]⟩ : ByteArray), (⟨#[88]⟩ : ByteArray), x8, x9, (⟨#[45]⟩ : ByteArray), (⟨#[74, 97, 110]⟩ : ByteArray), (⟨#[49]⟩ : ByteArray), (⟨#[48]⟩ : ByteArray), (⟨#[48]⟩ : ByteArray), (⟨#[45]⟩ : ByteArray)] : List ByteArray))).bind fun bt425 => (if x12 = 0 then (if bt425.2.2.2.2.2.2.2.2.2.2.2 = 0 then (if bt425.2.1 = x10 then (if bt425.2.2.1 = x11 then (if bt425.2.2.2.2.2.2.2.2.2.2.1.toList = ([] : List UInt8) then ((solsticelaw09_wakes.f k).bind fun t438 => (some t438)) else (none)) else (none)) else (none)) else (none)) else (if bt425.2.2.2.2.2.2.2.2.2.2.2 = x12 then (if (bt425.1.toList == ([] : List UInt8) && (bt425.2.1 == 0 && (bt425.2.2.1 == 0 && (bt425.2.2.2.1 == 0 && ((bt425.2.2.2.2.1 == 0 && (bt425.2.2.2.2.2.1 == 0 && (bt425.2.2.2.2.2.2.1 == 0))) && ((bt425.2.2.2.2.2.2.2.1 == 0 && (bt425.2.2.2.2.2.2.2.2.1 == 0)) && (bt425.2.2.2.2.2.2.2.2.2.1 == 0 && (bt425.2.2.2.2.2.2.2.2.2.2.1.toList == ([] : List UInt8))))))))) = true then ((solsticelaw09_wakes.f k).bind fun t439 => (some t439)) else (none)) else (none)))
def solsticelaw09_RuleYears.f (k : Nat) (a0 : Int) (a1 : Int) (a2 : Int) : Option (Bool) := (solsticeref01_Text.f k (wrap64 (1 + (wrap64 (Int.tmod (IntKind.u64.wrap (a0)) 9999)))) 0).bind fun t420 => ((solsticeref01_Text.f k (mn (wrap64 ((wrap64 (1 + (wrap64 (Int.tmod (IntKind.u64.wrap (a0)) 9999)))) + (wrap64 (Int.tmod (IntKind.u64.wrap (a1)) 100)))) 9999) 0).bind fun t421 => (if (Int.tmod (IntKind.u64.wrap (a2)) 6) = 1 then (solsticelaw09_RuleYears.j0 k t420 (⟨#[111, 110, 108, 121]⟩ : ByteArray) (wrap64 (1 + (wrap64 (Int.tmod (IntKind.u64.wrap (a0)) 9999)))) (wrap64 (1 + (wrap64 (Int.tmod (IntKind.u64.wrap (a0)) 9999)))) 0) else (if (Int.tmod (IntKind.u64.wrap (a2)) 6) = 2 then (solsticelaw09_RuleYears.j0 k t420 (⟨#[77, 65, 88]⟩ : ByteArray) (wrap64 (1 + (wrap64 (Int.tmod (IntKind.u64.wrap (a0)) 9999)))) 9999 0) else (if (Int.tmod (IntKind.u64.wrap (a2)) 6) = 3 then (solsticelaw09_RuleYears.j0 k (⟨#[109, 105]⟩ : ByteArray) t421 1 (mn (wrap64 ((wrap64 (1 + (wrap64 (Int.tmod (IntKind.u64.wrap (a0)) 9999)))) + (wrap64 (Int.tmod (IntKind.u64.wrap (a1)) 100)))) 9999) 0) else (if (Int.tmod (IntKind.u64.wrap (a2)) 6) = 4 then (solsticelaw09_RuleYears.j0 k (⟨#[111, 110, 108, 121]⟩ : ByteArray) t421 (wrap64 (1 + (wrap64 (Int.tmod (IntKind.u64.wrap (a0)) 9999)))) (mn (wrap64 ((wrap64 (1 + (wrap64 (Int.tmod (IntKind.u64.wrap (a0)) 9999)))) + (wrap64 (Int.tmod (IntKind.u64.wrap (a1)) 100)))) 9999) 5) else (if (Int.tmod (IntKind.u64.wrap (a2)) 6) = 5 then (solsticelaw09_RuleYears.j0 k t420 (⟨#[109]⟩ : ByteArray) (wrap64 (1 + (wrap64 (Int.tmod (IntKind.u64.wrap (a0)) 9999)))) (mn (wrap64 ((wrap64 (1 + (wrap64 (Int.tmod (IntKind.u64.wrap (a0)) 9999)))) + (wrap64 (Int.tmod (IntKind.u64.wrap (a1)) 100)))) 9999) 5) else (solsticelaw09_RuleYears.j0 k t420 t421 (wrap64 (1 + (wrap64 (Int.tmod (IntKind.u64.wrap (a0)) 9999)))) (mn (wrap64 ((wrap64 (1 + (wrap64 (Int.tmod (IntKind.u64.wrap (a0)) 9999)))) + (wrap64 (Int.tmod (IntKind.u64.wrap (a1)) 100)))) 9999) 0)))))))
theorem solsticelaw09_RuleYears.mono_l : ∀ k, (∀ y0 y1 y2 y3 y4, LeO (solsticelaw09_RuleYears.j0 k y0 y1 y2 y3 y4) (solsticelaw09_RuleYears.j0 (k + 1) y0 y1 y2 y3 y4))
 | 0 => fun _ _ _ _ _ r h => by simp [solsticelaw09_RuleYears.j0] at h
 | k + 1 => by
  have ih0 := solsticelaw09_RuleYears.mono_l k
  ·intro y0 y1 y2 y3 y4
   unfold solsticelaw09_RuleYears.j0
   repeat' first
   | (with_reducible exact ih0 _ _ _ _ _)
   | (with_reducible exact rule_Parse.mono _ _)
   | (with_reducible exact solsticelaw09_wakes.mono _)
   | (with_reducible exact solsticeref01_Text.mono _ _ _)
   | (with_reducible exact LeO.refl _)
   | (with_reducible exact LeO.none _)
   | (with_reducible refine LeO.ite ?_ ?_)
   | (with_reducible refine LeO.bind ?_ (fun _ => ?_))
   | exact ih0 _ _ _ _ _
   | exact rule_Parse.mono _ _
   | exact solsticelaw09_wakes.mono _
   | exact solsticeref01_Text.mono _ _ _
   | exact LeO.none _
   | refine LeO.ite ?_ ?_
   | refine LeO.bind ?_ (fun _ => ?_)
theorem solsticelaw09_RuleYears.mono : ∀ a0 a1 a2 k, LeO (solsticelaw09_RuleYears.f k a0 a1 a2) (solsticelaw09_RuleYears.f (k + 1) a0 a1 a2) := by
 intro a0 a1 a2 k
 have ih0 := solsticelaw09_RuleYears.mono_l k
 unfold solsticelaw09_RuleYears.f
 repeat' first
   | (with_reducible exact ih0 _ _ _ _ _)
   | (with_reducible exact rule_Parse.mono _ _)
   | (with_reducible exact solsticelaw09_wakes.mono _)
   | (with_reducible exact solsticeref01_Text.mono _ _ _)
   | (with_reducible exact LeO.refl _)
   | (with_reducible exact LeO.none _)
   | (with_reducible refine LeO.ite ?_ ?_)
   | (with_reducible refine LeO.bind ?_ (fun _ => ?_))
   | exact ih0 _ _ _ _ _
   | exact rule_Parse.mono _ _
   | exact solsticelaw09_wakes.mono _
   | exact solsticeref01_Text.mono _ _ _
   | exact LeO.none _
   | refine LeO.ite ?_ ?_
   | refine LeO.bind ?_ (fun _ => ?_)
set_option maxHeartbeats 8000000 in
set_option maxRecDepth 100000 in
theorem solsticelaw09_RuleYears.calls (k : Nat) (a0 : Int) (a1 : Int) (a2 : Int) (r : Bool) (w : World) (hG : GW w) (h : solsticelaw09_RuleYears.f k a0 a1 a2 = some r) :
  Calls Tryz.prog 5 #[.int .i64 a0, .int .i64 a1, .int .i64 a2] w fun e w' => e = .returned (.bool r) ∧ Below w.heap.size w w' := by
 have hu27 := Tryz.underlying27
 have HG := Aside0.mk hG
 clear hG
 have HB := Aside0.mk (Below.refl w.heap.size w)
 have H : ((solsticeref01_Text.f k (wrap64 (1 + (wrap64 (Int.tmod (IntKind.u64.wrap (a0)) 9999)))) 0).bind fun t420 => ((solsticeref01_Text.f k (mn (wrap64 ((wrap64 (1 + (wrap64 (Int.tmod (IntKind.u64.wrap (a0)) 9999)))) + (wrap64 (Int.tmod (IntKind.u64.wrap (a1)) 100)))) 9999) 0).bind fun t421 => (if (Int.tmod (IntKind.u64.wrap (a2)) 6) = 1 then (solsticelaw09_RuleYears.j0 k t420 (⟨#[111, 110, 108, 121]⟩ : ByteArray) (wrap64 (1 + (wrap64 (Int.tmod (IntKind.u64.wrap (a0)) 9999)))) (wrap64 (1 + (wrap64 (Int.tmod (IntKind.u64.wrap (a0)) 9999)))) 0) else (if (Int.tmod (IntKind.u64.wrap (a2)) 6) = 2 then (solsticelaw09_RuleYears.j0 k t420 (⟨#[77, 65, 88]⟩ : ByteArray) (wrap64 (1 + (wrap64 (Int.tmod (IntKind.u64.wrap (a0)) 9999)))) 9999 0) else (if (Int.tmod (IntKind.u64.wrap (a2)) 6) = 3 then (solsticelaw09_RuleYears.j0 k (⟨#[109, 105]⟩ : ByteArray) t421 1 (mn (wrap64 ((wrap64 (1 + (wrap64 (Int.tmod (IntKind.u64.wrap (a0)) 9999)))) + (wrap64 (Int.tmod (IntKind.u64.wrap (a1)) 100)))) 9999) 0) else (if (Int.tmod (IntKind.u64.wrap (a2)) 6) = 4 then (solsticelaw09_RuleYears.j0 k (⟨#[111, 110, 108, 121]⟩ : ByteArray) t421 (wrap64 (1 + (wrap64 (Int.tmod (IntKind.u64.wrap (a0)) 9999)))) (mn (wrap64 ((wrap64 (1 + (wrap64 (Int.tmod (IntKind.u64.wrap (a0)) 9999)))) + (wrap64 (Int.tmod (IntKind.u64.wrap (a1)) 100)))) 9999) 5) else (if (Int.tmod (IntKind.u64.wrap (a2)) 6) = 5 then (solsticelaw09_RuleYears.j0 k t420 (⟨#[109]⟩ : ByteArray) (wrap64 (1 + (wrap64 (Int.tmod (IntKind.u64.wrap (a0)) 9999)))) (mn (wrap64 ((wrap64 (1 + (wrap64 (Int.tmod (IntKind.u64.wrap (a0)) 9999)))) + (wrap64 (Int.tmod (IntKind.u64.wrap (a1)) 100)))) 9999) 5) else (solsticelaw09_RuleYears.j0 k t420 t421 (wrap64 (1 + (wrap64 (Int.tmod (IntKind.u64.wrap (a0)) 9999)))) (mn (wrap64 ((wrap64 (1 + (wrap64 (Int.tmod (IntKind.u64.wrap (a0)) 9999)))) + (wrap64 (Int.tmod (IntKind.u64.wrap (a1)) 100)))) 9999) 0)))))))) = some r := h
 clear h
 obtain ⟨ji4, hji4⟩ : ∃ j_ : Int, (mn (wrap64 ((wrap64 (1 + (wrap64 (Int.tmod (IntKind.u64.wrap (a0)) 9999)))) + (wrap64 (Int.tmod (IntKind.u64.wrap (a1)) 100)))) 9999) = j_ := ⟨_, rfl⟩
 replace H : ((solsticeref01_Text.f k (wrap64 (1 + (wrap64 (Int.tmod (IntKind.u64.wrap (a0)) 9999)))) 0).bind fun t420 => ((solsticeref01_Text.f k (ji4) 0).bind fun t421 => (if (Int.tmod (IntKind.u64.wrap (a2)) 6) = 1 then (solsticelaw09_RuleYears.j0 k t420 (⟨#[111, 110, 108, 121]⟩ : ByteArray) (wrap64 (1 + (wrap64 (Int.tmod (IntKind.u64.wrap (a0)) 9999)))) (wrap64 (1 + (wrap64 (Int.tmod (IntKind.u64.wrap (a0)) 9999)))) 0) else (if (Int.tmod (IntKind.u64.wrap (a2)) 6) = 2 then (solsticelaw09_RuleYears.j0 k t420 (⟨#[77, 65, 88]⟩ : ByteArray) (wrap64 (1 + (wrap64 (Int.tmod (IntKind.u64.wrap (a0)) 9999)))) 9999 0) else (if (Int.tmod (IntKind.u64.wrap (a2)) 6) = 3 then (solsticelaw09_RuleYears.j0 k (⟨#[109, 105]⟩ : ByteArray) t421 1 ji4 0) else (if (Int.tmod (IntKind.u64.wrap (a2)) 6) = 4 then (solsticelaw09_RuleYears.j0 k (⟨#[111, 110, 108, 121]⟩ : ByteArray) t421 (wrap64 (1 + (wrap64 (Int.tmod (IntKind.u64.wrap (a0)) 9999)))) ji4 5) else (if (Int.tmod (IntKind.u64.wrap (a2)) 6) = 5 then (solsticelaw09_RuleYears.j0 k t420 (⟨#[109]⟩ : ByteArray) (wrap64 (1 + (wrap64 (Int.tmod (IntKind.u64.wrap (a0)) 9999)))) ji4 5) else (solsticelaw09_RuleYears.j0 k t420 t421 (wrap64 (1 + (wrap64 (Int.tmod (IntKind.u64.wrap (a0)) 9999)))) ji4 0)))))))) = some r := by first | (rw [hji4] at H; exact H) | (simp only [hji4] at H ⊢; exact H)
 (try (have hji4h : ji4 ≤ 9999 := by (rw [← hji4]; unfold mn; (repeat' split) <;> omega)))
 (try (have hji4g : ji4 ≤ 64 := by omega))
 have hji4_ : (if 9999 < (wrap64 ((wrap64 (1 + (wrap64 (Int.tmod (IntKind.u64.wrap (a0)) 9999)))) + (wrap64 (Int.tmod (IntKind.u64.wrap (a1)) 100)))) then 9999 else (wrap64 ((wrap64 (1 + (wrap64 (Int.tmod (IntKind.u64.wrap (a0)) 9999)))) + (wrap64 (Int.tmod (IntKind.u64.wrap (a1)) 100))))) = ji4 := hji4
 replace H := Option.bind_eq_some_iff.mp H
 obtain ⟨t420, A50, H⟩ := H
 (try dsimp only at H)
 have A5 := Aside0.mk A50
 clear A50
 replace H := Option.bind_eq_some_iff.mp H
 obtain ⟨t421, A60, H⟩ := H
 (try dsimp only at H)
 have A6 := Aside0.mk A60
 clear A60
 have HC7 := Aside0.mk H
 clear H
 go_enter Tryz.func5, Tryz.ntmps5
 go_upto_block 0 with (first | ((with_reducible refine gate_callee (f := 22) rfl ?_); refine goesL_ (some 29) rfl rfl Tryz.func22 (by kernel_rfl) rfl #[.int .i64 (wrap64 (1 + (wrap64 (Int.tmod (IntKind.u64.wrap (a0)) 9999)))), .int .i64 0] rfl (by (try simp only [List.map_toArray, List.map_cons, List.map_nil]); first | done | rfl | (simp only [List.length_drop, List.length_take]; rfl)) ?_; (with_reducible refine (solsticeref01_Text.calls k (wrap64 (1 + (wrap64 (Int.tmod (IntKind.u64.wrap (a0)) 9999)))) 0 t420 _ A5.out).mono ?_); rintro e w8 ⟨rfl, hb⟩; refine ⟨_, rfl, ?_⟩; have n0_ := Aside0.mk (below_step (by repeat (first | (with_reducible first | exact HB.out | apply bA | apply bN | apply below_drew1) | exact HB.out)) hb); clear HB; have HB := n0_; clear n0_; (try clear hb); (try clear hb2); (try clear hk); (try clear hi)) | ((with_reducible refine gate_callee (f := 22) rfl ?_); refine goesL_ (some 31) rfl rfl Tryz.func22 (by kernel_rfl) rfl #[.int .i64 ji4, .int .i64 0] rfl (by (try simp only [List.map_toArray, List.map_cons, List.map_nil]); first | done | (simp only [hji4]; rfl) | rfl | (simp only [List.length_drop, List.length_take]; rfl)) ?_; (with_reducible refine (solsticeref01_Text.calls k ji4 0 t421 _ A6.out).mono ?_); rintro e w9 ⟨rfl, hb⟩; refine ⟨_, rfl, ?_⟩; have n0_ := Aside0.mk (below_step (by repeat (first | (with_reducible first | exact HB.out | apply bA | apply bN | apply below_drew1) | exact HB.out)) hb); clear HB; have HB := n0_; clear n0_; (try clear hb); (try clear hb2); (try clear hk); (try clear hi)))
 (try simp only [Act.put, List.setIfInBounds_toArray, List.set_cons_zero, List.set_cons_succ])
 go_cut [8, 9, 10, 11, 12] (fun v8 v9 v10 v11 v12 wc => ∃ (kq : Nat) (x8_6 : ByteArray) (x9_6 : ByteArray) (x10_6 : Int) (x11_6 : Int) (x12_6 : Int), v8 = .string x8_6 ∧ v9 = .string x9_6 ∧ v10 = .int .i64 x10_6 ∧ v11 = .int .i64 x11_6 ∧ v12 = .int .i64 x12_6 ∧ Aside0 (solsticelaw09_RuleYears.j0 kq x8_6 x9_6 x10_6 x11_6 x12_6 = some r) ∧ Aside0 (kq ≤ k) ∧ Aside0 (Below w.heap.size w wc))
 case first =>
  have H := HC7.out
  clear HC7
  by_cases c10 : (Int.tmod (IntKind.u64.wrap (a2)) 6) = 1
  ·rw [if_pos c10] at H
   have c10b0 : ((Int.tmod (IntKind.u64.wrap (a2)) 6) == 1) = true := beq_iff_eq.mpr c10
   have c10b1 : ((Int.tmod (IntKind.u64.wrap (a2)) 6) != 1) = false := bne_eq_false_iff_eq.mpr c10
   clear c10
   (first | rw [c10b0] | (simp only [i64_w, i32_w]; rw [c10b0]) | skip)
   have H' := Aside0.mk H
   clear H
   go_wp2
   go_meet
   case rel => exact ⟨_, (t420), ((⟨#[111, 110, 108, 121]⟩ : ByteArray)), (wrap64 (1 + (wrap64 (Int.tmod (IntKind.u64.wrap (a0)) 9999)))), (wrap64 (1 + (wrap64 (Int.tmod (IntKind.u64.wrap (a0)) 9999)))), (0), (by first | rfl | (simp; done) | (simp [*]; done)), (by first | rfl | (simp; done) | (simp [*]; done)), (by first | rfl | (simp; done) | (simp [*]; done)), (by first | rfl | (simp; done) | (simp [*]; done)), (by first | rfl | (simp; done) | (simp [*]; done)), H', ⟨by first | omega | exact Nat.le_refl _⟩, ⟨by repeat (first | (with_reducible first | exact HB.out | apply bA | apply bN | apply below_drew1) | exact HB.out)⟩⟩
  ·rw [if_neg c10] at H
   have c10b0 : ((Int.tmod (IntKind.u64.wrap (a2)) 6) == 1) = false := beq_eq_false_iff_ne.mpr c10
   have c10b1 : ((Int.tmod (IntKind.u64.wrap (a2)) 6) != 1) = true := bne_iff_ne.mpr c10
   (first | rw [c10b0] | (simp only [i64_w, i32_w]; rw [c10b0]) | skip)
   by_cases c11 : (Int.tmod (IntKind.u64.wrap (a2)) 6) = 2
   ·rw [if_pos c11] at H
    have c11b0 : ((Int.tmod (IntKind.u64.wrap (a2)) 6) == 2) = true := beq_iff_eq.mpr c11
    have c11b1 : ((Int.tmod (IntKind.u64.wrap (a2)) 6) != 2) = false := bne_eq_false_iff_eq.mpr c11
    clear c11
    have H' := Aside0.mk H
    clear H
    go_wp2
    go_meet
    case rel => exact ⟨_, (t420), ((⟨#[77, 65, 88]⟩ : ByteArray)), (wrap64 (1 + (wrap64 (Int.tmod (IntKind.u64.wrap (a0)) 9999)))), (9999), (0), (by first | rfl | (simp; done) | (simp [*]; done)), (by first | rfl | (simp; done) | (simp [*]; done)), (by first | rfl | (simp; done) | (simp [*]; done)), (by first | rfl | (simp; done) | (simp [*]; done)), (by first | rfl | (simp; done) | (simp [*]; done)), H', ⟨by first | omega | exact Nat.le_refl _⟩, ⟨by repeat (first | (with_reducible first | exact HB.out | apply bA | apply bN | apply below_drew1) | exact HB.out)⟩⟩
   ·rw [if_neg c11] at H
    have c11b0 : ((Int.tmod (IntKind.u64.wrap (a2)) 6) == 2) = false := beq_eq_false_iff_ne.mpr c11
    have c11b1 : ((Int.tmod (IntKind.u64.wrap (a2)) 6) != 2) = true := bne_iff_ne.mpr c11
    by_cases c12 : (Int.tmod (IntKind.u64.wrap (a2)) 6) = 3
    ·rw [if_pos c12] at H
     have c12b0 : ((Int.tmod (IntKind.u64.wrap (a2)) 6) == 3) = true := beq_iff_eq.mpr c12
     have c12b1 : ((Int.tmod (IntKind.u64.wrap (a2)) 6) != 3) = false := bne_eq_false_iff_eq.mpr c12
     clear c12
     have H' := Aside0.mk H
     clear H
     go_wp2
     go_meet
     case rel => exact ⟨_, ((⟨#[109, 105]⟩ : ByteArray)), (t421), (1), (ji4), (0), (by first | rfl | (simp; done) | (simp [*]; done)), (by first | rfl | (simp; done) | (simp [*]; done)), (by first | rfl | (simp; done) | (simp [*]; done)), (by first | rfl | (simp; done) | (simp only [← hji4] <;> (first | rfl | simp)) | (simp [*]; done)), (by first | rfl | (simp; done) | (simp [*]; done)), H', ⟨by first | omega | exact Nat.le_refl _⟩, ⟨by repeat (first | (with_reducible first | exact HB.out | apply bA | apply bN | apply below_drew1) | exact HB.out)⟩⟩
    ·rw [if_neg c12] at H
     have c12b0 : ((Int.tmod (IntKind.u64.wrap (a2)) 6) == 3) = false := beq_eq_false_iff_ne.mpr c12
     have c12b1 : ((Int.tmod (IntKind.u64.wrap (a2)) 6) != 3) = true := bne_iff_ne.mpr c12
     by_cases c13 : (Int.tmod (IntKind.u64.wrap (a2)) 6) = 4
     ·rw [if_pos c13] at H
      have c13b0 : ((Int.tmod (IntKind.u64.wrap (a2)) 6) == 4) = true := beq_iff_eq.mpr c13
      have c13b1 : ((Int.tmod (IntKind.u64.wrap (a2)) 6) != 4) = false := bne_eq_false_iff_eq.mpr c13
      clear c13
      have H' := Aside0.mk H
      clear H
      go_wp2
      go_meet
      case rel => exact ⟨_, ((⟨#[111, 110, 108, 121]⟩ : ByteArray)), (t421), (wrap64 (1 + (wrap64 (Int.tmod (IntKind.u64.wrap (a0)) 9999)))), (ji4), (5), (by first | rfl | (simp; done) | (simp [*]; done)), (by first | rfl | (simp; done) | (simp [*]; done)), (by first | rfl | (simp; done) | (simp [*]; done)), (by first | rfl | (simp; done) | (simp only [← hji4] <;> (first | rfl | simp)) | (simp [*]; done)), (by first | rfl | (simp; done) | (simp [*]; done)), H', ⟨by first | omega | exact Nat.le_refl _⟩, ⟨by repeat (first | (with_reducible first | exact HB.out | apply bA | apply bN | apply below_drew1) | exact HB.out)⟩⟩
     ·rw [if_neg c13] at H
      have c13b0 : ((Int.tmod (IntKind.u64.wrap (a2)) 6) == 4) = false := beq_eq_false_iff_ne.mpr c13
      have c13b1 : ((Int.tmod (IntKind.u64.wrap (a2)) 6) != 4) = true := bne_iff_ne.mpr c13
      by_cases c14 : (Int.tmod (IntKind.u64.wrap (a2)) 6) = 5
      ·rw [if_pos c14] at H
       have c14b0 : ((Int.tmod (IntKind.u64.wrap (a2)) 6) == 5) = true := beq_iff_eq.mpr c14
       have c14b1 : ((Int.tmod (IntKind.u64.wrap (a2)) 6) != 5) = false := bne_eq_false_iff_eq.mpr c14
       clear c14
       have H' := Aside0.mk H
       clear H
       go_wp2
       go_meet
       case rel => exact ⟨_, (t420), ((⟨#[109]⟩ : ByteArray)), (wrap64 (1 + (wrap64 (Int.tmod (IntKind.u64.wrap (a0)) 9999)))), (ji4), (5), (by first | rfl | (simp; done) | (simp [*]; done)), (by first | rfl | (simp; done) | (simp [*]; done)), (by first | rfl | (simp; done) | (simp [*]; done)), (by first | rfl | (simp; done) | (simp only [← hji4] <;> (first | rfl | simp)) | (simp [*]; done)), (by first | rfl | (simp; done) | (simp [*]; done)), H', ⟨by first | omega | exact Nat.le_refl _⟩, ⟨by repeat (first | (with_reducible first | exact HB.out | apply bA | apply bN | apply below_drew1) | exact HB.out)⟩⟩
      ·rw [if_neg c14] at H
       have c14b0 : ((Int.tmod (IntKind.u64.wrap (a2)) 6) == 5) = false := beq_eq_false_iff_ne.mpr c14
       have c14b1 : ((Int.tmod (IntKind.u64.wrap (a2)) 6) != 5) = true := bne_iff_ne.mpr c14
       have H' := Aside0.mk H
       clear H
       go_wp2
       go_meet
       case rel => exact ⟨_, (t420), (t421), (wrap64 (1 + (wrap64 (Int.tmod (IntKind.u64.wrap (a0)) 9999)))), (ji4), (0), (by first | rfl | (simp; done) | (simp [*]; done)), (by first | rfl | (simp; done) | (simp [*]; done)), (by first | rfl | (simp; done) | (simp [*]; done)), (by first | rfl | (simp; done) | (simp only [← hji4] <;> (first | rfl | simp)) | (simp [*]; done)), (by first | rfl | (simp; done) | (simp [*]; done)), H', ⟨by first | omega | exact Nat.le_refl _⟩, ⟨by repeat (first | (with_reducible first | exact HB.out | apply bA | apply bN | apply below_drew1) | exact HB.out)⟩⟩
 case rest =>
  clear HC7
  try clear c1
  try clear c2
  try clear p2
  try clear c5
  try clear p6
  try clear c10
  try clear c10b0
  try clear c10b1
  try clear c11
  try clear c11b0
  try clear c11b1
  try clear c12
  try clear c12b0
  try clear c12b1
  try clear c13
  try clear c13b0
  try clear c13b1
  try clear c14
  try clear c14b0
  try clear c14b1
  obtain ⟨kq, x8_6, x9_6, x10_6, x11_6, x12_6, rfl, rfl, rfl, rfl, rfl, HA, HJ6, HB⟩ := hcut
  cases kq with
  | zero => exact absurd HA.out (by simp [solsticelaw09_RuleYears.j0])
  | succ kj6 =>
   have H := HA.out
   clear HA
   simp only [solsticelaw09_RuleYears.j0] at H
   obtain ⟨y422, hy422⟩ : ∃ y_ : List ByteArray, y_ = (([(⟨#[82]⟩ : ByteArray), (⟨#[88]⟩ : ByteArray), x8_6, x9_6, (⟨#[45]⟩ : ByteArray), (⟨#[74, 97, 110]⟩ : ByteArray), (⟨#[49]⟩ : ByteArray), (⟨#[48]⟩ : ByteArray), (⟨#[48]⟩ : ByteArray), (⟨#[45]⟩ : ByteArray)] : List ByteArray)) := ⟨_, rfl⟩
   replace H : ((rule_Parse.f kj6 y422).bind fun bt425 => (if x12_6 = 0 then (if bt425.2.2.2.2.2.2.2.2.2.2.2 = 0 then (if bt425.2.1 = x10_6 then (if bt425.2.2.1 = x11_6 then (if bt425.2.2.2.2.2.2.2.2.2.2.1.toList = ([] : List UInt8) then ((solsticelaw09_wakes.f kj6).bind fun t438 => (some t438)) else (none)) else (none)) else (none)) else (none)) else (if bt425.2.2.2.2.2.2.2.2.2.2.2 = x12_6 then (if (bt425.1.toList == ([] : List UInt8) && (bt425.2.1 == 0 && (bt425.2.2.1 == 0 && (bt425.2.2.2.1 == 0 && ((bt425.2.2.2.2.1 == 0 && (bt425.2.2.2.2.2.1 == 0 && (bt425.2.2.2.2.2.2.1 == 0))) && ((bt425.2.2.2.2.2.2.2.1 == 0 && (bt425.2.2.2.2.2.2.2.2.1 == 0)) && (bt425.2.2.2.2.2.2.2.2.2.1 == 0 && (bt425.2.2.2.2.2.2.2.2.2.2.1.toList == ([] : List UInt8))))))))) = true then ((solsticelaw09_wakes.f kj6).bind fun t439 => (some t439)) else (none)) else (none)))) = some r := by first | (rw [hy422]; with_reducible exact H) | (have H2_ := (Option.bind_some _ _).symm.trans H; rw [hy422]; with_reducible exact H2_) | (have H2_ := (Option.bind_some _ _).symm.trans H; with_reducible exact H2_) | with_reducible exact H | (rw [hy422]; exact H) | exact H
   have Ny422 := Aside0.mk hy422
   clear hy422
   replace H := Option.bind_eq_some_iff.mp H
   obtain ⟨⟨t425, t426, t427, t428, t429, t430, t431, t432, t433, t434, t435, t436⟩, A150, H⟩ := H
   (try dsimp only at H)
   have A15 := Aside0.mk A150
   clear A150
   by_cases c16 : x12_6 = 0
   ·rw [if_pos c16] at H
    have c16b0 : (x12_6 == 0) = true := beq_iff_eq.mpr c16
    have c16b1 : (x12_6 != 0) = false := bne_eq_false_iff_eq.mpr c16
    clear c16
    by_cases c17 : t436 = 0
    ·rw [if_pos c17] at H
     have c17b0 : (t436 == 0) = true := beq_iff_eq.mpr c17
     have c17b1 : (t436 != 0) = false := bne_eq_false_iff_eq.mpr c17
     clear c17
     by_cases c18 : t426 = x10_6
     ·rw [if_pos c18] at H
      have c18b0 : (t426 == x10_6) = true := beq_iff_eq.mpr c18
      have c18b1 : (t426 != x10_6) = false := bne_eq_false_iff_eq.mpr c18
      clear c18
      by_cases c19 : t427 = x11_6
      ·rw [if_pos c19] at H
       have c19b0 : (t427 == x11_6) = true := beq_iff_eq.mpr c19
       have c19b1 : (t427 != x11_6) = false := bne_eq_false_iff_eq.mpr c19
       clear c19
       by_cases c20 : t435.toList = ([] : List UInt8)
       ·rw [if_pos c20] at H
        have c20b0 : (t435.toList == ([] : List UInt8)) = true := beq_iff_eq.mpr c20
        have c20b1 : (t435.toList != ([] : List UInt8)) = false := bne_eq_false_iff_eq.mpr c20
        clear c20
        replace H := Option.bind_eq_some_iff.mp H
        obtain ⟨t438, A210, H⟩ := H
        (try dsimp only at H)
        have A21 := Aside0.mk A210
        clear A210
        obtain rfl := Option.some.inj H
        go_wp2_with (first | ((with_reducible refine gate_dst (N := 51) rfl ?_); refine Kd.R_lit Kd.string _ 9 ?hg (N := 51) ?hd (xs := ([(⟨#[82]⟩ : ByteArray), (⟨#[88]⟩ : ByteArray), x8_6, x9_6, (⟨#[45]⟩ : ByteArray), (⟨#[74, 97, 110]⟩ : ByteArray), (⟨#[49]⟩ : ByteArray), (⟨#[48]⟩ : ByteArray), (⟨#[48]⟩ : ByteArray), (⟨#[45]⟩ : ByteArray)] : List ByteArray)) (inner := [.string (⟨#[82]⟩ : ByteArray), .string (⟨#[88]⟩ : ByteArray), .string x8_6, .string x9_6, .string (⟨#[45]⟩ : ByteArray), .string (⟨#[74, 97, 110]⟩ : ByteArray), .string (⟨#[49]⟩ : ByteArray), .string (⟨#[48]⟩ : ByteArray), .string (⟨#[48]⟩ : ByteArray), .string (⟨#[45]⟩ : ByteArray)]) (ok := fun _ => True) (okp := fun _ => True) ?hr ?hp (fun _ hk => hk) trivial (Below.refl _ _) (Nat.le_refl _) (by simp) ?_; (case hd => rfl); (case hg => rfl); (case hr => first | (go_simp; done) | (go_simp; rfl)); (case hp => exact (Reps.one (show Kd.M Kd.string _ _ _ (⟨#[82]⟩ : ByteArray) [.string (⟨#[82]⟩ : ByteArray)] from rfl) (Reps.one (show Kd.M Kd.string _ _ _ (⟨#[88]⟩ : ByteArray) [.string (⟨#[88]⟩ : ByteArray)] from rfl) (Reps.one (show Kd.M Kd.string _ _ _ x8_6 [.string x8_6] from rfl) (Reps.one (show Kd.M Kd.string _ _ _ x9_6 [.string x9_6] from rfl) (Reps.one (show Kd.M Kd.string _ _ _ (⟨#[45]⟩ : ByteArray) [.string (⟨#[45]⟩ : ByteArray)] from rfl) (Reps.one (show Kd.M Kd.string _ _ _ (⟨#[74, 97, 110]⟩ : ByteArray) [.string (⟨#[74, 97, 110]⟩ : ByteArray)] from rfl) (Reps.one (show Kd.M Kd.string _ _ _ (⟨#[49]⟩ : ByteArray) [.string (⟨#[49]⟩ : ByteArray)] from rfl) (Reps.one (show Kd.M Kd.string _ _ _ (⟨#[48]⟩ : ByteArray) [.string (⟨#[48]⟩ : ByteArray)] from rfl) (Reps.one (show Kd.M Kd.string _ _ _ (⟨#[48]⟩ : ByteArray) [.string (⟨#[48]⟩ : ByteArray)] from rfl) (Reps.one (show Kd.M Kd.string _ _ _ (⟨#[45]⟩ : ByteArray) [.string (⟨#[45]⟩ : ByteArray)] from rfl) (Reps.none _ _)))))))))))); intro v423 w22 ho23 hb hg_ hnew_; clear hg_ hnew_; (first | rw [← Ny422.out] at ho23 | (simp only [Int.reduceToNat] at ho23; rw [← Ny422.out] at ho23)); have n0_ := Aside0.mk (Kd.R_lower ho23 (below_size (by repeat (first | (with_reducible first | exact HB.out | apply bA | apply bN | apply below_drew1) | exact HB.out)))); have n1_ := Aside0.mk (below_step (by repeat (first | (with_reducible first | exact HB.out | apply bA | apply bN | apply below_drew1) | exact HB.out)) hb); clear HB; have HO424 := n0_; have HB := n1_; clear n0_ n1_; clear hb ho23; obtain ⟨Ao24, co24, eo24⟩ := Kd.R_slice HO424.out; subst eo24) | ((with_reducible refine gate_callee (f := 19) rfl ?_); refine goesL_ (some 52) rfl rfl Tryz.func19 (by kernel_rfl) rfl #[.slice Ao24 y422.length co24] rfl (by (try simp only [List.map_toArray, List.map_cons, List.map_nil]); first | done | rfl | (simp only [List.length_drop, List.length_take]; rfl)) ?_; (with_reducible refine (rule_Parse.calls kj6 _ _ y422 t425 t426 t427 t428 t429 t430 t431 t432 t433 t434 t435 t436 _ ?side1 ?side2 ?side3 A15.out).mono ?_); (case side1 => exact GW.on HG.out (by repeat (first | (with_reducible first | exact HB.out | apply bA | apply bN | apply below_drew1) | exact HB.out))); (case side2 => repeat (first | exact (Kd.R_reads' HO424.out).2.2 | (with_reducible refine Kd.C_alloc ?_ _) | (with_reducible refine Kd.C_drewN ?_ _) | (with_reducible refine Kd.C_drew ?_))); (case side3 => exact (Kd.R_reads' HO424.out).2.1); rintro e w25 ⟨rfl, hb⟩; refine ⟨_, rfl, ?_⟩; have n0_ := Aside0.mk (Kd.R_below (by (with_reducible repeat (first | apply Kd.R_alloc | apply Kd.R_drewN | apply Kd.R_drew)); exact HO424.out) hb); have n1_ := Aside0.mk (below_step (by repeat (first | (with_reducible first | exact HB.out | apply bA | apply bN | apply below_drew1) | exact HB.out)) hb); clear HO424; clear HB; have HO424 := n0_; have HB := n1_; clear n0_ n1_; (try clear hb); (try clear hb2); (try clear hk); (try clear hi)) | ((with_reducible refine gate_dst (N := 13) rfl ?_); refine box_event ?hg (N := 13) ?hd (cs := #[.string (⟨#[]⟩ : ByteArray), .int .i64 0, .int .i64 0, .int .i64 0, .int .i64 0, .int .i64 0, .int .i64 0, .int .i64 0, .int .i64 0, .int .i64 0, .string (⟨#[]⟩ : ByteArray)]) (t := 27) ?hr ?_; (case hd => rfl); (case hg => rfl); (case hr => first | (go_simp; done) | (go_simp; rfl)); intro gb437 hg w26 hbox hb; have n0_ := Aside0.mk (Kd.R_below (by (with_reducible repeat (first | apply Kd.R_alloc | apply Kd.R_drewN | apply Kd.R_drew)); exact HO424.out) hb); have n1_ := Aside0.mk (below_step (by repeat (first | (with_reducible first | exact HB.out | apply bA | apply bN | apply below_drew1) | exact HB.out)) hb); have n2_ := Aside0.mk (hbox); have n3_ := Aside0.mk ((by rw [hg]; exact (below_size (by repeat (first | (with_reducible first | exact HB.out | apply bA | apply bN | apply below_drew1) | exact HB.out))) : w.heap.size ≤ gb437)); have n4_ := Aside0.mk ((by rw [hg]; exact (below_size (by repeat (first | (with_reducible first | exact HB.out | apply bA | apply bN | apply below_drew1) | exact HB.out))) : w.heap.size ≤ gb437)); clear HO424; clear HB; have HO424 := n0_; have HB := n1_; have BK437 := n2_; have GW437 := n3_; have GE437 := n4_; clear n0_ n1_ n2_ n3_ n4_; clear hb hbox hg; obtain ⟨hcz27_0, hcz27_1, hcz27_2, hcz27_3, hcz27_4, hcz27_5, hcz27_6, hcz27_7, hcz27_8, hcz27_9, hcz27_10, hfz27_0, hfz27_1, hfz27_2, hfz27_3, hfz27_4, hfz27_5, hfz27_6, hfz27_7, hfz27_8, hfz27_9, hfz27_10⟩ := cl11 BK437.out) | ((with_reducible refine gate_store (t := 27) (p := 13) rfl ?_); refine store_event (t := 27) (p := 13) (v := ?vo_w28) (w1 := (((((((((((w26.setCell ⟨gb437, 0, none⟩ (.string t425)).setCell ⟨gb437, 1, none⟩ (.int .i64 t426)).setCell ⟨gb437, 2, none⟩ (.int .i64 t427)).setCell ⟨gb437, 3, none⟩ (.int .i64 t428)).setCell ⟨gb437, 4, none⟩ (.int .i64 t429)).setCell ⟨gb437, 5, none⟩ (.int .i64 t430)).setCell ⟨gb437, 6, none⟩ (.int .i64 t431)).setCell ⟨gb437, 7, none⟩ (.int .i64 t432)).setCell ⟨gb437, 8, none⟩ (.int .i64 t433)).setCell ⟨gb437, 9, none⟩ (.int .i64 t434)).setCell ⟨gb437, 10, none⟩ (.string t435))) ?hg ?ho ?hn ?hr ?_; (case ho => rfl); (case hg => rfl); (case hn => rfl); (case hr => first | (go_simp; done) | (go_simp; rfl)); intro w28 hw; have n0_ : Aside0 (Kd.R Kd.string 9 w28 w.heap.size (fun _ => True) (.slice Ao24 y422.length co24) y422) := ⟨(by rw [hw]; exact (by (with_reducible repeat (first | apply Kd.R_alloc | apply Kd.R_drewN | apply Kd.R_drew)); exact Kd.R_mono (Kd.R_far (p := ⟨gb437, 10, none⟩) (Kd.R_far (p := ⟨gb437, 9, none⟩) (Kd.R_far (p := ⟨gb437, 8, none⟩) (Kd.R_far (p := ⟨gb437, 7, none⟩) (Kd.R_far (p := ⟨gb437, 6, none⟩) (Kd.R_far (p := ⟨gb437, 5, none⟩) (Kd.R_far (p := ⟨gb437, 4, none⟩) (Kd.R_far (p := ⟨gb437, 3, none⟩) (Kd.R_far (p := ⟨gb437, 2, none⟩) (Kd.R_far (p := ⟨gb437, 1, none⟩) (Kd.R_far (p := ⟨gb437, 0, none⟩) (Kd.R_types HO424.out BK437.out (by decide)) (fun _ hk => hk.2) (.string t425)) (fun _ hk => hk.2) (.int .i64 t426)) (fun _ hk => hk.2) (.int .i64 t427)) (fun _ hk => hk.2) (.int .i64 t428)) (fun _ hk => hk.2) (.int .i64 t429)) (fun _ hk => hk.2) (.int .i64 t430)) (fun _ hk => hk.2) (.int .i64 t431)) (fun _ hk => hk.2) (.int .i64 t432)) (fun _ hk => hk.2) (.int .i64 t433)) (fun _ hk => hk.2) (.int .i64 t434)) (fun _ hk => hk.2) (.string t435)) (fun _ hk => trivial)))⟩; have n1_ : Aside0 (w28.heap[gb437]? = some (.cells #[.string t425, .int .i64 t426, .int .i64 t427, .int .i64 t428, .int .i64 t429, .int .i64 t430, .int .i64 t431, .int .i64 t432, .int .i64 t433, .int .i64 t434, .string t435] 27 (0, 0))) := ⟨(by rw [hw]; exact (by (with_reducible repeat (first | refine blk_drewN ?_ _ | refine blk_drew ?_ | refine blk_alloc ?_ _)); refine blk_put (cs := #[.string t425, .int .i64 t426, .int .i64 t427, .int .i64 t428, .int .i64 t429, .int .i64 t430, .int .i64 t431, .int .i64 t432, .int .i64 t433, .int .i64 t434, .string (⟨#[]⟩ : ByteArray)]) ?_ 10 _ rfl; (with_reducible repeat (first | refine blk_drewN ?_ _ | refine blk_drew ?_ | refine blk_alloc ?_ _)); refine blk_put (cs := #[.string t425, .int .i64 t426, .int .i64 t427, .int .i64 t428, .int .i64 t429, .int .i64 t430, .int .i64 t431, .int .i64 t432, .int .i64 t433, .int .i64 0, .string (⟨#[]⟩ : ByteArray)]) ?_ 9 _ rfl; (with_reducible repeat (first | refine blk_drewN ?_ _ | refine blk_drew ?_ | refine blk_alloc ?_ _)); refine blk_put (cs := #[.string t425, .int .i64 t426, .int .i64 t427, .int .i64 t428, .int .i64 t429, .int .i64 t430, .int .i64 t431, .int .i64 t432, .int .i64 0, .int .i64 0, .string (⟨#[]⟩ : ByteArray)]) ?_ 8 _ rfl; (with_reducible repeat (first | refine blk_drewN ?_ _ | refine blk_drew ?_ | refine blk_alloc ?_ _)); refine blk_put (cs := #[.string t425, .int .i64 t426, .int .i64 t427, .int .i64 t428, .int .i64 t429, .int .i64 t430, .int .i64 t431, .int .i64 0, .int .i64 0, .int .i64 0, .string (⟨#[]⟩ : ByteArray)]) ?_ 7 _ rfl; (with_reducible repeat (first | refine blk_drewN ?_ _ | refine blk_drew ?_ | refine blk_alloc ?_ _)); refine blk_put (cs := #[.string t425, .int .i64 t426, .int .i64 t427, .int .i64 t428, .int .i64 t429, .int .i64 t430, .int .i64 0, .int .i64 0, .int .i64 0, .int .i64 0, .string (⟨#[]⟩ : ByteArray)]) ?_ 6 _ rfl; (with_reducible repeat (first | refine blk_drewN ?_ _ | refine blk_drew ?_ | refine blk_alloc ?_ _)); refine blk_put (cs := #[.string t425, .int .i64 t426, .int .i64 t427, .int .i64 t428, .int .i64 t429, .int .i64 0, .int .i64 0, .int .i64 0, .int .i64 0, .int .i64 0, .string (⟨#[]⟩ : ByteArray)]) ?_ 5 _ rfl; (with_reducible repeat (first | refine blk_drewN ?_ _ | refine blk_drew ?_ | refine blk_alloc ?_ _)); refine blk_put (cs := #[.string t425, .int .i64 t426, .int .i64 t427, .int .i64 t428, .int .i64 0, .int .i64 0, .int .i64 0, .int .i64 0, .int .i64 0, .int .i64 0, .string (⟨#[]⟩ : ByteArray)]) ?_ 4 _ rfl; (with_reducible repeat (first | refine blk_drewN ?_ _ | refine blk_drew ?_ | refine blk_alloc ?_ _)); refine blk_put (cs := #[.string t425, .int .i64 t426, .int .i64 t427, .int .i64 0, .int .i64 0, .int .i64 0, .int .i64 0, .int .i64 0, .int .i64 0, .int .i64 0, .string (⟨#[]⟩ : ByteArray)]) ?_ 3 _ rfl; (with_reducible repeat (first | refine blk_drewN ?_ _ | refine blk_drew ?_ | refine blk_alloc ?_ _)); refine blk_put (cs := #[.string t425, .int .i64 t426, .int .i64 0, .int .i64 0, .int .i64 0, .int .i64 0, .int .i64 0, .int .i64 0, .int .i64 0, .int .i64 0, .string (⟨#[]⟩ : ByteArray)]) ?_ 2 _ rfl; (with_reducible repeat (first | refine blk_drewN ?_ _ | refine blk_drew ?_ | refine blk_alloc ?_ _)); refine blk_put (cs := #[.string t425, .int .i64 0, .int .i64 0, .int .i64 0, .int .i64 0, .int .i64 0, .int .i64 0, .int .i64 0, .int .i64 0, .int .i64 0, .string (⟨#[]⟩ : ByteArray)]) ?_ 1 _ rfl; (with_reducible repeat (first | refine blk_drewN ?_ _ | refine blk_drew ?_ | refine blk_alloc ?_ _)); refine blk_put (cs := #[.string (⟨#[]⟩ : ByteArray), .int .i64 0, .int .i64 0, .int .i64 0, .int .i64 0, .int .i64 0, .int .i64 0, .int .i64 0, .int .i64 0, .int .i64 0, .string (⟨#[]⟩ : ByteArray)]) ?_ 0 _ rfl; (with_reducible repeat (first | refine blk_drewN ?_ _ | refine blk_drew ?_ | refine blk_alloc ?_ _)); exact BK437.out))⟩; have n2_ : Aside0 (Below w.heap.size w w28) := ⟨(by rw [hw]; exact (by repeat (first | (with_reducible first | exact HB.out | apply bA | apply bN | apply below_drew1 | refine below_set ?_ GE437.out) | exact HB.out)))⟩; clear hw; clear HO424; clear BK437; clear HB; have HO424 := n0_; have BK437 := n1_; have HB := n2_; clear n0_ n1_ n2_; obtain ⟨hcz29_0, hcz29_1, hcz29_2, hcz29_3, hcz29_4, hcz29_5, hcz29_6, hcz29_7, hcz29_8, hcz29_9, hcz29_10, hfz29_0, hfz29_1, hfz29_2, hfz29_3, hfz29_4, hfz29_5, hfz29_6, hfz29_7, hfz29_8, hfz29_9, hfz29_10⟩ := cl11 BK437.out) | (go_at_call 17; (with_reducible refine (solsticelaw09_wakes.calls kj6  t438 _ ?side1 A21.out).mono ?_); (case side1 => exact GW.on HG.out (by repeat (first | (with_reducible first | exact HB.out | apply bA | apply bN | apply below_drew1 | refine below_set ?_ GE437.out) | exact HB.out))); rintro e w30 ⟨rfl, hb⟩; have n0_ := Aside0.mk (Kd.R_below (by (with_reducible repeat (first | apply Kd.R_alloc | apply Kd.R_drewN | apply Kd.R_drew)); exact HO424.out) hb); have n1_ := Aside0.mk (blk_below (g := gb437) (o := .cells #[.string t425, .int .i64 t426, .int .i64 t427, .int .i64 t428, .int .i64 t429, .int .i64 t430, .int .i64 t431, .int .i64 t432, .int .i64 t433, .int .i64 t434, .string t435] 27 (0, 0)) (by (with_reducible repeat (first | refine blk_drewN ?_ _ | refine blk_drew ?_ | refine blk_alloc ?_ _)); exact BK437.out) hb); have n2_ := Aside0.mk (below_step (by repeat (first | (with_reducible first | exact HB.out | apply bA | apply bN | apply below_drew1 | refine below_set ?_ GE437.out) | exact HB.out)) hb); clear HO424; clear BK437; clear HB; have HO424 := n0_; have BK437 := n1_; have HB := n2_; clear n0_ n1_ n2_; (try clear hb); (try clear hb2); (try clear hk); (try clear hi)))
        go_ret
        exact ⟨by first | rfl | (simp [errW_none, errW_some] <;> rfl) | (simp only [← hji4]; first | rfl | (simp [errW_none, errW_some] <;> rfl)) | (simp [*, errW_none, errW_some] <;> rfl), by repeat (first | (with_reducible first | exact HB.out | apply bA | apply bN | apply below_drew1 | refine below_set ?_ GE437.out) | exact HB.out)⟩
       ·rw [if_neg c20] at H
        exact absurd H (by simp)
      ·rw [if_neg c19] at H
       exact absurd H (by simp)
     ·rw [if_neg c18] at H
      exact absurd H (by simp)
    ·rw [if_neg c17] at H
     exact absurd H (by simp)
   ·rw [if_neg c16] at H
    have c16b0 : (x12_6 == 0) = false := beq_eq_false_iff_ne.mpr c16
    have c16b1 : (x12_6 != 0) = true := bne_iff_ne.mpr c16
    by_cases c31 : t436 = x12_6
    ·rw [if_pos c31] at H
     have c31b0 : (t436 == x12_6) = true := beq_iff_eq.mpr c31
     have c31b1 : (t436 != x12_6) = false := bne_eq_false_iff_eq.mpr c31
     clear c31
     by_cases c32 : (t425.toList == ([] : List UInt8) && (t426 == 0 && (t427 == 0 && (t428 == 0 && ((t429 == 0 && (t430 == 0 && (t431 == 0))) && ((t432 == 0 && (t433 == 0)) && (t434 == 0 && (t435.toList == ([] : List UInt8))))))))) = true
     ·rw [if_pos c32] at H
      have c32b0 : (t425.toList == ([] : List UInt8) && (t426 == 0 && (t427 == 0 && (t428 == 0 && ((t429 == 0 && (t430 == 0 && (t431 == 0))) && ((t432 == 0 && (t433 == 0)) && (t434 == 0 && (t435.toList == ([] : List UInt8))))))))) = true := c32
      (try (have c32b1 : decide (t425.toList = ([] : List UInt8) && (t426 == 0 && (t427 == 0 && (t428 == 0 && ((t429 == 0 && (t430 == 0 && (t431 == 0))) && ((t432 == 0 && (t433 == 0)) && (t434 == 0 && (t435.toList == ([] : List UInt8))))))))) = true := by simpa using c32))
      (try (have c32b2 : (t425.toList == ([] : List UInt8) && (t426 == 0 && (t427 == 0 && (t428 == 0 && ((t429 == 0 && (t430 == 0 && (t431 == 0))) && ((t432 == 0 && (t433 == 0)) && (t434 == 0 && (t435.toList == ([] : List UInt8))))))))) = true := by simpa using c32))
      clear c32
      replace H := Option.bind_eq_some_iff.mp H
      obtain ⟨t439, A330, H⟩ := H
      (try dsimp only at H)
      have A33 := Aside0.mk A330
      clear A330
      obtain rfl := Option.some.inj H
      go_wp2_with (first | ((with_reducible refine gate_dst (N := 51) rfl ?_); refine Kd.R_lit Kd.string _ 9 ?hg (N := 51) ?hd (xs := ([(⟨#[82]⟩ : ByteArray), (⟨#[88]⟩ : ByteArray), x8_6, x9_6, (⟨#[45]⟩ : ByteArray), (⟨#[74, 97, 110]⟩ : ByteArray), (⟨#[49]⟩ : ByteArray), (⟨#[48]⟩ : ByteArray), (⟨#[48]⟩ : ByteArray), (⟨#[45]⟩ : ByteArray)] : List ByteArray)) (inner := [.string (⟨#[82]⟩ : ByteArray), .string (⟨#[88]⟩ : ByteArray), .string x8_6, .string x9_6, .string (⟨#[45]⟩ : ByteArray), .string (⟨#[74, 97, 110]⟩ : ByteArray), .string (⟨#[49]⟩ : ByteArray), .string (⟨#[48]⟩ : ByteArray), .string (⟨#[48]⟩ : ByteArray), .string (⟨#[45]⟩ : ByteArray)]) (ok := fun _ => True) (okp := fun _ => True) ?hr ?hp (fun _ hk => hk) trivial (Below.refl _ _) (Nat.le_refl _) (by simp) ?_; (case hd => rfl); (case hg => rfl); (case hr => first | (go_simp; done) | (go_simp; rfl)); (case hp => exact (Reps.one (show Kd.M Kd.string _ _ _ (⟨#[82]⟩ : ByteArray) [.string (⟨#[82]⟩ : ByteArray)] from rfl) (Reps.one (show Kd.M Kd.string _ _ _ (⟨#[88]⟩ : ByteArray) [.string (⟨#[88]⟩ : ByteArray)] from rfl) (Reps.one (show Kd.M Kd.string _ _ _ x8_6 [.string x8_6] from rfl) (Reps.one (show Kd.M Kd.string _ _ _ x9_6 [.string x9_6] from rfl) (Reps.one (show Kd.M Kd.string _ _ _ (⟨#[45]⟩ : ByteArray) [.string (⟨#[45]⟩ : ByteArray)] from rfl) (Reps.one (show Kd.M Kd.string _ _ _ (⟨#[74, 97, 110]⟩ : ByteArray) [.string (⟨#[74, 97, 110]⟩ : ByteArray)] from rfl) (Reps.one (show Kd.M Kd.string _ _ _ (⟨#[49]⟩ : ByteArray) [.string (⟨#[49]⟩ : ByteArray)] from rfl) (Reps.one (show Kd.M Kd.string _ _ _ (⟨#[48]⟩ : ByteArray) [.string (⟨#[48]⟩ : ByteArray)] from rfl) (Reps.one (show Kd.M Kd.string _ _ _ (⟨#[48]⟩ : ByteArray) [.string (⟨#[48]⟩ : ByteArray)] from rfl) (Reps.one (show Kd.M Kd.string _ _ _ (⟨#[45]⟩ : ByteArray) [.string (⟨#[45]⟩ : ByteArray)] from rfl) (Reps.none _ _)))))))))))); intro v423 w34 ho35 hb hg_ hnew_; clear hg_ hnew_; (first | rw [← Ny422.out] at ho35 | (simp only [Int.reduceToNat] at ho35; rw [← Ny422.out] at ho35)); have n0_ := Aside0.mk (Kd.R_lower ho35 (below_size (by repeat (first | (with_reducible first | exact HB.out | apply bA | apply bN | apply below_drew1) | exact HB.out)))); have n1_ := Aside0.mk (below_step (by repeat (first | (with_reducible first | exact HB.out | apply bA | apply bN | apply below_drew1) | exact HB.out)) hb); clear HB; have HO424 := n0_; have HB := n1_; clear n0_ n1_; clear hb ho35; obtain ⟨Ao36, co36, eo36⟩ := Kd.R_slice HO424.out; subst eo36) | ((with_reducible refine gate_callee (f := 19) rfl ?_); refine goesL_ (some 52) rfl rfl Tryz.func19 (by kernel_rfl) rfl #[.slice Ao36 y422.length co36] rfl (by (try simp only [List.map_toArray, List.map_cons, List.map_nil]); first | done | rfl | (simp only [List.length_drop, List.length_take]; rfl)) ?_; (with_reducible refine (rule_Parse.calls kj6 _ _ y422 t425 t426 t427 t428 t429 t430 t431 t432 t433 t434 t435 t436 _ ?side1 ?side2 ?side3 A15.out).mono ?_); (case side1 => exact GW.on HG.out (by repeat (first | (with_reducible first | exact HB.out | apply bA | apply bN | apply below_drew1) | exact HB.out))); (case side2 => repeat (first | exact (Kd.R_reads' HO424.out).2.2 | (with_reducible refine Kd.C_alloc ?_ _) | (with_reducible refine Kd.C_drewN ?_ _) | (with_reducible refine Kd.C_drew ?_))); (case side3 => exact (Kd.R_reads' HO424.out).2.1); rintro e w37 ⟨rfl, hb⟩; refine ⟨_, rfl, ?_⟩; have n0_ := Aside0.mk (Kd.R_below (by (with_reducible repeat (first | apply Kd.R_alloc | apply Kd.R_drewN | apply Kd.R_drew)); exact HO424.out) hb); have n1_ := Aside0.mk (below_step (by repeat (first | (with_reducible first | exact HB.out | apply bA | apply bN | apply below_drew1) | exact HB.out)) hb); clear HO424; clear HB; have HO424 := n0_; have HB := n1_; clear n0_ n1_; (try clear hb); (try clear hb2); (try clear hk); (try clear hi)) | ((with_reducible refine gate_dst (N := 13) rfl ?_); refine box_event ?hg (N := 13) ?hd (cs := #[.string (⟨#[]⟩ : ByteArray), .int .i64 0, .int .i64 0, .int .i64 0, .int .i64 0, .int .i64 0, .int .i64 0, .int .i64 0, .int .i64 0, .int .i64 0, .string (⟨#[]⟩ : ByteArray)]) (t := 27) ?hr ?_; (case hd => rfl); (case hg => rfl); (case hr => first | (go_simp; done) | (go_simp; rfl)); intro gb437 hg w38 hbox hb; have n0_ := Aside0.mk (Kd.R_below (by (with_reducible repeat (first | apply Kd.R_alloc | apply Kd.R_drewN | apply Kd.R_drew)); exact HO424.out) hb); have n1_ := Aside0.mk (below_step (by repeat (first | (with_reducible first | exact HB.out | apply bA | apply bN | apply below_drew1) | exact HB.out)) hb); have n2_ := Aside0.mk (hbox); have n3_ := Aside0.mk ((by rw [hg]; exact (below_size (by repeat (first | (with_reducible first | exact HB.out | apply bA | apply bN | apply below_drew1) | exact HB.out))) : w.heap.size ≤ gb437)); have n4_ := Aside0.mk ((by rw [hg]; exact (below_size (by repeat (first | (with_reducible first | exact HB.out | apply bA | apply bN | apply below_drew1) | exact HB.out))) : w.heap.size ≤ gb437)); clear HO424; clear HB; have HO424 := n0_; have HB := n1_; have BK437 := n2_; have GW437 := n3_; have GE437 := n4_; clear n0_ n1_ n2_ n3_ n4_; clear hb hbox hg; obtain ⟨hcz39_0, hcz39_1, hcz39_2, hcz39_3, hcz39_4, hcz39_5, hcz39_6, hcz39_7, hcz39_8, hcz39_9, hcz39_10, hfz39_0, hfz39_1, hfz39_2, hfz39_3, hfz39_4, hfz39_5, hfz39_6, hfz39_7, hfz39_8, hfz39_9, hfz39_10⟩ := cl11 BK437.out) | ((with_reducible refine gate_store (t := 27) (p := 13) rfl ?_); refine store_event (t := 27) (p := 13) (v := ?vo_w40) (w1 := (((((((((((w38.setCell ⟨gb437, 0, none⟩ (.string t425)).setCell ⟨gb437, 1, none⟩ (.int .i64 t426)).setCell ⟨gb437, 2, none⟩ (.int .i64 t427)).setCell ⟨gb437, 3, none⟩ (.int .i64 t428)).setCell ⟨gb437, 4, none⟩ (.int .i64 t429)).setCell ⟨gb437, 5, none⟩ (.int .i64 t430)).setCell ⟨gb437, 6, none⟩ (.int .i64 t431)).setCell ⟨gb437, 7, none⟩ (.int .i64 t432)).setCell ⟨gb437, 8, none⟩ (.int .i64 t433)).setCell ⟨gb437, 9, none⟩ (.int .i64 t434)).setCell ⟨gb437, 10, none⟩ (.string t435))) ?hg ?ho ?hn ?hr ?_; (case ho => rfl); (case hg => rfl); (case hn => rfl); (case hr => first | (go_simp; done) | (go_simp; rfl)); intro w40 hw; have n0_ : Aside0 (Kd.R Kd.string 9 w40 w.heap.size (fun _ => True) (.slice Ao36 y422.length co36) y422) := ⟨(by rw [hw]; exact (by (with_reducible repeat (first | apply Kd.R_alloc | apply Kd.R_drewN | apply Kd.R_drew)); exact Kd.R_mono (Kd.R_far (p := ⟨gb437, 10, none⟩) (Kd.R_far (p := ⟨gb437, 9, none⟩) (Kd.R_far (p := ⟨gb437, 8, none⟩) (Kd.R_far (p := ⟨gb437, 7, none⟩) (Kd.R_far (p := ⟨gb437, 6, none⟩) (Kd.R_far (p := ⟨gb437, 5, none⟩) (Kd.R_far (p := ⟨gb437, 4, none⟩) (Kd.R_far (p := ⟨gb437, 3, none⟩) (Kd.R_far (p := ⟨gb437, 2, none⟩) (Kd.R_far (p := ⟨gb437, 1, none⟩) (Kd.R_far (p := ⟨gb437, 0, none⟩) (Kd.R_types HO424.out BK437.out (by decide)) (fun _ hk => hk.2) (.string t425)) (fun _ hk => hk.2) (.int .i64 t426)) (fun _ hk => hk.2) (.int .i64 t427)) (fun _ hk => hk.2) (.int .i64 t428)) (fun _ hk => hk.2) (.int .i64 t429)) (fun _ hk => hk.2) (.int .i64 t430)) (fun _ hk => hk.2) (.int .i64 t431)) (fun _ hk => hk.2) (.int .i64 t432)) (fun _ hk => hk.2) (.int .i64 t433)) (fun _ hk => hk.2) (.int .i64 t434)) (fun _ hk => hk.2) (.string t435)) (fun _ hk => trivial)))⟩; have n1_ : Aside0 (w40.heap[gb437]? = some (.cells #[.string t425, .int .i64 t426, .int .i64 t427, .int .i64 t428, .int .i64 t429, .int .i64 t430, .int .i64 t431, .int .i64 t432, .int .i64 t433, .int .i64 t434, .string t435] 27 (0, 0))) := ⟨(by rw [hw]; exact (by (with_reducible repeat (first | refine blk_drewN ?_ _ | refine blk_drew ?_ | refine blk_alloc ?_ _)); refine blk_put (cs := #[.string t425, .int .i64 t426, .int .i64 t427, .int .i64 t428, .int .i64 t429, .int .i64 t430, .int .i64 t431, .int .i64 t432, .int .i64 t433, .int .i64 t434, .string (⟨#[]⟩ : ByteArray)]) ?_ 10 _ rfl; (with_reducible repeat (first | refine blk_drewN ?_ _ | refine blk_drew ?_ | refine blk_alloc ?_ _)); refine blk_put (cs := #[.string t425, .int .i64 t426, .int .i64 t427, .int .i64 t428, .int .i64 t429, .int .i64 t430, .int .i64 t431, .int .i64 t432, .int .i64 t433, .int .i64 0, .string (⟨#[]⟩ : ByteArray)]) ?_ 9 _ rfl; (with_reducible repeat (first | refine blk_drewN ?_ _ | refine blk_drew ?_ | refine blk_alloc ?_ _)); refine blk_put (cs := #[.string t425, .int .i64 t426, .int .i64 t427, .int .i64 t428, .int .i64 t429, .int .i64 t430, .int .i64 t431, .int .i64 t432, .int .i64 0, .int .i64 0, .string (⟨#[]⟩ : ByteArray)]) ?_ 8 _ rfl; (with_reducible repeat (first | refine blk_drewN ?_ _ | refine blk_drew ?_ | refine blk_alloc ?_ _)); refine blk_put (cs := #[.string t425, .int .i64 t426, .int .i64 t427, .int .i64 t428, .int .i64 t429, .int .i64 t430, .int .i64 t431, .int .i64 0, .int .i64 0, .int .i64 0, .string (⟨#[]⟩ : ByteArray)]) ?_ 7 _ rfl; (with_reducible repeat (first | refine blk_drewN ?_ _ | refine blk_drew ?_ | refine blk_alloc ?_ _)); refine blk_put (cs := #[.string t425, .int .i64 t426, .int .i64 t427, .int .i64 t428, .int .i64 t429, .int .i64 t430, .int .i64 0, .int .i64 0, .int .i64 0, .int .i64 0, .string (⟨#[]⟩ : ByteArray)]) ?_ 6 _ rfl; (with_reducible repeat (first | refine blk_drewN ?_ _ | refine blk_drew ?_ | refine blk_alloc ?_ _)); refine blk_put (cs := #[.string t425, .int .i64 t426, .int .i64 t427, .int .i64 t428, .int .i64 t429, .int .i64 0, .int .i64 0, .int .i64 0, .int .i64 0, .int .i64 0, .string (⟨#[]⟩ : ByteArray)]) ?_ 5 _ rfl; (with_reducible repeat (first | refine blk_drewN ?_ _ | refine blk_drew ?_ | refine blk_alloc ?_ _)); refine blk_put (cs := #[.string t425, .int .i64 t426, .int .i64 t427, .int .i64 t428, .int .i64 0, .int .i64 0, .int .i64 0, .int .i64 0, .int .i64 0, .int .i64 0, .string (⟨#[]⟩ : ByteArray)]) ?_ 4 _ rfl; (with_reducible repeat (first | refine blk_drewN ?_ _ | refine blk_drew ?_ | refine blk_alloc ?_ _)); refine blk_put (cs := #[.string t425, .int .i64 t426, .int .i64 t427, .int .i64 0, .int .i64 0, .int .i64 0, .int .i64 0, .int .i64 0, .int .i64 0, .int .i64 0, .string (⟨#[]⟩ : ByteArray)]) ?_ 3 _ rfl; (with_reducible repeat (first | refine blk_drewN ?_ _ | refine blk_drew ?_ | refine blk_alloc ?_ _)); refine blk_put (cs := #[.string t425, .int .i64 t426, .int .i64 0, .int .i64 0, .int .i64 0, .int .i64 0, .int .i64 0, .int .i64 0, .int .i64 0, .int .i64 0, .string (⟨#[]⟩ : ByteArray)]) ?_ 2 _ rfl; (with_reducible repeat (first | refine blk_drewN ?_ _ | refine blk_drew ?_ | refine blk_alloc ?_ _)); refine blk_put (cs := #[.string t425, .int .i64 0, .int .i64 0, .int .i64 0, .int .i64 0, .int .i64 0, .int .i64 0, .int .i64 0, .int .i64 0, .int .i64 0, .string (⟨#[]⟩ : ByteArray)]) ?_ 1 _ rfl; (with_reducible repeat (first | refine blk_drewN ?_ _ | refine blk_drew ?_ | refine blk_alloc ?_ _)); refine blk_put (cs := #[.string (⟨#[]⟩ : ByteArray), .int .i64 0, .int .i64 0, .int .i64 0, .int .i64 0, .int .i64 0, .int .i64 0, .int .i64 0, .int .i64 0, .int .i64 0, .string (⟨#[]⟩ : ByteArray)]) ?_ 0 _ rfl; (with_reducible repeat (first | refine blk_drewN ?_ _ | refine blk_drew ?_ | refine blk_alloc ?_ _)); exact BK437.out))⟩; have n2_ : Aside0 (Below w.heap.size w w40) := ⟨(by rw [hw]; exact (by repeat (first | (with_reducible first | exact HB.out | apply bA | apply bN | apply below_drew1 | refine below_set ?_ GE437.out) | exact HB.out)))⟩; clear hw; clear HO424; clear BK437; clear HB; have HO424 := n0_; have BK437 := n1_; have HB := n2_; clear n0_ n1_ n2_; obtain ⟨hcz41_0, hcz41_1, hcz41_2, hcz41_3, hcz41_4, hcz41_5, hcz41_6, hcz41_7, hcz41_8, hcz41_9, hcz41_10, hfz41_0, hfz41_1, hfz41_2, hfz41_3, hfz41_4, hfz41_5, hfz41_6, hfz41_7, hfz41_8, hfz41_9, hfz41_10⟩ := cl11 BK437.out) | (go_at_call 17; (with_reducible refine (solsticelaw09_wakes.calls kj6  t439 _ ?side1 A33.out).mono ?_); (case side1 => exact GW.on HG.out (by repeat (first | (with_reducible first | exact HB.out | apply bA | apply bN | apply below_drew1 | refine below_set ?_ GE437.out) | exact HB.out))); rintro e w42 ⟨rfl, hb⟩; have n0_ := Aside0.mk (Kd.R_below (by (with_reducible repeat (first | apply Kd.R_alloc | apply Kd.R_drewN | apply Kd.R_drew)); exact HO424.out) hb); have n1_ := Aside0.mk (blk_below (g := gb437) (o := .cells #[.string t425, .int .i64 t426, .int .i64 t427, .int .i64 t428, .int .i64 t429, .int .i64 t430, .int .i64 t431, .int .i64 t432, .int .i64 t433, .int .i64 t434, .string t435] 27 (0, 0)) (by (with_reducible repeat (first | refine blk_drewN ?_ _ | refine blk_drew ?_ | refine blk_alloc ?_ _)); exact BK437.out) hb); have n2_ := Aside0.mk (below_step (by repeat (first | (with_reducible first | exact HB.out | apply bA | apply bN | apply below_drew1 | refine below_set ?_ GE437.out) | exact HB.out)) hb); clear HO424; clear BK437; clear HB; have HO424 := n0_; have BK437 := n1_; have HB := n2_; clear n0_ n1_ n2_; (try clear hb); (try clear hb2); (try clear hk); (try clear hi)))
      go_ret
      exact ⟨by first | rfl | (simp [errW_none, errW_some] <;> rfl) | (simp only [← hji4]; first | rfl | (simp [errW_none, errW_some] <;> rfl)) | (simp [*, errW_none, errW_some] <;> rfl), by repeat (first | (with_reducible first | exact HB.out | apply bA | apply bN | apply below_drew1 | refine below_set ?_ GE437.out) | exact HB.out)⟩
      all_goals (exfalso; apply ‹¬ (t425.toList = _ ∧ _)›; simpa using c32b0)
     ·rw [if_neg c32] at H
      exact absurd H (by simp)
    ·rw [if_neg c31] at H
     exact absurd H (by simp)
end Go.Proofs.YtfhemdnjoedioaaGreatDoor.X
end
section
namespace Go.Proofs.YtfhemdnjoedioaaGreatDoor.X
open Go.RowKit Go.Proofs.YtfhemdnjoedioaaGreatDoorW.PrintWords Go.Proofs.YtfhemdnjoedioaaGreatDoorW.PrintLast Go.Proofs.YtfhemdnjoedioaaGreatDoorW.PrintMore
set_option linter.unusedVariables false
set_option linter.unusedSimpArgs false
theorem wrap_idd {x : Int} (h0 : -9223372036854775808 ≤ x) (h1 : x < 9223372036854775808) : wrap64 x = x := by unfold wrap64; omega
def isDg (b : UInt8) : Bool := decide (48 ≤ b.toNat) && decide (b.toNat ≤ 57)
theorem isDg_iff {b : UInt8} : isDg b = true ↔ 48 ≤ b.toNat ∧ b.toNat ≤ 57 := by unfold isDg; simp
def valL : List UInt8 → Nat → Nat
  | [], a => a
  | b :: l, a => valL l (10 * a + (b.toNat - 48))
theorem valL_append (l m : List UInt8) (a : Nat) : valL (l ++ m) a = valL m (valL l a) := by
  induction l generalizing a with
  | nil => rfl
  | cons b l ih => exact ih _
theorem valL_lt (l : List UInt8) (hd : ∀ b ∈ l, isDg b = true) (a : Nat) : valL l a < (a + 1) * 10 ^ l.length := by
  induction l generalizing a with
  | nil => simp [valL]
  | cons b l ih =>
    have hb := isDg_iff.mp (hd b (List.mem_cons_self ..))
    have h := ih (fun c hc => hd c (List.mem_cons_of_mem _ hc)) (10 * a + (b.toNat - 48))
    rw [List.length_cons, Nat.pow_succ]
    show valL l (10 * a + (b.toNat - 48)) < _
    refine Nat.lt_of_lt_of_le h ?_
    rw [show (a + 1) * (10 ^ l.length * 10) = (10 * (a + 1)) * 10 ^ l.length by rw [Nat.mul_comm (10 ^ l.length) 10, ← Nat.mul_assoc, Nat.mul_comm (a + 1) 10]]
    exact Nat.mul_le_mul_right _ (by omega)
theorem bt_list (l : List UInt8) (i : Nat) (h : i < l.length) : bt ⟨l.toArray⟩ (i : Int) = (l[i].toNat : Int) := by
  unfold bt
  have hi : ((i : Int)).toNat < (⟨l.toArray⟩ : ByteArray).size := by
    show ((i : Int)).toNat < l.toArray.size
    simpa using h
  rw [dif_pos hi]
  rfl
theorem size_list (l : List UInt8) : (⟨l.toArray⟩ : ByteArray).size = l.length := by
  show l.toArray.size = _
  simp
theorem parse_loop (l : List UInt8) (hd : ∀ b ∈ l, isDg b = true) (hl : l.length ≤ 18) (d : Nat) : ∀ (i k : Nat), i ≤ l.length → d = l.length - i → d < k →
    num_Parse.l0 k ⟨l.toArray⟩ ((valL (l.take i) 0 : Nat) : Int) (l.length : Int) (i : Int) = some (((valL l 0 : Nat) : Int), true) := by
  induction d with
  | zero =>
    intro i k hi he hk
    obtain ⟨k, rfl⟩ : ∃ m, k = m + 1 := ⟨k - 1, by omega⟩
    simp only [num_Parse.l0]
    rw [if_neg (by omega), List.take_of_length_le (by omega)]
  | succ d ih =>
    intro i k hi he hk
    obtain ⟨k, rfl⟩ : ∃ m, k = m + 1 := ⟨k - 1, by omega⟩
    have hlt : i < l.length := by omega
    have hb := isDg_iff.mp (hd l[i] (List.getElem_mem hlt))
    have hv := valL_lt (l.take i) (fun b hb => hd b (List.mem_of_mem_take hb)) 0
    rw [List.length_take, Nat.min_eq_left (by omega)] at hv
    have hp : 10 ^ i ≤ 10 ^ 17 := Nat.pow_le_pow_right (by decide) (by omega)
    have hp' : (10 : Nat) ^ 17 = 100000000000000000 := by decide
    have hv' : valL (l.take i) 0 < 100000000000000000 := by omega
    simp only [num_Parse.l0]
    rw [if_pos (by omega), if_pos (by omega), if_pos (by rw [size_list]; omega), bt_list l i hlt, if_neg (by omega), if_neg (by omega)]
    have e : wrap64 (wrap64 (10 * ((valL (l.take i) 0 : Nat) : Int)) + ((l[i].toNat : Int) - 48) % 256) = ((valL (l.take (i + 1)) 0 : Nat) : Int) := by
      rw [List.take_succ_eq_append_getElem hlt, valL_append]
      show _ = ((10 * valL (l.take i) 0 + (l[i].toNat - 48) : Nat) : Int)
      rw [wrap_idd (x := 10 * ((valL (l.take i) 0 : Nat) : Int)) (by omega) (by omega), wrap_idd (by omega) (by omega)]
      omega
    rw [e, wrap_idd (x := (i : Int) + 1) (by omega) (by omega)]
    exact ih (i + 1) k (by omega) (by omega) (by omega)
/-- Digits are read as their number. -/
theorem parse_digits (l : List UInt8) (hd : ∀ b ∈ l, isDg b = true) (h1 : 1 ≤ l.length) (hl : l.length ≤ 18) (k : Nat) (hk : 20 ≤ k) : num_Parse.f k ⟨l.toArray⟩ = some (((valL l 0 : Nat) : Int), true) := by
  obtain ⟨k, rfl⟩ : ∃ m, k = m + 1 := ⟨k - 1, by omega⟩
  unfold num_Parse.f
  rw [if_neg (by rw [size_list]; omega)]
  simp only [num_Parse.j0]
  rw [if_neg (by rw [size_list]; simp; omega), size_list]
  exact parse_loop l hd hl l.length 0 k (by omega) (by omega) (by omega)
theorem dec_dg (n : Nat) : ∀ b ∈ Lib.decDigits n, isDg b = true := by
  induction n using Nat.strongRecOn with
  | _ n ih =>
    intro b hb
    by_cases h : n < 10
    · rw [Lib.decDigits_one h, List.mem_singleton] at hb
      subst hb
      rw [isDg_iff]
      simp
      omega
    · rw [Lib.decDigits, dif_neg h] at hb
      rcases List.mem_append.mp hb with hb | hb
      · exact ih (n / 10) (by omega) b hb
      · rw [List.mem_singleton] at hb
        subst hb
        rw [isDg_iff]
        simp
        omega
theorem dec_val (n : Nat) : valL (Lib.decDigits n) 0 = n := by
  induction n using Nat.strongRecOn with
  | _ n ih =>
    by_cases h : n < 10
    · rw [Lib.decDigits_one h]
      show 10 * 0 + ((UInt8.ofNat (48 + n)).toNat - 48) = n
      simp
      omega
    · rw [Lib.decDigits, dif_neg h, valL_append, ih (n / 10) (by omega)]
      show 10 * (n / 10) + ((UInt8.ofNat (48 + n % 10)).toNat - 48) = n
      simp
      omega
theorem dec_pos (n : Nat) : 1 ≤ (Lib.decDigits n).length := by rw [Lib.decDigits_length]; exact Lib.nDigits_pos n
theorem nDigits_le (m : Nat) : ∀ n, n < 10 ^ m → 1 ≤ m → Lib.nDigits n ≤ m := by
  induction m with
  | zero => intro n _ h; omega
  | succ m ih =>
    intro n hn _
    by_cases h : n < 10
    · rw [Lib.nDigits_small h]; omega
    · rw [Lib.nDigits_big h]
      rw [Nat.pow_succ] at hn
      by_cases hm : m = 0
      · subst hm; simp at hn; omega
      · have := ih (n / 10) (by omega) (by omega)
        omega
theorem parse_dec (n : Nat) (hn : n < 1000000000000000000) (k : Nat) (hk : 20 ≤ k) : num_Parse.f k ⟨(Lib.decDigits n).toArray⟩ = some ((n : Int), true) := by
  have h := parse_digits (Lib.decDigits n) (dec_dg n) (dec_pos n) (by rw [Lib.decDigits_length]; exact nDigits_le 18 n (by simpa using hn) (by decide)) k hk
  rw [dec_val] at h
  exact h
end Go.Proofs.YtfhemdnjoedioaaGreatDoor.X
end
section
namespace Go.Proofs.YtfhemdnjoedioaaGreatDoor.X
open Go.RowKit Go.Proofs.YtfhemdnjoedioaaGreatDoorW.PrintWords Go.Proofs.YtfhemdnjoedioaaGreatDoorW.PrintLast Go.Proofs.YtfhemdnjoedioaaGreatDoorW.PrintMore
set_option linter.unusedVariables false
set_option linter.unusedSimpArgs false
def smI (c : Int) : Int := if 65 ≤ c ∧ c ≤ 90 then c + 32 else c
theorem small_eq (c : Int) (h0 : 0 ≤ c) (h1 : c ≤ 255) : words_small.f c = some (smI c) := by
  unfold words_small.f smI
  by_cases h : c ≥ 65
  · rw [if_pos h]
    by_cases h' : c ≤ 90
    · rw [if_pos h', if_pos ⟨h, h'⟩]; congr 1; omega
    · rw [if_neg h', if_neg (by omega)]
  · rw [if_neg h, if_neg (by omega)]
def low (s : ByteArray) : List Int := s.data.toList.map fun b => smI b.toNat
theorem low_length (s : ByteArray) : (low s).length = s.size := by simp only [low, List.length_map, Array.length_toList]; rfl
theorem low_get (s : ByteArray) (i : Nat) (h : i < s.size) : (low s).drop i = smI (bt s i) :: (low s).drop (i + 1) := by
  have hl : i < (low s).length := by rw [low_length]; exact h
  rw [List.drop_eq_getElem_cons hl]
  congr 1
  have hi : ((i : Int)).toNat < s.size := by simpa using h
  have e : bt s i = ((s[i]'h).toNat : Int) := by
    unfold bt
    rw [dif_pos hi]
    rfl
  rw [e]
  simp only [low, List.getElem_map]
  rfl
theorem wrap_id {x : Int} (h0 : -9223372036854775808 ≤ x) (h1 : x < 9223372036854775808) : wrap64 x = x := by unfold wrap64; omega
theorem begins_l0 (w s : ByteArray) (hw : s.size ≤ w.size) (hs : s.size ≤ 4611686018427387904) (d : Nat) : ∀ (i k : Nat), i ≤ s.size → d = s.size - i → d < k →
    words_begins.l0 k w s (s.size : Int) (i : Int) = some (((low s).drop i).isPrefixOf ((low w).drop i)) := by
  induction d with
  | zero =>
    intro i k hi hd hk
    obtain ⟨k, rfl⟩ : ∃ m, k = m + 1 := ⟨k - 1, by omega⟩
    simp only [words_begins.l0]
    rw [if_neg (by omega), List.drop_eq_nil_of_le (by rw [low_length]; omega)]
    simp
  | succ d ih =>
    intro i k hi hd hk
    obtain ⟨k, rfl⟩ : ∃ m, k = m + 1 := ⟨k - 1, by omega⟩
    have hlt : i < s.size := by omega
    have b1 := bt_range s i
    have b2 := bt_range w i
    simp only [words_begins.l0]
    rw [if_pos (by omega), if_pos (by omega), if_pos (by omega), small_eq _ b1.1 b1.2]
    simp only [Option.bind_some]
    rw [if_pos (by omega), small_eq _ b2.1 b2.2]
    simp only [Option.bind_some]
    rw [low_get s i hlt, low_get w i (by omega), List.isPrefixOf_cons_cons]
    by_cases e : smI (bt s i) = smI (bt w i)
    · rw [if_pos e, wrap_id (by omega) (by omega)]
      have := ih (i + 1) k (by omega) (by omega) (by omega)
      rw [show ((i : Int) + 1) = ((i + 1 : Nat) : Int) from by omega, this, e]
      simp
    · rw [if_neg e]
      simp [e]
def begB (w s : ByteArray) : Bool := (low s).isPrefixOf (low w)
theorem begins_eq (w s : ByteArray) (hs : s.size ≤ 4611686018427387904) (k : Nat) (hk : s.size < k) : words_begins.f k w s = some (begB w s) := by
  unfold words_begins.f begB
  by_cases h : (s.size : Int) > (w.size : Int)
  · rw [if_pos h]
    congr 1
    symm
    rw [Bool.eq_false_iff]
    intro h'
    have := (List.isPrefixOf_iff_prefix.mp h').length_le
    rw [low_length, low_length] at this
    omega
  · rw [if_neg h]
    have := begins_l0 w s (by omega) hs s.size 0 k (by omega) (by omega) hk
    simpa using this
def goF (L : List Int) (first least : Int) : List (List Int) → Int → Int → Int → Int × Int
  | [], _, p, many => if many = 1 then (if (L.length : Int) < least then (0, 7) else (first + p, 0)) else (0, 7)
  | W :: Ws, i, p, many => if L.isPrefixOf W then (if L.length = W.length then (if (L.length : Int) < least then (0, 7) else (first + i, 0)) else goF L first least Ws (i + 1) i (many + 1)) else goF L first least Ws (i + 1) p many
theorem find_l0 (s : ByteArray) (hs : s.size ≤ 4611686018427387904) (ws : List ByteArray) (hws : ws.length ≤ 100) (first least : Int) (hf : 0 ≤ first) (hf' : first ≤ 100) (rest : List ByteArray) :
    ∀ (i k : Nat) (p many : Int), rest = ws.drop i → i + rest.length = ws.length → rest.length + s.size + 1 < k → 0 ≤ p → p ≤ 100 → 0 ≤ many → many ≤ i →
    words_find.l0 k s p many ws (ws.length : Int) (i : Int) ws first least = some (goF (low s) first least (rest.map low) i p many) := by
  induction rest with
  | nil =>
    intro i k p many hr hi hk hp hp' hm hm'
    obtain ⟨k, rfl⟩ : ∃ m, k = m + 1 := ⟨k - 1, by omega⟩
    simp only [List.length_nil] at hi
    simp only [words_find.l0, List.map_nil, goF, low_length]
    rw [if_neg (by omega)]
    by_cases h1 : many = 1
    · rw [if_pos h1, if_pos h1]
      by_cases h2 : (s.size : Int) < least
      · rw [if_pos h2, if_pos h2]
      · rw [if_neg h2, if_neg h2, wrap_id (by omega) (by omega)]
    · rw [if_neg h1, if_neg h1]
  | cons w rest ih =>
    intro i k p many hr hi hk hp hp' hm hm'
    obtain ⟨k, rfl⟩ : ∃ m, k = m + 1 := ⟨k - 1, by omega⟩
    simp only [List.length_cons] at hi hk
    have hlt : i < ws.length := by omega
    have hw : ws[i] = w ∧ rest = ws.drop (i + 1) := by
      rw [List.drop_eq_getElem_cons hlt] at hr
      injection hr with a b
      exact ⟨a.symm, b⟩
    have hrd : rdOf ByteArray.empty ws (i : Int) = w := by
      unfold rdOf
      rw [Int.toNat_natCast, List.getD_eq_getElem?_getD, List.getElem?_eq_getElem hlt, hw.1]
      rfl
    simp only [words_find.l0]
    rw [if_pos (by omega), if_pos (by omega), if_pos (by omega), hrd, begins_eq w s hs k (by omega)]
    simp only [Option.bind_some, List.map_cons, goF, low_length]
    rw [wrap_id (x := many + 1) (by omega) (by omega), wrap_id (x := (i : Int) + 1) (by omega) (by omega), show ((i : Int) + 1) = ((i + 1 : Nat) : Int) from by omega]
    cases hb : begB w s with
    | true =>
      rw [if_pos rfl]
      unfold begB at hb
      rw [hb, if_pos rfl]
      by_cases he : (s.size : Int) = (w.size : Int)
      · rw [if_pos he, if_pos (show s.size = w.size by omega)]
        by_cases h2 : (s.size : Int) < least
        · rw [if_pos h2, if_pos h2]
        · rw [if_neg h2, if_neg h2, wrap_id (by omega) (by omega)]
      · rw [if_neg he, if_neg (by omega)]
        exact ih (i + 1) k i (many + 1) hw.2 (by omega) (by omega) (by omega) (by omega) (by omega) (by omega)
    | false =>
      rw [if_neg (by decide)]
      unfold begB at hb
      rw [hb, if_neg (by decide)]
      exact ih (i + 1) k p many hw.2 (by omega) (by omega) hp hp' hm (by omega)
def W1 : List ByteArray := [⟨#[82, 117, 108, 101]⟩, ⟨#[90, 111, 110, 101]⟩, ⟨#[76, 105, 110, 107]⟩]
def W2 : List ByteArray := [⟨#[74, 97, 110, 117, 97, 114, 121]⟩, ⟨#[70, 101, 98, 114, 117, 97, 114, 121]⟩, ⟨#[77, 97, 114, 99, 104]⟩, ⟨#[65, 112, 114, 105, 108]⟩, ⟨#[77, 97, 121]⟩, ⟨#[74, 117, 110, 101]⟩, ⟨#[74, 117, 108, 121]⟩, ⟨#[65, 117, 103, 117, 115, 116]⟩, ⟨#[83, 101, 112, 116, 101, 109, 98, 101, 114]⟩, ⟨#[79, 99, 116, 111, 98, 101, 114]⟩, ⟨#[78, 111, 118, 101, 109, 98, 101, 114]⟩, ⟨#[68, 101, 99, 101, 109, 98, 101, 114]⟩]
def W4 : List ByteArray := [⟨#[109, 105, 110, 105, 109, 117, 109]⟩, ⟨#[109, 97, 120, 105, 109, 117, 109]⟩, ⟨#[111, 110, 108, 121]⟩]
theorem kind4 : words_kindOf.f 4 = some (W4, 1, 1, true) := by kernel_rfl
/-- The word that a text is: the only one that it begins, if it is long enough. -/
def fw (Ws : List (List Int)) (least : Int) (L : List Int) : Option Nat :=
  if (L.length : Int) < least then none else match (List.range Ws.length).filter fun i => L.isPrefixOf (Ws.getD i []) with
  | [i] => some i
  | _ => none
def ans (first : Int) : Option Nat → Int × Int
  | some i => (first + i, 0)
  | none => (0, 7)
def pres (W : List Int) : List (List Int) := (List.range (W.length + 1)).map fun n => W.take n
theorem mem_pres {L W : List Int} (h : L.isPrefixOf W = true) : L ∈ pres W := by
  have hp := List.isPrefixOf_iff_prefix.mp h
  unfold pres
  rw [List.mem_map]
  exact ⟨L.length, by rw [List.mem_range]; have := hp.length_le; omega, (List.prefix_iff_eq_take.mp hp).symm⟩
theorem goF_none (L : List Int) (first least : Int) : ∀ (Ws : List (List Int)) (i p many : Int), (∀ W ∈ Ws, L.isPrefixOf W = false) → many = 0 → goF L first least Ws i p many = (0, 7)
  | [], _, _, many, _, hm => by simp [goF, hm]
  | W :: Ws, i, p, many, h, hm => by
    simp only [goF]
    rw [h W List.mem_cons_self, if_neg (by decide)]
    exact goF_none L first least Ws _ _ _ (fun V hV => h V (List.mem_cons_of_mem _ hV)) hm
theorem fw_none (Ws : List (List Int)) (least : Int) (L : List Int) (h : ∀ W ∈ Ws, L.isPrefixOf W = false) : fw Ws least L = none := by
  unfold fw
  by_cases hl : (L.length : Int) < least
  · rw [if_pos hl]
  · rw [if_neg hl]
    have : ((List.range Ws.length).filter fun i => L.isPrefixOf (Ws.getD i [])) = [] := by
      rw [List.filter_eq_nil_iff]
      intro i hi
      have hlt := List.mem_range.mp hi
      rw [List.getD_eq_getElem?_getD, List.getElem?_eq_getElem hlt]
      have := h _ (List.getElem_mem hlt)
      simp [this]
    rw [this]
theorem chk (Ws : List (List Int)) (first least : Int) (hfin : ((Ws.flatMap pres).all fun L => decide (goF L first least Ws 0 0 0 = ans first (fw Ws least L))) = true) (L : List Int) :
    goF L first least Ws 0 0 0 = ans first (fw Ws least L) := by
  by_cases h : ∃ W ∈ Ws, L.isPrefixOf W = true
  · obtain ⟨W, hW, hp⟩ := h
    exact of_decide_eq_true (List.all_eq_true.mp hfin L (List.mem_flatMap.mpr ⟨W, hW, mem_pres hp⟩))
  · have h' : ∀ W ∈ Ws, L.isPrefixOf W = false := fun W hW => by
      cases e : L.isPrefixOf W
      · rfl
      · exact absurd ⟨W, hW, e⟩ h
    rw [goF_none L first least Ws 0 0 0 h' rfl, fw_none Ws least L h']
    rfl
theorem find_of (kind : Int) (ws : List ByteArray) (first least : Int) (hk : words_kindOf.f kind = some (ws, first, least, true)) (hws : ws.length ≤ 100) (hf : 0 ≤ first) (hf' : first ≤ 100)
    (hfin : (((ws.map low).flatMap pres).all fun L => decide (goF L first least (ws.map low) 0 0 0 = ans first (fw (ws.map low) least L))) = true)
    (s : ByteArray) (hs : s.size ≤ 4611686018427387904) (k : Nat) (h : s.size + 200 < k) : words_find.f k kind s = some (ans first (fw (ws.map low) least (low s))) := by
  unfold words_find.f
  rw [hk]
  simp only [Option.bind_some]
  refine Eq.trans (find_l0 s hs ws hws first least hf hf' ws 0 k 0 0 (by simp) (by simp) (by omega) (by decide) (by decide) (by decide) (by decide)) ?_
  exact congrArg some (chk _ _ _ hfin _)
theorem fin4 : (((W4.map low).flatMap pres).all fun L => decide (goF L 1 1 (W4.map low) 0 0 0 = ans 1 (fw (W4.map low) 1 L))) = true := by decide +kernel
theorem find4 (s : ByteArray) (hs : s.size ≤ 4611686018427387904) (k : Nat) (h : s.size + 200 < k) : words_find.f k 4 s = some (ans 1 (fw (W4.map low) 1 (low s))) := find_of 4 W4 1 1 kind4 (by decide) (by decide) (by decide) fin4 s hs k h
end Go.Proofs.YtfhemdnjoedioaaGreatDoor.X
end
section
namespace Go.Proofs.YtfhemdnjoedioaaGreatDoor.X
open Go.RowKit Go.Proofs.YtfhemdnjoedioaaGreatDoorW.PrintWords Go.Proofs.YtfhemdnjoedioaaGreatDoorW.PrintLast Go.Proofs.YtfhemdnjoedioaaGreatDoorW.PrintMore
set_option linter.unusedVariables false
set_option linter.unusedSimpArgs false
theorem wakes09 (k : Nat) (h : 700 ≤ k) : solsticelaw09_wakes.f k = some true := at_rounds (g := solsticelaw09_wakes.f) (solsticelaw09_wakes.mono) h (by kernel_rfl)
theorem umod9 (x n : Int) (h0 : 0 < n) (h1 : n < 100000) : 0 ≤ Int.tmod (IntKind.u64.wrap x) n ∧ Int.tmod (IntKind.u64.wrap x) n < n := by
  have hu : 0 ≤ IntKind.u64.wrap x := by
    simp [IntKind.wrap, IntKind.signed, IntKind.bits]
    omega
  rw [Int.tmod_eq_emod_of_nonneg hu]
  exact ⟨Int.emod_nonneg _ (by omega), Int.emod_lt_of_pos _ h0⟩
theorem digit_row (n : Nat) : strOfNums [(wrap64 (48 + Int.tmod (n : Int) 10)) % 256] = (⟨[UInt8.ofNat (48 + n % 10)].toArray⟩ : ByteArray) := by
  have h : (wrap64 (48 + Int.tmod (n : Int) 10)) % 256 = (((UInt8.ofNat (48 + n % 10)).toNat : Nat) : Int) := by
    rw [Int.tmod_eq_emod_of_nonneg (by omega), wrap_idd (by omega) (by omega)]
    simp <;> omega
  rw [h]
  unfold strOfNums
  rw [List.map_cons, List.map_nil, Int.toNat_natCast, UInt8.ofNat_toNat]
theorem cons_bytes (b : UInt8) (acc : List UInt8) : (⟨[b].toArray⟩ : ByteArray) ++ ⟨acc.toArray⟩ = ⟨(b :: acc).toArray⟩ := by
  apply ByteArray.ext
  rw [ByteArray.data_append]
  simp
theorem rtext_loop (n : Nat) : ∀ (acc : List UInt8) (k : Nat), 0 < n → n < 1000000000000000000 → acc.length + Lib.nDigits n < 1000000 → Lib.nDigits n + 3 ≤ k →
    solsticeref01_Text.l0 k (n : Int) 0 ⟨acc.toArray⟩ = some ⟨(Lib.decDigits n ++ acc).toArray⟩ := by
  induction n using Nat.strongRecOn with
  | _ n ih =>
    intro acc k h0 hn ha hk
    obtain ⟨k, rfl⟩ : ∃ m, k = m + 1 := ⟨k - 1, by omega⟩
    simp only [solsticeref01_Text.l0]
    rw [if_pos (by omega), Option.bind_some, digit_row]
    rw [if_pos (by rw [size_list, size_list]; simp; omega), cons_bytes]
    have hq : wrap64 (Int.tdiv (n : Int) 10) = ((n / 10 : Nat) : Int) := by
      rw [Int.tdiv_eq_ediv_of_nonneg (by omega), wrap_idd (by omega) (by omega)]
      omega
    rw [hq]
    by_cases h : n < 10
    · have hz : n / 10 = 0 := by omega
      rw [hz]
      rw [Lib.nDigits_small h] at hk ha
      obtain ⟨k, rfl⟩ : ∃ m, k = m + 1 := ⟨k - 1, by omega⟩
      simp only [solsticeref01_Text.l0]
      rw [if_neg (by decide), if_neg (by rw [size_list]; simp; omega)]
      obtain ⟨k, rfl⟩ : ∃ m, k = m + 1 := ⟨k - 1, by omega⟩
      simp only [solsticeref01_Text.l1]
      rw [if_neg (by rw [size_list]; simp; omega), Lib.decDigits_one h, Nat.mod_eq_of_lt h]
      rfl
    · rw [Lib.nDigits_big h] at hk ha
      rw [ih (n / 10) (by omega) _ k (by omega) (by omega) (by rw [List.length_cons]; omega) (by omega)]
      conv => rhs; rw [Lib.decDigits, dif_neg h]
      rw [List.append_assoc]
      rfl
theorem rtext_dec (n : Nat) (h0 : 0 < n) (h1 : n < 1000000000000000000) (k : Nat) (hk : 40 ≤ k) : solsticeref01_Text.f k (n : Int) 0 = some ⟨(Lib.decDigits n).toArray⟩ := by
  obtain ⟨k, rfl⟩ : ∃ m, k = m + 2 := ⟨k - 2, by omega⟩
  unfold solsticeref01_Text.f
  rw [if_neg (by omega), if_neg (by decide), show decide ((0 : Int) > 20) = false from rfl]
  simp only [solsticeref01_Text.j0, solsticeref01_Text.j1]
  rw [if_neg (by decide)]
  have hl := nDigits_le 18 n (by simpa using h1) (by decide)
  have := rtext_loop n [] k h0 h1 (by simp; omega) (by omega)
  rw [List.append_nil] at this
  exact this
def dec (n : Nat) : ByteArray := ⟨(Lib.decDigits n).toArray⟩
theorem dec_size (n : Nat) (h : n < 1000000000000000000) : (dec n).size ≤ 18 := by
  unfold dec
  rw [size_list, Lib.decDigits_length]
  exact nDigits_le 18 n (by simpa using h) (by decide)
theorem from_dec (n : Nat) (h : n < 1000000000000000000) (k : Nat) (hk : 20 ≤ k) : rule_from.f k (dec n) = some ((n : Int), 0) := by
  unfold rule_from.f dec
  rw [parse_dec n h k hk]
  rfl
theorem to_dec (n : Nat) (a : Int) (h : n < 1000000000000000000) (k : Nat) (hk : 300 ≤ k) : rule_to.f k (dec n) a = some ((n : Int), 0) := by
  have hs := dec_size n h
  have h4 := find4 (dec n) (by omega) k (by omega)
  unfold rule_to.f words_Year.f
  rw [h4, from_dec n h k (by omega)]
  unfold dec
  rw [parse_dec n h k (by omega)]
  rfl
set_option maxRecDepth 100000 in
theorem from_mi : rule_from.f 900 ⟨#[109, 105]⟩ = some (1, 0) := by kernel_rfl
theorem from_only : rule_from.f 900 ⟨#[111, 110, 108, 121]⟩ = some (0, 5) := by kernel_rfl
theorem to_only (a : Int) : rule_to.f 900 ⟨#[111, 110, 108, 121]⟩ a = some (a, 0) := by
  unfold rule_to.f
  rw [show num_Parse.f 900 ⟨#[111, 110, 108, 121]⟩ = some (0, false) by kernel_rfl, show words_Year.f 900 ⟨#[111, 110, 108, 121]⟩ = some (3, 0) by kernel_rfl]
  rfl
theorem to_max (a : Int) : rule_to.f 900 ⟨#[77, 65, 88]⟩ a = some (9999, 0) := by
  unfold rule_to.f
  rw [show num_Parse.f 900 ⟨#[77, 65, 88]⟩ = some (0, false) by kernel_rfl, show words_Year.f 900 ⟨#[77, 65, 88]⟩ = some (2, 0) by kernel_rfl, show rule_from.f 900 ⟨#[77, 65, 88]⟩ = some (9999, 0) by kernel_rfl]
  rfl
theorem to_m (a : Int) : rule_to.f 900 ⟨#[109]⟩ a = some (0, 5) := by
  unfold rule_to.f
  rw [show num_Parse.f 900 ⟨#[109]⟩ = some (0, false) by kernel_rfl, show words_Year.f 900 ⟨#[109]⟩ = some (0, 7) by kernel_rfl, show rule_from.f 900 ⟨#[109]⟩ = some (0, 5) by kernel_rfl]
  rfl
def lineY (x y : ByteArray) : List ByteArray := [⟨#[82]⟩, ⟨#[88]⟩, x, y, ⟨#[45]⟩, ⟨#[74, 97, 110]⟩, ⟨#[49]⟩, ⟨#[48]⟩, ⟨#[48]⟩, ⟨#[45]⟩]
theorem parse_j0 (x y : ByteArray) : rule_Parse.f 901 (lineY x y) = rule_Parse.j0 901 (lineY x y) ⟨#[88]⟩ 0 0 0 0 0 0 0 0 0 ⟨#[]⟩ := by
  unfold rule_Parse.f
  rw [if_pos (show ((lineY x y).length : Int) = 10 from rfl), if_pos (by show (0 : Int) < 10; decide), show rdOf ByteArray.empty (lineY x y) 0 = ⟨#[82]⟩ from rfl,
    show words_Line.f 901 ⟨#[82]⟩ = some (1, 0) by kernel_rfl, Option.bind_some, if_pos rfl, if_pos (show (4 : Int) < ((lineY x y).length : Int) from by show (4 : Int) < 10; decide), show rdOf ByteArray.empty (lineY x y) 4 = ⟨#[45]⟩ from rfl, if_pos (by decide +kernel),
    if_pos (by show (1 : Int) < 10; decide), if_pos (by show (9 : Int) < 10; decide), show rdOf ByteArray.empty (lineY x y) 9 = ⟨#[45]⟩ from rfl, if_pos (by decide +kernel), show rdOf ByteArray.empty (lineY x y) 1 = ⟨#[88]⟩ from rfl]
set_option maxRecDepth 100000 in
theorem days_y (x y : ByteArray) (a b : Int) : rule_days.f 900 ⟨#[88]⟩ a b 0 0 0 0 0 0 0 ⟨#[]⟩ (((lineY x y).take 9).drop 5) = some (0, ⟨#[88]⟩, a, b, 1, 1, 0, 1, 0, 1, 0, ⟨#[]⟩) := by
  show rule_days.f 900 ⟨#[88]⟩ a b 0 0 0 0 0 0 0 ⟨#[]⟩ [⟨#[74, 97, 110]⟩, ⟨#[49]⟩, ⟨#[48]⟩, ⟨#[48]⟩] = _
  unfold rule_days.f
  rw [if_pos (by show (0 : Int) < 4; decide), show words_Month.f 900 (rdOf ByteArray.empty [⟨#[74, 97, 110]⟩, ⟨#[49]⟩, ⟨#[48]⟩, ⟨#[48]⟩] 0) = some (1, 0) by kernel_rfl, Option.bind_some, if_pos rfl, if_pos (by show (1 : Int) < 4; decide),
    show onform_Parse.f 900 (rdOf ByteArray.empty [⟨#[74, 97, 110]⟩, ⟨#[49]⟩, ⟨#[48]⟩, ⟨#[48]⟩] 1) = some (1, 0, 1, 0) by kernel_rfl, Option.bind_some, if_pos rfl, if_pos (by show (2 : Int) < 4; decide),
    show atform_Parse.f 900 (rdOf ByteArray.empty [⟨#[74, 97, 110]⟩, ⟨#[49]⟩, ⟨#[48]⟩, ⟨#[48]⟩] 2) = some (0, 1, 0) by kernel_rfl, Option.bind_some, if_pos rfl, if_pos (by show (3 : Int) < 4; decide),
    show rule_saving.f 900 (rdOf ByteArray.empty [⟨#[74, 97, 110]⟩, ⟨#[49]⟩, ⟨#[48]⟩, ⟨#[48]⟩] 3) = some (0, 0) by kernel_rfl]
  rfl
set_option maxRecDepth 100000 in
theorem check_y (a b : Int) (h0 : 1 ≤ a) (h1 : a ≤ b) (h2 : b ≤ 9999) : rule_Check.f 900 ⟨#[88]⟩ a b 1 1 0 1 0 1 0 ⟨#[]⟩ = some 0 := by
  unfold rule_Check.f
  rw [if_pos h0, if_pos h1, decide_eq_true h2]
  kernel_rfl
theorem parse_ok (x y : ByteArray) (a b : Int) (hx : rule_from.f 900 x = some (a, 0)) (hy : rule_to.f 900 y a = some (b, 0)) (h0 : 1 ≤ a) (h1 : a ≤ b) (h2 : b ≤ 9999) :
    rule_Parse.f 901 (lineY x y) = some (⟨#[88]⟩, a, b, 1, 1, 0, 1, 0, 1, 0, ⟨#[]⟩, 0) := by
  rw [parse_j0]
  simp only [rule_Parse.j0]
  rw [if_pos (by show (2 : Int) < 10; decide), show rdOf ByteArray.empty (lineY x y) 2 = x from rfl, hx, Option.bind_some, if_pos rfl, if_pos (by show (3 : Int) < 10; decide), show rdOf ByteArray.empty (lineY x y) 3 = y from rfl, hy, Option.bind_some, if_pos rfl,
    if_pos (by show (9 : Int) ≤ 10; decide), days_y, Option.bind_some, if_pos rfl, check_y a b h0 h1 h2, Option.bind_some, if_pos rfl]
theorem parse_bad1 (x y : ByteArray) (hx : rule_from.f 900 x = some (0, 5)) : rule_Parse.f 901 (lineY x y) = some (⟨#[]⟩, 0, 0, 0, 0, 0, 0, 0, 0, 0, ⟨#[]⟩, 5) := by
  rw [parse_j0]
  simp only [rule_Parse.j0]
  rw [if_pos (by show (2 : Int) < 10; decide), show rdOf ByteArray.empty (lineY x y) 2 = x from rfl, hx, Option.bind_some, if_neg (by decide)]
theorem parse_bad2 (x y : ByteArray) (a : Int) (hx : rule_from.f 900 x = some (a, 0)) (hy : rule_to.f 900 y a = some (0, 5)) : rule_Parse.f 901 (lineY x y) = some (⟨#[]⟩, 0, 0, 0, 0, 0, 0, 0, 0, 0, ⟨#[]⟩, 5) := by
  rw [parse_j0]
  simp only [rule_Parse.j0]
  rw [if_pos (by show (2 : Int) < 10; decide), show rdOf ByteArray.empty (lineY x y) 2 = x from rfl, hx, Option.bind_some, if_pos rfl, if_pos (by show (3 : Int) < 10; decide), show rdOf ByteArray.empty (lineY x y) 3 = y from rfl, hy, Option.bind_some, if_neg (by decide)]
theorem j0_ok (x y : ByteArray) (a b : Int) (hx : rule_from.f 900 x = some (a, 0)) (hy : rule_to.f 900 y a = some (b, 0)) (h0 : 1 ≤ a) (h1 : a ≤ b) (h2 : b ≤ 9999) : solsticelaw09_RuleYears.j0 902 x y a b 0 = some true := by
  simp only [solsticelaw09_RuleYears.j0]
  have h := parse_ok x y a b hx hy h0 h1 h2
  unfold lineY at h
  rw [h, Option.bind_some, if_pos rfl, if_pos rfl, if_pos rfl, if_pos rfl, if_pos (show (⟨#[]⟩ : ByteArray).toList = ([] : List UInt8) from by decide +kernel), wakes09 901 (by decide)]
  rfl
theorem j0_bad (x y : ByteArray) (a b : Int) (h : rule_Parse.f 901 (lineY x y) = some (⟨#[]⟩, 0, 0, 0, 0, 0, 0, 0, 0, 0, ⟨#[]⟩, 5)) : solsticelaw09_RuleYears.j0 902 x y a b 5 = some true := by
  simp only [solsticelaw09_RuleYears.j0]
  unfold lineY at h
  rw [h, Option.bind_some, if_neg (by decide), if_pos rfl, if_pos (by decide +kernel), wakes09 901 (by decide)]
  rfl
/-- RuleYears answers true. -/
theorem pure_RuleYears (a0 a1 a2 : Int) : ∃ k, solsticelaw09_RuleYears.f k a0 a1 a2 = some true := by
  refine ⟨902, ?_⟩
  obtain ⟨a3, a4⟩ := umod9 a0 9999 (by decide) (by decide)
  obtain ⟨b3, b4⟩ := umod9 a1 100 (by decide) (by decide)
  unfold solsticelaw09_RuleYears.f
  generalize Int.tmod (IntKind.u64.wrap a0) 9999 = u at *
  generalize Int.tmod (IntKind.u64.wrap a1) 100 = v at *
  generalize Int.tmod (IntKind.u64.wrap a2) 6 = h
  rw [wrap_idd (x := u) (by omega) (by omega), wrap_idd (x := v) (by omega) (by omega), wrap_idd (x := 1 + u) (by omega) (by omega), wrap_idd (x := 1 + u + v) (by omega) (by omega)]
  obtain ⟨n, hn⟩ : ∃ n : Nat, 1 + u = (n : Int) := ⟨(1 + u).toNat, by omega⟩
  obtain ⟨m, hm⟩ : ∃ m : Nat, mn (1 + u + v) 9999 = (m : Int) := ⟨(mn (1 + u + v) 9999).toNat, by unfold mn; split <;> omega⟩
  have hm1 : n ≤ m := by unfold mn at hm; split at hm <;> omega
  have hm2 : m ≤ 9999 := by unfold mn at hm; split at hm <;> omega
  rw [hm, hn, rtext_dec n (by omega) (by omega) 902 (by decide), Option.bind_some, rtext_dec m (by omega) (by omega) 902 (by decide), Option.bind_some]
  have fn := from_dec n (by omega) 900 (by decide)
  have tm := to_dec m (n : Int) (by omega) 900 (by decide)
  have tm1 := to_dec m 1 (by omega) 900 (by decide)
  unfold dec at fn tm tm1
  by_cases h1 : h = 1
  · rw [if_pos h1]; exact j0_ok _ _ _ _ fn (to_only _) (by omega) (by omega) (by omega)
  · rw [if_neg h1]
    by_cases h2 : h = 2
    · rw [if_pos h2]; exact j0_ok _ _ _ _ fn (to_max _) (by omega) (by omega) (by omega)
    · rw [if_neg h2]
      by_cases h3 : h = 3
      · rw [if_pos h3]; exact j0_ok _ _ _ _ from_mi tm1 (by omega) (by omega) (by omega)
      · rw [if_neg h3]
        by_cases h4 : h = 4
        · rw [if_pos h4]; exact j0_bad _ _ _ _ (parse_bad1 _ _ from_only)
        · rw [if_neg h4]
          by_cases h5 : h = 5
          · rw [if_pos h5]; exact j0_bad _ _ _ _ (parse_bad2 _ _ _ fn (to_m _))
          · rw [if_neg h5]; exact j0_ok _ _ _ _ fn tm (by omega) (by omega) (by omega)
end Go.Proofs.YtfhemdnjoedioaaGreatDoor.X
end
