import Derived.Below
import Derived.Deep.Draws
import Derived.Deep.AppendLies
import Derived.Maps.AppendAt
import Derived.OwnWalk
import Derived.Laws.BytesArg
import Derived.Laws.MakeOwn
import Derived.Laws.OwnMore
import Derived.Deep.OwnRows
import Derived.Tactics
import Derived.Lib.ConvBytes
import Derived.Laws.Slices
import Derived.WalkKit
import Derived.KernelRfl
import Derived.RowKit3
import Derived.Deep.LoopGhost
import Derived.Deep.QuietTactic
import Derived.BigQuiet
import Derived.WideLaws
import Derived.Deep.DeepCutAuto
import Derived.Deep.CutBlock
import Derived.Deep.RegionHeld3
import Derived.Laws.Rows
import Derived.Lib.AppendStr
import Derived.ArgAppend
import Derived.Laws.IdiomCopy
import Derived.RowKit
import Derived.OrdersHeld
import Derived.Laws.BitsLemmas
import Derived.Laws.StructEq
import Derived.Test.YtfhemdnjoedioaaGreatDoorProg
import Derived.Lib.AppendIntMem
import Derived.Shelf.Strings.Fields
import Derived.Lib.ItoaNum
import Derived.Shelf.Strings.Builder1
import Derived.Shelf.Strings.Builder2
import Derived.Shelf.Strings.OnBuilder
import Derived.Shelf.Small.Bits
import Derived.Shelf.Small.Strs
import Derived.Shelf.Strings.BuilderF
import Derived.Shelf.Strconv.Itoa0
import Derived.Shelf.Strconv.Itoa1
import Derived.Shelf.LaysM
import Derived.Shelf.Strconv.Itoa2
import Derived.Shelf.Strconv.Itoa3
import Derived.Shelf.Strings.Search1
import Derived.Shelf.Strings.Search2
import Derived.Shelf.Strings.Search3
import Derived.Shelf.Strings.Cut
import Derived.Shelf.Strings.Count
import Derived.Shelf.Strings.Shaped
import Derived.Shelf.Sort.Plain
import Derived.Shelf.Strings.Prefix
import Derived.Shelf.Strings.Split
import Derived.Shelf.Strings.Fold
import Derived.Shelf.Unicode.Latin
import Derived.Shelf.Bits.Mul64
import Derived.Shelf.Strings.Repeat
import Derived.Shelf.Unicode.DecodeSlow
import Derived.Shelf.Unicode.DecodeAny
import Derived.Shelf.Unicode.Is16White
import Derived.Shelf.Unicode.IsSpaceAny
import Derived.Shelf.Unicode.CaseLookup
import Derived.Shelf.Unicode.CaseConvert
import Derived.Shelf.Unicode.Is16Any
import Derived.Shelf.Unicode.Is32Any
import Derived.Shelf.Unicode.ExclAny
import Derived.Shelf.Slices.CompactS
import Derived.Shelf.Slices.Cells
import Derived.Shelf.Slices.In.SortNone
import Derived.Outline
import Derived.Test.YtfhemdnjoedioaaGreatDoorCZoneKinds4
section
namespace Go.Proofs.YtfhemdnjoedioaaGreatDoor.X
open Go.RowKit Go.Proofs.YtfhemdnjoedioaaGreatDoorW.PrintWords Go.Proofs.YtfhemdnjoedioaaGreatDoorW.PrintLast Go.Proofs.YtfhemdnjoedioaaGreatDoorW.PrintMore
attribute [local go_sem] max2_int min2_int max_two min_two max_three min_three max_four min_four
set_option linter.unusedVariables false
set_option linter.unusedSimpArgs false
mutual
def zone_Era.j0 : Nat → List ByteArray → Bool → Option (Int × Int × Int × ByteArray × ByteArray × Bool × Int × Int × Int × Int × Int × Int × Int × Int)
 | 0, _, _ => none
 | k + 1, x0, x14 => if x14 = true then (some (0, 0, 0, (⟨#[]⟩ : ByteArray), (⟨#[]⟩ : ByteArray), false, 0, 0, 0, 0, 0, 0, 0, 6)) else (if 0 < (x0.length : Int) then ((clock_Parse.f k (rdOf ByteArray.empty x0 0)).bind fun bt528 => (if bt528.2 = 0 then (if 2 < (x0.length : Int) then (if 1 < (x0.length : Int) then (if (rdOf ByteArray.empty x0 1).toList = ([45] : List UInt8) then (zone_Era.j1 k x0 bt528.2 bt528.1 1 0 (⟨#[]⟩ : ByteArray) (rdOf ByteArray.empty x0 2) false 0 0 0 0 0 0 0) else ((clock_Parse.f k (rdOf ByteArray.empty x0 1)).bind fun bt534 => (zone_Era.j1 k x0 bt534.2 bt528.1 2 bt534.1 (⟨#[]⟩ : ByteArray) (rdOf ByteArray.empty x0 2) false 0 0 0 0 0 0 0))) else (none)) else (none)) else (some (0, 0, 0, (⟨#[]⟩ : ByteArray), (⟨#[]⟩ : ByteArray), false, 0, 0, 0, 0, 0, 0, 0, bt528.2)))) else (none))
def zone_Era.j1 : Nat → List ByteArray → Int → Int → Int → Int → ByteArray → ByteArray → Bool → Int → Int → Int → Int → Int → Int → Int → Option (Int × Int × Int × ByteArray × ByteArray × Bool × Int × Int × Int × Int × Int × Int × Int × Int)
 | 0, _, _, _, _, _, _, _, _, _, _, _, _, _, _, _ => none
 | k + 1, x0, x5, x532000, x532001, x532002, x532003, x532004, x532005, x532006, x532007, x532008, x532009, x532010, x532011, x532012 => if x5 = 0 then (zone_Era.j2 k x0 x532000 x532001 x532002 x532003 x532004 x532005 x532006 x532007 x532008 x532009 x532010 x532011 x532012) else (if 1 < (x0.length : Int) then (zone_Era.j2 k x0 x532000 3 x532002 (rdOf ByteArray.empty x0 1) x532004 x532005 x532006 x532007 x532008 x532009 x532010 x532011 x532012) else (none))
def zone_Era.j2 : Nat → List ByteArray → Int → Int → Int → ByteArray → ByteArray → Bool → Int → Int → Int → Int → Int → Int → Int → Option (Int × Int × Int × ByteArray × ByteArray × Bool × Int × Int × Int × Int × Int × Int × Int × Int)
 | 0, _, _, _, _, _, _, _, _, _, _, _, _, _, _ => none
 | k + 1, x0, x532000, x532001, x532002, x532003, x532004, x532005, x532006, x532007, x532008, x532009, x532010, x532011, x532012 => if (x0.length : Int) > 3 then (if 3 ≤ (x0.length : Int) then ((zone_ends.f k x532000 x532001 x532002 x532003 x532004 x532005 x532006 x532007 x532008 x532009 x532010 x532011 x532012 (x0.drop 3)).bind fun bt538 => (if bt538.1 = 0 then ((zone_right.f k bt538.2.1 bt538.2.2.1 bt538.2.2.2.1 bt538.2.2.2.2.1 bt538.2.2.2.2.2.1 bt538.2.2.2.2.2.2.1 bt538.2.2.2.2.2.2.2.1 bt538.2.2.2.2.2.2.2.2.1 bt538.2.2.2.2.2.2.2.2.2.1 bt538.2.2.2.2.2.2.2.2.2.2.1 bt538.2.2.2.2.2.2.2.2.2.2.2.1 bt538.2.2.2.2.2.2.2.2.2.2.2.2.1 bt538.2.2.2.2.2.2.2.2.2.2.2.2.2).bind fun t552 => (if t552 = true then (some (bt538.2.1, bt538.2.2.1, bt538.2.2.2.1, bt538.2.2.2.2.1, bt538.2.2.2.2.2.1, bt538.2.2.2.2.2.2.1, bt538.2.2.2.2.2.2.2.1, bt538.2.2.2.2.2.2.2.2.1, bt538.2.2.2.2.2.2.2.2.2.1, bt538.2.2.2.2.2.2.2.2.2.2.1, bt538.2.2.2.2.2.2.2.2.2.2.2.1, bt538.2.2.2.2.2.2.2.2.2.2.2.2.1, bt538.2.2.2.2.2.2.2.2.2.2.2.2.2, 0)) else (some (0, 0, 0, (⟨#[]⟩ : ByteArray), (⟨#[]⟩ : ByteArray), false, 0, 0, 0, 0, 0, 0, 0, 11)))) else (some (0, 0, 0, (⟨#[]⟩ : ByteArray), (⟨#[]⟩ : ByteArray), false, 0, 0, 0, 0, 0, 0, 0, bt538.1)))) else (none)) else ((zone_right.f k x532000 x532001 x532002 x532003 x532004 x532005 x532006 x532007 x532008 x532009 x532010 x532011 x532012).bind fun t553 => (if t553 = true then (some (x532000, x532001, x532002, x532003, x532004, x532005, x532006, x532007, x532008, x532009, x532010, x532011, x532012, 0)) else (some (0, 0, 0, (⟨#[]⟩ : ByteArray), (⟨#[]⟩ : ByteArray), false, 0, 0, 0, 0, 0, 0, 0, 11))))
end
def zone_Era.f (k : Nat) (l0 : List ByteArray) : Option (Int × Int × Int × ByteArray × ByteArray × Bool × Int × Int × Int × Int × Int × Int × Int × Int) := if (l0.length : Int) < 3 then (zone_Era.j0 k l0 true) else (zone_Era.j0 k l0 (decide ((l0.length : Int) > 7)))
set_option maxHeartbeats 8000000 in
set_option maxRecDepth 100000 in
theorem zone_Era.calls (k : Nat) (A0 : Option Addr) (c0 : Nat) (l0 : List ByteArray) (r1 : Int) (r2 : Int) (r3 : Int) (r4 : ByteArray) (r5 : ByteArray) (r6 : Bool) (r7 : Int) (r8 : Int) (r9 : Int) (r10 : Int) (r11 : Int) (r12 : Int) (r13 : Int) (r14 : Int) (w : World) (hG : GW w) (hr0 : Kd.C Kd.string w A0 l0.length l0) (hc0 : l0.length ≤ c0) (h : zone_Era.f k l0 = some (r1, r2, r3, r4, r5, r6, r7, r8, r9, r10, r11, r12, r13, r14)) :
  Calls Tryz.prog 26 #[.slice A0 l0.length c0] w fun e w' => e = .returned (.tuple #[.agg #[.int .i64 r1, .int .i64 r2, .int .i64 r3, .string r4, .string r5, .bool r6, .int .i64 r7, .int .i64 r8, .int .i64 r9, .int .i64 r10, .int .i64 r11, .int .i64 r12, .int .i64 r13], .int .i64 r14]) ∧ Below w.heap.size w w' := by
 have hu45 := Tryz.underlying45
 have HG := As.mk hG
 clear hG
 have HR0 := As.mk hr0
 have HC0 := As.mk hc0
 clear hr0 hc0
 have HB := As.mk (Below.refl w.heap.size w)
 have H : (if (l0.length : Int) < 3 then (zone_Era.j0 k l0 true) else (zone_Era.j0 k l0 (decide ((l0.length : Int) > 7)))) = some (r1, r2, r3, r4, r5, r6, r7, r8, r9, r10, r11, r12, r13, r14) := h
 clear h
 have HC2 := As.mk H
 clear H
 go_enter Tryz.func26, Tryz.ntmps26
 go_upto_region 1 with (first | ((with_reducible refine gD (N := 2) rfl ?_); (try (refine gate_guard (by rfl) ?_; dsimp only)); refine xE ?hg (N := 2) ?hd (cs := #[.int .i64 0, .int .i64 0, .int .i64 0, .string (⟨#[]⟩ : ByteArray), .string (⟨#[]⟩ : ByteArray), .bool false, .int .i64 0, .int .i64 0, .int .i64 0, .int .i64 0, .int .i64 0, .int .i64 0, .int .i64 0]) (t := 45) ?hr ?_; (case hd => rfl); (case hg => rfl); (case hr => first | (go_simp; done) | (go_simp; rfl)); intro gb526 hg w3 hbox hb; have n0_ := As.mk (bT (by repeat (first | (with_reducible first | exact HB.out | apply bA | apply bN | apply bD) | exact HB.out)) hb); have n1_ := As.mk (hbox); have n2_ := As.mk ((by rw [hg]; exact (bZ (by repeat (first | (with_reducible first | exact HB.out | apply bA | apply bN | apply bD) | exact HB.out))) : w.heap.size ≤ gb526)); have n3_ := As.mk ((by rw [hg]; exact (bZ (by repeat (first | (with_reducible first | exact HB.out | apply bA | apply bN | apply bD) | exact HB.out))) : w.heap.size ≤ gb526)); clear HB; have HB := n0_; have BK526 := n1_; have GW526 := n2_; have GE526 := n3_; clear n0_ n1_ n2_ n3_; clear hb hbox hg))
 (try simp only [Act.put, List.setIfInBounds_toArray, List.set_cons_zero, List.set_cons_succ])
 go_cut [14] (fun v14 wc => ∃ (kq : Nat) (x14_1 : Bool), v14 = .bool x14_1 ∧ As (zone_Era.j0 kq l0 x14_1 = some (r1, r2, r3, r4, r5, r6, r7, r8, r9, r10, r11, r12, r13, r14)) ∧ As (kq ≤ k) ∧ As (wc.heap[gb526]? = some (.cells #[.int .i64 0, .int .i64 0, .int .i64 0, .string (⟨#[]⟩ : ByteArray), .string (⟨#[]⟩ : ByteArray), .bool false, .int .i64 0, .int .i64 0, .int .i64 0, .int .i64 0, .int .i64 0, .int .i64 0, .int .i64 0] 45 (0, 0))) ∧ As (Below w.heap.size w wc))
 case first =>
  have H := HC2.out
  clear HC2
  by_cases c4 : (l0.length : Int) < 3
  ·rw [if_pos c4] at H
   have c4b0 : decide ((l0.length : Int) < 3) = true := decide_eq_true c4
   have c4b1 : decide (l0.length < 3) = true := decide_eq_true (by omega)
   clear c4
   (first | rw [c4b0] | (simp only [i64_w, i32_w]; rw [c4b0]) | skip)
   have H' := As.mk H
   clear H
   go_wp2
   go_meet
   case rel => exact ⟨_, (true), (by first | rfl | (simp; done) | (simp [*]; done)), H', ⟨by first | omega | exact Nat.le_refl _⟩, ⟨by (with_reducible repeat (first | refine kN ?_ _ | refine kD ?_ | refine kA ?_ _)); exact BK526.out⟩, ⟨by repeat (first | (with_reducible first | exact HB.out | apply bA | apply bN | apply bD | refine bS ?_ GE526.out) | exact HB.out)⟩⟩
  ·rw [if_neg c4] at H
   have c4b0 : decide ((l0.length : Int) < 3) = false := decide_eq_false c4
   have c4b1 : decide (l0.length < 3) = false := decide_eq_false (by omega)
   clear c4
   (first | rw [c4b0] | (simp only [i64_w, i32_w]; rw [c4b0]) | skip)
   have H' := As.mk H
   clear H
   go_wp2
   go_meet
   case rel => exact ⟨_, (decide ((l0.length : Int) > 7)), (by first | rfl | (simp; done) | (simp [*]; done)), H', ⟨by first | omega | exact Nat.le_refl _⟩, ⟨by (with_reducible repeat (first | refine kN ?_ _ | refine kD ?_ | refine kA ?_ _)); exact BK526.out⟩, ⟨by repeat (first | (with_reducible first | exact HB.out | apply bA | apply bN | apply bD | refine bS ?_ GE526.out) | exact HB.out)⟩⟩
 case rest =>
  clear HC2
  try clear c2
  try clear p2
  try clear c4
  try clear c4b0
  try clear c4b1
  obtain ⟨kq, x14_1, rfl, HA, HJ1, BK526, HB⟩ := hcut
  cases kq with
  | zero => exact absurd HA.out (by simp [zone_Era.j0])
  | succ kj1 =>
   have H := HA.out
   clear HA
   simp only [zone_Era.j0] at H
   by_cases c5 : x14_1 = true
   ·subst c5
    have H1 : (some (0, 0, 0, (⟨#[]⟩ : ByteArray), (⟨#[]⟩ : ByteArray), false, 0, 0, 0, 0, 0, 0, 0, 6)) = some (r1, r2, r3, r4, r5, r6, r7, r8, r9, r10, r11, r12, r13, r14) := by rw [if_pos rfl] at H; exact H
    clear H
    have H := H1
    clear H1
    simp only [Option.some.injEq, Prod.mk.injEq] at H
    obtain ⟨rfl, rfl, rfl, rfl, rfl, rfl, rfl, rfl, rfl, rfl, rfl, rfl, rfl, rfl⟩ := H
    obtain ⟨hcz6_0, hcz6_1, hcz6_2, hcz6_3, hcz6_4, hcz6_5, hcz6_6, hcz6_7, hcz6_8, hcz6_9, hcz6_10, hcz6_11, hcz6_12, hfz6_0, hfz6_1, hfz6_2, hfz6_3, hfz6_4, hfz6_5, hfz6_6, hfz6_7, hfz6_8, hfz6_9, hfz6_10, hfz6_11, hfz6_12⟩ := cl13 BK526.out
    go_wp2
    refine bodyPost_ret (results_ct rfl _ _ gb526 45 #[.int .i64 0, .int .i64 0, .int .i64 0, .string (⟨#[]⟩ : ByteArray), .string (⟨#[]⟩ : ByteArray), .bool false, .int .i64 0, .int .i64 0, .int .i64 0, .int .i64 0, .int .i64 0, .int .i64 0, .int .i64 0] (0, 0) _ rfl (by (with_reducible repeat (first | refine kN ?_ _ | refine kD ?_ | refine kA ?_ _)); refine blk_put (cs := #[.int .i64 0, .int .i64 0, .int .i64 0, .string (⟨#[]⟩ : ByteArray), .string (⟨#[]⟩ : ByteArray), .bool false, .int .i64 0, .int .i64 0, .int .i64 0, .int .i64 0, .int .i64 0, .int .i64 0, .int .i64 0]) ?_ 12 _ rfl; (with_reducible repeat (first | refine kN ?_ _ | refine kD ?_ | refine kA ?_ _)); refine blk_put (cs := #[.int .i64 0, .int .i64 0, .int .i64 0, .string (⟨#[]⟩ : ByteArray), .string (⟨#[]⟩ : ByteArray), .bool false, .int .i64 0, .int .i64 0, .int .i64 0, .int .i64 0, .int .i64 0, .int .i64 0, .int .i64 0]) ?_ 11 _ rfl; (with_reducible repeat (first | refine kN ?_ _ | refine kD ?_ | refine kA ?_ _)); refine blk_put (cs := #[.int .i64 0, .int .i64 0, .int .i64 0, .string (⟨#[]⟩ : ByteArray), .string (⟨#[]⟩ : ByteArray), .bool false, .int .i64 0, .int .i64 0, .int .i64 0, .int .i64 0, .int .i64 0, .int .i64 0, .int .i64 0]) ?_ 10 _ rfl; (with_reducible repeat (first | refine kN ?_ _ | refine kD ?_ | refine kA ?_ _)); refine blk_put (cs := #[.int .i64 0, .int .i64 0, .int .i64 0, .string (⟨#[]⟩ : ByteArray), .string (⟨#[]⟩ : ByteArray), .bool false, .int .i64 0, .int .i64 0, .int .i64 0, .int .i64 0, .int .i64 0, .int .i64 0, .int .i64 0]) ?_ 9 _ rfl; (with_reducible repeat (first | refine kN ?_ _ | refine kD ?_ | refine kA ?_ _)); refine blk_put (cs := #[.int .i64 0, .int .i64 0, .int .i64 0, .string (⟨#[]⟩ : ByteArray), .string (⟨#[]⟩ : ByteArray), .bool false, .int .i64 0, .int .i64 0, .int .i64 0, .int .i64 0, .int .i64 0, .int .i64 0, .int .i64 0]) ?_ 8 _ rfl; (with_reducible repeat (first | refine kN ?_ _ | refine kD ?_ | refine kA ?_ _)); refine blk_put (cs := #[.int .i64 0, .int .i64 0, .int .i64 0, .string (⟨#[]⟩ : ByteArray), .string (⟨#[]⟩ : ByteArray), .bool false, .int .i64 0, .int .i64 0, .int .i64 0, .int .i64 0, .int .i64 0, .int .i64 0, .int .i64 0]) ?_ 7 _ rfl; (with_reducible repeat (first | refine kN ?_ _ | refine kD ?_ | refine kA ?_ _)); refine blk_put (cs := #[.int .i64 0, .int .i64 0, .int .i64 0, .string (⟨#[]⟩ : ByteArray), .string (⟨#[]⟩ : ByteArray), .bool false, .int .i64 0, .int .i64 0, .int .i64 0, .int .i64 0, .int .i64 0, .int .i64 0, .int .i64 0]) ?_ 6 _ rfl; (with_reducible repeat (first | refine kN ?_ _ | refine kD ?_ | refine kA ?_ _)); refine blk_put (cs := #[.int .i64 0, .int .i64 0, .int .i64 0, .string (⟨#[]⟩ : ByteArray), .string (⟨#[]⟩ : ByteArray), .bool false, .int .i64 0, .int .i64 0, .int .i64 0, .int .i64 0, .int .i64 0, .int .i64 0, .int .i64 0]) ?_ 5 _ rfl; (with_reducible repeat (first | refine kN ?_ _ | refine kD ?_ | refine kA ?_ _)); refine blk_put (cs := #[.int .i64 0, .int .i64 0, .int .i64 0, .string (⟨#[]⟩ : ByteArray), .string (⟨#[]⟩ : ByteArray), .bool false, .int .i64 0, .int .i64 0, .int .i64 0, .int .i64 0, .int .i64 0, .int .i64 0, .int .i64 0]) ?_ 4 _ rfl; (with_reducible repeat (first | refine kN ?_ _ | refine kD ?_ | refine kA ?_ _)); refine blk_put (cs := #[.int .i64 0, .int .i64 0, .int .i64 0, .string (⟨#[]⟩ : ByteArray), .string (⟨#[]⟩ : ByteArray), .bool false, .int .i64 0, .int .i64 0, .int .i64 0, .int .i64 0, .int .i64 0, .int .i64 0, .int .i64 0]) ?_ 3 _ rfl; (with_reducible repeat (first | refine kN ?_ _ | refine kD ?_ | refine kA ?_ _)); refine blk_put (cs := #[.int .i64 0, .int .i64 0, .int .i64 0, .string (⟨#[]⟩ : ByteArray), .string (⟨#[]⟩ : ByteArray), .bool false, .int .i64 0, .int .i64 0, .int .i64 0, .int .i64 0, .int .i64 0, .int .i64 0, .int .i64 0]) ?_ 2 _ rfl; (with_reducible repeat (first | refine kN ?_ _ | refine kD ?_ | refine kA ?_ _)); refine blk_put (cs := #[.int .i64 0, .int .i64 0, .int .i64 0, .string (⟨#[]⟩ : ByteArray), .string (⟨#[]⟩ : ByteArray), .bool false, .int .i64 0, .int .i64 0, .int .i64 0, .int .i64 0, .int .i64 0, .int .i64 0, .int .i64 0]) ?_ 1 _ rfl; (with_reducible repeat (first | refine kN ?_ _ | refine kD ?_ | refine kA ?_ _)); refine blk_put (cs := #[.int .i64 0, .int .i64 0, .int .i64 0, .string (⟨#[]⟩ : ByteArray), .string (⟨#[]⟩ : ByteArray), .bool false, .int .i64 0, .int .i64 0, .int .i64 0, .int .i64 0, .int .i64 0, .int .i64 0, .int .i64 0]) ?_ 0 _ rfl; (with_reducible repeat (first | refine kN ?_ _ | refine kD ?_ | refine kA ?_ _)); exact BK526.out) Tryz.underlying45 rfl (by kernel_rfl)) rfl ?_
    exact ⟨by first | rfl | (simp [eN, eS] <;> rfl) | (simp [*, eN, eS] <;> rfl), by repeat (first | (with_reducible first | exact HB.out | apply bA | apply bN | apply bD | refine bS ?_ GE526.out) | exact HB.out)⟩
   ·replace c5 := Bool.eq_false_iff.mpr c5
    subst c5
    have H1 : (if 0 < (l0.length : Int) then ((clock_Parse.f kj1 (rdOf ByteArray.empty l0 0)).bind fun bt528 => (if bt528.2 = 0 then (if 2 < (l0.length : Int) then (if 1 < (l0.length : Int) then (if (rdOf ByteArray.empty l0 1).toList = ([45] : List UInt8) then (zone_Era.j1 kj1 l0 bt528.2 bt528.1 1 0 (⟨#[]⟩ : ByteArray) (rdOf ByteArray.empty l0 2) false 0 0 0 0 0 0 0) else ((clock_Parse.f kj1 (rdOf ByteArray.empty l0 1)).bind fun bt534 => (zone_Era.j1 kj1 l0 bt534.2 bt528.1 2 bt534.1 (⟨#[]⟩ : ByteArray) (rdOf ByteArray.empty l0 2) false 0 0 0 0 0 0 0))) else (none)) else (none)) else (some (0, 0, 0, (⟨#[]⟩ : ByteArray), (⟨#[]⟩ : ByteArray), false, 0, 0, 0, 0, 0, 0, 0, bt528.2)))) else (none)) = some (r1, r2, r3, r4, r5, r6, r7, r8, r9, r10, r11, r12, r13, r14) := by rw [if_neg (show ¬ (false = true) by decide)] at H; exact H
    clear H
    have H := H1
    clear H1
    by_cases c7 : 0 < (l0.length : Int)
    ·rw [if_pos c7] at H
     have c7b0 : decide (0 < (l0.length : Int)) = true := decide_eq_true c7
     have c7b1 : decide (0 < l0.length) = true := decide_eq_true (by omega)
     clear c7
     replace H := Option.bind_eq_some_iff.mp H
     obtain ⟨⟨t528, t529⟩, A80, H⟩ := H
     (try dsimp only at H)
     have A8 := As.mk A80
     clear A80
     by_cases c9 : t529 = 0
     ·rw [if_pos c9] at H
      have c9b0 : (t529 == 0) = true := beq_iff_eq.mpr c9
      have c9b1 : (t529 != 0) = false := bne_eq_false_iff_eq.mpr c9
      clear c9
      by_cases c10 : 2 < (l0.length : Int)
      ·rw [if_pos c10] at H
       have c10b0 : decide (2 < (l0.length : Int)) = true := decide_eq_true c10
       have c10b1 : decide (2 < l0.length) = true := decide_eq_true (by omega)
       clear c10
       by_cases c11 : 1 < (l0.length : Int)
       ·rw [if_pos c11] at H
        have c11b0 : decide (1 < (l0.length : Int)) = true := decide_eq_true c11
        have c11b1 : decide (1 < l0.length) = true := decide_eq_true (by omega)
        clear c11
        have HC12 := As.mk H
        clear H
        have p527 : 0 ≤ (0 : Int) := (by omega)
        have q527 : 0 < (l0.length : Int) := of_decide_eq_true (by first | (with_reducible assumption) | assumption)
        obtain ⟨ad527, e527, hx527_0⟩ := Kd.at_string HR0.out 0 p527 q527
        cases e527
        have qi527 : (0 < l0.length) = True := eq_true (by omega)
        (try rw [show ((0 : Int)).toNat = 0 from rfl] at hx527_0)
        (try rw [Addr.add_zero'] at hx527_0)
        replace hx527_0 := (HB.out.cell (World.block_lt_of_cell? w _ hx527_0)).trans hx527_0
        replace p527 := eq_true p527
        replace q527 := eq_true q527
        go_upto_if 35 with (first | ((with_reducible refine gC (f := 65) rfl ?_); refine goesL_ (some 20) rfl rfl Tryz.func65 (by kernel_rfl) rfl #[.string (rdOf ByteArray.empty l0 0)] rfl (by (try simp only [List.map_toArray, List.map_cons, List.map_nil]); first | done | rfl | (simp only [List.length_drop, List.length_take]; rfl)) ?_; (with_reducible refine (clock_Parse.calls kj1 (rdOf ByteArray.empty l0 0) t528 t529 _ ?side1 A8.out).mono ?_); (case side1 => exact GW.on HG.out (by repeat (first | (with_reducible first | exact HB.out | apply bA | apply bN | apply bD | refine bS ?_ GE526.out) | exact HB.out))); rintro e w13 ⟨rfl, hb⟩; refine ⟨_, rfl, ?_⟩; have n0_ := As.mk (kB (g := gb526) (o := .cells #[.int .i64 0, .int .i64 0, .int .i64 0, .string (⟨#[]⟩ : ByteArray), .string (⟨#[]⟩ : ByteArray), .bool false, .int .i64 0, .int .i64 0, .int .i64 0, .int .i64 0, .int .i64 0, .int .i64 0, .int .i64 0] 45 (0, 0)) (by (with_reducible repeat (first | refine kN ?_ _ | refine kD ?_ | refine kA ?_ _)); exact BK526.out) hb); have n1_ := As.mk (bT (by repeat (first | (with_reducible first | exact HB.out | apply bA | apply bN | apply bD | refine bS ?_ GE526.out) | exact HB.out)) hb); clear BK526; clear HB; have BK526 := n0_; have HB := n1_; clear n0_ n1_; (try clear hb); (try clear hb2); (try clear hk); (try clear hi); have p530 : 0 ≤ (2 : Int) := (by omega); have q530 : 2 < (l0.length : Int) := of_decide_eq_true (by first | (with_reducible assumption) | assumption); obtain ⟨ad530, e530, hx530_0⟩ := Kd.at_string HR0.out 2 p530 q530; obtain rfl : ad527 = ad530 := (by injection e530); (try simp only [show (2 : Int).toNat = 2 from rfl, Nat.reduceMul, Nat.reduceEqDiff, Go.Addr.add, ↓reduceIte] at hx530_0); have qi530 : (2 < l0.length) = True := eq_true (by omega); (try rw [show ((2 : Int)).toNat = 2 from rfl] at hx530_0); replace hx530_0 := (HB.out.cell (World.block_lt_of_cell? w _ hx530_0)).trans hx530_0; replace p530 := eq_true p530; replace q530 := eq_true q530) | ((with_reducible refine gD (N := 6) rfl ?_); (try (refine gate_guard (by rfl) ?_; dsimp only)); refine xE ?hg (N := 6) ?hd (cs := #[.int .i64 0, .int .i64 0, .int .i64 0, .string (⟨#[]⟩ : ByteArray), .string (⟨#[]⟩ : ByteArray), .bool false, .int .i64 0, .int .i64 0, .int .i64 0, .int .i64 0, .int .i64 0, .int .i64 0, .int .i64 0]) (t := 45) ?hr ?_; (case hd => rfl); (case hg => rfl); (case hr => first | (go_simp; done) | (go_simp; rfl)); intro gb531 hg w14 hbox hb; have n0_ := As.mk (kB (g := gb526) (o := .cells #[.int .i64 0, .int .i64 0, .int .i64 0, .string (⟨#[]⟩ : ByteArray), .string (⟨#[]⟩ : ByteArray), .bool false, .int .i64 0, .int .i64 0, .int .i64 0, .int .i64 0, .int .i64 0, .int .i64 0, .int .i64 0] 45 (0, 0)) (by (with_reducible repeat (first | refine kN ?_ _ | refine kD ?_ | refine kA ?_ _)); exact BK526.out) hb); have n1_ := As.mk (bT (by repeat (first | (with_reducible first | exact HB.out | apply bA | apply bN | apply bD | refine bS ?_ GE526.out) | exact HB.out)) hb); have n2_ := As.mk (hbox); have n3_ := As.mk ((by rw [hg]; exact (bZ (by repeat (first | (with_reducible first | exact HB.out | apply bA | apply bN | apply bD | refine bS ?_ GE526.out) | exact HB.out))) : w.heap.size ≤ gb531)); have n4_ := As.mk ((by rw [hg]; exact (bZ (by repeat (first | (with_reducible first | exact HB.out | apply bA | apply bN | apply bD | refine bS ?_ GE526.out) | exact HB.out))) : w.heap.size ≤ gb531)); have n5_ := As.mk ((by rw [hg]; exact Nat.ne_of_lt (blk_lt (g := gb526) (o := .cells #[.int .i64 0, .int .i64 0, .int .i64 0, .string (⟨#[]⟩ : ByteArray), .string (⟨#[]⟩ : ByteArray), .bool false, .int .i64 0, .int .i64 0, .int .i64 0, .int .i64 0, .int .i64 0, .int .i64 0, .int .i64 0] 45 (0, 0)) (by (with_reducible repeat (first | refine kN ?_ _ | refine kD ?_ | refine kA ?_ _)); exact BK526.out)) : gb526 ≠ gb531)); have n6_ := As.mk ((by rw [hg]; exact Nat.ne_of_gt (blk_lt (g := gb526) (o := .cells #[.int .i64 0, .int .i64 0, .int .i64 0, .string (⟨#[]⟩ : ByteArray), .string (⟨#[]⟩ : ByteArray), .bool false, .int .i64 0, .int .i64 0, .int .i64 0, .int .i64 0, .int .i64 0, .int .i64 0, .int .i64 0] 45 (0, 0)) (by (with_reducible repeat (first | refine kN ?_ _ | refine kD ?_ | refine kA ?_ _)); exact BK526.out)) : gb531 ≠ gb526)); clear BK526; clear HB; have BK526 := n0_; have HB := n1_; have BK531 := n2_; have GW531 := n3_; have GE531 := n4_; have NB526_531 := n5_; have NB531_526 := n6_; clear n0_ n1_ n2_ n3_ n4_ n5_ n6_; clear hb hbox hg; have hnb15 := NB531_526.out; have hnc15 := NB526_531.out; obtain ⟨hcz16_0, hcz16_1, hcz16_2, hcz16_3, hcz16_4, hcz16_5, hcz16_6, hcz16_7, hcz16_8, hcz16_9, hcz16_10, hcz16_11, hcz16_12, hfz16_0, hfz16_1, hfz16_2, hfz16_3, hfz16_4, hfz16_5, hfz16_6, hfz16_7, hfz16_8, hfz16_9, hfz16_10, hfz16_11, hfz16_12⟩ := cl13 BK531.out) | ((with_reducible refine gS (t := 45) (p := 6) rfl ?_); refine store_event (t := 45) (p := 6) (v := ?vo_w17) (w1 := (((((((((((((w14.setCell ⟨gb531, 0, none⟩ (.int .i64 t528)).setCell ⟨gb531, 1, none⟩ (.int .i64 1)).setCell ⟨gb531, 2, none⟩ (.int .i64 0)).setCell ⟨gb531, 3, none⟩ (.string (⟨#[]⟩ : ByteArray))).setCell ⟨gb531, 4, none⟩ (.string (rdOf ByteArray.empty l0 2))).setCell ⟨gb531, 5, none⟩ (.bool false)).setCell ⟨gb531, 6, none⟩ (.int .i64 0)).setCell ⟨gb531, 7, none⟩ (.int .i64 0)).setCell ⟨gb531, 8, none⟩ (.int .i64 0)).setCell ⟨gb531, 9, none⟩ (.int .i64 0)).setCell ⟨gb531, 10, none⟩ (.int .i64 0)).setCell ⟨gb531, 11, none⟩ (.int .i64 0)).setCell ⟨gb531, 12, none⟩ (.int .i64 0))) ?hg ?ho ?hn ?hr ?_; (case ho => rfl); (case hg => rfl); (case hn => rfl); (case hr => first | (go_simp; done) | (go_simp; rfl)); intro w17 hw; have n0_ : As (w17.heap[gb526]? = some (.cells #[.int .i64 0, .int .i64 0, .int .i64 0, .string (⟨#[]⟩ : ByteArray), .string (⟨#[]⟩ : ByteArray), .bool false, .int .i64 0, .int .i64 0, .int .i64 0, .int .i64 0, .int .i64 0, .int .i64 0, .int .i64 0] 45 (0, 0))) := ⟨(by rw [hw]; exact (by (with_reducible repeat (first | refine kN ?_ _ | refine kD ?_ | refine kA ?_ _)); refine blk_far ?_ NB526_531.out _; (with_reducible repeat (first | refine kN ?_ _ | refine kD ?_ | refine kA ?_ _)); refine blk_far ?_ NB526_531.out _; (with_reducible repeat (first | refine kN ?_ _ | refine kD ?_ | refine kA ?_ _)); refine blk_far ?_ NB526_531.out _; (with_reducible repeat (first | refine kN ?_ _ | refine kD ?_ | refine kA ?_ _)); refine blk_far ?_ NB526_531.out _; (with_reducible repeat (first | refine kN ?_ _ | refine kD ?_ | refine kA ?_ _)); refine blk_far ?_ NB526_531.out _; (with_reducible repeat (first | refine kN ?_ _ | refine kD ?_ | refine kA ?_ _)); refine blk_far ?_ NB526_531.out _; (with_reducible repeat (first | refine kN ?_ _ | refine kD ?_ | refine kA ?_ _)); refine blk_far ?_ NB526_531.out _; (with_reducible repeat (first | refine kN ?_ _ | refine kD ?_ | refine kA ?_ _)); refine blk_far ?_ NB526_531.out _; (with_reducible repeat (first | refine kN ?_ _ | refine kD ?_ | refine kA ?_ _)); refine blk_far ?_ NB526_531.out _; (with_reducible repeat (first | refine kN ?_ _ | refine kD ?_ | refine kA ?_ _)); refine blk_far ?_ NB526_531.out _; (with_reducible repeat (first | refine kN ?_ _ | refine kD ?_ | refine kA ?_ _)); refine blk_far ?_ NB526_531.out _; (with_reducible repeat (first | refine kN ?_ _ | refine kD ?_ | refine kA ?_ _)); refine blk_far ?_ NB526_531.out _; (with_reducible repeat (first | refine kN ?_ _ | refine kD ?_ | refine kA ?_ _)); refine blk_far ?_ NB526_531.out _; (with_reducible repeat (first | refine kN ?_ _ | refine kD ?_ | refine kA ?_ _)); exact BK526.out))⟩; have n1_ : As (w17.heap[gb531]? = some (.cells #[.int .i64 t528, .int .i64 1, .int .i64 0, .string (⟨#[]⟩ : ByteArray), .string (rdOf ByteArray.empty l0 2), .bool false, .int .i64 0, .int .i64 0, .int .i64 0, .int .i64 0, .int .i64 0, .int .i64 0, .int .i64 0] 45 (0, 0))) := ⟨(by rw [hw]; exact (by (with_reducible repeat (first | refine kN ?_ _ | refine kD ?_ | refine kA ?_ _)); refine blk_put (cs := #[.int .i64 t528, .int .i64 1, .int .i64 0, .string (⟨#[]⟩ : ByteArray), .string (rdOf ByteArray.empty l0 2), .bool false, .int .i64 0, .int .i64 0, .int .i64 0, .int .i64 0, .int .i64 0, .int .i64 0, .int .i64 0]) ?_ 12 _ rfl; (with_reducible repeat (first | refine kN ?_ _ | refine kD ?_ | refine kA ?_ _)); refine blk_put (cs := #[.int .i64 t528, .int .i64 1, .int .i64 0, .string (⟨#[]⟩ : ByteArray), .string (rdOf ByteArray.empty l0 2), .bool false, .int .i64 0, .int .i64 0, .int .i64 0, .int .i64 0, .int .i64 0, .int .i64 0, .int .i64 0]) ?_ 11 _ rfl; (with_reducible repeat (first | refine kN ?_ _ | refine kD ?_ | refine kA ?_ _)); refine blk_put (cs := #[.int .i64 t528, .int .i64 1, .int .i64 0, .string (⟨#[]⟩ : ByteArray), .string (rdOf ByteArray.empty l0 2), .bool false, .int .i64 0, .int .i64 0, .int .i64 0, .int .i64 0, .int .i64 0, .int .i64 0, .int .i64 0]) ?_ 10 _ rfl; (with_reducible repeat (first | refine kN ?_ _ | refine kD ?_ | refine kA ?_ _)); refine blk_put (cs := #[.int .i64 t528, .int .i64 1, .int .i64 0, .string (⟨#[]⟩ : ByteArray), .string (rdOf ByteArray.empty l0 2), .bool false, .int .i64 0, .int .i64 0, .int .i64 0, .int .i64 0, .int .i64 0, .int .i64 0, .int .i64 0]) ?_ 9 _ rfl; (with_reducible repeat (first | refine kN ?_ _ | refine kD ?_ | refine kA ?_ _)); refine blk_put (cs := #[.int .i64 t528, .int .i64 1, .int .i64 0, .string (⟨#[]⟩ : ByteArray), .string (rdOf ByteArray.empty l0 2), .bool false, .int .i64 0, .int .i64 0, .int .i64 0, .int .i64 0, .int .i64 0, .int .i64 0, .int .i64 0]) ?_ 8 _ rfl; (with_reducible repeat (first | refine kN ?_ _ | refine kD ?_ | refine kA ?_ _)); refine blk_put (cs := #[.int .i64 t528, .int .i64 1, .int .i64 0, .string (⟨#[]⟩ : ByteArray), .string (rdOf ByteArray.empty l0 2), .bool false, .int .i64 0, .int .i64 0, .int .i64 0, .int .i64 0, .int .i64 0, .int .i64 0, .int .i64 0]) ?_ 7 _ rfl; (with_reducible repeat (first | refine kN ?_ _ | refine kD ?_ | refine kA ?_ _)); refine blk_put (cs := #[.int .i64 t528, .int .i64 1, .int .i64 0, .string (⟨#[]⟩ : ByteArray), .string (rdOf ByteArray.empty l0 2), .bool false, .int .i64 0, .int .i64 0, .int .i64 0, .int .i64 0, .int .i64 0, .int .i64 0, .int .i64 0]) ?_ 6 _ rfl; (with_reducible repeat (first | refine kN ?_ _ | refine kD ?_ | refine kA ?_ _)); refine blk_put (cs := #[.int .i64 t528, .int .i64 1, .int .i64 0, .string (⟨#[]⟩ : ByteArray), .string (rdOf ByteArray.empty l0 2), .bool false, .int .i64 0, .int .i64 0, .int .i64 0, .int .i64 0, .int .i64 0, .int .i64 0, .int .i64 0]) ?_ 5 _ rfl; (with_reducible repeat (first | refine kN ?_ _ | refine kD ?_ | refine kA ?_ _)); refine blk_put (cs := #[.int .i64 t528, .int .i64 1, .int .i64 0, .string (⟨#[]⟩ : ByteArray), .string (⟨#[]⟩ : ByteArray), .bool false, .int .i64 0, .int .i64 0, .int .i64 0, .int .i64 0, .int .i64 0, .int .i64 0, .int .i64 0]) ?_ 4 _ rfl; (with_reducible repeat (first | refine kN ?_ _ | refine kD ?_ | refine kA ?_ _)); refine blk_put (cs := #[.int .i64 t528, .int .i64 1, .int .i64 0, .string (⟨#[]⟩ : ByteArray), .string (⟨#[]⟩ : ByteArray), .bool false, .int .i64 0, .int .i64 0, .int .i64 0, .int .i64 0, .int .i64 0, .int .i64 0, .int .i64 0]) ?_ 3 _ rfl; (with_reducible repeat (first | refine kN ?_ _ | refine kD ?_ | refine kA ?_ _)); refine blk_put (cs := #[.int .i64 t528, .int .i64 1, .int .i64 0, .string (⟨#[]⟩ : ByteArray), .string (⟨#[]⟩ : ByteArray), .bool false, .int .i64 0, .int .i64 0, .int .i64 0, .int .i64 0, .int .i64 0, .int .i64 0, .int .i64 0]) ?_ 2 _ rfl; (with_reducible repeat (first | refine kN ?_ _ | refine kD ?_ | refine kA ?_ _)); refine blk_put (cs := #[.int .i64 t528, .int .i64 0, .int .i64 0, .string (⟨#[]⟩ : ByteArray), .string (⟨#[]⟩ : ByteArray), .bool false, .int .i64 0, .int .i64 0, .int .i64 0, .int .i64 0, .int .i64 0, .int .i64 0, .int .i64 0]) ?_ 1 _ rfl; (with_reducible repeat (first | refine kN ?_ _ | refine kD ?_ | refine kA ?_ _)); refine blk_put (cs := #[.int .i64 0, .int .i64 0, .int .i64 0, .string (⟨#[]⟩ : ByteArray), .string (⟨#[]⟩ : ByteArray), .bool false, .int .i64 0, .int .i64 0, .int .i64 0, .int .i64 0, .int .i64 0, .int .i64 0, .int .i64 0]) ?_ 0 _ rfl; (with_reducible repeat (first | refine kN ?_ _ | refine kD ?_ | refine kA ?_ _)); exact BK531.out))⟩; have n2_ : As (Below w.heap.size w w17) := ⟨(by rw [hw]; exact (by repeat (first | (with_reducible first | exact HB.out | apply bA | apply bN | apply bD | refine bS ?_ GE526.out | refine bS ?_ GE531.out) | exact HB.out)))⟩; clear hw; clear BK526; clear BK531; clear HB; have BK526 := n0_; have BK531 := n1_; have HB := n2_; clear n0_ n1_ n2_; have p532 : 0 ≤ (1 : Int) := (by omega); have q532 : 1 < (l0.length : Int) := of_decide_eq_true (by first | (with_reducible assumption) | assumption); obtain ⟨ad532, e532, hx532_0⟩ := Kd.at_string HR0.out 1 p532 q532; obtain rfl : ad527 = ad532 := (by injection e532); (try simp only [show (1 : Int).toNat = 1 from rfl, Nat.reduceMul, Nat.reduceEqDiff, Go.Addr.add, ↓reduceIte] at hx532_0); have qi532 : (1 < l0.length) = True := eq_true (by omega); (try rw [show ((1 : Int)).toNat = 1 from rfl] at hx532_0); replace hx532_0 := (HB.out.cell (World.block_lt_of_cell? w _ hx532_0)).trans hx532_0; replace p532 := eq_true p532; replace q532 := eq_true q532))
        (try simp only [Act.put, List.setIfInBounds_toArray, List.set_cons_zero, List.set_cons_succ])
        go_cut [5] (fun v5 wc => ∃ (kq : Nat) (x5_11 : Int) (x532001_11 : Int) (x532002_11 : Int), v5 = .int .i64 x5_11 ∧ As (zone_Era.j1 kq l0 x5_11 t528 x532001_11 x532002_11 (⟨#[]⟩ : ByteArray) (rdOf ByteArray.empty l0 2) false 0 0 0 0 0 0 0 = some (r1, r2, r3, r4, r5, r6, r7, r8, r9, r10, r11, r12, r13, r14)) ∧ As (kq ≤ kj1) ∧ As (wc.heap[gb526]? = some (.cells #[.int .i64 0, .int .i64 0, .int .i64 0, .string (⟨#[]⟩ : ByteArray), .string (⟨#[]⟩ : ByteArray), .bool false, .int .i64 0, .int .i64 0, .int .i64 0, .int .i64 0, .int .i64 0, .int .i64 0, .int .i64 0] 45 (0, 0))) ∧ As (wc.heap[gb531]? = some (.cells #[.int .i64 t528, .int .i64 x532001_11, .int .i64 x532002_11, .string (⟨#[]⟩ : ByteArray), .string (rdOf ByteArray.empty l0 2), .bool false, .int .i64 0, .int .i64 0, .int .i64 0, .int .i64 0, .int .i64 0, .int .i64 0, .int .i64 0] 45 (0, 0))) ∧ As (Below w.heap.size w wc))
        case first =>
         have H := HC12.out
         clear HC12
         by_cases c18 : (rdOf ByteArray.empty l0 1).toList = ([45] : List UInt8)
         ·rw [if_pos c18] at H
          have c18b0 : ((rdOf ByteArray.empty l0 1).toList == ([45] : List UInt8)) = true := beq_iff_eq.mpr c18
          have c18b1 : ((rdOf ByteArray.empty l0 1).toList != ([45] : List UInt8)) = false := bne_eq_false_iff_eq.mpr c18
          clear c18
          (first | rw [c18b0] | (simp only [i64_w, i32_w]; rw [c18b0]) | skip)
          have H' := As.mk H
          clear H
          go_wp2
          go_meet
          case rel => exact ⟨_, (t529), (1), (0), (by first | rfl | (simp; done) | (simp [*]; done)), H', ⟨by have := HJ1.out; first | omega | exact Nat.le_refl _⟩, ⟨by (with_reducible repeat (first | refine kN ?_ _ | refine kD ?_ | refine kA ?_ _)); exact BK526.out⟩, ⟨by (with_reducible repeat (first | refine kN ?_ _ | refine kD ?_ | refine kA ?_ _)); exact BK531.out⟩, ⟨by repeat (first | (with_reducible first | exact HB.out | apply bA | apply bN | apply bD | refine bS ?_ GE526.out | refine bS ?_ GE531.out) | exact HB.out)⟩⟩
         ·rw [if_neg c18] at H
          have c18b0 : ((rdOf ByteArray.empty l0 1).toList == ([45] : List UInt8)) = false := beq_eq_false_iff_ne.mpr c18
          have c18b1 : ((rdOf ByteArray.empty l0 1).toList != ([45] : List UInt8)) = true := bne_iff_ne.mpr c18
          (first | rw [c18b0] | (simp only [i64_w, i32_w]; rw [c18b0]) | skip)
          replace H := Option.bind_eq_some_iff.mp H
          obtain ⟨⟨t534, t535⟩, A190, H⟩ := H
          (try dsimp only at H)
          have A19 := As.mk A190
          clear A190
          have H' := As.mk H
          clear H
          have hnb20 := NB531_526.out
          have hnc20 := NB526_531.out
          obtain ⟨hcz21_0, hcz21_1, hcz21_2, hcz21_3, hcz21_4, hcz21_5, hcz21_6, hcz21_7, hcz21_8, hcz21_9, hcz21_10, hcz21_11, hcz21_12, hfz21_0, hfz21_1, hfz21_2, hfz21_3, hfz21_4, hfz21_5, hfz21_6, hfz21_7, hfz21_8, hfz21_9, hfz21_10, hfz21_11, hfz21_12⟩ := cl13 BK531.out
          have p533 : 0 ≤ (1 : Int) := (by omega)
          have q533 : 1 < (l0.length : Int) := of_decide_eq_true (by first | (with_reducible assumption) | assumption)
          obtain ⟨ad533, e533, hx533_0⟩ := Kd.at_string HR0.out 1 p533 q533
          obtain rfl : ad527 = ad533 := (by injection e533)
          (try simp only [show (1 : Int).toNat = 1 from rfl, Nat.reduceMul, Nat.reduceEqDiff, Go.Addr.add, ↓reduceIte] at hx533_0)
          have qi533 : (1 < l0.length) = True := eq_true (by omega)
          (try rw [show ((1 : Int)).toNat = 1 from rfl] at hx533_0)
          have hn533_0 : ad527.block ≠ gb531 := Nat.ne_of_lt (Nat.lt_of_lt_of_le (by have := World.block_lt_of_cell? _ _ hx533_0; first | rwa [add_block] at this | exact this) GW531.out)
          replace hx533_0 := (HB.out.cell (World.block_lt_of_cell? w _ hx533_0)).trans hx533_0
          replace hx533_0 := (cell_far (p := ⟨gb531, 1, none⟩) (by first | (rw [add_block]; exact hn533_0) | (show (Addr.add _ _).block ≠ _; rw [add_block]; exact hn533_0) | exact hn533_0) (.int .i64 2)).trans hx533_0
          clear hn533_0
          replace p533 := eq_true p533
          replace q533 := eq_true q533
          go_wp2_with (first | ((with_reducible refine gC (f := 65) rfl ?_); refine goesL_ (some 41) rfl rfl Tryz.func65 (by kernel_rfl) rfl #[.string (rdOf ByteArray.empty l0 1)] rfl (by (try simp only [List.map_toArray, List.map_cons, List.map_nil]); first | done | rfl | (simp only [List.length_drop, List.length_take]; rfl)) ?_; (with_reducible refine (clock_Parse.calls kj1 (rdOf ByteArray.empty l0 1) t534 t535 _ ?side1 A19.out).mono ?_); (case side1 => exact GW.on HG.out (by repeat (first | (with_reducible first | exact HB.out | apply bA | apply bN | apply bD | refine bS ?_ GE526.out | refine bS ?_ GE531.out) | exact HB.out))); rintro e w22 ⟨rfl, hb⟩; refine ⟨_, rfl, ?_⟩; have n0_ := As.mk (kB (g := gb526) (o := .cells #[.int .i64 0, .int .i64 0, .int .i64 0, .string (⟨#[]⟩ : ByteArray), .string (⟨#[]⟩ : ByteArray), .bool false, .int .i64 0, .int .i64 0, .int .i64 0, .int .i64 0, .int .i64 0, .int .i64 0, .int .i64 0] 45 (0, 0)) (by (with_reducible repeat (first | refine kN ?_ _ | refine kD ?_ | refine kA ?_ _)); refine blk_far ?_ NB526_531.out _; (with_reducible repeat (first | refine kN ?_ _ | refine kD ?_ | refine kA ?_ _)); exact BK526.out) hb); have n1_ := As.mk (kB (g := gb531) (o := .cells #[.int .i64 t528, .int .i64 2, .int .i64 0, .string (⟨#[]⟩ : ByteArray), .string (rdOf ByteArray.empty l0 2), .bool false, .int .i64 0, .int .i64 0, .int .i64 0, .int .i64 0, .int .i64 0, .int .i64 0, .int .i64 0] 45 (0, 0)) (by (with_reducible repeat (first | refine kN ?_ _ | refine kD ?_ | refine kA ?_ _)); refine blk_put (cs := #[.int .i64 t528, .int .i64 1, .int .i64 0, .string (⟨#[]⟩ : ByteArray), .string (rdOf ByteArray.empty l0 2), .bool false, .int .i64 0, .int .i64 0, .int .i64 0, .int .i64 0, .int .i64 0, .int .i64 0, .int .i64 0]) ?_ 1 _ rfl; (with_reducible repeat (first | refine kN ?_ _ | refine kD ?_ | refine kA ?_ _)); exact BK531.out) hb); have n2_ := As.mk (bT (by repeat (first | (with_reducible first | exact HB.out | apply bA | apply bN | apply bD | refine bS ?_ GE526.out | refine bS ?_ GE531.out) | exact HB.out)) hb); clear BK526; clear BK531; clear HB; have BK526 := n0_; have BK531 := n1_; have HB := n2_; clear n0_ n1_ n2_; (try clear hb); (try clear hb2); (try clear hk); (try clear hi); obtain ⟨hcz23_0, hcz23_1, hcz23_2, hcz23_3, hcz23_4, hcz23_5, hcz23_6, hcz23_7, hcz23_8, hcz23_9, hcz23_10, hcz23_11, hcz23_12, hfz23_0, hfz23_1, hfz23_2, hfz23_3, hfz23_4, hfz23_5, hfz23_6, hfz23_7, hfz23_8, hfz23_9, hfz23_10, hfz23_11, hfz23_12⟩ := cl13 BK531.out))
          go_meet
          case rel => exact ⟨_, (t535), (2), (t534), (by first | rfl | (simp; done) | (simp [*]; done)), H', ⟨by have := HJ1.out; first | omega | exact Nat.le_refl _⟩, ⟨by (with_reducible repeat (first | refine kN ?_ _ | refine kD ?_ | refine kA ?_ _)); refine blk_far ?_ NB526_531.out _; (with_reducible repeat (first | refine kN ?_ _ | refine kD ?_ | refine kA ?_ _)); exact BK526.out⟩, ⟨by (with_reducible repeat (first | refine kN ?_ _ | refine kD ?_ | refine kA ?_ _)); refine blk_put (cs := #[.int .i64 t528, .int .i64 2, .int .i64 0, .string (⟨#[]⟩ : ByteArray), .string (rdOf ByteArray.empty l0 2), .bool false, .int .i64 0, .int .i64 0, .int .i64 0, .int .i64 0, .int .i64 0, .int .i64 0, .int .i64 0]) ?_ 2 _ rfl; (with_reducible repeat (first | refine kN ?_ _ | refine kD ?_ | refine kA ?_ _)); exact BK531.out⟩, ⟨by repeat (first | (with_reducible first | exact HB.out | apply bA | apply bN | apply bD | refine bS ?_ GE526.out | refine bS ?_ GE531.out) | exact HB.out)⟩⟩
        case rest =>
         clear HC12
         try clear c1
         try clear c2
         try clear p2
         try clear c4
         try clear c4b0
         try clear c4b1
         try clear c5
         try clear p5
         try clear q5
         try clear hx5
         try clear qi5
         try clear c6
         try clear c7
         try clear c7b0
         try clear c7b1
         try clear c9
         try clear c9b0
         try clear c9b1
         try clear c10
         try clear c10b0
         try clear c10b1
         try clear c11
         try clear c11b0
         try clear c11b1
         try clear c15
         try clear c18
         try clear c18b0
         try clear c18b1
         try clear c20
         try clear hcz16_0
         try clear hcz16_1
         try clear hcz16_10
         try clear hcz16_11
         try clear hcz16_12
         try clear hcz16_2
         try clear hcz16_3
         try clear hcz16_4
         try clear hcz16_5
         try clear hcz16_6
         try clear hcz16_7
         try clear hcz16_8
         try clear hcz16_9
         try clear hcz21_0
         try clear hcz21_1
         try clear hcz21_10
         try clear hcz21_11
         try clear hcz21_12
         try clear hcz21_2
         try clear hcz21_3
         try clear hcz21_4
         try clear hcz21_5
         try clear hcz21_6
         try clear hcz21_7
         try clear hcz21_8
         try clear hcz21_9
         try clear hcz23_0
         try clear hcz23_1
         try clear hcz23_10
         try clear hcz23_11
         try clear hcz23_12
         try clear hcz23_2
         try clear hcz23_3
         try clear hcz23_4
         try clear hcz23_5
         try clear hcz23_6
         try clear hcz23_7
         try clear hcz23_8
         try clear hcz23_9
         try clear hcz6_0
         try clear hcz6_1
         try clear hcz6_10
         try clear hcz6_11
         try clear hcz6_12
         try clear hcz6_2
         try clear hcz6_3
         try clear hcz6_4
         try clear hcz6_5
         try clear hcz6_6
         try clear hcz6_7
         try clear hcz6_8
         try clear hcz6_9
         try clear hfz16_0
         try clear hfz16_1
         try clear hfz16_10
         try clear hfz16_11
         try clear hfz16_12
         try clear hfz16_2
         try clear hfz16_3
         try clear hfz16_4
         try clear hfz16_5
         try clear hfz16_6
         try clear hfz16_7
         try clear hfz16_8
         try clear hfz16_9
         try clear hfz21_0
         try clear hfz21_1
         try clear hfz21_10
         try clear hfz21_11
         try clear hfz21_12
         try clear hfz21_2
         try clear hfz21_3
         try clear hfz21_4
         try clear hfz21_5
         try clear hfz21_6
         try clear hfz21_7
         try clear hfz21_8
         try clear hfz21_9
         try clear hfz23_0
         try clear hfz23_1
         try clear hfz23_10
         try clear hfz23_11
         try clear hfz23_12
         try clear hfz23_2
         try clear hfz23_3
         try clear hfz23_4
         try clear hfz23_5
         try clear hfz23_6
         try clear hfz23_7
         try clear hfz23_8
         try clear hfz23_9
         try clear hfz6_0
         try clear hfz6_1
         try clear hfz6_10
         try clear hfz6_11
         try clear hfz6_12
         try clear hfz6_2
         try clear hfz6_3
         try clear hfz6_4
         try clear hfz6_5
         try clear hfz6_6
         try clear hfz6_7
         try clear hfz6_8
         try clear hfz6_9
         try clear hx527_0
         try clear hx530_0
         try clear hx532_0
         try clear hx533_0
         try clear p2
         try clear p527
         try clear p530
         try clear p532
         try clear p533
         try clear q527
         try clear q530
         try clear q532
         try clear q533
         obtain ⟨kq, x5_11, x532001_11, x532002_11, rfl, HA, HJ11, BK526, BK531, HB⟩ := hcut
         cases kq with
         | zero => exact absurd HA.out (by simp [zone_Era.j1])
         | succ kj11 =>
          have H := HA.out
          clear HA
          simp only [zone_Era.j1] at H
          have HC24 := As.mk H
          clear H
          go_upto_if 46 with (fail)
          go_cut [] (fun wc => ∃ (kq : Nat) (x532001_23 : Int) (x532003_23 : ByteArray), As (zone_Era.j2 kq l0 t528 x532001_23 x532002_11 x532003_23 (rdOf ByteArray.empty l0 2) false 0 0 0 0 0 0 0 = some (r1, r2, r3, r4, r5, r6, r7, r8, r9, r10, r11, r12, r13, r14)) ∧ As (kq ≤ kj11) ∧ As (wc.heap[gb526]? = some (.cells #[.int .i64 0, .int .i64 0, .int .i64 0, .string (⟨#[]⟩ : ByteArray), .string (⟨#[]⟩ : ByteArray), .bool false, .int .i64 0, .int .i64 0, .int .i64 0, .int .i64 0, .int .i64 0, .int .i64 0, .int .i64 0] 45 (0, 0))) ∧ As (wc.heap[gb531]? = some (.cells #[.int .i64 t528, .int .i64 x532001_23, .int .i64 x532002_11, .string x532003_23, .string (rdOf ByteArray.empty l0 2), .bool false, .int .i64 0, .int .i64 0, .int .i64 0, .int .i64 0, .int .i64 0, .int .i64 0, .int .i64 0] 45 (0, 0))) ∧ As (Below w.heap.size w wc))
          case first =>
           have H := HC24.out
           clear HC24
           by_cases c25 : x5_11 = 0
           ·rw [if_pos c25] at H
            have c25b0 : (x5_11 == 0) = true := beq_iff_eq.mpr c25
            have c25b1 : (x5_11 != 0) = false := bne_eq_false_iff_eq.mpr c25
            clear c25
            (first | rw [c25b0] | (simp only [i64_w, i32_w]; rw [c25b0]) | skip)
            have H' := As.mk H
            clear H
            go_wp2
            go_meet
            case rel => exact ⟨_, (x532001_11), ((⟨#[]⟩ : ByteArray)), H', ⟨by have := HJ1.out; have := HJ11.out; first | omega | exact Nat.le_refl _⟩, ⟨by (with_reducible repeat (first | refine kN ?_ _ | refine kD ?_ | refine kA ?_ _)); exact BK526.out⟩, ⟨by (with_reducible repeat (first | refine kN ?_ _ | refine kD ?_ | refine kA ?_ _)); exact BK531.out⟩, ⟨by repeat (first | (with_reducible first | exact HB.out | apply bA | apply bN | apply bD | refine bS ?_ GE526.out | refine bS ?_ GE531.out) | exact HB.out)⟩⟩
           ·rw [if_neg c25] at H
            have c25b0 : (x5_11 == 0) = false := beq_eq_false_iff_ne.mpr c25
            have c25b1 : (x5_11 != 0) = true := bne_iff_ne.mpr c25
            (first | rw [c25b0] | (simp only [i64_w, i32_w]; rw [c25b0]) | skip)
            by_cases c26 : 1 < (l0.length : Int)
            ·rw [if_pos c26] at H
             have c26b0 : decide (1 < (l0.length : Int)) = true := decide_eq_true c26
             have c26b1 : decide (1 < l0.length) = true := decide_eq_true (by omega)
             clear c26
             have H' := As.mk H
             clear H
             have p536 : 0 ≤ (1 : Int) := (by omega)
             have q536 : 1 < (l0.length : Int) := of_decide_eq_true (by first | (with_reducible assumption) | assumption)
             obtain ⟨ad536, e536, hx536_0⟩ := Kd.at_string HR0.out 1 p536 q536
             obtain rfl : ad527 = ad536 := (by injection e536)
             (try simp only [show (1 : Int).toNat = 1 from rfl, Nat.reduceMul, Nat.reduceEqDiff, Go.Addr.add, ↓reduceIte] at hx536_0)
             have qi536 : (1 < l0.length) = True := eq_true (by omega)
             (try rw [show ((1 : Int)).toNat = 1 from rfl] at hx536_0)
             replace hx536_0 := (HB.out.cell (World.block_lt_of_cell? w _ hx536_0)).trans hx536_0
             replace p536 := eq_true p536
             replace q536 := eq_true q536
             have hnb27 := NB531_526.out
             have hnc27 := NB526_531.out
             obtain ⟨hcz28_0, hcz28_1, hcz28_2, hcz28_3, hcz28_4, hcz28_5, hcz28_6, hcz28_7, hcz28_8, hcz28_9, hcz28_10, hcz28_11, hcz28_12, hfz28_0, hfz28_1, hfz28_2, hfz28_3, hfz28_4, hfz28_5, hfz28_6, hfz28_7, hfz28_8, hfz28_9, hfz28_10, hfz28_11, hfz28_12⟩ := cl13 BK531.out
             go_wp2
             go_meet
             case rel => exact ⟨_, (3), (rdOf ByteArray.empty l0 1), H', ⟨by have := HJ1.out; have := HJ11.out; first | omega | exact Nat.le_refl _⟩, ⟨by (with_reducible repeat (first | refine kN ?_ _ | refine kD ?_ | refine kA ?_ _)); refine blk_far ?_ NB526_531.out _; (with_reducible repeat (first | refine kN ?_ _ | refine kD ?_ | refine kA ?_ _)); refine blk_far ?_ NB526_531.out _; (with_reducible repeat (first | refine kN ?_ _ | refine kD ?_ | refine kA ?_ _)); exact BK526.out⟩, ⟨by (with_reducible repeat (first | refine kN ?_ _ | refine kD ?_ | refine kA ?_ _)); refine blk_put (cs := #[.int .i64 t528, .int .i64 3, .int .i64 x532002_11, .string (⟨#[]⟩ : ByteArray), .string (rdOf ByteArray.empty l0 2), .bool false, .int .i64 0, .int .i64 0, .int .i64 0, .int .i64 0, .int .i64 0, .int .i64 0, .int .i64 0]) ?_ 3 _ rfl; (with_reducible repeat (first | refine kN ?_ _ | refine kD ?_ | refine kA ?_ _)); refine blk_put (cs := #[.int .i64 t528, .int .i64 x532001_11, .int .i64 x532002_11, .string (⟨#[]⟩ : ByteArray), .string (rdOf ByteArray.empty l0 2), .bool false, .int .i64 0, .int .i64 0, .int .i64 0, .int .i64 0, .int .i64 0, .int .i64 0, .int .i64 0]) ?_ 1 _ rfl; (with_reducible repeat (first | refine kN ?_ _ | refine kD ?_ | refine kA ?_ _)); exact BK531.out⟩, ⟨by repeat (first | (with_reducible first | exact HB.out | apply bA | apply bN | apply bD | refine bS ?_ GE526.out | refine bS ?_ GE531.out) | exact HB.out)⟩⟩
            ·rw [if_neg c26] at H
             exact absurd H (by simp)
          case rest =>
           clear HC24
           try clear c1
           try clear c2
           try clear p2
           try clear c4
           try clear c4b0
           try clear c4b1
           try clear c5
           try clear p5
           try clear q5
           try clear hx5
           try clear qi5
           try clear c6
           try clear c7
           try clear c7b0
           try clear c7b1
           try clear c9
           try clear c9b0
           try clear c9b1
           try clear c10
           try clear c10b0
           try clear c10b1
           try clear c11
           try clear c11b0
           try clear c11b1
           try clear c15
           try clear c18
           try clear c18b0
           try clear c18b1
           try clear c20
           try clear c25
           try clear c25b0
           try clear c25b1
           try clear c26
           try clear c26b0
           try clear c26b1
           try clear c27
           try clear hcz16_0
           try clear hcz16_1
           try clear hcz16_10
           try clear hcz16_11
           try clear hcz16_12
           try clear hcz16_2
           try clear hcz16_3
           try clear hcz16_4
           try clear hcz16_5
           try clear hcz16_6
           try clear hcz16_7
           try clear hcz16_8
           try clear hcz16_9
           try clear hcz21_0
           try clear hcz21_1
           try clear hcz21_10
           try clear hcz21_11
           try clear hcz21_12
           try clear hcz21_2
           try clear hcz21_3
           try clear hcz21_4
           try clear hcz21_5
           try clear hcz21_6
           try clear hcz21_7
           try clear hcz21_8
           try clear hcz21_9
           try clear hcz23_0
           try clear hcz23_1
           try clear hcz23_10
           try clear hcz23_11
           try clear hcz23_12
           try clear hcz23_2
           try clear hcz23_3
           try clear hcz23_4
           try clear hcz23_5
           try clear hcz23_6
           try clear hcz23_7
           try clear hcz23_8
           try clear hcz23_9
           try clear hcz28_0
           try clear hcz28_1
           try clear hcz28_10
           try clear hcz28_11
           try clear hcz28_12
           try clear hcz28_2
           try clear hcz28_3
           try clear hcz28_4
           try clear hcz28_5
           try clear hcz28_6
           try clear hcz28_7
           try clear hcz28_8
           try clear hcz28_9
           try clear hcz6_0
           try clear hcz6_1
           try clear hcz6_10
           try clear hcz6_11
           try clear hcz6_12
           try clear hcz6_2
           try clear hcz6_3
           try clear hcz6_4
           try clear hcz6_5
           try clear hcz6_6
           try clear hcz6_7
           try clear hcz6_8
           try clear hcz6_9
           try clear hfz16_0
           try clear hfz16_1
           try clear hfz16_10
           try clear hfz16_11
           try clear hfz16_12
           try clear hfz16_2
           try clear hfz16_3
           try clear hfz16_4
           try clear hfz16_5
           try clear hfz16_6
           try clear hfz16_7
           try clear hfz16_8
           try clear hfz16_9
           try clear hfz21_0
           try clear hfz21_1
           try clear hfz21_10
           try clear hfz21_11
           try clear hfz21_12
           try clear hfz21_2
           try clear hfz21_3
           try clear hfz21_4
           try clear hfz21_5
           try clear hfz21_6
           try clear hfz21_7
           try clear hfz21_8
           try clear hfz21_9
           try clear hfz23_0
           try clear hfz23_1
           try clear hfz23_10
           try clear hfz23_11
           try clear hfz23_12
           try clear hfz23_2
           try clear hfz23_3
           try clear hfz23_4
           try clear hfz23_5
           try clear hfz23_6
           try clear hfz23_7
           try clear hfz23_8
           try clear hfz23_9
           try clear hfz28_0
           try clear hfz28_1
           try clear hfz28_10
           try clear hfz28_11
           try clear hfz28_12
           try clear hfz28_2
           try clear hfz28_3
           try clear hfz28_4
           try clear hfz28_5
           try clear hfz28_6
           try clear hfz28_7
           try clear hfz28_8
           try clear hfz28_9
           try clear hfz6_0
           try clear hfz6_1
           try clear hfz6_10
           try clear hfz6_11
           try clear hfz6_12
           try clear hfz6_2
           try clear hfz6_3
           try clear hfz6_4
           try clear hfz6_5
           try clear hfz6_6
           try clear hfz6_7
           try clear hfz6_8
           try clear hfz6_9
           try clear hx527_0
           try clear hx530_0
           try clear hx532_0
           try clear hx533_0
           try clear hx536_0
           try clear p2
           try clear p5
           try clear p527
           try clear p530
           try clear p532
           try clear p533
           try clear p536
           try clear q5
           try clear q527
           try clear q530
           try clear q532
           try clear q533
           try clear q536
           obtain ⟨kq, x532001_23, x532003_23, HA, HJ23, BK526, BK531, HB⟩ := hcut
           cases kq with
           | zero => exact absurd HA.out (by simp [zone_Era.j2])
           | succ kj23 =>
            have H := HA.out
            clear HA
            simp only [zone_Era.j2] at H
            by_cases c29 : (l0.length : Int) > 3
            ·rw [if_pos c29] at H
             have c29b0 : decide (3 < (l0.length : Int)) = true := decide_eq_true c29
             have c29b1 : decide (3 < l0.length) = true := decide_eq_true (by omega)
             clear c29
             by_cases c30 : 3 ≤ (l0.length : Int)
             ·rw [if_pos c30] at H
              have c30b0 := eq_true c30
              have c30b1 : decide (3 ≤ (l0.length : Int)) = true := decide_eq_true c30
              clear c30
              replace H := Option.bind_eq_some_iff.mp H
              obtain ⟨⟨t538, t539, t540, t541, t542, t543, t544, t545, t546, t547, t548, t549, t550, t551⟩, A310, H⟩ := H
              (try dsimp only at H)
              have A31 := As.mk A310
              clear A310
              by_cases c32 : t538 = 0
              ·rw [if_pos c32] at H
               have c32b0 : (t538 == 0) = true := beq_iff_eq.mpr c32
               have c32b1 : (t538 != 0) = false := bne_eq_false_iff_eq.mpr c32
               clear c32
               replace H := Option.bind_eq_some_iff.mp H
               obtain ⟨t552, A330, H⟩ := H
               (try dsimp only at H)
               have A33 := As.mk A330
               clear A330
               by_cases c34 : t552 = true
               ·subst c34
                have H1 : (some (t539, t540, t541, t542, t543, t544, t545, t546, t547, t548, t549, t550, t551, 0)) = some (r1, r2, r3, r4, r5, r6, r7, r8, r9, r10, r11, r12, r13, r14) := by rw [if_pos rfl] at H; exact H
                clear H
                have H := H1
                clear H1
                simp only [Option.some.injEq, Prod.mk.injEq] at H
                obtain ⟨rfl, rfl, rfl, rfl, rfl, rfl, rfl, rfl, rfl, rfl, rfl, rfl, rfl, rfl⟩ := H
                obtain ⟨i035, hi035, _, hsz35, _⟩ := info_parts info9
                obtain ⟨A35, hcut35, hA35, hC35⟩ := print_drop_of (P := Tryz.prog) Value.string (⟨#[]⟩ : ByteArray) 32 9 .i64 Tryz.underlying32 hi035 hsz35 (some ad527) c0 l0 3 (by omega) (of_decide_eq_true (by first | (with_reducible assumption) | assumption)) HC0.out
                have HR537 := As.mk (Kd.C_of_reads (h1 := fun _ => rfl) (hA35 _ (Kd.reads_of_C HR0.out)))
                have HC537 := As.mk hC35
                clear hA35 hC35 hi035 hsz35
                go_wp2_with (first | ((with_reducible refine gC (f := 66) rfl ?_); refine goesL_ (some 57) rfl rfl Tryz.func66 (by kernel_rfl) rfl #[.pointer (some ⟨gb531, 0, none⟩), .slice A35 (l0.drop 3).length (c0 - 3)] rfl (by (try simp only [List.map_toArray, List.map_cons, List.map_nil]); first | done | (rw [show (l0.drop 3).length = (l0.length - 3) from List.length_drop] <;> rfl) | rfl | (simp only [List.length_drop, List.length_take]; rfl)) ?_; (with_reducible refine (zone_ends.calls kj23 gb531 t528 x532001_23 x532002_11 x532003_23 (rdOf ByteArray.empty l0 2) false 0 0 0 0 0 0 0 _ _ (l0.drop 3) t538 t539 t540 t541 t542 t543 t544 t545 t546 t547 t548 t549 t550 t551 w _ ?side1 ?side2 ?side3 ?side4 ?side5 ?side6 A31.out).mono ?_); (case side1 => exact HG.out); (case side2 => exact ⟨by (with_reducible repeat (first | refine kN ?_ _ | refine kD ?_ | refine kA ?_ _)); exact BK531.out, GE531.out⟩); (case side3 => repeat (first | (with_reducible first | exact HB.out | apply bA | apply bN | apply bD | refine bS ?_ (IsS45.ge BXX531.out) | refine bS ?_ GE526.out | refine bS ?_ GE531.out) | exact HB.out)); (case side4 => repeat (first | exact (Kd.C_below HR537.out HB.out) | (with_reducible refine Kd.C_alloc ?_ _) | (with_reducible refine Kd.C_drewN ?_ _) | (with_reducible refine Kd.C_drew ?_))); (case side5 => exact HC537.out); (case side6 => exact Kd.far_C (⟨#[]⟩ : ByteArray) HR537.out GE531.out); rintro e w36 ⟨rfl, hi, hb, hk⟩; refine ⟨_, rfl, ?_⟩; have n0_ := As.mk (KeepBut.blk hk (g' := gb526) (o := .cells #[.int .i64 0, .int .i64 0, .int .i64 0, .string (⟨#[]⟩ : ByteArray), .string (⟨#[]⟩ : ByteArray), .bool false, .int .i64 0, .int .i64 0, .int .i64 0, .int .i64 0, .int .i64 0, .int .i64 0, .int .i64 0] 45 (0, 0)) (by (with_reducible repeat (first | refine kN ?_ _ | refine kD ?_ | refine kA ?_ _)); exact BK526.out) NB526_531.out (by simp)); have n1_ := As.mk (hi.1); have n2_ := As.mk (hb); clear BK526; clear BK531; clear HB; have BK526 := n0_; have BK531 := n1_; have HB := n2_; clear n0_ n1_ n2_; (try clear hb); (try clear hb2); (try clear hk); (try clear hi); have hnb37 := NB531_526.out; have hnc37 := NB526_531.out; obtain ⟨hcz38_0, hcz38_1, hcz38_2, hcz38_3, hcz38_4, hcz38_5, hcz38_6, hcz38_7, hcz38_8, hcz38_9, hcz38_10, hcz38_11, hcz38_12, hfz38_0, hfz38_1, hfz38_2, hfz38_3, hfz38_4, hfz38_5, hfz38_6, hfz38_7, hfz38_8, hfz38_9, hfz38_10, hfz38_11, hfz38_12⟩ := cl13 BK531.out) | ((with_reducible refine gC (f := 64) rfl ?_); refine goesL_ (some 63) rfl rfl Tryz.func64 (by kernel_rfl) rfl #[.agg #[.int .i64 t539, .int .i64 t540, .int .i64 t541, .string t542, .string t543, .bool t544, .int .i64 t545, .int .i64 t546, .int .i64 t547, .int .i64 t548, .int .i64 t549, .int .i64 t550, .int .i64 t551]] rfl (by (try simp only [List.map_toArray, List.map_cons, List.map_nil]); first | done | rfl | (simp only [List.length_drop, List.length_take]; rfl)) ?_; (with_reducible refine (zone_right.calls kj23 t539 t540 t541 t542 t543 t544 t545 t546 t547 t548 t549 t550 t551 true _ A33.out).mono ?_); rintro e w39 ⟨rfl, hb⟩; refine ⟨_, rfl, ?_⟩; have n0_ := As.mk (kB (g := gb526) (o := .cells #[.int .i64 0, .int .i64 0, .int .i64 0, .string (⟨#[]⟩ : ByteArray), .string (⟨#[]⟩ : ByteArray), .bool false, .int .i64 0, .int .i64 0, .int .i64 0, .int .i64 0, .int .i64 0, .int .i64 0, .int .i64 0] 45 (0, 0)) (by (with_reducible repeat (first | refine kN ?_ _ | refine kD ?_ | refine kA ?_ _)); exact BK526.out) hb); have n1_ := As.mk (kB (g := gb531) (o := .cells #[.int .i64 t539, .int .i64 t540, .int .i64 t541, .string t542, .string t543, .bool t544, .int .i64 t545, .int .i64 t546, .int .i64 t547, .int .i64 t548, .int .i64 t549, .int .i64 t550, .int .i64 t551] 45 (0, 0)) (by (with_reducible repeat (first | refine kN ?_ _ | refine kD ?_ | refine kA ?_ _)); exact BK531.out) hb); have n2_ := As.mk (bT (by repeat (first | (with_reducible first | exact HB.out | apply bA | apply bN | apply bD | refine bS ?_ GE526.out | refine bS ?_ GE531.out) | exact HB.out)) hb); clear BK526; clear BK531; clear HB; have BK526 := n0_; have BK531 := n1_; have HB := n2_; clear n0_ n1_ n2_; (try clear hb); (try clear hb2); (try clear hk); (try clear hi); obtain ⟨hcz40_0, hcz40_1, hcz40_2, hcz40_3, hcz40_4, hcz40_5, hcz40_6, hcz40_7, hcz40_8, hcz40_9, hcz40_10, hcz40_11, hcz40_12, hfz40_0, hfz40_1, hfz40_2, hfz40_3, hfz40_4, hfz40_5, hfz40_6, hfz40_7, hfz40_8, hfz40_9, hfz40_10, hfz40_11, hfz40_12⟩ := cl13 BK531.out; obtain ⟨hcz41_0, hcz41_1, hcz41_2, hcz41_3, hcz41_4, hcz41_5, hcz41_6, hcz41_7, hcz41_8, hcz41_9, hcz41_10, hcz41_11, hcz41_12, hfz41_0, hfz41_1, hfz41_2, hfz41_3, hfz41_4, hfz41_5, hfz41_6, hfz41_7, hfz41_8, hfz41_9, hfz41_10, hfz41_11, hfz41_12⟩ := cl13 BK526.out))
                refine bodyPost_ret (results_ct rfl _ _ gb526 45 #[.int .i64 t539, .int .i64 t540, .int .i64 t541, .string t542, .string t543, .bool t544, .int .i64 t545, .int .i64 t546, .int .i64 t547, .int .i64 t548, .int .i64 t549, .int .i64 t550, .int .i64 t551] (0, 0) _ rfl (by (with_reducible repeat (first | refine kN ?_ _ | refine kD ?_ | refine kA ?_ _)); refine blk_put (cs := #[.int .i64 t539, .int .i64 t540, .int .i64 t541, .string t542, .string t543, .bool t544, .int .i64 t545, .int .i64 t546, .int .i64 t547, .int .i64 t548, .int .i64 t549, .int .i64 t550, .int .i64 0]) ?_ 12 _ rfl; (with_reducible repeat (first | refine kN ?_ _ | refine kD ?_ | refine kA ?_ _)); refine blk_put (cs := #[.int .i64 t539, .int .i64 t540, .int .i64 t541, .string t542, .string t543, .bool t544, .int .i64 t545, .int .i64 t546, .int .i64 t547, .int .i64 t548, .int .i64 t549, .int .i64 0, .int .i64 0]) ?_ 11 _ rfl; (with_reducible repeat (first | refine kN ?_ _ | refine kD ?_ | refine kA ?_ _)); refine blk_put (cs := #[.int .i64 t539, .int .i64 t540, .int .i64 t541, .string t542, .string t543, .bool t544, .int .i64 t545, .int .i64 t546, .int .i64 t547, .int .i64 t548, .int .i64 0, .int .i64 0, .int .i64 0]) ?_ 10 _ rfl; (with_reducible repeat (first | refine kN ?_ _ | refine kD ?_ | refine kA ?_ _)); refine blk_put (cs := #[.int .i64 t539, .int .i64 t540, .int .i64 t541, .string t542, .string t543, .bool t544, .int .i64 t545, .int .i64 t546, .int .i64 t547, .int .i64 0, .int .i64 0, .int .i64 0, .int .i64 0]) ?_ 9 _ rfl; (with_reducible repeat (first | refine kN ?_ _ | refine kD ?_ | refine kA ?_ _)); refine blk_put (cs := #[.int .i64 t539, .int .i64 t540, .int .i64 t541, .string t542, .string t543, .bool t544, .int .i64 t545, .int .i64 t546, .int .i64 0, .int .i64 0, .int .i64 0, .int .i64 0, .int .i64 0]) ?_ 8 _ rfl; (with_reducible repeat (first | refine kN ?_ _ | refine kD ?_ | refine kA ?_ _)); refine blk_put (cs := #[.int .i64 t539, .int .i64 t540, .int .i64 t541, .string t542, .string t543, .bool t544, .int .i64 t545, .int .i64 0, .int .i64 0, .int .i64 0, .int .i64 0, .int .i64 0, .int .i64 0]) ?_ 7 _ rfl; (with_reducible repeat (first | refine kN ?_ _ | refine kD ?_ | refine kA ?_ _)); refine blk_put (cs := #[.int .i64 t539, .int .i64 t540, .int .i64 t541, .string t542, .string t543, .bool t544, .int .i64 0, .int .i64 0, .int .i64 0, .int .i64 0, .int .i64 0, .int .i64 0, .int .i64 0]) ?_ 6 _ rfl; (with_reducible repeat (first | refine kN ?_ _ | refine kD ?_ | refine kA ?_ _)); refine blk_put (cs := #[.int .i64 t539, .int .i64 t540, .int .i64 t541, .string t542, .string t543, .bool false, .int .i64 0, .int .i64 0, .int .i64 0, .int .i64 0, .int .i64 0, .int .i64 0, .int .i64 0]) ?_ 5 _ rfl; (with_reducible repeat (first | refine kN ?_ _ | refine kD ?_ | refine kA ?_ _)); refine blk_put (cs := #[.int .i64 t539, .int .i64 t540, .int .i64 t541, .string t542, .string (⟨#[]⟩ : ByteArray), .bool false, .int .i64 0, .int .i64 0, .int .i64 0, .int .i64 0, .int .i64 0, .int .i64 0, .int .i64 0]) ?_ 4 _ rfl; (with_reducible repeat (first | refine kN ?_ _ | refine kD ?_ | refine kA ?_ _)); refine blk_put (cs := #[.int .i64 t539, .int .i64 t540, .int .i64 t541, .string (⟨#[]⟩ : ByteArray), .string (⟨#[]⟩ : ByteArray), .bool false, .int .i64 0, .int .i64 0, .int .i64 0, .int .i64 0, .int .i64 0, .int .i64 0, .int .i64 0]) ?_ 3 _ rfl; (with_reducible repeat (first | refine kN ?_ _ | refine kD ?_ | refine kA ?_ _)); refine blk_put (cs := #[.int .i64 t539, .int .i64 t540, .int .i64 0, .string (⟨#[]⟩ : ByteArray), .string (⟨#[]⟩ : ByteArray), .bool false, .int .i64 0, .int .i64 0, .int .i64 0, .int .i64 0, .int .i64 0, .int .i64 0, .int .i64 0]) ?_ 2 _ rfl; (with_reducible repeat (first | refine kN ?_ _ | refine kD ?_ | refine kA ?_ _)); refine blk_put (cs := #[.int .i64 t539, .int .i64 0, .int .i64 0, .string (⟨#[]⟩ : ByteArray), .string (⟨#[]⟩ : ByteArray), .bool false, .int .i64 0, .int .i64 0, .int .i64 0, .int .i64 0, .int .i64 0, .int .i64 0, .int .i64 0]) ?_ 1 _ rfl; (with_reducible repeat (first | refine kN ?_ _ | refine kD ?_ | refine kA ?_ _)); refine blk_put (cs := #[.int .i64 0, .int .i64 0, .int .i64 0, .string (⟨#[]⟩ : ByteArray), .string (⟨#[]⟩ : ByteArray), .bool false, .int .i64 0, .int .i64 0, .int .i64 0, .int .i64 0, .int .i64 0, .int .i64 0, .int .i64 0]) ?_ 0 _ rfl; (with_reducible repeat (first | refine kN ?_ _ | refine kD ?_ | refine kA ?_ _)); exact BK526.out) Tryz.underlying45 rfl (by kernel_rfl)) rfl ?_
                exact ⟨by first | rfl | (simp [eN, eS] <;> rfl) | (simp [*, eN, eS] <;> rfl), by repeat (first | (with_reducible first | exact HB.out | apply bA | apply bN | apply bD | refine bS ?_ GE526.out | refine bS ?_ GE531.out) | exact HB.out)⟩
               ·replace c34 := Bool.eq_false_iff.mpr c34
                subst c34
                have H1 : (some (0, 0, 0, (⟨#[]⟩ : ByteArray), (⟨#[]⟩ : ByteArray), false, 0, 0, 0, 0, 0, 0, 0, 11)) = some (r1, r2, r3, r4, r5, r6, r7, r8, r9, r10, r11, r12, r13, r14) := by rw [if_neg (show ¬ (false = true) by decide)] at H; exact H
                clear H
                have H := H1
                clear H1
                simp only [Option.some.injEq, Prod.mk.injEq] at H
                obtain ⟨rfl, rfl, rfl, rfl, rfl, rfl, rfl, rfl, rfl, rfl, rfl, rfl, rfl, rfl⟩ := H
                obtain ⟨i042, hi042, _, hsz42, _⟩ := info_parts info9
                obtain ⟨A42, hcut42, hA42, hC42⟩ := print_drop_of (P := Tryz.prog) Value.string (⟨#[]⟩ : ByteArray) 32 9 .i64 Tryz.underlying32 hi042 hsz42 (some ad527) c0 l0 3 (by omega) (of_decide_eq_true (by first | (with_reducible assumption) | assumption)) HC0.out
                have HR537 := As.mk (Kd.C_of_reads (h1 := fun _ => rfl) (hA42 _ (Kd.reads_of_C HR0.out)))
                have HC537 := As.mk hC42
                clear hA42 hC42 hi042 hsz42
                go_wp2_with (first | ((with_reducible refine gC (f := 66) rfl ?_); refine goesL_ (some 57) rfl rfl Tryz.func66 (by kernel_rfl) rfl #[.pointer (some ⟨gb531, 0, none⟩), .slice A42 (l0.drop 3).length (c0 - 3)] rfl (by (try simp only [List.map_toArray, List.map_cons, List.map_nil]); first | done | (rw [show (l0.drop 3).length = (l0.length - 3) from List.length_drop] <;> rfl) | rfl | (simp only [List.length_drop, List.length_take]; rfl)) ?_; (with_reducible refine (zone_ends.calls kj23 gb531 t528 x532001_23 x532002_11 x532003_23 (rdOf ByteArray.empty l0 2) false 0 0 0 0 0 0 0 _ _ (l0.drop 3) t538 t539 t540 t541 t542 t543 t544 t545 t546 t547 t548 t549 t550 t551 w _ ?side1 ?side2 ?side3 ?side4 ?side5 ?side6 A31.out).mono ?_); (case side1 => exact HG.out); (case side2 => exact ⟨by (with_reducible repeat (first | refine kN ?_ _ | refine kD ?_ | refine kA ?_ _)); exact BK531.out, GE531.out⟩); (case side3 => repeat (first | (with_reducible first | exact HB.out | apply bA | apply bN | apply bD | refine bS ?_ (IsS45.ge BXX531.out) | refine bS ?_ GE526.out | refine bS ?_ GE531.out) | exact HB.out)); (case side4 => repeat (first | exact (Kd.C_below HR537.out HB.out) | (with_reducible refine Kd.C_alloc ?_ _) | (with_reducible refine Kd.C_drewN ?_ _) | (with_reducible refine Kd.C_drew ?_))); (case side5 => exact HC537.out); (case side6 => exact Kd.far_C (⟨#[]⟩ : ByteArray) HR537.out GE531.out); rintro e w43 ⟨rfl, hi, hb, hk⟩; refine ⟨_, rfl, ?_⟩; have n0_ := As.mk (KeepBut.blk hk (g' := gb526) (o := .cells #[.int .i64 0, .int .i64 0, .int .i64 0, .string (⟨#[]⟩ : ByteArray), .string (⟨#[]⟩ : ByteArray), .bool false, .int .i64 0, .int .i64 0, .int .i64 0, .int .i64 0, .int .i64 0, .int .i64 0, .int .i64 0] 45 (0, 0)) (by (with_reducible repeat (first | refine kN ?_ _ | refine kD ?_ | refine kA ?_ _)); exact BK526.out) NB526_531.out (by simp)); have n1_ := As.mk (hi.1); have n2_ := As.mk (hb); clear BK526; clear BK531; clear HB; have BK526 := n0_; have BK531 := n1_; have HB := n2_; clear n0_ n1_ n2_; (try clear hb); (try clear hb2); (try clear hk); (try clear hi); have hnb44 := NB531_526.out; have hnc44 := NB526_531.out; obtain ⟨hcz45_0, hcz45_1, hcz45_2, hcz45_3, hcz45_4, hcz45_5, hcz45_6, hcz45_7, hcz45_8, hcz45_9, hcz45_10, hcz45_11, hcz45_12, hfz45_0, hfz45_1, hfz45_2, hfz45_3, hfz45_4, hfz45_5, hfz45_6, hfz45_7, hfz45_8, hfz45_9, hfz45_10, hfz45_11, hfz45_12⟩ := cl13 BK531.out) | ((with_reducible refine gC (f := 64) rfl ?_); refine goesL_ (some 63) rfl rfl Tryz.func64 (by kernel_rfl) rfl #[.agg #[.int .i64 t539, .int .i64 t540, .int .i64 t541, .string t542, .string t543, .bool t544, .int .i64 t545, .int .i64 t546, .int .i64 t547, .int .i64 t548, .int .i64 t549, .int .i64 t550, .int .i64 t551]] rfl (by (try simp only [List.map_toArray, List.map_cons, List.map_nil]); first | done | rfl | (simp only [List.length_drop, List.length_take]; rfl)) ?_; (with_reducible refine (zone_right.calls kj23 t539 t540 t541 t542 t543 t544 t545 t546 t547 t548 t549 t550 t551 false _ A33.out).mono ?_); rintro e w46 ⟨rfl, hb⟩; refine ⟨_, rfl, ?_⟩; have n0_ := As.mk (kB (g := gb526) (o := .cells #[.int .i64 0, .int .i64 0, .int .i64 0, .string (⟨#[]⟩ : ByteArray), .string (⟨#[]⟩ : ByteArray), .bool false, .int .i64 0, .int .i64 0, .int .i64 0, .int .i64 0, .int .i64 0, .int .i64 0, .int .i64 0] 45 (0, 0)) (by (with_reducible repeat (first | refine kN ?_ _ | refine kD ?_ | refine kA ?_ _)); exact BK526.out) hb); have n1_ := As.mk (kB (g := gb531) (o := .cells #[.int .i64 t539, .int .i64 t540, .int .i64 t541, .string t542, .string t543, .bool t544, .int .i64 t545, .int .i64 t546, .int .i64 t547, .int .i64 t548, .int .i64 t549, .int .i64 t550, .int .i64 t551] 45 (0, 0)) (by (with_reducible repeat (first | refine kN ?_ _ | refine kD ?_ | refine kA ?_ _)); exact BK531.out) hb); have n2_ := As.mk (bT (by repeat (first | (with_reducible first | exact HB.out | apply bA | apply bN | apply bD | refine bS ?_ GE526.out | refine bS ?_ GE531.out) | exact HB.out)) hb); clear BK526; clear BK531; clear HB; have BK526 := n0_; have BK531 := n1_; have HB := n2_; clear n0_ n1_ n2_; (try clear hb); (try clear hb2); (try clear hk); (try clear hi); obtain ⟨hcz47_0, hcz47_1, hcz47_2, hcz47_3, hcz47_4, hcz47_5, hcz47_6, hcz47_7, hcz47_8, hcz47_9, hcz47_10, hcz47_11, hcz47_12, hfz47_0, hfz47_1, hfz47_2, hfz47_3, hfz47_4, hfz47_5, hfz47_6, hfz47_7, hfz47_8, hfz47_9, hfz47_10, hfz47_11, hfz47_12⟩ := cl13 BK526.out))
                refine bodyPost_ret (results_ct rfl _ _ gb526 45 #[.int .i64 0, .int .i64 0, .int .i64 0, .string (⟨#[]⟩ : ByteArray), .string (⟨#[]⟩ : ByteArray), .bool false, .int .i64 0, .int .i64 0, .int .i64 0, .int .i64 0, .int .i64 0, .int .i64 0, .int .i64 0] (0, 0) _ rfl (by (with_reducible repeat (first | refine kN ?_ _ | refine kD ?_ | refine kA ?_ _)); refine blk_put (cs := #[.int .i64 0, .int .i64 0, .int .i64 0, .string (⟨#[]⟩ : ByteArray), .string (⟨#[]⟩ : ByteArray), .bool false, .int .i64 0, .int .i64 0, .int .i64 0, .int .i64 0, .int .i64 0, .int .i64 0, .int .i64 0]) ?_ 12 _ rfl; (with_reducible repeat (first | refine kN ?_ _ | refine kD ?_ | refine kA ?_ _)); refine blk_put (cs := #[.int .i64 0, .int .i64 0, .int .i64 0, .string (⟨#[]⟩ : ByteArray), .string (⟨#[]⟩ : ByteArray), .bool false, .int .i64 0, .int .i64 0, .int .i64 0, .int .i64 0, .int .i64 0, .int .i64 0, .int .i64 0]) ?_ 11 _ rfl; (with_reducible repeat (first | refine kN ?_ _ | refine kD ?_ | refine kA ?_ _)); refine blk_put (cs := #[.int .i64 0, .int .i64 0, .int .i64 0, .string (⟨#[]⟩ : ByteArray), .string (⟨#[]⟩ : ByteArray), .bool false, .int .i64 0, .int .i64 0, .int .i64 0, .int .i64 0, .int .i64 0, .int .i64 0, .int .i64 0]) ?_ 10 _ rfl; (with_reducible repeat (first | refine kN ?_ _ | refine kD ?_ | refine kA ?_ _)); refine blk_put (cs := #[.int .i64 0, .int .i64 0, .int .i64 0, .string (⟨#[]⟩ : ByteArray), .string (⟨#[]⟩ : ByteArray), .bool false, .int .i64 0, .int .i64 0, .int .i64 0, .int .i64 0, .int .i64 0, .int .i64 0, .int .i64 0]) ?_ 9 _ rfl; (with_reducible repeat (first | refine kN ?_ _ | refine kD ?_ | refine kA ?_ _)); refine blk_put (cs := #[.int .i64 0, .int .i64 0, .int .i64 0, .string (⟨#[]⟩ : ByteArray), .string (⟨#[]⟩ : ByteArray), .bool false, .int .i64 0, .int .i64 0, .int .i64 0, .int .i64 0, .int .i64 0, .int .i64 0, .int .i64 0]) ?_ 8 _ rfl; (with_reducible repeat (first | refine kN ?_ _ | refine kD ?_ | refine kA ?_ _)); refine blk_put (cs := #[.int .i64 0, .int .i64 0, .int .i64 0, .string (⟨#[]⟩ : ByteArray), .string (⟨#[]⟩ : ByteArray), .bool false, .int .i64 0, .int .i64 0, .int .i64 0, .int .i64 0, .int .i64 0, .int .i64 0, .int .i64 0]) ?_ 7 _ rfl; (with_reducible repeat (first | refine kN ?_ _ | refine kD ?_ | refine kA ?_ _)); refine blk_put (cs := #[.int .i64 0, .int .i64 0, .int .i64 0, .string (⟨#[]⟩ : ByteArray), .string (⟨#[]⟩ : ByteArray), .bool false, .int .i64 0, .int .i64 0, .int .i64 0, .int .i64 0, .int .i64 0, .int .i64 0, .int .i64 0]) ?_ 6 _ rfl; (with_reducible repeat (first | refine kN ?_ _ | refine kD ?_ | refine kA ?_ _)); refine blk_put (cs := #[.int .i64 0, .int .i64 0, .int .i64 0, .string (⟨#[]⟩ : ByteArray), .string (⟨#[]⟩ : ByteArray), .bool false, .int .i64 0, .int .i64 0, .int .i64 0, .int .i64 0, .int .i64 0, .int .i64 0, .int .i64 0]) ?_ 5 _ rfl; (with_reducible repeat (first | refine kN ?_ _ | refine kD ?_ | refine kA ?_ _)); refine blk_put (cs := #[.int .i64 0, .int .i64 0, .int .i64 0, .string (⟨#[]⟩ : ByteArray), .string (⟨#[]⟩ : ByteArray), .bool false, .int .i64 0, .int .i64 0, .int .i64 0, .int .i64 0, .int .i64 0, .int .i64 0, .int .i64 0]) ?_ 4 _ rfl; (with_reducible repeat (first | refine kN ?_ _ | refine kD ?_ | refine kA ?_ _)); refine blk_put (cs := #[.int .i64 0, .int .i64 0, .int .i64 0, .string (⟨#[]⟩ : ByteArray), .string (⟨#[]⟩ : ByteArray), .bool false, .int .i64 0, .int .i64 0, .int .i64 0, .int .i64 0, .int .i64 0, .int .i64 0, .int .i64 0]) ?_ 3 _ rfl; (with_reducible repeat (first | refine kN ?_ _ | refine kD ?_ | refine kA ?_ _)); refine blk_put (cs := #[.int .i64 0, .int .i64 0, .int .i64 0, .string (⟨#[]⟩ : ByteArray), .string (⟨#[]⟩ : ByteArray), .bool false, .int .i64 0, .int .i64 0, .int .i64 0, .int .i64 0, .int .i64 0, .int .i64 0, .int .i64 0]) ?_ 2 _ rfl; (with_reducible repeat (first | refine kN ?_ _ | refine kD ?_ | refine kA ?_ _)); refine blk_put (cs := #[.int .i64 0, .int .i64 0, .int .i64 0, .string (⟨#[]⟩ : ByteArray), .string (⟨#[]⟩ : ByteArray), .bool false, .int .i64 0, .int .i64 0, .int .i64 0, .int .i64 0, .int .i64 0, .int .i64 0, .int .i64 0]) ?_ 1 _ rfl; (with_reducible repeat (first | refine kN ?_ _ | refine kD ?_ | refine kA ?_ _)); refine blk_put (cs := #[.int .i64 0, .int .i64 0, .int .i64 0, .string (⟨#[]⟩ : ByteArray), .string (⟨#[]⟩ : ByteArray), .bool false, .int .i64 0, .int .i64 0, .int .i64 0, .int .i64 0, .int .i64 0, .int .i64 0, .int .i64 0]) ?_ 0 _ rfl; (with_reducible repeat (first | refine kN ?_ _ | refine kD ?_ | refine kA ?_ _)); exact BK526.out) Tryz.underlying45 rfl (by kernel_rfl)) rfl ?_
                exact ⟨by first | rfl | (simp [eN, eS] <;> rfl) | (simp [*, eN, eS] <;> rfl), by repeat (first | (with_reducible first | exact HB.out | apply bA | apply bN | apply bD | refine bS ?_ GE526.out | refine bS ?_ GE531.out) | exact HB.out)⟩
              ·rw [if_neg c32] at H
               have c32b0 : (t538 == 0) = false := beq_eq_false_iff_ne.mpr c32
               have c32b1 : (t538 != 0) = true := bne_iff_ne.mpr c32
               simp only [Option.some.injEq, Prod.mk.injEq] at H
               obtain ⟨rfl, rfl, rfl, rfl, rfl, rfl, rfl, rfl, rfl, rfl, rfl, rfl, rfl, rfl⟩ := H
               obtain ⟨i048, hi048, _, hsz48, _⟩ := info_parts info9
               obtain ⟨A48, hcut48, hA48, hC48⟩ := print_drop_of (P := Tryz.prog) Value.string (⟨#[]⟩ : ByteArray) 32 9 .i64 Tryz.underlying32 hi048 hsz48 (some ad527) c0 l0 3 (by omega) (of_decide_eq_true (by first | (with_reducible assumption) | assumption)) HC0.out
               have HR537 := As.mk (Kd.C_of_reads (h1 := fun _ => rfl) (hA48 _ (Kd.reads_of_C HR0.out)))
               have HC537 := As.mk hC48
               clear hA48 hC48 hi048 hsz48
               go_wp2_with (first | ((with_reducible refine gC (f := 66) rfl ?_); refine goesL_ (some 57) rfl rfl Tryz.func66 (by kernel_rfl) rfl #[.pointer (some ⟨gb531, 0, none⟩), .slice A48 (l0.drop 3).length (c0 - 3)] rfl (by (try simp only [List.map_toArray, List.map_cons, List.map_nil]); first | done | (rw [show (l0.drop 3).length = (l0.length - 3) from List.length_drop] <;> rfl) | rfl | (simp only [List.length_drop, List.length_take]; rfl)) ?_; (with_reducible refine (zone_ends.calls kj23 gb531 t528 x532001_23 x532002_11 x532003_23 (rdOf ByteArray.empty l0 2) false 0 0 0 0 0 0 0 _ _ (l0.drop 3) t538 t539 t540 t541 t542 t543 t544 t545 t546 t547 t548 t549 t550 t551 w _ ?side1 ?side2 ?side3 ?side4 ?side5 ?side6 A31.out).mono ?_); (case side1 => exact HG.out); (case side2 => exact ⟨by (with_reducible repeat (first | refine kN ?_ _ | refine kD ?_ | refine kA ?_ _)); exact BK531.out, GE531.out⟩); (case side3 => repeat (first | (with_reducible first | exact HB.out | apply bA | apply bN | apply bD | refine bS ?_ (IsS45.ge BXX531.out) | refine bS ?_ GE526.out | refine bS ?_ GE531.out) | exact HB.out)); (case side4 => repeat (first | exact (Kd.C_below HR537.out HB.out) | (with_reducible refine Kd.C_alloc ?_ _) | (with_reducible refine Kd.C_drewN ?_ _) | (with_reducible refine Kd.C_drew ?_))); (case side5 => exact HC537.out); (case side6 => exact Kd.far_C (⟨#[]⟩ : ByteArray) HR537.out GE531.out); rintro e w49 ⟨rfl, hi, hb, hk⟩; refine ⟨_, rfl, ?_⟩; have n0_ := As.mk (KeepBut.blk hk (g' := gb526) (o := .cells #[.int .i64 0, .int .i64 0, .int .i64 0, .string (⟨#[]⟩ : ByteArray), .string (⟨#[]⟩ : ByteArray), .bool false, .int .i64 0, .int .i64 0, .int .i64 0, .int .i64 0, .int .i64 0, .int .i64 0, .int .i64 0] 45 (0, 0)) (by (with_reducible repeat (first | refine kN ?_ _ | refine kD ?_ | refine kA ?_ _)); exact BK526.out) NB526_531.out (by simp)); have n1_ := As.mk (hi.1); have n2_ := As.mk (hb); clear BK526; clear BK531; clear HB; have BK526 := n0_; have BK531 := n1_; have HB := n2_; clear n0_ n1_ n2_; (try clear hb); (try clear hb2); (try clear hk); (try clear hi); have hnb50 := NB526_531.out; have hnc50 := NB531_526.out; obtain ⟨hcz51_0, hcz51_1, hcz51_2, hcz51_3, hcz51_4, hcz51_5, hcz51_6, hcz51_7, hcz51_8, hcz51_9, hcz51_10, hcz51_11, hcz51_12, hfz51_0, hfz51_1, hfz51_2, hfz51_3, hfz51_4, hfz51_5, hfz51_6, hfz51_7, hfz51_8, hfz51_9, hfz51_10, hfz51_11, hfz51_12⟩ := cl13 BK526.out))
               refine bodyPost_ret (results_ct rfl _ _ gb526 45 #[.int .i64 0, .int .i64 0, .int .i64 0, .string (⟨#[]⟩ : ByteArray), .string (⟨#[]⟩ : ByteArray), .bool false, .int .i64 0, .int .i64 0, .int .i64 0, .int .i64 0, .int .i64 0, .int .i64 0, .int .i64 0] (0, 0) _ rfl (by (with_reducible repeat (first | refine kN ?_ _ | refine kD ?_ | refine kA ?_ _)); refine blk_put (cs := #[.int .i64 0, .int .i64 0, .int .i64 0, .string (⟨#[]⟩ : ByteArray), .string (⟨#[]⟩ : ByteArray), .bool false, .int .i64 0, .int .i64 0, .int .i64 0, .int .i64 0, .int .i64 0, .int .i64 0, .int .i64 0]) ?_ 12 _ rfl; (with_reducible repeat (first | refine kN ?_ _ | refine kD ?_ | refine kA ?_ _)); refine blk_put (cs := #[.int .i64 0, .int .i64 0, .int .i64 0, .string (⟨#[]⟩ : ByteArray), .string (⟨#[]⟩ : ByteArray), .bool false, .int .i64 0, .int .i64 0, .int .i64 0, .int .i64 0, .int .i64 0, .int .i64 0, .int .i64 0]) ?_ 11 _ rfl; (with_reducible repeat (first | refine kN ?_ _ | refine kD ?_ | refine kA ?_ _)); refine blk_put (cs := #[.int .i64 0, .int .i64 0, .int .i64 0, .string (⟨#[]⟩ : ByteArray), .string (⟨#[]⟩ : ByteArray), .bool false, .int .i64 0, .int .i64 0, .int .i64 0, .int .i64 0, .int .i64 0, .int .i64 0, .int .i64 0]) ?_ 10 _ rfl; (with_reducible repeat (first | refine kN ?_ _ | refine kD ?_ | refine kA ?_ _)); refine blk_put (cs := #[.int .i64 0, .int .i64 0, .int .i64 0, .string (⟨#[]⟩ : ByteArray), .string (⟨#[]⟩ : ByteArray), .bool false, .int .i64 0, .int .i64 0, .int .i64 0, .int .i64 0, .int .i64 0, .int .i64 0, .int .i64 0]) ?_ 9 _ rfl; (with_reducible repeat (first | refine kN ?_ _ | refine kD ?_ | refine kA ?_ _)); refine blk_put (cs := #[.int .i64 0, .int .i64 0, .int .i64 0, .string (⟨#[]⟩ : ByteArray), .string (⟨#[]⟩ : ByteArray), .bool false, .int .i64 0, .int .i64 0, .int .i64 0, .int .i64 0, .int .i64 0, .int .i64 0, .int .i64 0]) ?_ 8 _ rfl; (with_reducible repeat (first | refine kN ?_ _ | refine kD ?_ | refine kA ?_ _)); refine blk_put (cs := #[.int .i64 0, .int .i64 0, .int .i64 0, .string (⟨#[]⟩ : ByteArray), .string (⟨#[]⟩ : ByteArray), .bool false, .int .i64 0, .int .i64 0, .int .i64 0, .int .i64 0, .int .i64 0, .int .i64 0, .int .i64 0]) ?_ 7 _ rfl; (with_reducible repeat (first | refine kN ?_ _ | refine kD ?_ | refine kA ?_ _)); refine blk_put (cs := #[.int .i64 0, .int .i64 0, .int .i64 0, .string (⟨#[]⟩ : ByteArray), .string (⟨#[]⟩ : ByteArray), .bool false, .int .i64 0, .int .i64 0, .int .i64 0, .int .i64 0, .int .i64 0, .int .i64 0, .int .i64 0]) ?_ 6 _ rfl; (with_reducible repeat (first | refine kN ?_ _ | refine kD ?_ | refine kA ?_ _)); refine blk_put (cs := #[.int .i64 0, .int .i64 0, .int .i64 0, .string (⟨#[]⟩ : ByteArray), .string (⟨#[]⟩ : ByteArray), .bool false, .int .i64 0, .int .i64 0, .int .i64 0, .int .i64 0, .int .i64 0, .int .i64 0, .int .i64 0]) ?_ 5 _ rfl; (with_reducible repeat (first | refine kN ?_ _ | refine kD ?_ | refine kA ?_ _)); refine blk_put (cs := #[.int .i64 0, .int .i64 0, .int .i64 0, .string (⟨#[]⟩ : ByteArray), .string (⟨#[]⟩ : ByteArray), .bool false, .int .i64 0, .int .i64 0, .int .i64 0, .int .i64 0, .int .i64 0, .int .i64 0, .int .i64 0]) ?_ 4 _ rfl; (with_reducible repeat (first | refine kN ?_ _ | refine kD ?_ | refine kA ?_ _)); refine blk_put (cs := #[.int .i64 0, .int .i64 0, .int .i64 0, .string (⟨#[]⟩ : ByteArray), .string (⟨#[]⟩ : ByteArray), .bool false, .int .i64 0, .int .i64 0, .int .i64 0, .int .i64 0, .int .i64 0, .int .i64 0, .int .i64 0]) ?_ 3 _ rfl; (with_reducible repeat (first | refine kN ?_ _ | refine kD ?_ | refine kA ?_ _)); refine blk_put (cs := #[.int .i64 0, .int .i64 0, .int .i64 0, .string (⟨#[]⟩ : ByteArray), .string (⟨#[]⟩ : ByteArray), .bool false, .int .i64 0, .int .i64 0, .int .i64 0, .int .i64 0, .int .i64 0, .int .i64 0, .int .i64 0]) ?_ 2 _ rfl; (with_reducible repeat (first | refine kN ?_ _ | refine kD ?_ | refine kA ?_ _)); refine blk_put (cs := #[.int .i64 0, .int .i64 0, .int .i64 0, .string (⟨#[]⟩ : ByteArray), .string (⟨#[]⟩ : ByteArray), .bool false, .int .i64 0, .int .i64 0, .int .i64 0, .int .i64 0, .int .i64 0, .int .i64 0, .int .i64 0]) ?_ 1 _ rfl; (with_reducible repeat (first | refine kN ?_ _ | refine kD ?_ | refine kA ?_ _)); refine blk_put (cs := #[.int .i64 0, .int .i64 0, .int .i64 0, .string (⟨#[]⟩ : ByteArray), .string (⟨#[]⟩ : ByteArray), .bool false, .int .i64 0, .int .i64 0, .int .i64 0, .int .i64 0, .int .i64 0, .int .i64 0, .int .i64 0]) ?_ 0 _ rfl; (with_reducible repeat (first | refine kN ?_ _ | refine kD ?_ | refine kA ?_ _)); exact BK526.out) Tryz.underlying45 rfl (by kernel_rfl)) rfl ?_
               exact ⟨by first | rfl | (simp [eN, eS] <;> rfl) | (simp [*, eN, eS] <;> rfl), by repeat (first | (with_reducible first | exact HB.out | apply bA | apply bN | apply bD | refine bS ?_ (IsS45.ge BXX531.out) | refine bS ?_ GE526.out | refine bS ?_ GE531.out) | exact HB.out)⟩
             ·rw [if_neg c30] at H
              exact absurd H (by simp)
            ·rw [if_neg c29] at H
             have c29b0 : decide (3 < (l0.length : Int)) = false := decide_eq_false c29
             have c29b1 : decide (3 < l0.length) = false := decide_eq_false (by omega)
             clear c29
             replace H := Option.bind_eq_some_iff.mp H
             obtain ⟨t553, A520, H⟩ := H
             (try dsimp only at H)
             have A52 := As.mk A520
             clear A520
             by_cases c53 : t553 = true
             ·subst c53
              have H1 : (some (t528, x532001_23, x532002_11, x532003_23, (rdOf ByteArray.empty l0 2), false, 0, 0, 0, 0, 0, 0, 0, 0)) = some (r1, r2, r3, r4, r5, r6, r7, r8, r9, r10, r11, r12, r13, r14) := by rw [if_pos rfl] at H; exact H
              clear H
              have H := H1
              clear H1
              simp only [Option.some.injEq, Prod.mk.injEq] at H
              obtain ⟨rfl, rfl, rfl, rfl, rfl, rfl, rfl, rfl, rfl, rfl, rfl, rfl, rfl, rfl⟩ := H
              have hnb54 := NB531_526.out
              have hnc54 := NB526_531.out
              obtain ⟨hcz55_0, hcz55_1, hcz55_2, hcz55_3, hcz55_4, hcz55_5, hcz55_6, hcz55_7, hcz55_8, hcz55_9, hcz55_10, hcz55_11, hcz55_12, hfz55_0, hfz55_1, hfz55_2, hfz55_3, hfz55_4, hfz55_5, hfz55_6, hfz55_7, hfz55_8, hfz55_9, hfz55_10, hfz55_11, hfz55_12⟩ := cl13 BK531.out
              go_wp2_with (first | ((with_reducible refine gC (f := 64) rfl ?_); refine goesL_ (some 63) rfl rfl Tryz.func64 (by kernel_rfl) rfl #[.agg #[.int .i64 t528, .int .i64 x532001_23, .int .i64 x532002_11, .string x532003_23, .string (rdOf ByteArray.empty l0 2), .bool false, .int .i64 0, .int .i64 0, .int .i64 0, .int .i64 0, .int .i64 0, .int .i64 0, .int .i64 0]] rfl (by (try simp only [List.map_toArray, List.map_cons, List.map_nil]); first | done | rfl | (simp only [List.length_drop, List.length_take]; rfl)) ?_; (with_reducible refine (zone_right.calls kj23 t528 x532001_23 x532002_11 x532003_23 (rdOf ByteArray.empty l0 2) false 0 0 0 0 0 0 0 true _ A52.out).mono ?_); rintro e w56 ⟨rfl, hb⟩; refine ⟨_, rfl, ?_⟩; have n0_ := As.mk (kB (g := gb526) (o := .cells #[.int .i64 0, .int .i64 0, .int .i64 0, .string (⟨#[]⟩ : ByteArray), .string (⟨#[]⟩ : ByteArray), .bool false, .int .i64 0, .int .i64 0, .int .i64 0, .int .i64 0, .int .i64 0, .int .i64 0, .int .i64 0] 45 (0, 0)) (by (with_reducible repeat (first | refine kN ?_ _ | refine kD ?_ | refine kA ?_ _)); exact BK526.out) hb); have n1_ := As.mk (kB (g := gb531) (o := .cells #[.int .i64 t528, .int .i64 x532001_23, .int .i64 x532002_11, .string x532003_23, .string (rdOf ByteArray.empty l0 2), .bool false, .int .i64 0, .int .i64 0, .int .i64 0, .int .i64 0, .int .i64 0, .int .i64 0, .int .i64 0] 45 (0, 0)) (by (with_reducible repeat (first | refine kN ?_ _ | refine kD ?_ | refine kA ?_ _)); exact BK531.out) hb); have n2_ := As.mk (bT (by repeat (first | (with_reducible first | exact HB.out | apply bA | apply bN | apply bD | refine bS ?_ GE526.out | refine bS ?_ GE531.out) | exact HB.out)) hb); clear BK526; clear BK531; clear HB; have BK526 := n0_; have BK531 := n1_; have HB := n2_; clear n0_ n1_ n2_; (try clear hb); (try clear hb2); (try clear hk); (try clear hi); obtain ⟨hcz57_0, hcz57_1, hcz57_2, hcz57_3, hcz57_4, hcz57_5, hcz57_6, hcz57_7, hcz57_8, hcz57_9, hcz57_10, hcz57_11, hcz57_12, hfz57_0, hfz57_1, hfz57_2, hfz57_3, hfz57_4, hfz57_5, hfz57_6, hfz57_7, hfz57_8, hfz57_9, hfz57_10, hfz57_11, hfz57_12⟩ := cl13 BK531.out; obtain ⟨hcz58_0, hcz58_1, hcz58_2, hcz58_3, hcz58_4, hcz58_5, hcz58_6, hcz58_7, hcz58_8, hcz58_9, hcz58_10, hcz58_11, hcz58_12, hfz58_0, hfz58_1, hfz58_2, hfz58_3, hfz58_4, hfz58_5, hfz58_6, hfz58_7, hfz58_8, hfz58_9, hfz58_10, hfz58_11, hfz58_12⟩ := cl13 BK526.out))
              refine bodyPost_ret (results_ct rfl _ _ gb526 45 #[.int .i64 t528, .int .i64 x532001_23, .int .i64 x532002_11, .string x532003_23, .string (rdOf ByteArray.empty l0 2), .bool false, .int .i64 0, .int .i64 0, .int .i64 0, .int .i64 0, .int .i64 0, .int .i64 0, .int .i64 0] (0, 0) _ rfl (by (with_reducible repeat (first | refine kN ?_ _ | refine kD ?_ | refine kA ?_ _)); refine blk_put (cs := #[.int .i64 t528, .int .i64 x532001_23, .int .i64 x532002_11, .string x532003_23, .string (rdOf ByteArray.empty l0 2), .bool false, .int .i64 0, .int .i64 0, .int .i64 0, .int .i64 0, .int .i64 0, .int .i64 0, .int .i64 0]) ?_ 12 _ rfl; (with_reducible repeat (first | refine kN ?_ _ | refine kD ?_ | refine kA ?_ _)); refine blk_put (cs := #[.int .i64 t528, .int .i64 x532001_23, .int .i64 x532002_11, .string x532003_23, .string (rdOf ByteArray.empty l0 2), .bool false, .int .i64 0, .int .i64 0, .int .i64 0, .int .i64 0, .int .i64 0, .int .i64 0, .int .i64 0]) ?_ 11 _ rfl; (with_reducible repeat (first | refine kN ?_ _ | refine kD ?_ | refine kA ?_ _)); refine blk_put (cs := #[.int .i64 t528, .int .i64 x532001_23, .int .i64 x532002_11, .string x532003_23, .string (rdOf ByteArray.empty l0 2), .bool false, .int .i64 0, .int .i64 0, .int .i64 0, .int .i64 0, .int .i64 0, .int .i64 0, .int .i64 0]) ?_ 10 _ rfl; (with_reducible repeat (first | refine kN ?_ _ | refine kD ?_ | refine kA ?_ _)); refine blk_put (cs := #[.int .i64 t528, .int .i64 x532001_23, .int .i64 x532002_11, .string x532003_23, .string (rdOf ByteArray.empty l0 2), .bool false, .int .i64 0, .int .i64 0, .int .i64 0, .int .i64 0, .int .i64 0, .int .i64 0, .int .i64 0]) ?_ 9 _ rfl; (with_reducible repeat (first | refine kN ?_ _ | refine kD ?_ | refine kA ?_ _)); refine blk_put (cs := #[.int .i64 t528, .int .i64 x532001_23, .int .i64 x532002_11, .string x532003_23, .string (rdOf ByteArray.empty l0 2), .bool false, .int .i64 0, .int .i64 0, .int .i64 0, .int .i64 0, .int .i64 0, .int .i64 0, .int .i64 0]) ?_ 8 _ rfl; (with_reducible repeat (first | refine kN ?_ _ | refine kD ?_ | refine kA ?_ _)); refine blk_put (cs := #[.int .i64 t528, .int .i64 x532001_23, .int .i64 x532002_11, .string x532003_23, .string (rdOf ByteArray.empty l0 2), .bool false, .int .i64 0, .int .i64 0, .int .i64 0, .int .i64 0, .int .i64 0, .int .i64 0, .int .i64 0]) ?_ 7 _ rfl; (with_reducible repeat (first | refine kN ?_ _ | refine kD ?_ | refine kA ?_ _)); refine blk_put (cs := #[.int .i64 t528, .int .i64 x532001_23, .int .i64 x532002_11, .string x532003_23, .string (rdOf ByteArray.empty l0 2), .bool false, .int .i64 0, .int .i64 0, .int .i64 0, .int .i64 0, .int .i64 0, .int .i64 0, .int .i64 0]) ?_ 6 _ rfl; (with_reducible repeat (first | refine kN ?_ _ | refine kD ?_ | refine kA ?_ _)); refine blk_put (cs := #[.int .i64 t528, .int .i64 x532001_23, .int .i64 x532002_11, .string x532003_23, .string (rdOf ByteArray.empty l0 2), .bool false, .int .i64 0, .int .i64 0, .int .i64 0, .int .i64 0, .int .i64 0, .int .i64 0, .int .i64 0]) ?_ 5 _ rfl; (with_reducible repeat (first | refine kN ?_ _ | refine kD ?_ | refine kA ?_ _)); refine blk_put (cs := #[.int .i64 t528, .int .i64 x532001_23, .int .i64 x532002_11, .string x532003_23, .string (⟨#[]⟩ : ByteArray), .bool false, .int .i64 0, .int .i64 0, .int .i64 0, .int .i64 0, .int .i64 0, .int .i64 0, .int .i64 0]) ?_ 4 _ rfl; (with_reducible repeat (first | refine kN ?_ _ | refine kD ?_ | refine kA ?_ _)); refine blk_put (cs := #[.int .i64 t528, .int .i64 x532001_23, .int .i64 x532002_11, .string (⟨#[]⟩ : ByteArray), .string (⟨#[]⟩ : ByteArray), .bool false, .int .i64 0, .int .i64 0, .int .i64 0, .int .i64 0, .int .i64 0, .int .i64 0, .int .i64 0]) ?_ 3 _ rfl; (with_reducible repeat (first | refine kN ?_ _ | refine kD ?_ | refine kA ?_ _)); refine blk_put (cs := #[.int .i64 t528, .int .i64 x532001_23, .int .i64 0, .string (⟨#[]⟩ : ByteArray), .string (⟨#[]⟩ : ByteArray), .bool false, .int .i64 0, .int .i64 0, .int .i64 0, .int .i64 0, .int .i64 0, .int .i64 0, .int .i64 0]) ?_ 2 _ rfl; (with_reducible repeat (first | refine kN ?_ _ | refine kD ?_ | refine kA ?_ _)); refine blk_put (cs := #[.int .i64 t528, .int .i64 0, .int .i64 0, .string (⟨#[]⟩ : ByteArray), .string (⟨#[]⟩ : ByteArray), .bool false, .int .i64 0, .int .i64 0, .int .i64 0, .int .i64 0, .int .i64 0, .int .i64 0, .int .i64 0]) ?_ 1 _ rfl; (with_reducible repeat (first | refine kN ?_ _ | refine kD ?_ | refine kA ?_ _)); refine blk_put (cs := #[.int .i64 0, .int .i64 0, .int .i64 0, .string (⟨#[]⟩ : ByteArray), .string (⟨#[]⟩ : ByteArray), .bool false, .int .i64 0, .int .i64 0, .int .i64 0, .int .i64 0, .int .i64 0, .int .i64 0, .int .i64 0]) ?_ 0 _ rfl; (with_reducible repeat (first | refine kN ?_ _ | refine kD ?_ | refine kA ?_ _)); exact BK526.out) Tryz.underlying45 rfl (by kernel_rfl)) rfl ?_
              exact ⟨by first | rfl | (simp [eN, eS] <;> rfl) | (simp [*, eN, eS] <;> rfl), by repeat (first | (with_reducible first | exact HB.out | apply bA | apply bN | apply bD | refine bS ?_ GE526.out | refine bS ?_ GE531.out) | exact HB.out)⟩
             ·replace c53 := Bool.eq_false_iff.mpr c53
              subst c53
              have H1 : (some (0, 0, 0, (⟨#[]⟩ : ByteArray), (⟨#[]⟩ : ByteArray), false, 0, 0, 0, 0, 0, 0, 0, 11)) = some (r1, r2, r3, r4, r5, r6, r7, r8, r9, r10, r11, r12, r13, r14) := by rw [if_neg (show ¬ (false = true) by decide)] at H; exact H
              clear H
              have H := H1
              clear H1
              simp only [Option.some.injEq, Prod.mk.injEq] at H
              obtain ⟨rfl, rfl, rfl, rfl, rfl, rfl, rfl, rfl, rfl, rfl, rfl, rfl, rfl, rfl⟩ := H
              have hnb59 := NB531_526.out
              have hnc59 := NB526_531.out
              obtain ⟨hcz60_0, hcz60_1, hcz60_2, hcz60_3, hcz60_4, hcz60_5, hcz60_6, hcz60_7, hcz60_8, hcz60_9, hcz60_10, hcz60_11, hcz60_12, hfz60_0, hfz60_1, hfz60_2, hfz60_3, hfz60_4, hfz60_5, hfz60_6, hfz60_7, hfz60_8, hfz60_9, hfz60_10, hfz60_11, hfz60_12⟩ := cl13 BK531.out
              go_wp2_with (first | ((with_reducible refine gC (f := 64) rfl ?_); refine goesL_ (some 63) rfl rfl Tryz.func64 (by kernel_rfl) rfl #[.agg #[.int .i64 t528, .int .i64 x532001_23, .int .i64 x532002_11, .string x532003_23, .string (rdOf ByteArray.empty l0 2), .bool false, .int .i64 0, .int .i64 0, .int .i64 0, .int .i64 0, .int .i64 0, .int .i64 0, .int .i64 0]] rfl (by (try simp only [List.map_toArray, List.map_cons, List.map_nil]); first | done | rfl | (simp only [List.length_drop, List.length_take]; rfl)) ?_; (with_reducible refine (zone_right.calls kj23 t528 x532001_23 x532002_11 x532003_23 (rdOf ByteArray.empty l0 2) false 0 0 0 0 0 0 0 false _ A52.out).mono ?_); rintro e w61 ⟨rfl, hb⟩; refine ⟨_, rfl, ?_⟩; have n0_ := As.mk (kB (g := gb526) (o := .cells #[.int .i64 0, .int .i64 0, .int .i64 0, .string (⟨#[]⟩ : ByteArray), .string (⟨#[]⟩ : ByteArray), .bool false, .int .i64 0, .int .i64 0, .int .i64 0, .int .i64 0, .int .i64 0, .int .i64 0, .int .i64 0] 45 (0, 0)) (by (with_reducible repeat (first | refine kN ?_ _ | refine kD ?_ | refine kA ?_ _)); exact BK526.out) hb); have n1_ := As.mk (kB (g := gb531) (o := .cells #[.int .i64 t528, .int .i64 x532001_23, .int .i64 x532002_11, .string x532003_23, .string (rdOf ByteArray.empty l0 2), .bool false, .int .i64 0, .int .i64 0, .int .i64 0, .int .i64 0, .int .i64 0, .int .i64 0, .int .i64 0] 45 (0, 0)) (by (with_reducible repeat (first | refine kN ?_ _ | refine kD ?_ | refine kA ?_ _)); exact BK531.out) hb); have n2_ := As.mk (bT (by repeat (first | (with_reducible first | exact HB.out | apply bA | apply bN | apply bD | refine bS ?_ GE526.out | refine bS ?_ GE531.out) | exact HB.out)) hb); clear BK526; clear BK531; clear HB; have BK526 := n0_; have BK531 := n1_; have HB := n2_; clear n0_ n1_ n2_; (try clear hb); (try clear hb2); (try clear hk); (try clear hi); obtain ⟨hcz62_0, hcz62_1, hcz62_2, hcz62_3, hcz62_4, hcz62_5, hcz62_6, hcz62_7, hcz62_8, hcz62_9, hcz62_10, hcz62_11, hcz62_12, hfz62_0, hfz62_1, hfz62_2, hfz62_3, hfz62_4, hfz62_5, hfz62_6, hfz62_7, hfz62_8, hfz62_9, hfz62_10, hfz62_11, hfz62_12⟩ := cl13 BK526.out))
              refine bodyPost_ret (results_ct rfl _ _ gb526 45 #[.int .i64 0, .int .i64 0, .int .i64 0, .string (⟨#[]⟩ : ByteArray), .string (⟨#[]⟩ : ByteArray), .bool false, .int .i64 0, .int .i64 0, .int .i64 0, .int .i64 0, .int .i64 0, .int .i64 0, .int .i64 0] (0, 0) _ rfl (by (with_reducible repeat (first | refine kN ?_ _ | refine kD ?_ | refine kA ?_ _)); refine blk_put (cs := #[.int .i64 0, .int .i64 0, .int .i64 0, .string (⟨#[]⟩ : ByteArray), .string (⟨#[]⟩ : ByteArray), .bool false, .int .i64 0, .int .i64 0, .int .i64 0, .int .i64 0, .int .i64 0, .int .i64 0, .int .i64 0]) ?_ 12 _ rfl; (with_reducible repeat (first | refine kN ?_ _ | refine kD ?_ | refine kA ?_ _)); refine blk_put (cs := #[.int .i64 0, .int .i64 0, .int .i64 0, .string (⟨#[]⟩ : ByteArray), .string (⟨#[]⟩ : ByteArray), .bool false, .int .i64 0, .int .i64 0, .int .i64 0, .int .i64 0, .int .i64 0, .int .i64 0, .int .i64 0]) ?_ 11 _ rfl; (with_reducible repeat (first | refine kN ?_ _ | refine kD ?_ | refine kA ?_ _)); refine blk_put (cs := #[.int .i64 0, .int .i64 0, .int .i64 0, .string (⟨#[]⟩ : ByteArray), .string (⟨#[]⟩ : ByteArray), .bool false, .int .i64 0, .int .i64 0, .int .i64 0, .int .i64 0, .int .i64 0, .int .i64 0, .int .i64 0]) ?_ 10 _ rfl; (with_reducible repeat (first | refine kN ?_ _ | refine kD ?_ | refine kA ?_ _)); refine blk_put (cs := #[.int .i64 0, .int .i64 0, .int .i64 0, .string (⟨#[]⟩ : ByteArray), .string (⟨#[]⟩ : ByteArray), .bool false, .int .i64 0, .int .i64 0, .int .i64 0, .int .i64 0, .int .i64 0, .int .i64 0, .int .i64 0]) ?_ 9 _ rfl; (with_reducible repeat (first | refine kN ?_ _ | refine kD ?_ | refine kA ?_ _)); refine blk_put (cs := #[.int .i64 0, .int .i64 0, .int .i64 0, .string (⟨#[]⟩ : ByteArray), .string (⟨#[]⟩ : ByteArray), .bool false, .int .i64 0, .int .i64 0, .int .i64 0, .int .i64 0, .int .i64 0, .int .i64 0, .int .i64 0]) ?_ 8 _ rfl; (with_reducible repeat (first | refine kN ?_ _ | refine kD ?_ | refine kA ?_ _)); refine blk_put (cs := #[.int .i64 0, .int .i64 0, .int .i64 0, .string (⟨#[]⟩ : ByteArray), .string (⟨#[]⟩ : ByteArray), .bool false, .int .i64 0, .int .i64 0, .int .i64 0, .int .i64 0, .int .i64 0, .int .i64 0, .int .i64 0]) ?_ 7 _ rfl; (with_reducible repeat (first | refine kN ?_ _ | refine kD ?_ | refine kA ?_ _)); refine blk_put (cs := #[.int .i64 0, .int .i64 0, .int .i64 0, .string (⟨#[]⟩ : ByteArray), .string (⟨#[]⟩ : ByteArray), .bool false, .int .i64 0, .int .i64 0, .int .i64 0, .int .i64 0, .int .i64 0, .int .i64 0, .int .i64 0]) ?_ 6 _ rfl; (with_reducible repeat (first | refine kN ?_ _ | refine kD ?_ | refine kA ?_ _)); refine blk_put (cs := #[.int .i64 0, .int .i64 0, .int .i64 0, .string (⟨#[]⟩ : ByteArray), .string (⟨#[]⟩ : ByteArray), .bool false, .int .i64 0, .int .i64 0, .int .i64 0, .int .i64 0, .int .i64 0, .int .i64 0, .int .i64 0]) ?_ 5 _ rfl; (with_reducible repeat (first | refine kN ?_ _ | refine kD ?_ | refine kA ?_ _)); refine blk_put (cs := #[.int .i64 0, .int .i64 0, .int .i64 0, .string (⟨#[]⟩ : ByteArray), .string (⟨#[]⟩ : ByteArray), .bool false, .int .i64 0, .int .i64 0, .int .i64 0, .int .i64 0, .int .i64 0, .int .i64 0, .int .i64 0]) ?_ 4 _ rfl; (with_reducible repeat (first | refine kN ?_ _ | refine kD ?_ | refine kA ?_ _)); refine blk_put (cs := #[.int .i64 0, .int .i64 0, .int .i64 0, .string (⟨#[]⟩ : ByteArray), .string (⟨#[]⟩ : ByteArray), .bool false, .int .i64 0, .int .i64 0, .int .i64 0, .int .i64 0, .int .i64 0, .int .i64 0, .int .i64 0]) ?_ 3 _ rfl; (with_reducible repeat (first | refine kN ?_ _ | refine kD ?_ | refine kA ?_ _)); refine blk_put (cs := #[.int .i64 0, .int .i64 0, .int .i64 0, .string (⟨#[]⟩ : ByteArray), .string (⟨#[]⟩ : ByteArray), .bool false, .int .i64 0, .int .i64 0, .int .i64 0, .int .i64 0, .int .i64 0, .int .i64 0, .int .i64 0]) ?_ 2 _ rfl; (with_reducible repeat (first | refine kN ?_ _ | refine kD ?_ | refine kA ?_ _)); refine blk_put (cs := #[.int .i64 0, .int .i64 0, .int .i64 0, .string (⟨#[]⟩ : ByteArray), .string (⟨#[]⟩ : ByteArray), .bool false, .int .i64 0, .int .i64 0, .int .i64 0, .int .i64 0, .int .i64 0, .int .i64 0, .int .i64 0]) ?_ 1 _ rfl; (with_reducible repeat (first | refine kN ?_ _ | refine kD ?_ | refine kA ?_ _)); refine blk_put (cs := #[.int .i64 0, .int .i64 0, .int .i64 0, .string (⟨#[]⟩ : ByteArray), .string (⟨#[]⟩ : ByteArray), .bool false, .int .i64 0, .int .i64 0, .int .i64 0, .int .i64 0, .int .i64 0, .int .i64 0, .int .i64 0]) ?_ 0 _ rfl; (with_reducible repeat (first | refine kN ?_ _ | refine kD ?_ | refine kA ?_ _)); exact BK526.out) Tryz.underlying45 rfl (by kernel_rfl)) rfl ?_
              exact ⟨by first | rfl | (simp [eN, eS] <;> rfl) | (simp [*, eN, eS] <;> rfl), by repeat (first | (with_reducible first | exact HB.out | apply bA | apply bN | apply bD | refine bS ?_ GE526.out | refine bS ?_ GE531.out) | exact HB.out)⟩
       ·rw [if_neg c11] at H
        exact absurd H (by simp)
      ·rw [if_neg c10] at H
       exact absurd H (by simp)
     ·rw [if_neg c9] at H
      have c9b0 : (t529 == 0) = false := beq_eq_false_iff_ne.mpr c9
      have c9b1 : (t529 != 0) = true := bne_iff_ne.mpr c9
      simp only [Option.some.injEq, Prod.mk.injEq] at H
      obtain ⟨rfl, rfl, rfl, rfl, rfl, rfl, rfl, rfl, rfl, rfl, rfl, rfl, rfl, rfl⟩ := H
      have p527 : 0 ≤ (0 : Int) := (by omega)
      have q527 : 0 < (l0.length : Int) := of_decide_eq_true (by first | (with_reducible assumption) | assumption)
      obtain ⟨ad527, e527, hx527_0⟩ := Kd.at_string HR0.out 0 p527 q527
      cases e527
      have qi527 : (0 < l0.length) = True := eq_true (by omega)
      (try rw [show ((0 : Int)).toNat = 0 from rfl] at hx527_0)
      (try rw [Addr.add_zero'] at hx527_0)
      replace hx527_0 := (HB.out.cell (World.block_lt_of_cell? w _ hx527_0)).trans hx527_0
      replace p527 := eq_true p527
      replace q527 := eq_true q527
      go_wp2_with (first | ((with_reducible refine gC (f := 65) rfl ?_); refine goesL_ (some 20) rfl rfl Tryz.func65 (by kernel_rfl) rfl #[.string (rdOf ByteArray.empty l0 0)] rfl (by (try simp only [List.map_toArray, List.map_cons, List.map_nil]); first | done | rfl | (simp only [List.length_drop, List.length_take]; rfl)) ?_; (with_reducible refine (clock_Parse.calls kj1 (rdOf ByteArray.empty l0 0) t528 t529 _ ?side1 A8.out).mono ?_); (case side1 => exact GW.on HG.out (by repeat (first | (with_reducible first | exact HB.out | apply bA | apply bN | apply bD | refine bS ?_ GE526.out) | exact HB.out))); rintro e w63 ⟨rfl, hb⟩; refine ⟨_, rfl, ?_⟩; have n0_ := As.mk (kB (g := gb526) (o := .cells #[.int .i64 0, .int .i64 0, .int .i64 0, .string (⟨#[]⟩ : ByteArray), .string (⟨#[]⟩ : ByteArray), .bool false, .int .i64 0, .int .i64 0, .int .i64 0, .int .i64 0, .int .i64 0, .int .i64 0, .int .i64 0] 45 (0, 0)) (by (with_reducible repeat (first | refine kN ?_ _ | refine kD ?_ | refine kA ?_ _)); exact BK526.out) hb); have n1_ := As.mk (bT (by repeat (first | (with_reducible first | exact HB.out | apply bA | apply bN | apply bD | refine bS ?_ GE526.out) | exact HB.out)) hb); clear BK526; clear HB; have BK526 := n0_; have HB := n1_; clear n0_ n1_; (try clear hb); (try clear hb2); (try clear hk); (try clear hi); obtain ⟨hcz64_0, hcz64_1, hcz64_2, hcz64_3, hcz64_4, hcz64_5, hcz64_6, hcz64_7, hcz64_8, hcz64_9, hcz64_10, hcz64_11, hcz64_12, hfz64_0, hfz64_1, hfz64_2, hfz64_3, hfz64_4, hfz64_5, hfz64_6, hfz64_7, hfz64_8, hfz64_9, hfz64_10, hfz64_11, hfz64_12⟩ := cl13 BK526.out))
      refine bodyPost_ret (results_ct rfl _ _ gb526 45 #[.int .i64 0, .int .i64 0, .int .i64 0, .string (⟨#[]⟩ : ByteArray), .string (⟨#[]⟩ : ByteArray), .bool false, .int .i64 0, .int .i64 0, .int .i64 0, .int .i64 0, .int .i64 0, .int .i64 0, .int .i64 0] (0, 0) _ rfl (by (with_reducible repeat (first | refine kN ?_ _ | refine kD ?_ | refine kA ?_ _)); refine blk_put (cs := #[.int .i64 0, .int .i64 0, .int .i64 0, .string (⟨#[]⟩ : ByteArray), .string (⟨#[]⟩ : ByteArray), .bool false, .int .i64 0, .int .i64 0, .int .i64 0, .int .i64 0, .int .i64 0, .int .i64 0, .int .i64 0]) ?_ 12 _ rfl; (with_reducible repeat (first | refine kN ?_ _ | refine kD ?_ | refine kA ?_ _)); refine blk_put (cs := #[.int .i64 0, .int .i64 0, .int .i64 0, .string (⟨#[]⟩ : ByteArray), .string (⟨#[]⟩ : ByteArray), .bool false, .int .i64 0, .int .i64 0, .int .i64 0, .int .i64 0, .int .i64 0, .int .i64 0, .int .i64 0]) ?_ 11 _ rfl; (with_reducible repeat (first | refine kN ?_ _ | refine kD ?_ | refine kA ?_ _)); refine blk_put (cs := #[.int .i64 0, .int .i64 0, .int .i64 0, .string (⟨#[]⟩ : ByteArray), .string (⟨#[]⟩ : ByteArray), .bool false, .int .i64 0, .int .i64 0, .int .i64 0, .int .i64 0, .int .i64 0, .int .i64 0, .int .i64 0]) ?_ 10 _ rfl; (with_reducible repeat (first | refine kN ?_ _ | refine kD ?_ | refine kA ?_ _)); refine blk_put (cs := #[.int .i64 0, .int .i64 0, .int .i64 0, .string (⟨#[]⟩ : ByteArray), .string (⟨#[]⟩ : ByteArray), .bool false, .int .i64 0, .int .i64 0, .int .i64 0, .int .i64 0, .int .i64 0, .int .i64 0, .int .i64 0]) ?_ 9 _ rfl; (with_reducible repeat (first | refine kN ?_ _ | refine kD ?_ | refine kA ?_ _)); refine blk_put (cs := #[.int .i64 0, .int .i64 0, .int .i64 0, .string (⟨#[]⟩ : ByteArray), .string (⟨#[]⟩ : ByteArray), .bool false, .int .i64 0, .int .i64 0, .int .i64 0, .int .i64 0, .int .i64 0, .int .i64 0, .int .i64 0]) ?_ 8 _ rfl; (with_reducible repeat (first | refine kN ?_ _ | refine kD ?_ | refine kA ?_ _)); refine blk_put (cs := #[.int .i64 0, .int .i64 0, .int .i64 0, .string (⟨#[]⟩ : ByteArray), .string (⟨#[]⟩ : ByteArray), .bool false, .int .i64 0, .int .i64 0, .int .i64 0, .int .i64 0, .int .i64 0, .int .i64 0, .int .i64 0]) ?_ 7 _ rfl; (with_reducible repeat (first | refine kN ?_ _ | refine kD ?_ | refine kA ?_ _)); refine blk_put (cs := #[.int .i64 0, .int .i64 0, .int .i64 0, .string (⟨#[]⟩ : ByteArray), .string (⟨#[]⟩ : ByteArray), .bool false, .int .i64 0, .int .i64 0, .int .i64 0, .int .i64 0, .int .i64 0, .int .i64 0, .int .i64 0]) ?_ 6 _ rfl; (with_reducible repeat (first | refine kN ?_ _ | refine kD ?_ | refine kA ?_ _)); refine blk_put (cs := #[.int .i64 0, .int .i64 0, .int .i64 0, .string (⟨#[]⟩ : ByteArray), .string (⟨#[]⟩ : ByteArray), .bool false, .int .i64 0, .int .i64 0, .int .i64 0, .int .i64 0, .int .i64 0, .int .i64 0, .int .i64 0]) ?_ 5 _ rfl; (with_reducible repeat (first | refine kN ?_ _ | refine kD ?_ | refine kA ?_ _)); refine blk_put (cs := #[.int .i64 0, .int .i64 0, .int .i64 0, .string (⟨#[]⟩ : ByteArray), .string (⟨#[]⟩ : ByteArray), .bool false, .int .i64 0, .int .i64 0, .int .i64 0, .int .i64 0, .int .i64 0, .int .i64 0, .int .i64 0]) ?_ 4 _ rfl; (with_reducible repeat (first | refine kN ?_ _ | refine kD ?_ | refine kA ?_ _)); refine blk_put (cs := #[.int .i64 0, .int .i64 0, .int .i64 0, .string (⟨#[]⟩ : ByteArray), .string (⟨#[]⟩ : ByteArray), .bool false, .int .i64 0, .int .i64 0, .int .i64 0, .int .i64 0, .int .i64 0, .int .i64 0, .int .i64 0]) ?_ 3 _ rfl; (with_reducible repeat (first | refine kN ?_ _ | refine kD ?_ | refine kA ?_ _)); refine blk_put (cs := #[.int .i64 0, .int .i64 0, .int .i64 0, .string (⟨#[]⟩ : ByteArray), .string (⟨#[]⟩ : ByteArray), .bool false, .int .i64 0, .int .i64 0, .int .i64 0, .int .i64 0, .int .i64 0, .int .i64 0, .int .i64 0]) ?_ 2 _ rfl; (with_reducible repeat (first | refine kN ?_ _ | refine kD ?_ | refine kA ?_ _)); refine blk_put (cs := #[.int .i64 0, .int .i64 0, .int .i64 0, .string (⟨#[]⟩ : ByteArray), .string (⟨#[]⟩ : ByteArray), .bool false, .int .i64 0, .int .i64 0, .int .i64 0, .int .i64 0, .int .i64 0, .int .i64 0, .int .i64 0]) ?_ 1 _ rfl; (with_reducible repeat (first | refine kN ?_ _ | refine kD ?_ | refine kA ?_ _)); refine blk_put (cs := #[.int .i64 0, .int .i64 0, .int .i64 0, .string (⟨#[]⟩ : ByteArray), .string (⟨#[]⟩ : ByteArray), .bool false, .int .i64 0, .int .i64 0, .int .i64 0, .int .i64 0, .int .i64 0, .int .i64 0, .int .i64 0]) ?_ 0 _ rfl; (with_reducible repeat (first | refine kN ?_ _ | refine kD ?_ | refine kA ?_ _)); exact BK526.out) Tryz.underlying45 rfl (by kernel_rfl)) rfl ?_
      exact ⟨by first | rfl | (simp [eN, eS] <;> rfl) | (simp [*, eN, eS] <;> rfl), by repeat (first | (with_reducible first | exact HB.out | apply bA | apply bN | apply bD | refine bS ?_ GE526.out) | exact HB.out)⟩
    ·rw [if_neg c7] at H
     exact absurd H (by simp)
mutual
def zone_Check.j0 : Nat → Bool → ByteArray → List (S45) → Option (Int)
 | 0, _, _, _ => none
 | k + 1, x20, x555000, x555001 => if x20 = true then (some 11) else (zone_Check.l0 k x555001 (x555001.length : Int) 0 x555000 x555001)
def zone_Check.l0 : Nat → List (S45) → Int → Int → ByteArray → List (S45) → Option (Int)
 | 0, _, _, _, _, _ => none
 | k + 1, x22, x23, x24, x555000, x555001 => if x24 < x23 then (if 0 ≤ x24 then (if x24 < (x22.length : Int) then ((zone_right.f k ((rd_T45 x22 x24).f0) ((rd_T45 x22 x24).f1) ((rd_T45 x22 x24).f2) ((rd_T45 x22 x24).f3) ((rd_T45 x22 x24).f4) ((rd_T45 x22 x24).f5) ((rd_T45 x22 x24).f6) ((rd_T45 x22 x24).f7) ((rd_T45 x22 x24).f8.f0) ((rd_T45 x22 x24).f8.f1) ((rd_T45 x22 x24).f8.f2) ((rd_T45 x22 x24).f9.f0) ((rd_T45 x22 x24).f9.f1)).bind fun t558 => (if t558 = true then (if (((rd_T45 x22 x24).f5) != (decide (x24 < (wrap64 ((x555001.length : Int) - 1))))) = true then (some 11) else (zone_Check.l0 k x22 x23 (wrap64 (x24 + 1)) x555000 x555001)) else (some 11))) else (none)) else (none)) else (some 0)
end
def zone_Check.f (k : Nat) (a0_0 : ByteArray) (l0_1 : List (S45)) : Option (Int) := (rule_Name.f k a0_0).bind fun t555 => (if t555 = true then (if (l0_1.length : Int) < 1 then (zone_Check.j0 k true a0_0 l0_1) else (zone_Check.j0 k (decide ((l0_1.length : Int) > 30)) a0_0 l0_1)) else (zone_Check.j0 k true a0_0 l0_1))
set_option maxHeartbeats 8000000 in
set_option maxRecDepth 100000 in
theorem zone_Check.calls (k : Nat) (a0_0 : ByteArray) (A0_1 : Option Addr) (c0_1 : Nat) (l0_1 : List (S45)) (r : Int) (w : World) (hr0_1 : Kd.C k45 w A0_1 l0_1.length l0_1) (hc0_1 : l0_1.length ≤ c0_1) (h : zone_Check.f k a0_0 l0_1 = some r) :
  Calls Tryz.prog 29 #[.agg #[.string a0_0, .slice A0_1 l0_1.length c0_1]] w fun e w' => e = .returned (.int .i64 r) ∧ Below w.heap.size w w' := by
 have hu54 := Tryz.underlying54
 have hu45 := Tryz.underlying45
 have HR0_1 := As.mk hr0_1
 have HC0_1 := As.mk hc0_1
 clear hr0_1 hc0_1
 have HB := As.mk (Below.refl w.heap.size w)
 have H : ((rule_Name.f k a0_0).bind fun t555 => (if t555 = true then (if (l0_1.length : Int) < 1 then (zone_Check.j0 k true a0_0 l0_1) else (zone_Check.j0 k (decide ((l0_1.length : Int) > 30)) a0_0 l0_1)) else (zone_Check.j0 k true a0_0 l0_1))) = some r := h
 clear h
 have HC2 := As.mk H
 clear H
 go_enter Tryz.func29, Tryz.ntmps29
 go_upto_region 1 with (first | ((with_reducible refine gD (N := 1) rfl ?_); (try (refine gate_guard (by rfl) ?_; dsimp only)); refine xE ?hg (N := 1) ?hd (cs := #[.string a0_0, .slice A0_1 l0_1.length c0_1]) (t := 54) ?hr ?_; (case hd => rfl); (case hg => rfl); (case hr => first | (go_simp; done) | (go_simp; rfl)); intro gb554 hg w3 hbox hb; have n0_ := As.mk (bT (by repeat (first | (with_reducible first | exact HB.out | apply bA | apply bN | apply bD) | exact HB.out)) hb); have n1_ := As.mk (hbox); have n2_ := As.mk ((by rw [hg]; exact (bZ (by repeat (first | (with_reducible first | exact HB.out | apply bA | apply bN | apply bD) | exact HB.out))) : w.heap.size ≤ gb554)); have n3_ := As.mk ((by rw [hg]; exact (bZ (by repeat (first | (with_reducible first | exact HB.out | apply bA | apply bN | apply bD) | exact HB.out))) : w.heap.size ≤ gb554)); clear HB; have HB := n0_; have BK554 := n1_; have GW554 := n2_; have GE554 := n3_; clear n0_ n1_ n2_ n3_; clear hb hbox hg))
 (try simp only [Act.put, List.setIfInBounds_toArray, List.set_cons_zero, List.set_cons_succ])
 go_cut [20] (fun v20 wc => ∃ (kq : Nat) (x20_1 : Bool), v20 = .bool x20_1 ∧ As (zone_Check.j0 kq x20_1 a0_0 l0_1 = some r) ∧ As (kq ≤ k) ∧ As (wc.heap[gb554]? = some (.cells #[.string a0_0, (.slice A0_1 l0_1.length c0_1)] 54 (0, 0))) ∧ As (Below w.heap.size w wc))
 case first =>
  have H := HC2.out
  clear HC2
  replace H := Option.bind_eq_some_iff.mp H
  obtain ⟨t555, A40, H⟩ := H
  (try dsimp only at H)
  have A4 := As.mk A40
  clear A40
  by_cases c5 : t555 = true
  ·subst c5
   have H1 : (if (l0_1.length : Int) < 1 then (zone_Check.j0 k true a0_0 l0_1) else (zone_Check.j0 k (decide ((l0_1.length : Int) > 30)) a0_0 l0_1)) = some r := by rw [if_pos rfl] at H; exact H
   clear H
   have H := H1
   clear H1
   by_cases c6 : (l0_1.length : Int) < 1
   ·rw [if_pos c6] at H
    have c6b0 : decide ((l0_1.length : Int) < 1) = true := decide_eq_true c6
    have c6b1 : decide (l0_1.length < 1) = true := decide_eq_true (by omega)
    clear c6
    (first | rw [c6b0] | (simp only [i64_w, i32_w]; rw [c6b0]) | skip)
    have H' := As.mk H
    clear H
    obtain ⟨hcz7_0, hcz7_1, hfz7_0, hfz7_1⟩ := cl2 BK554.out
    go_wp2_with (first | ((with_reducible refine gC (f := 45) rfl ?_); refine goesL_ (some 7) rfl rfl Tryz.func45 (by kernel_rfl) rfl #[.string a0_0] rfl (by (try simp only [List.map_toArray, List.map_cons, List.map_nil]); first | done | rfl | (simp only [List.length_drop, List.length_take]; rfl)) ?_; (with_reducible refine (rule_Name.calls k a0_0 true _ A4.out).mono ?_); rintro e w' ⟨rfl, ⟨nd, rfl⟩⟩; refine ⟨_, rfl, ?_⟩))
    go_meet
    case rel => exact ⟨_, (true), (by first | rfl | (simp; done) | (simp [*]; done)), H', ⟨by first | omega | exact Nat.le_refl _⟩, ⟨by (with_reducible repeat (first | refine kN ?_ _ | refine kD ?_ | refine kA ?_ _)); exact BK554.out⟩, ⟨by repeat (first | (with_reducible first | exact HB.out | apply bA | apply bN | apply bD | refine bS ?_ GE554.out) | exact HB.out)⟩⟩
   ·rw [if_neg c6] at H
    have c6b0 : decide ((l0_1.length : Int) < 1) = false := decide_eq_false c6
    have c6b1 : decide (l0_1.length < 1) = false := decide_eq_false (by omega)
    clear c6
    (first | rw [c6b0] | (simp only [i64_w, i32_w]; rw [c6b0]) | skip)
    have H' := As.mk H
    clear H
    obtain ⟨hcz8_0, hcz8_1, hfz8_0, hfz8_1⟩ := cl2 BK554.out
    go_wp2_with (first | ((with_reducible refine gC (f := 45) rfl ?_); refine goesL_ (some 7) rfl rfl Tryz.func45 (by kernel_rfl) rfl #[.string a0_0] rfl (by (try simp only [List.map_toArray, List.map_cons, List.map_nil]); first | done | rfl | (simp only [List.length_drop, List.length_take]; rfl)) ?_; (with_reducible refine (rule_Name.calls k a0_0 true _ A4.out).mono ?_); rintro e w' ⟨rfl, ⟨nd, rfl⟩⟩; refine ⟨_, rfl, ?_⟩))
    go_meet
    case rel => exact ⟨_, (decide ((l0_1.length : Int) > 30)), (by first | rfl | (simp; done) | (simp [*]; done)), H', ⟨by first | omega | exact Nat.le_refl _⟩, ⟨by (with_reducible repeat (first | refine kN ?_ _ | refine kD ?_ | refine kA ?_ _)); exact BK554.out⟩, ⟨by repeat (first | (with_reducible first | exact HB.out | apply bA | apply bN | apply bD | refine bS ?_ GE554.out) | exact HB.out)⟩⟩
  ·replace c5 := Bool.eq_false_iff.mpr c5
   subst c5
   have H1 : (zone_Check.j0 k true a0_0 l0_1) = some r := by rw [if_neg (show ¬ (false = true) by decide)] at H; exact H
   clear H
   have H := H1
   clear H1
   have H' := As.mk H
   clear H
   obtain ⟨hcz9_0, hcz9_1, hfz9_0, hfz9_1⟩ := cl2 BK554.out
   go_wp2_with (first | ((with_reducible refine gC (f := 45) rfl ?_); refine goesL_ (some 7) rfl rfl Tryz.func45 (by kernel_rfl) rfl #[.string a0_0] rfl (by (try simp only [List.map_toArray, List.map_cons, List.map_nil]); first | done | rfl | (simp only [List.length_drop, List.length_take]; rfl)) ?_; (with_reducible refine (rule_Name.calls k a0_0 false _ A4.out).mono ?_); rintro e w' ⟨rfl, ⟨nd, rfl⟩⟩; refine ⟨_, rfl, ?_⟩))
   go_meet
   case rel => exact ⟨_, (true), (by first | rfl | (simp; done) | (simp [*]; done)), H', ⟨by first | omega | exact Nat.le_refl _⟩, ⟨by (with_reducible repeat (first | refine kN ?_ _ | refine kD ?_ | refine kA ?_ _)); exact BK554.out⟩, ⟨by repeat (first | (with_reducible first | exact HB.out | apply bA | apply bN | apply bD | refine bS ?_ GE554.out) | exact HB.out)⟩⟩
 case rest =>
  clear HC2
  try clear c2
  try clear p2
  try clear c4
  try clear c5
  try clear c6
  try clear c6b0
  try clear c6b1
  try clear hcz7_0
  try clear hcz7_1
  try clear hcz8_0
  try clear hcz8_1
  try clear hcz9_0
  try clear hcz9_1
  try clear hfz7_0
  try clear hfz7_1
  try clear hfz8_0
  try clear hfz8_1
  try clear hfz9_0
  try clear hfz9_1
  obtain ⟨kq, x20_1, rfl, HA, HJ1, BK554, HB⟩ := hcut
  cases kq with
  | zero => exact absurd HA.out (by simp [zone_Check.j0])
  | succ kj1 =>
   have H := HA.out
   clear HA
   simp only [zone_Check.j0] at H
   by_cases c10 : x20_1 = true
   ·subst c10
    have H1 : (some 11) = some r := by rw [if_pos rfl] at H; exact H
    clear H
    have H := H1
    clear H1
    obtain rfl := Option.some.inj H
    go_wp2
    go_ret
    exact ⟨by first | rfl | (simp [eN, eS] <;> rfl) | (simp [*, eN, eS] <;> rfl), by repeat (first | (with_reducible first | exact HB.out | apply bA | apply bN | apply bD | refine bS ?_ GE554.out) | exact HB.out)⟩
   ·replace c10 := Bool.eq_false_iff.mpr c10
    subst c10
    have H1 : (zone_Check.l0 kj1 l0_1 (l0_1.length : Int) 0 a0_0 l0_1) = some r := by rw [if_neg (show ¬ (false = true) by decide)] at H; exact H
    clear H
    have H := H1
    clear H1
    have H' := As.mk H
    clear H
    obtain ⟨hcz11_0, hcz11_1, hfz11_0, hfz11_1⟩ := cl2 BK554.out
    go_wp2
    go_loopg [24] kj1 (fun kq v24 w' => ∃ (x24_2 : Int), v24 = .int .i64 x24_2 ∧ As (zone_Check.l0 kq l0_1 (l0_1.length : Int) x24_2 a0_0 l0_1 = some r) ∧ As (kq ≤ kj1) ∧ As (w'.heap[gb554]? = some (.cells #[.string a0_0, (.slice A0_1 l0_1.length c0_1)] 54 (0, 0))) ∧ As (Below w.heap.size w w'))
    case atStart => exact ⟨(0), (by first | rfl | (simp; done) | (simp [*]; done)), H', ⟨Nat.le_refl _⟩, ⟨by (with_reducible repeat (first | refine kN ?_ _ | refine kD ?_ | refine kA ?_ _)); exact BK554.out⟩, ⟨by repeat (first | (with_reducible first | exact HB.out | apply bA | apply bN | apply bD | refine bS ?_ GE554.out) | exact HB.out)⟩⟩
    case round =>
     clear H'
     try clear c1
     try clear c2
     try clear p2
     try clear c4
     try clear c5
     try clear c6
     try clear c6b0
     try clear c6b1
     try clear c10
     try clear hcz11_0
     try clear hcz11_1
     try clear hcz7_0
     try clear hcz7_1
     try clear hcz8_0
     try clear hcz8_1
     try clear hcz9_0
     try clear hcz9_1
     try clear hfz11_0
     try clear hfz11_1
     try clear hfz7_0
     try clear hfz7_1
     try clear hfz8_0
     try clear hfz8_1
     try clear hfz9_0
     try clear hfz9_1
     try clear p2
     obtain ⟨x24_2, rfl, HA, HK2, BK554, HB⟩ := hrel
     cases gk with
     | zero => exact absurd HA.out (by simp [zone_Check.l0])
     | succ k2 =>
      have H := HA.out
      clear HA
      simp only [zone_Check.l0] at H
      by_cases c12 : x24_2 < (l0_1.length : Int)
      ·rw [if_pos c12] at H
       have c12b0 : decide (x24_2 < (l0_1.length : Int)) = true := decide_eq_true c12
       clear c12
       by_cases c13 : 0 ≤ x24_2
       ·rw [if_pos c13] at H
        have c13b0 : decide (0 ≤ x24_2) = true := decide_eq_true c13
        clear c13
        by_cases c14 : x24_2 < (l0_1.length : Int)
        ·rw [if_pos c14] at H
         have c14b0 : decide (x24_2 < (l0_1.length : Int)) = true := decide_eq_true c14
         clear c14
         replace H := Option.bind_eq_some_iff.mp H
         obtain ⟨t558, A150, H⟩ := H
         (try dsimp only at H)
         have A15 := As.mk A150
         clear A150
         by_cases c16 : t558 = true
         ·subst c16
          have H1 : (if (((rd_T45 l0_1 x24_2).f5) != (decide (x24_2 < (wrap64 ((l0_1.length : Int) - 1))))) = true then (some 11) else (zone_Check.l0 k2 l0_1 (l0_1.length : Int) (wrap64 (x24_2 + 1)) a0_0 l0_1)) = some r := by rw [if_pos rfl] at H; exact H
          clear H
          have H := H1
          clear H1
          by_cases c17 : (((rd_T45 l0_1 x24_2).f5) != (decide (x24_2 < (wrap64 ((l0_1.length : Int) - 1))))) = true
          ·rw [if_pos c17] at H
           have c17b0 : (((rd_T45 l0_1 x24_2).f5) != (decide (x24_2 < (wrap64 ((l0_1.length : Int) - 1))))) = true := c17
           (try (have c17b1 : decide (((rd_T45 l0_1 x24_2).f5) = (decide (x24_2 < (wrap64 ((l0_1.length : Int) - 1))))) = false := by simpa using c17))
           (try (have c17b2 : (((rd_T45 l0_1 x24_2).f5) == (decide (x24_2 < (wrap64 ((l0_1.length : Int) - 1))))) = false := by simpa using c17))
           (try (have c17b3 : ¬ (((rd_T45 l0_1 x24_2).f5) = (decide (x24_2 < (wrap64 ((l0_1.length : Int) - 1))))) := by simpa using c17))
           clear c17
           obtain rfl := Option.some.inj H
           have p556 : 0 ≤ (x24_2 : Int) := of_decide_eq_true (by first | (with_reducible assumption) | assumption)
           have q556 : x24_2 < (l0_1.length : Int) := of_decide_eq_true (by first | (with_reducible assumption) | assumption)
           obtain ⟨ad556, e556, hx556_0, hx556_1, hx556_2, hx556_3, hx556_4, hx556_5, hx556_6, hx556_7, hx556_8, hx556_9, hx556_10, hx556_11, hx556_12⟩ := at_T45 HR0_1.out x24_2 p556 q556
           cases e556
           replace hx556_0 := (HB.out.cell (World.block_lt_of_cell? w _ hx556_0)).trans hx556_0
           replace hx556_1 := (HB.out.cell (World.block_lt_of_cell? w _ hx556_1)).trans hx556_1
           replace hx556_2 := (HB.out.cell (World.block_lt_of_cell? w _ hx556_2)).trans hx556_2
           replace hx556_3 := (HB.out.cell (World.block_lt_of_cell? w _ hx556_3)).trans hx556_3
           replace hx556_4 := (HB.out.cell (World.block_lt_of_cell? w _ hx556_4)).trans hx556_4
           replace hx556_5 := (HB.out.cell (World.block_lt_of_cell? w _ hx556_5)).trans hx556_5
           replace hx556_6 := (HB.out.cell (World.block_lt_of_cell? w _ hx556_6)).trans hx556_6
           replace hx556_7 := (HB.out.cell (World.block_lt_of_cell? w _ hx556_7)).trans hx556_7
           replace hx556_8 := (HB.out.cell (World.block_lt_of_cell? w _ hx556_8)).trans hx556_8
           replace hx556_9 := (HB.out.cell (World.block_lt_of_cell? w _ hx556_9)).trans hx556_9
           replace hx556_10 := (HB.out.cell (World.block_lt_of_cell? w _ hx556_10)).trans hx556_10
           replace hx556_11 := (HB.out.cell (World.block_lt_of_cell? w _ hx556_11)).trans hx556_11
           replace hx556_12 := (HB.out.cell (World.block_lt_of_cell? w _ hx556_12)).trans hx556_12
           replace p556 := eq_true p556
           replace q556 := eq_true q556
           go_wp2_with (first | ((with_reducible refine gD (N := 4) rfl ?_); (try (refine gate_guard (by rfl) ?_; dsimp only)); refine xE ?hg (N := 4) ?hd (cs := #[.int .i64 0, .int .i64 0, .int .i64 0, .string (⟨#[]⟩ : ByteArray), .string (⟨#[]⟩ : ByteArray), .bool false, .int .i64 0, .int .i64 0, .int .i64 0, .int .i64 0, .int .i64 0, .int .i64 0, .int .i64 0]) (t := 45) ?hr ?_; (case hd => rfl); (case hg => rfl); (case hr => first | (go_simp; done) | (go_simp; rfl)); intro gb557 hg w18 hbox hb; have n0_ := As.mk (kB (g := gb554) (o := .cells #[.string a0_0, .slice (some ad556) l0_1.length c0_1] 54 (0, 0)) (by (with_reducible repeat (first | refine kN ?_ _ | refine kD ?_ | refine kA ?_ _)); exact BK554.out) hb); have n1_ := As.mk (bT (by repeat (first | (with_reducible first | exact HB.out | apply bA | apply bN | apply bD | refine bS ?_ GE554.out) | exact HB.out)) hb); have n2_ := As.mk (hbox); have n3_ := As.mk ((by rw [hg]; exact (bZ (by repeat (first | (with_reducible first | exact HB.out | apply bA | apply bN | apply bD | refine bS ?_ GE554.out) | exact HB.out))) : w.heap.size ≤ gb557)); have n4_ := As.mk ((by rw [hg]; exact (bZ (by repeat (first | (with_reducible first | exact HB.out | apply bA | apply bN | apply bD | refine bS ?_ GE554.out) | exact HB.out))) : w.heap.size ≤ gb557)); have n5_ := As.mk ((by rw [hg]; exact Nat.ne_of_lt (blk_lt (g := gb554) (o := .cells #[.string a0_0, .slice (some ad556) l0_1.length c0_1] 54 (0, 0)) (by (with_reducible repeat (first | refine kN ?_ _ | refine kD ?_ | refine kA ?_ _)); exact BK554.out)) : gb554 ≠ gb557)); have n6_ := As.mk ((by rw [hg]; exact Nat.ne_of_gt (blk_lt (g := gb554) (o := .cells #[.string a0_0, .slice (some ad556) l0_1.length c0_1] 54 (0, 0)) (by (with_reducible repeat (first | refine kN ?_ _ | refine kD ?_ | refine kA ?_ _)); exact BK554.out)) : gb557 ≠ gb554)); clear BK554; clear HB; have BK554 := n0_; have HB := n1_; have BK557 := n2_; have GW557 := n3_; have GE557 := n4_; have NB554_557 := n5_; have NB557_554 := n6_; clear n0_ n1_ n2_ n3_ n4_ n5_ n6_; clear hb hbox hg; have hnb19 := NB557_554.out; have hnc19 := NB554_557.out; obtain ⟨hcz20_0, hcz20_1, hcz20_2, hcz20_3, hcz20_4, hcz20_5, hcz20_6, hcz20_7, hcz20_8, hcz20_9, hcz20_10, hcz20_11, hcz20_12, hfz20_0, hfz20_1, hfz20_2, hfz20_3, hfz20_4, hfz20_5, hfz20_6, hfz20_7, hfz20_8, hfz20_9, hfz20_10, hfz20_11, hfz20_12⟩ := cl13 BK557.out) | ((with_reducible refine gS (t := 45) (p := 4) rfl ?_); refine store_event (t := 45) (p := 4) (v := ?vo_w21) (w1 := (((((((((((((w18.setCell ⟨gb557, 0, none⟩ (.int .i64 ((rd_T45 l0_1 x24_2).f0))).setCell ⟨gb557, 1, none⟩ (.int .i64 ((rd_T45 l0_1 x24_2).f1))).setCell ⟨gb557, 2, none⟩ (.int .i64 ((rd_T45 l0_1 x24_2).f2))).setCell ⟨gb557, 3, none⟩ (.string ((rd_T45 l0_1 x24_2).f3))).setCell ⟨gb557, 4, none⟩ (.string ((rd_T45 l0_1 x24_2).f4))).setCell ⟨gb557, 5, none⟩ (.bool ((rd_T45 l0_1 x24_2).f5))).setCell ⟨gb557, 6, none⟩ (.int .i64 ((rd_T45 l0_1 x24_2).f6))).setCell ⟨gb557, 7, none⟩ (.int .i64 ((rd_T45 l0_1 x24_2).f7))).setCell ⟨gb557, 8, none⟩ (.int .i64 ((rd_T45 l0_1 x24_2).f8.f0))).setCell ⟨gb557, 9, none⟩ (.int .i64 ((rd_T45 l0_1 x24_2).f8.f1))).setCell ⟨gb557, 10, none⟩ (.int .i64 ((rd_T45 l0_1 x24_2).f8.f2))).setCell ⟨gb557, 11, none⟩ (.int .i64 ((rd_T45 l0_1 x24_2).f9.f0))).setCell ⟨gb557, 12, none⟩ (.int .i64 ((rd_T45 l0_1 x24_2).f9.f1)))) ?hg ?ho ?hn ?hr ?_; (case ho => rfl); (case hg => rfl); (case hn => rfl); (case hr => first | (go_simp; done) | (go_simp; rfl)); intro w21 hw; have n0_ : As (w21.heap[gb554]? = some (.cells #[.string a0_0, .slice (some ad556) l0_1.length c0_1] 54 (0, 0))) := ⟨(by rw [hw]; exact (by (with_reducible repeat (first | refine kN ?_ _ | refine kD ?_ | refine kA ?_ _)); refine blk_far ?_ NB554_557.out _; (with_reducible repeat (first | refine kN ?_ _ | refine kD ?_ | refine kA ?_ _)); refine blk_far ?_ NB554_557.out _; (with_reducible repeat (first | refine kN ?_ _ | refine kD ?_ | refine kA ?_ _)); refine blk_far ?_ NB554_557.out _; (with_reducible repeat (first | refine kN ?_ _ | refine kD ?_ | refine kA ?_ _)); refine blk_far ?_ NB554_557.out _; (with_reducible repeat (first | refine kN ?_ _ | refine kD ?_ | refine kA ?_ _)); refine blk_far ?_ NB554_557.out _; (with_reducible repeat (first | refine kN ?_ _ | refine kD ?_ | refine kA ?_ _)); refine blk_far ?_ NB554_557.out _; (with_reducible repeat (first | refine kN ?_ _ | refine kD ?_ | refine kA ?_ _)); refine blk_far ?_ NB554_557.out _; (with_reducible repeat (first | refine kN ?_ _ | refine kD ?_ | refine kA ?_ _)); refine blk_far ?_ NB554_557.out _; (with_reducible repeat (first | refine kN ?_ _ | refine kD ?_ | refine kA ?_ _)); refine blk_far ?_ NB554_557.out _; (with_reducible repeat (first | refine kN ?_ _ | refine kD ?_ | refine kA ?_ _)); refine blk_far ?_ NB554_557.out _; (with_reducible repeat (first | refine kN ?_ _ | refine kD ?_ | refine kA ?_ _)); refine blk_far ?_ NB554_557.out _; (with_reducible repeat (first | refine kN ?_ _ | refine kD ?_ | refine kA ?_ _)); refine blk_far ?_ NB554_557.out _; (with_reducible repeat (first | refine kN ?_ _ | refine kD ?_ | refine kA ?_ _)); refine blk_far ?_ NB554_557.out _; (with_reducible repeat (first | refine kN ?_ _ | refine kD ?_ | refine kA ?_ _)); exact BK554.out))⟩; have n1_ : As (w21.heap[gb557]? = some (.cells #[.int .i64 ((rd_T45 l0_1 x24_2).f0), .int .i64 ((rd_T45 l0_1 x24_2).f1), .int .i64 ((rd_T45 l0_1 x24_2).f2), .string ((rd_T45 l0_1 x24_2).f3), .string ((rd_T45 l0_1 x24_2).f4), .bool ((rd_T45 l0_1 x24_2).f5), .int .i64 ((rd_T45 l0_1 x24_2).f6), .int .i64 ((rd_T45 l0_1 x24_2).f7), .int .i64 ((rd_T45 l0_1 x24_2).f8.f0), .int .i64 ((rd_T45 l0_1 x24_2).f8.f1), .int .i64 ((rd_T45 l0_1 x24_2).f8.f2), .int .i64 ((rd_T45 l0_1 x24_2).f9.f0), .int .i64 ((rd_T45 l0_1 x24_2).f9.f1)] 45 (0, 0))) := ⟨(by rw [hw]; exact (by (with_reducible repeat (first | refine kN ?_ _ | refine kD ?_ | refine kA ?_ _)); refine blk_put (cs := #[.int .i64 ((rd_T45 l0_1 x24_2).f0), .int .i64 ((rd_T45 l0_1 x24_2).f1), .int .i64 ((rd_T45 l0_1 x24_2).f2), .string ((rd_T45 l0_1 x24_2).f3), .string ((rd_T45 l0_1 x24_2).f4), .bool ((rd_T45 l0_1 x24_2).f5), .int .i64 ((rd_T45 l0_1 x24_2).f6), .int .i64 ((rd_T45 l0_1 x24_2).f7), .int .i64 ((rd_T45 l0_1 x24_2).f8.f0), .int .i64 ((rd_T45 l0_1 x24_2).f8.f1), .int .i64 ((rd_T45 l0_1 x24_2).f8.f2), .int .i64 ((rd_T45 l0_1 x24_2).f9.f0), .int .i64 0]) ?_ 12 _ rfl; (with_reducible repeat (first | refine kN ?_ _ | refine kD ?_ | refine kA ?_ _)); refine blk_put (cs := #[.int .i64 ((rd_T45 l0_1 x24_2).f0), .int .i64 ((rd_T45 l0_1 x24_2).f1), .int .i64 ((rd_T45 l0_1 x24_2).f2), .string ((rd_T45 l0_1 x24_2).f3), .string ((rd_T45 l0_1 x24_2).f4), .bool ((rd_T45 l0_1 x24_2).f5), .int .i64 ((rd_T45 l0_1 x24_2).f6), .int .i64 ((rd_T45 l0_1 x24_2).f7), .int .i64 ((rd_T45 l0_1 x24_2).f8.f0), .int .i64 ((rd_T45 l0_1 x24_2).f8.f1), .int .i64 ((rd_T45 l0_1 x24_2).f8.f2), .int .i64 0, .int .i64 0]) ?_ 11 _ rfl; (with_reducible repeat (first | refine kN ?_ _ | refine kD ?_ | refine kA ?_ _)); refine blk_put (cs := #[.int .i64 ((rd_T45 l0_1 x24_2).f0), .int .i64 ((rd_T45 l0_1 x24_2).f1), .int .i64 ((rd_T45 l0_1 x24_2).f2), .string ((rd_T45 l0_1 x24_2).f3), .string ((rd_T45 l0_1 x24_2).f4), .bool ((rd_T45 l0_1 x24_2).f5), .int .i64 ((rd_T45 l0_1 x24_2).f6), .int .i64 ((rd_T45 l0_1 x24_2).f7), .int .i64 ((rd_T45 l0_1 x24_2).f8.f0), .int .i64 ((rd_T45 l0_1 x24_2).f8.f1), .int .i64 0, .int .i64 0, .int .i64 0]) ?_ 10 _ rfl; (with_reducible repeat (first | refine kN ?_ _ | refine kD ?_ | refine kA ?_ _)); refine blk_put (cs := #[.int .i64 ((rd_T45 l0_1 x24_2).f0), .int .i64 ((rd_T45 l0_1 x24_2).f1), .int .i64 ((rd_T45 l0_1 x24_2).f2), .string ((rd_T45 l0_1 x24_2).f3), .string ((rd_T45 l0_1 x24_2).f4), .bool ((rd_T45 l0_1 x24_2).f5), .int .i64 ((rd_T45 l0_1 x24_2).f6), .int .i64 ((rd_T45 l0_1 x24_2).f7), .int .i64 ((rd_T45 l0_1 x24_2).f8.f0), .int .i64 0, .int .i64 0, .int .i64 0, .int .i64 0]) ?_ 9 _ rfl; (with_reducible repeat (first | refine kN ?_ _ | refine kD ?_ | refine kA ?_ _)); refine blk_put (cs := #[.int .i64 ((rd_T45 l0_1 x24_2).f0), .int .i64 ((rd_T45 l0_1 x24_2).f1), .int .i64 ((rd_T45 l0_1 x24_2).f2), .string ((rd_T45 l0_1 x24_2).f3), .string ((rd_T45 l0_1 x24_2).f4), .bool ((rd_T45 l0_1 x24_2).f5), .int .i64 ((rd_T45 l0_1 x24_2).f6), .int .i64 ((rd_T45 l0_1 x24_2).f7), .int .i64 0, .int .i64 0, .int .i64 0, .int .i64 0, .int .i64 0]) ?_ 8 _ rfl; (with_reducible repeat (first | refine kN ?_ _ | refine kD ?_ | refine kA ?_ _)); refine blk_put (cs := #[.int .i64 ((rd_T45 l0_1 x24_2).f0), .int .i64 ((rd_T45 l0_1 x24_2).f1), .int .i64 ((rd_T45 l0_1 x24_2).f2), .string ((rd_T45 l0_1 x24_2).f3), .string ((rd_T45 l0_1 x24_2).f4), .bool ((rd_T45 l0_1 x24_2).f5), .int .i64 ((rd_T45 l0_1 x24_2).f6), .int .i64 0, .int .i64 0, .int .i64 0, .int .i64 0, .int .i64 0, .int .i64 0]) ?_ 7 _ rfl; (with_reducible repeat (first | refine kN ?_ _ | refine kD ?_ | refine kA ?_ _)); refine blk_put (cs := #[.int .i64 ((rd_T45 l0_1 x24_2).f0), .int .i64 ((rd_T45 l0_1 x24_2).f1), .int .i64 ((rd_T45 l0_1 x24_2).f2), .string ((rd_T45 l0_1 x24_2).f3), .string ((rd_T45 l0_1 x24_2).f4), .bool ((rd_T45 l0_1 x24_2).f5), .int .i64 0, .int .i64 0, .int .i64 0, .int .i64 0, .int .i64 0, .int .i64 0, .int .i64 0]) ?_ 6 _ rfl; (with_reducible repeat (first | refine kN ?_ _ | refine kD ?_ | refine kA ?_ _)); refine blk_put (cs := #[.int .i64 ((rd_T45 l0_1 x24_2).f0), .int .i64 ((rd_T45 l0_1 x24_2).f1), .int .i64 ((rd_T45 l0_1 x24_2).f2), .string ((rd_T45 l0_1 x24_2).f3), .string ((rd_T45 l0_1 x24_2).f4), .bool false, .int .i64 0, .int .i64 0, .int .i64 0, .int .i64 0, .int .i64 0, .int .i64 0, .int .i64 0]) ?_ 5 _ rfl; (with_reducible repeat (first | refine kN ?_ _ | refine kD ?_ | refine kA ?_ _)); refine blk_put (cs := #[.int .i64 ((rd_T45 l0_1 x24_2).f0), .int .i64 ((rd_T45 l0_1 x24_2).f1), .int .i64 ((rd_T45 l0_1 x24_2).f2), .string ((rd_T45 l0_1 x24_2).f3), .string (⟨#[]⟩ : ByteArray), .bool false, .int .i64 0, .int .i64 0, .int .i64 0, .int .i64 0, .int .i64 0, .int .i64 0, .int .i64 0]) ?_ 4 _ rfl; (with_reducible repeat (first | refine kN ?_ _ | refine kD ?_ | refine kA ?_ _)); refine blk_put (cs := #[.int .i64 ((rd_T45 l0_1 x24_2).f0), .int .i64 ((rd_T45 l0_1 x24_2).f1), .int .i64 ((rd_T45 l0_1 x24_2).f2), .string (⟨#[]⟩ : ByteArray), .string (⟨#[]⟩ : ByteArray), .bool false, .int .i64 0, .int .i64 0, .int .i64 0, .int .i64 0, .int .i64 0, .int .i64 0, .int .i64 0]) ?_ 3 _ rfl; (with_reducible repeat (first | refine kN ?_ _ | refine kD ?_ | refine kA ?_ _)); refine blk_put (cs := #[.int .i64 ((rd_T45 l0_1 x24_2).f0), .int .i64 ((rd_T45 l0_1 x24_2).f1), .int .i64 0, .string (⟨#[]⟩ : ByteArray), .string (⟨#[]⟩ : ByteArray), .bool false, .int .i64 0, .int .i64 0, .int .i64 0, .int .i64 0, .int .i64 0, .int .i64 0, .int .i64 0]) ?_ 2 _ rfl; (with_reducible repeat (first | refine kN ?_ _ | refine kD ?_ | refine kA ?_ _)); refine blk_put (cs := #[.int .i64 ((rd_T45 l0_1 x24_2).f0), .int .i64 0, .int .i64 0, .string (⟨#[]⟩ : ByteArray), .string (⟨#[]⟩ : ByteArray), .bool false, .int .i64 0, .int .i64 0, .int .i64 0, .int .i64 0, .int .i64 0, .int .i64 0, .int .i64 0]) ?_ 1 _ rfl; (with_reducible repeat (first | refine kN ?_ _ | refine kD ?_ | refine kA ?_ _)); refine blk_put (cs := #[.int .i64 0, .int .i64 0, .int .i64 0, .string (⟨#[]⟩ : ByteArray), .string (⟨#[]⟩ : ByteArray), .bool false, .int .i64 0, .int .i64 0, .int .i64 0, .int .i64 0, .int .i64 0, .int .i64 0, .int .i64 0]) ?_ 0 _ rfl; (with_reducible repeat (first | refine kN ?_ _ | refine kD ?_ | refine kA ?_ _)); exact BK557.out))⟩; have n2_ : As (Below w.heap.size w w21) := ⟨(by rw [hw]; exact (by repeat (first | (with_reducible first | exact HB.out | apply bA | apply bN | apply bD | refine bS ?_ GE554.out | refine bS ?_ GE557.out) | exact HB.out)))⟩; clear hw; clear BK554; clear BK557; clear HB; have BK554 := n0_; have BK557 := n1_; have HB := n2_; clear n0_ n1_ n2_; obtain ⟨hcz22_0, hcz22_1, hcz22_2, hcz22_3, hcz22_4, hcz22_5, hcz22_6, hcz22_7, hcz22_8, hcz22_9, hcz22_10, hcz22_11, hcz22_12, hfz22_0, hfz22_1, hfz22_2, hfz22_3, hfz22_4, hfz22_5, hfz22_6, hfz22_7, hfz22_8, hfz22_9, hfz22_10, hfz22_11, hfz22_12⟩ := cl13 BK557.out) | ((with_reducible refine gC (f := 64) rfl ?_); refine goesL_ (some 30) rfl rfl Tryz.func64 (by kernel_rfl) rfl #[.agg #[.int .i64 ((rd_T45 l0_1 x24_2).f0), .int .i64 ((rd_T45 l0_1 x24_2).f1), .int .i64 ((rd_T45 l0_1 x24_2).f2), .string ((rd_T45 l0_1 x24_2).f3), .string ((rd_T45 l0_1 x24_2).f4), .bool ((rd_T45 l0_1 x24_2).f5), .int .i64 ((rd_T45 l0_1 x24_2).f6), .int .i64 ((rd_T45 l0_1 x24_2).f7), .int .i64 ((rd_T45 l0_1 x24_2).f8.f0), .int .i64 ((rd_T45 l0_1 x24_2).f8.f1), .int .i64 ((rd_T45 l0_1 x24_2).f8.f2), .int .i64 ((rd_T45 l0_1 x24_2).f9.f0), .int .i64 ((rd_T45 l0_1 x24_2).f9.f1)]] rfl (by (try simp only [List.map_toArray, List.map_cons, List.map_nil]); first | done | rfl | (simp only [List.length_drop, List.length_take]; rfl)) ?_; (with_reducible refine (zone_right.calls k2 ((rd_T45 l0_1 x24_2).f0) ((rd_T45 l0_1 x24_2).f1) ((rd_T45 l0_1 x24_2).f2) ((rd_T45 l0_1 x24_2).f3) ((rd_T45 l0_1 x24_2).f4) ((rd_T45 l0_1 x24_2).f5) ((rd_T45 l0_1 x24_2).f6) ((rd_T45 l0_1 x24_2).f7) ((rd_T45 l0_1 x24_2).f8.f0) ((rd_T45 l0_1 x24_2).f8.f1) ((rd_T45 l0_1 x24_2).f8.f2) ((rd_T45 l0_1 x24_2).f9.f0) ((rd_T45 l0_1 x24_2).f9.f1) true _ A15.out).mono ?_); rintro e w23 ⟨rfl, hb⟩; refine ⟨_, rfl, ?_⟩; have n0_ := As.mk (kB (g := gb554) (o := .cells #[.string a0_0, .slice (some ad556) l0_1.length c0_1] 54 (0, 0)) (by (with_reducible repeat (first | refine kN ?_ _ | refine kD ?_ | refine kA ?_ _)); exact BK554.out) hb); have n1_ := As.mk (kB (g := gb557) (o := .cells #[.int .i64 ((rd_T45 l0_1 x24_2).f0), .int .i64 ((rd_T45 l0_1 x24_2).f1), .int .i64 ((rd_T45 l0_1 x24_2).f2), .string ((rd_T45 l0_1 x24_2).f3), .string ((rd_T45 l0_1 x24_2).f4), .bool ((rd_T45 l0_1 x24_2).f5), .int .i64 ((rd_T45 l0_1 x24_2).f6), .int .i64 ((rd_T45 l0_1 x24_2).f7), .int .i64 ((rd_T45 l0_1 x24_2).f8.f0), .int .i64 ((rd_T45 l0_1 x24_2).f8.f1), .int .i64 ((rd_T45 l0_1 x24_2).f8.f2), .int .i64 ((rd_T45 l0_1 x24_2).f9.f0), .int .i64 ((rd_T45 l0_1 x24_2).f9.f1)] 45 (0, 0)) (by (with_reducible repeat (first | refine kN ?_ _ | refine kD ?_ | refine kA ?_ _)); exact BK557.out) hb); have n2_ := As.mk (bT (by repeat (first | (with_reducible first | exact HB.out | apply bA | apply bN | apply bD | refine bS ?_ GE554.out | refine bS ?_ GE557.out) | exact HB.out)) hb); clear BK554; clear BK557; clear HB; have BK554 := n0_; have BK557 := n1_; have HB := n2_; clear n0_ n1_ n2_; (try clear hb); (try clear hb2); (try clear hk); (try clear hi); obtain ⟨hcz24_0, hcz24_1, hcz24_2, hcz24_3, hcz24_4, hcz24_5, hcz24_6, hcz24_7, hcz24_8, hcz24_9, hcz24_10, hcz24_11, hcz24_12, hfz24_0, hfz24_1, hfz24_2, hfz24_3, hfz24_4, hfz24_5, hfz24_6, hfz24_7, hfz24_8, hfz24_9, hfz24_10, hfz24_11, hfz24_12⟩ := cl13 BK557.out; obtain ⟨hcz25_0, hcz25_1, hfz25_0, hfz25_1⟩ := cl2 BK554.out))
           go_ret
           exact ⟨by first | rfl | (simp [eN, eS] <;> rfl) | (simp [*, eN, eS] <;> rfl), by repeat (first | (with_reducible first | exact HB.out | apply bA | apply bN | apply bD | refine bS ?_ GE554.out | refine bS ?_ GE557.out) | exact HB.out)⟩
          ·rw [if_neg c17] at H
           have c17b0 : (((rd_T45 l0_1 x24_2).f5) != (decide (x24_2 < (wrap64 ((l0_1.length : Int) - 1))))) = false := by simpa using c17
           (try (have c17b1 : decide (((rd_T45 l0_1 x24_2).f5) = (decide (x24_2 < (wrap64 ((l0_1.length : Int) - 1))))) = true := by simpa using c17))
           (try (have c17b2 : (((rd_T45 l0_1 x24_2).f5) == (decide (x24_2 < (wrap64 ((l0_1.length : Int) - 1))))) = true := by simpa using c17))
           clear c17
           have H' := As.mk H
           clear H
           have p556 : 0 ≤ (x24_2 : Int) := of_decide_eq_true (by first | (with_reducible assumption) | assumption)
           have q556 : x24_2 < (l0_1.length : Int) := of_decide_eq_true (by first | (with_reducible assumption) | assumption)
           obtain ⟨ad556, e556, hx556_0, hx556_1, hx556_2, hx556_3, hx556_4, hx556_5, hx556_6, hx556_7, hx556_8, hx556_9, hx556_10, hx556_11, hx556_12⟩ := at_T45 HR0_1.out x24_2 p556 q556
           cases e556
           replace hx556_0 := (HB.out.cell (World.block_lt_of_cell? w _ hx556_0)).trans hx556_0
           replace hx556_1 := (HB.out.cell (World.block_lt_of_cell? w _ hx556_1)).trans hx556_1
           replace hx556_2 := (HB.out.cell (World.block_lt_of_cell? w _ hx556_2)).trans hx556_2
           replace hx556_3 := (HB.out.cell (World.block_lt_of_cell? w _ hx556_3)).trans hx556_3
           replace hx556_4 := (HB.out.cell (World.block_lt_of_cell? w _ hx556_4)).trans hx556_4
           replace hx556_5 := (HB.out.cell (World.block_lt_of_cell? w _ hx556_5)).trans hx556_5
           replace hx556_6 := (HB.out.cell (World.block_lt_of_cell? w _ hx556_6)).trans hx556_6
           replace hx556_7 := (HB.out.cell (World.block_lt_of_cell? w _ hx556_7)).trans hx556_7
           replace hx556_8 := (HB.out.cell (World.block_lt_of_cell? w _ hx556_8)).trans hx556_8
           replace hx556_9 := (HB.out.cell (World.block_lt_of_cell? w _ hx556_9)).trans hx556_9
           replace hx556_10 := (HB.out.cell (World.block_lt_of_cell? w _ hx556_10)).trans hx556_10
           replace hx556_11 := (HB.out.cell (World.block_lt_of_cell? w _ hx556_11)).trans hx556_11
           replace hx556_12 := (HB.out.cell (World.block_lt_of_cell? w _ hx556_12)).trans hx556_12
           replace p556 := eq_true p556
           replace q556 := eq_true q556
           go_wp2_with (first | ((with_reducible refine gD (N := 4) rfl ?_); (try (refine gate_guard (by rfl) ?_; dsimp only)); refine xE ?hg (N := 4) ?hd (cs := #[.int .i64 0, .int .i64 0, .int .i64 0, .string (⟨#[]⟩ : ByteArray), .string (⟨#[]⟩ : ByteArray), .bool false, .int .i64 0, .int .i64 0, .int .i64 0, .int .i64 0, .int .i64 0, .int .i64 0, .int .i64 0]) (t := 45) ?hr ?_; (case hd => rfl); (case hg => rfl); (case hr => first | (go_simp; done) | (go_simp; rfl)); intro gb557 hg w26 hbox hb; have n0_ := As.mk (kB (g := gb554) (o := .cells #[.string a0_0, .slice (some ad556) l0_1.length c0_1] 54 (0, 0)) (by (with_reducible repeat (first | refine kN ?_ _ | refine kD ?_ | refine kA ?_ _)); exact BK554.out) hb); have n1_ := As.mk (bT (by repeat (first | (with_reducible first | exact HB.out | apply bA | apply bN | apply bD | refine bS ?_ GE554.out) | exact HB.out)) hb); have n2_ := As.mk (hbox); have n3_ := As.mk ((by rw [hg]; exact (bZ (by repeat (first | (with_reducible first | exact HB.out | apply bA | apply bN | apply bD | refine bS ?_ GE554.out) | exact HB.out))) : w.heap.size ≤ gb557)); have n4_ := As.mk ((by rw [hg]; exact (bZ (by repeat (first | (with_reducible first | exact HB.out | apply bA | apply bN | apply bD | refine bS ?_ GE554.out) | exact HB.out))) : w.heap.size ≤ gb557)); have n5_ := As.mk ((by rw [hg]; exact Nat.ne_of_lt (blk_lt (g := gb554) (o := .cells #[.string a0_0, .slice (some ad556) l0_1.length c0_1] 54 (0, 0)) (by (with_reducible repeat (first | refine kN ?_ _ | refine kD ?_ | refine kA ?_ _)); exact BK554.out)) : gb554 ≠ gb557)); have n6_ := As.mk ((by rw [hg]; exact Nat.ne_of_gt (blk_lt (g := gb554) (o := .cells #[.string a0_0, .slice (some ad556) l0_1.length c0_1] 54 (0, 0)) (by (with_reducible repeat (first | refine kN ?_ _ | refine kD ?_ | refine kA ?_ _)); exact BK554.out)) : gb557 ≠ gb554)); clear BK554; clear HB; have BK554 := n0_; have HB := n1_; have BK557 := n2_; have GW557 := n3_; have GE557 := n4_; have NB554_557 := n5_; have NB557_554 := n6_; clear n0_ n1_ n2_ n3_ n4_ n5_ n6_; clear hb hbox hg; have hnb27 := NB557_554.out; have hnc27 := NB554_557.out; obtain ⟨hcz28_0, hcz28_1, hcz28_2, hcz28_3, hcz28_4, hcz28_5, hcz28_6, hcz28_7, hcz28_8, hcz28_9, hcz28_10, hcz28_11, hcz28_12, hfz28_0, hfz28_1, hfz28_2, hfz28_3, hfz28_4, hfz28_5, hfz28_6, hfz28_7, hfz28_8, hfz28_9, hfz28_10, hfz28_11, hfz28_12⟩ := cl13 BK557.out) | ((with_reducible refine gS (t := 45) (p := 4) rfl ?_); refine store_event (t := 45) (p := 4) (v := ?vo_w29) (w1 := (((((((((((((w26.setCell ⟨gb557, 0, none⟩ (.int .i64 ((rd_T45 l0_1 x24_2).f0))).setCell ⟨gb557, 1, none⟩ (.int .i64 ((rd_T45 l0_1 x24_2).f1))).setCell ⟨gb557, 2, none⟩ (.int .i64 ((rd_T45 l0_1 x24_2).f2))).setCell ⟨gb557, 3, none⟩ (.string ((rd_T45 l0_1 x24_2).f3))).setCell ⟨gb557, 4, none⟩ (.string ((rd_T45 l0_1 x24_2).f4))).setCell ⟨gb557, 5, none⟩ (.bool ((rd_T45 l0_1 x24_2).f5))).setCell ⟨gb557, 6, none⟩ (.int .i64 ((rd_T45 l0_1 x24_2).f6))).setCell ⟨gb557, 7, none⟩ (.int .i64 ((rd_T45 l0_1 x24_2).f7))).setCell ⟨gb557, 8, none⟩ (.int .i64 ((rd_T45 l0_1 x24_2).f8.f0))).setCell ⟨gb557, 9, none⟩ (.int .i64 ((rd_T45 l0_1 x24_2).f8.f1))).setCell ⟨gb557, 10, none⟩ (.int .i64 ((rd_T45 l0_1 x24_2).f8.f2))).setCell ⟨gb557, 11, none⟩ (.int .i64 ((rd_T45 l0_1 x24_2).f9.f0))).setCell ⟨gb557, 12, none⟩ (.int .i64 ((rd_T45 l0_1 x24_2).f9.f1)))) ?hg ?ho ?hn ?hr ?_; (case ho => rfl); (case hg => rfl); (case hn => rfl); (case hr => first | (go_simp; done) | (go_simp; rfl)); intro w29 hw; have n0_ : As (w29.heap[gb554]? = some (.cells #[.string a0_0, .slice (some ad556) l0_1.length c0_1] 54 (0, 0))) := ⟨(by rw [hw]; exact (by (with_reducible repeat (first | refine kN ?_ _ | refine kD ?_ | refine kA ?_ _)); refine blk_far ?_ NB554_557.out _; (with_reducible repeat (first | refine kN ?_ _ | refine kD ?_ | refine kA ?_ _)); refine blk_far ?_ NB554_557.out _; (with_reducible repeat (first | refine kN ?_ _ | refine kD ?_ | refine kA ?_ _)); refine blk_far ?_ NB554_557.out _; (with_reducible repeat (first | refine kN ?_ _ | refine kD ?_ | refine kA ?_ _)); refine blk_far ?_ NB554_557.out _; (with_reducible repeat (first | refine kN ?_ _ | refine kD ?_ | refine kA ?_ _)); refine blk_far ?_ NB554_557.out _; (with_reducible repeat (first | refine kN ?_ _ | refine kD ?_ | refine kA ?_ _)); refine blk_far ?_ NB554_557.out _; (with_reducible repeat (first | refine kN ?_ _ | refine kD ?_ | refine kA ?_ _)); refine blk_far ?_ NB554_557.out _; (with_reducible repeat (first | refine kN ?_ _ | refine kD ?_ | refine kA ?_ _)); refine blk_far ?_ NB554_557.out _; (with_reducible repeat (first | refine kN ?_ _ | refine kD ?_ | refine kA ?_ _)); refine blk_far ?_ NB554_557.out _; (with_reducible repeat (first | refine kN ?_ _ | refine kD ?_ | refine kA ?_ _)); refine blk_far ?_ NB554_557.out _; (with_reducible repeat (first | refine kN ?_ _ | refine kD ?_ | refine kA ?_ _)); refine blk_far ?_ NB554_557.out _; (with_reducible repeat (first | refine kN ?_ _ | refine kD ?_ | refine kA ?_ _)); refine blk_far ?_ NB554_557.out _; (with_reducible repeat (first | refine kN ?_ _ | refine kD ?_ | refine kA ?_ _)); refine blk_far ?_ NB554_557.out _; (with_reducible repeat (first | refine kN ?_ _ | refine kD ?_ | refine kA ?_ _)); exact BK554.out))⟩; have n1_ : As (w29.heap[gb557]? = some (.cells #[.int .i64 ((rd_T45 l0_1 x24_2).f0), .int .i64 ((rd_T45 l0_1 x24_2).f1), .int .i64 ((rd_T45 l0_1 x24_2).f2), .string ((rd_T45 l0_1 x24_2).f3), .string ((rd_T45 l0_1 x24_2).f4), .bool ((rd_T45 l0_1 x24_2).f5), .int .i64 ((rd_T45 l0_1 x24_2).f6), .int .i64 ((rd_T45 l0_1 x24_2).f7), .int .i64 ((rd_T45 l0_1 x24_2).f8.f0), .int .i64 ((rd_T45 l0_1 x24_2).f8.f1), .int .i64 ((rd_T45 l0_1 x24_2).f8.f2), .int .i64 ((rd_T45 l0_1 x24_2).f9.f0), .int .i64 ((rd_T45 l0_1 x24_2).f9.f1)] 45 (0, 0))) := ⟨(by rw [hw]; exact (by (with_reducible repeat (first | refine kN ?_ _ | refine kD ?_ | refine kA ?_ _)); refine blk_put (cs := #[.int .i64 ((rd_T45 l0_1 x24_2).f0), .int .i64 ((rd_T45 l0_1 x24_2).f1), .int .i64 ((rd_T45 l0_1 x24_2).f2), .string ((rd_T45 l0_1 x24_2).f3), .string ((rd_T45 l0_1 x24_2).f4), .bool ((rd_T45 l0_1 x24_2).f5), .int .i64 ((rd_T45 l0_1 x24_2).f6), .int .i64 ((rd_T45 l0_1 x24_2).f7), .int .i64 ((rd_T45 l0_1 x24_2).f8.f0), .int .i64 ((rd_T45 l0_1 x24_2).f8.f1), .int .i64 ((rd_T45 l0_1 x24_2).f8.f2), .int .i64 ((rd_T45 l0_1 x24_2).f9.f0), .int .i64 0]) ?_ 12 _ rfl; (with_reducible repeat (first | refine kN ?_ _ | refine kD ?_ | refine kA ?_ _)); refine blk_put (cs := #[.int .i64 ((rd_T45 l0_1 x24_2).f0), .int .i64 ((rd_T45 l0_1 x24_2).f1), .int .i64 ((rd_T45 l0_1 x24_2).f2), .string ((rd_T45 l0_1 x24_2).f3), .string ((rd_T45 l0_1 x24_2).f4), .bool ((rd_T45 l0_1 x24_2).f5), .int .i64 ((rd_T45 l0_1 x24_2).f6), .int .i64 ((rd_T45 l0_1 x24_2).f7), .int .i64 ((rd_T45 l0_1 x24_2).f8.f0), .int .i64 ((rd_T45 l0_1 x24_2).f8.f1), .int .i64 ((rd_T45 l0_1 x24_2).f8.f2), .int .i64 0, .int .i64 0]) ?_ 11 _ rfl; (with_reducible repeat (first | refine kN ?_ _ | refine kD ?_ | refine kA ?_ _)); refine blk_put (cs := #[.int .i64 ((rd_T45 l0_1 x24_2).f0), .int .i64 ((rd_T45 l0_1 x24_2).f1), .int .i64 ((rd_T45 l0_1 x24_2).f2), .string ((rd_T45 l0_1 x24_2).f3), .string ((rd_T45 l0_1 x24_2).f4), .bool ((rd_T45 l0_1 x24_2).f5), .int .i64 ((rd_T45 l0_1 x24_2).f6), .int .i64 ((rd_T45 l0_1 x24_2).f7), .int .i64 ((rd_T45 l0_1 x24_2).f8.f0), .int .i64 ((rd_T45 l0_1 x24_2).f8.f1), .int .i64 0, .int .i64 0, .int .i64 0]) ?_ 10 _ rfl; (with_reducible repeat (first | refine kN ?_ _ | refine kD ?_ | refine kA ?_ _)); refine blk_put (cs := #[.int .i64 ((rd_T45 l0_1 x24_2).f0), .int .i64 ((rd_T45 l0_1 x24_2).f1), .int .i64 ((rd_T45 l0_1 x24_2).f2), .string ((rd_T45 l0_1 x24_2).f3), .string ((rd_T45 l0_1 x24_2).f4), .bool ((rd_T45 l0_1 x24_2).f5), .int .i64 ((rd_T45 l0_1 x24_2).f6), .int .i64 ((rd_T45 l0_1 x24_2).f7), .int .i64 ((rd_T45 l0_1 x24_2).f8.f0), .int .i64 0, .int .i64 0, .int .i64 0, .int .i64 0]) ?_ 9 _ rfl; (with_reducible repeat (first | refine kN ?_ _ | refine kD ?_ | refine kA ?_ _)); refine blk_put (cs := #[.int .i64 ((rd_T45 l0_1 x24_2).f0), .int .i64 ((rd_T45 l0_1 x24_2).f1), .int .i64 ((rd_T45 l0_1 x24_2).f2), .string ((rd_T45 l0_1 x24_2).f3), .string ((rd_T45 l0_1 x24_2).f4), .bool ((rd_T45 l0_1 x24_2).f5), .int .i64 ((rd_T45 l0_1 x24_2).f6), .int .i64 ((rd_T45 l0_1 x24_2).f7), .int .i64 0, .int .i64 0, .int .i64 0, .int .i64 0, .int .i64 0]) ?_ 8 _ rfl; (with_reducible repeat (first | refine kN ?_ _ | refine kD ?_ | refine kA ?_ _)); refine blk_put (cs := #[.int .i64 ((rd_T45 l0_1 x24_2).f0), .int .i64 ((rd_T45 l0_1 x24_2).f1), .int .i64 ((rd_T45 l0_1 x24_2).f2), .string ((rd_T45 l0_1 x24_2).f3), .string ((rd_T45 l0_1 x24_2).f4), .bool ((rd_T45 l0_1 x24_2).f5), .int .i64 ((rd_T45 l0_1 x24_2).f6), .int .i64 0, .int .i64 0, .int .i64 0, .int .i64 0, .int .i64 0, .int .i64 0]) ?_ 7 _ rfl; (with_reducible repeat (first | refine kN ?_ _ | refine kD ?_ | refine kA ?_ _)); refine blk_put (cs := #[.int .i64 ((rd_T45 l0_1 x24_2).f0), .int .i64 ((rd_T45 l0_1 x24_2).f1), .int .i64 ((rd_T45 l0_1 x24_2).f2), .string ((rd_T45 l0_1 x24_2).f3), .string ((rd_T45 l0_1 x24_2).f4), .bool ((rd_T45 l0_1 x24_2).f5), .int .i64 0, .int .i64 0, .int .i64 0, .int .i64 0, .int .i64 0, .int .i64 0, .int .i64 0]) ?_ 6 _ rfl; (with_reducible repeat (first | refine kN ?_ _ | refine kD ?_ | refine kA ?_ _)); refine blk_put (cs := #[.int .i64 ((rd_T45 l0_1 x24_2).f0), .int .i64 ((rd_T45 l0_1 x24_2).f1), .int .i64 ((rd_T45 l0_1 x24_2).f2), .string ((rd_T45 l0_1 x24_2).f3), .string ((rd_T45 l0_1 x24_2).f4), .bool false, .int .i64 0, .int .i64 0, .int .i64 0, .int .i64 0, .int .i64 0, .int .i64 0, .int .i64 0]) ?_ 5 _ rfl; (with_reducible repeat (first | refine kN ?_ _ | refine kD ?_ | refine kA ?_ _)); refine blk_put (cs := #[.int .i64 ((rd_T45 l0_1 x24_2).f0), .int .i64 ((rd_T45 l0_1 x24_2).f1), .int .i64 ((rd_T45 l0_1 x24_2).f2), .string ((rd_T45 l0_1 x24_2).f3), .string (⟨#[]⟩ : ByteArray), .bool false, .int .i64 0, .int .i64 0, .int .i64 0, .int .i64 0, .int .i64 0, .int .i64 0, .int .i64 0]) ?_ 4 _ rfl; (with_reducible repeat (first | refine kN ?_ _ | refine kD ?_ | refine kA ?_ _)); refine blk_put (cs := #[.int .i64 ((rd_T45 l0_1 x24_2).f0), .int .i64 ((rd_T45 l0_1 x24_2).f1), .int .i64 ((rd_T45 l0_1 x24_2).f2), .string (⟨#[]⟩ : ByteArray), .string (⟨#[]⟩ : ByteArray), .bool false, .int .i64 0, .int .i64 0, .int .i64 0, .int .i64 0, .int .i64 0, .int .i64 0, .int .i64 0]) ?_ 3 _ rfl; (with_reducible repeat (first | refine kN ?_ _ | refine kD ?_ | refine kA ?_ _)); refine blk_put (cs := #[.int .i64 ((rd_T45 l0_1 x24_2).f0), .int .i64 ((rd_T45 l0_1 x24_2).f1), .int .i64 0, .string (⟨#[]⟩ : ByteArray), .string (⟨#[]⟩ : ByteArray), .bool false, .int .i64 0, .int .i64 0, .int .i64 0, .int .i64 0, .int .i64 0, .int .i64 0, .int .i64 0]) ?_ 2 _ rfl; (with_reducible repeat (first | refine kN ?_ _ | refine kD ?_ | refine kA ?_ _)); refine blk_put (cs := #[.int .i64 ((rd_T45 l0_1 x24_2).f0), .int .i64 0, .int .i64 0, .string (⟨#[]⟩ : ByteArray), .string (⟨#[]⟩ : ByteArray), .bool false, .int .i64 0, .int .i64 0, .int .i64 0, .int .i64 0, .int .i64 0, .int .i64 0, .int .i64 0]) ?_ 1 _ rfl; (with_reducible repeat (first | refine kN ?_ _ | refine kD ?_ | refine kA ?_ _)); refine blk_put (cs := #[.int .i64 0, .int .i64 0, .int .i64 0, .string (⟨#[]⟩ : ByteArray), .string (⟨#[]⟩ : ByteArray), .bool false, .int .i64 0, .int .i64 0, .int .i64 0, .int .i64 0, .int .i64 0, .int .i64 0, .int .i64 0]) ?_ 0 _ rfl; (with_reducible repeat (first | refine kN ?_ _ | refine kD ?_ | refine kA ?_ _)); exact BK557.out))⟩; have n2_ : As (Below w.heap.size w w29) := ⟨(by rw [hw]; exact (by repeat (first | (with_reducible first | exact HB.out | apply bA | apply bN | apply bD | refine bS ?_ GE554.out | refine bS ?_ GE557.out) | exact HB.out)))⟩; clear hw; clear BK554; clear BK557; clear HB; have BK554 := n0_; have BK557 := n1_; have HB := n2_; clear n0_ n1_ n2_; obtain ⟨hcz30_0, hcz30_1, hcz30_2, hcz30_3, hcz30_4, hcz30_5, hcz30_6, hcz30_7, hcz30_8, hcz30_9, hcz30_10, hcz30_11, hcz30_12, hfz30_0, hfz30_1, hfz30_2, hfz30_3, hfz30_4, hfz30_5, hfz30_6, hfz30_7, hfz30_8, hfz30_9, hfz30_10, hfz30_11, hfz30_12⟩ := cl13 BK557.out) | ((with_reducible refine gC (f := 64) rfl ?_); refine goesL_ (some 30) rfl rfl Tryz.func64 (by kernel_rfl) rfl #[.agg #[.int .i64 ((rd_T45 l0_1 x24_2).f0), .int .i64 ((rd_T45 l0_1 x24_2).f1), .int .i64 ((rd_T45 l0_1 x24_2).f2), .string ((rd_T45 l0_1 x24_2).f3), .string ((rd_T45 l0_1 x24_2).f4), .bool ((rd_T45 l0_1 x24_2).f5), .int .i64 ((rd_T45 l0_1 x24_2).f6), .int .i64 ((rd_T45 l0_1 x24_2).f7), .int .i64 ((rd_T45 l0_1 x24_2).f8.f0), .int .i64 ((rd_T45 l0_1 x24_2).f8.f1), .int .i64 ((rd_T45 l0_1 x24_2).f8.f2), .int .i64 ((rd_T45 l0_1 x24_2).f9.f0), .int .i64 ((rd_T45 l0_1 x24_2).f9.f1)]] rfl (by (try simp only [List.map_toArray, List.map_cons, List.map_nil]); first | done | rfl | (simp only [List.length_drop, List.length_take]; rfl)) ?_; (with_reducible refine (zone_right.calls k2 ((rd_T45 l0_1 x24_2).f0) ((rd_T45 l0_1 x24_2).f1) ((rd_T45 l0_1 x24_2).f2) ((rd_T45 l0_1 x24_2).f3) ((rd_T45 l0_1 x24_2).f4) ((rd_T45 l0_1 x24_2).f5) ((rd_T45 l0_1 x24_2).f6) ((rd_T45 l0_1 x24_2).f7) ((rd_T45 l0_1 x24_2).f8.f0) ((rd_T45 l0_1 x24_2).f8.f1) ((rd_T45 l0_1 x24_2).f8.f2) ((rd_T45 l0_1 x24_2).f9.f0) ((rd_T45 l0_1 x24_2).f9.f1) true _ A15.out).mono ?_); rintro e w31 ⟨rfl, hb⟩; refine ⟨_, rfl, ?_⟩; have n0_ := As.mk (kB (g := gb554) (o := .cells #[.string a0_0, .slice (some ad556) l0_1.length c0_1] 54 (0, 0)) (by (with_reducible repeat (first | refine kN ?_ _ | refine kD ?_ | refine kA ?_ _)); exact BK554.out) hb); have n1_ := As.mk (kB (g := gb557) (o := .cells #[.int .i64 ((rd_T45 l0_1 x24_2).f0), .int .i64 ((rd_T45 l0_1 x24_2).f1), .int .i64 ((rd_T45 l0_1 x24_2).f2), .string ((rd_T45 l0_1 x24_2).f3), .string ((rd_T45 l0_1 x24_2).f4), .bool ((rd_T45 l0_1 x24_2).f5), .int .i64 ((rd_T45 l0_1 x24_2).f6), .int .i64 ((rd_T45 l0_1 x24_2).f7), .int .i64 ((rd_T45 l0_1 x24_2).f8.f0), .int .i64 ((rd_T45 l0_1 x24_2).f8.f1), .int .i64 ((rd_T45 l0_1 x24_2).f8.f2), .int .i64 ((rd_T45 l0_1 x24_2).f9.f0), .int .i64 ((rd_T45 l0_1 x24_2).f9.f1)] 45 (0, 0)) (by (with_reducible repeat (first | refine kN ?_ _ | refine kD ?_ | refine kA ?_ _)); exact BK557.out) hb); have n2_ := As.mk (bT (by repeat (first | (with_reducible first | exact HB.out | apply bA | apply bN | apply bD | refine bS ?_ GE554.out | refine bS ?_ GE557.out) | exact HB.out)) hb); clear BK554; clear BK557; clear HB; have BK554 := n0_; have BK557 := n1_; have HB := n2_; clear n0_ n1_ n2_; (try clear hb); (try clear hb2); (try clear hk); (try clear hi); obtain ⟨hcz32_0, hcz32_1, hcz32_2, hcz32_3, hcz32_4, hcz32_5, hcz32_6, hcz32_7, hcz32_8, hcz32_9, hcz32_10, hcz32_11, hcz32_12, hfz32_0, hfz32_1, hfz32_2, hfz32_3, hfz32_4, hfz32_5, hfz32_6, hfz32_7, hfz32_8, hfz32_9, hfz32_10, hfz32_11, hfz32_12⟩ := cl13 BK557.out; obtain ⟨hcz33_0, hcz33_1, hfz33_0, hfz33_1⟩ := cl2 BK554.out))
           go_roundg k2
           case measure => have := HJ1.out; have := HK2.out; omega
           case rel => exact ⟨(wrap64 (x24_2 + 1)), (by first | rfl | (simp; done) | (simp [*]; done)), H', ⟨by have := HJ1.out; have := HK2.out; omega⟩, ⟨by (with_reducible repeat (first | refine kN ?_ _ | refine kD ?_ | refine kA ?_ _)); exact BK554.out⟩, ⟨by repeat (first | (with_reducible first | exact HB.out | apply bA | apply bN | apply bD | refine bS ?_ GE554.out | refine bS ?_ GE557.out) | exact HB.out)⟩⟩
         ·replace c16 := Bool.eq_false_iff.mpr c16
          subst c16
          have H1 : (some 11) = some r := by rw [if_neg (show ¬ (false = true) by decide)] at H; exact H
          clear H
          have H := H1
          clear H1
          obtain rfl := Option.some.inj H
          have p556 : 0 ≤ (x24_2 : Int) := of_decide_eq_true (by first | (with_reducible assumption) | assumption)
          have q556 : x24_2 < (l0_1.length : Int) := of_decide_eq_true (by first | (with_reducible assumption) | assumption)
          obtain ⟨ad556, e556, hx556_0, hx556_1, hx556_2, hx556_3, hx556_4, hx556_5, hx556_6, hx556_7, hx556_8, hx556_9, hx556_10, hx556_11, hx556_12⟩ := at_T45 HR0_1.out x24_2 p556 q556
          cases e556
          replace hx556_0 := (HB.out.cell (World.block_lt_of_cell? w _ hx556_0)).trans hx556_0
          replace hx556_1 := (HB.out.cell (World.block_lt_of_cell? w _ hx556_1)).trans hx556_1
          replace hx556_2 := (HB.out.cell (World.block_lt_of_cell? w _ hx556_2)).trans hx556_2
          replace hx556_3 := (HB.out.cell (World.block_lt_of_cell? w _ hx556_3)).trans hx556_3
          replace hx556_4 := (HB.out.cell (World.block_lt_of_cell? w _ hx556_4)).trans hx556_4
          replace hx556_5 := (HB.out.cell (World.block_lt_of_cell? w _ hx556_5)).trans hx556_5
          replace hx556_6 := (HB.out.cell (World.block_lt_of_cell? w _ hx556_6)).trans hx556_6
          replace hx556_7 := (HB.out.cell (World.block_lt_of_cell? w _ hx556_7)).trans hx556_7
          replace hx556_8 := (HB.out.cell (World.block_lt_of_cell? w _ hx556_8)).trans hx556_8
          replace hx556_9 := (HB.out.cell (World.block_lt_of_cell? w _ hx556_9)).trans hx556_9
          replace hx556_10 := (HB.out.cell (World.block_lt_of_cell? w _ hx556_10)).trans hx556_10
          replace hx556_11 := (HB.out.cell (World.block_lt_of_cell? w _ hx556_11)).trans hx556_11
          replace hx556_12 := (HB.out.cell (World.block_lt_of_cell? w _ hx556_12)).trans hx556_12
          replace p556 := eq_true p556
          replace q556 := eq_true q556
          go_wp2_with (first | ((with_reducible refine gD (N := 4) rfl ?_); (try (refine gate_guard (by rfl) ?_; dsimp only)); refine xE ?hg (N := 4) ?hd (cs := #[.int .i64 0, .int .i64 0, .int .i64 0, .string (⟨#[]⟩ : ByteArray), .string (⟨#[]⟩ : ByteArray), .bool false, .int .i64 0, .int .i64 0, .int .i64 0, .int .i64 0, .int .i64 0, .int .i64 0, .int .i64 0]) (t := 45) ?hr ?_; (case hd => rfl); (case hg => rfl); (case hr => first | (go_simp; done) | (go_simp; rfl)); intro gb557 hg w34 hbox hb; have n0_ := As.mk (kB (g := gb554) (o := .cells #[.string a0_0, .slice (some ad556) l0_1.length c0_1] 54 (0, 0)) (by (with_reducible repeat (first | refine kN ?_ _ | refine kD ?_ | refine kA ?_ _)); exact BK554.out) hb); have n1_ := As.mk (bT (by repeat (first | (with_reducible first | exact HB.out | apply bA | apply bN | apply bD | refine bS ?_ GE554.out) | exact HB.out)) hb); have n2_ := As.mk (hbox); have n3_ := As.mk ((by rw [hg]; exact (bZ (by repeat (first | (with_reducible first | exact HB.out | apply bA | apply bN | apply bD | refine bS ?_ GE554.out) | exact HB.out))) : w.heap.size ≤ gb557)); have n4_ := As.mk ((by rw [hg]; exact (bZ (by repeat (first | (with_reducible first | exact HB.out | apply bA | apply bN | apply bD | refine bS ?_ GE554.out) | exact HB.out))) : w.heap.size ≤ gb557)); have n5_ := As.mk ((by rw [hg]; exact Nat.ne_of_lt (blk_lt (g := gb554) (o := .cells #[.string a0_0, .slice (some ad556) l0_1.length c0_1] 54 (0, 0)) (by (with_reducible repeat (first | refine kN ?_ _ | refine kD ?_ | refine kA ?_ _)); exact BK554.out)) : gb554 ≠ gb557)); have n6_ := As.mk ((by rw [hg]; exact Nat.ne_of_gt (blk_lt (g := gb554) (o := .cells #[.string a0_0, .slice (some ad556) l0_1.length c0_1] 54 (0, 0)) (by (with_reducible repeat (first | refine kN ?_ _ | refine kD ?_ | refine kA ?_ _)); exact BK554.out)) : gb557 ≠ gb554)); clear BK554; clear HB; have BK554 := n0_; have HB := n1_; have BK557 := n2_; have GW557 := n3_; have GE557 := n4_; have NB554_557 := n5_; have NB557_554 := n6_; clear n0_ n1_ n2_ n3_ n4_ n5_ n6_; clear hb hbox hg; have hnb35 := NB557_554.out; have hnc35 := NB554_557.out; obtain ⟨hcz36_0, hcz36_1, hcz36_2, hcz36_3, hcz36_4, hcz36_5, hcz36_6, hcz36_7, hcz36_8, hcz36_9, hcz36_10, hcz36_11, hcz36_12, hfz36_0, hfz36_1, hfz36_2, hfz36_3, hfz36_4, hfz36_5, hfz36_6, hfz36_7, hfz36_8, hfz36_9, hfz36_10, hfz36_11, hfz36_12⟩ := cl13 BK557.out) | ((with_reducible refine gS (t := 45) (p := 4) rfl ?_); refine store_event (t := 45) (p := 4) (v := ?vo_w37) (w1 := (((((((((((((w34.setCell ⟨gb557, 0, none⟩ (.int .i64 ((rd_T45 l0_1 x24_2).f0))).setCell ⟨gb557, 1, none⟩ (.int .i64 ((rd_T45 l0_1 x24_2).f1))).setCell ⟨gb557, 2, none⟩ (.int .i64 ((rd_T45 l0_1 x24_2).f2))).setCell ⟨gb557, 3, none⟩ (.string ((rd_T45 l0_1 x24_2).f3))).setCell ⟨gb557, 4, none⟩ (.string ((rd_T45 l0_1 x24_2).f4))).setCell ⟨gb557, 5, none⟩ (.bool ((rd_T45 l0_1 x24_2).f5))).setCell ⟨gb557, 6, none⟩ (.int .i64 ((rd_T45 l0_1 x24_2).f6))).setCell ⟨gb557, 7, none⟩ (.int .i64 ((rd_T45 l0_1 x24_2).f7))).setCell ⟨gb557, 8, none⟩ (.int .i64 ((rd_T45 l0_1 x24_2).f8.f0))).setCell ⟨gb557, 9, none⟩ (.int .i64 ((rd_T45 l0_1 x24_2).f8.f1))).setCell ⟨gb557, 10, none⟩ (.int .i64 ((rd_T45 l0_1 x24_2).f8.f2))).setCell ⟨gb557, 11, none⟩ (.int .i64 ((rd_T45 l0_1 x24_2).f9.f0))).setCell ⟨gb557, 12, none⟩ (.int .i64 ((rd_T45 l0_1 x24_2).f9.f1)))) ?hg ?ho ?hn ?hr ?_; (case ho => rfl); (case hg => rfl); (case hn => rfl); (case hr => first | (go_simp; done) | (go_simp; rfl)); intro w37 hw; have n0_ : As (w37.heap[gb554]? = some (.cells #[.string a0_0, .slice (some ad556) l0_1.length c0_1] 54 (0, 0))) := ⟨(by rw [hw]; exact (by (with_reducible repeat (first | refine kN ?_ _ | refine kD ?_ | refine kA ?_ _)); refine blk_far ?_ NB554_557.out _; (with_reducible repeat (first | refine kN ?_ _ | refine kD ?_ | refine kA ?_ _)); refine blk_far ?_ NB554_557.out _; (with_reducible repeat (first | refine kN ?_ _ | refine kD ?_ | refine kA ?_ _)); refine blk_far ?_ NB554_557.out _; (with_reducible repeat (first | refine kN ?_ _ | refine kD ?_ | refine kA ?_ _)); refine blk_far ?_ NB554_557.out _; (with_reducible repeat (first | refine kN ?_ _ | refine kD ?_ | refine kA ?_ _)); refine blk_far ?_ NB554_557.out _; (with_reducible repeat (first | refine kN ?_ _ | refine kD ?_ | refine kA ?_ _)); refine blk_far ?_ NB554_557.out _; (with_reducible repeat (first | refine kN ?_ _ | refine kD ?_ | refine kA ?_ _)); refine blk_far ?_ NB554_557.out _; (with_reducible repeat (first | refine kN ?_ _ | refine kD ?_ | refine kA ?_ _)); refine blk_far ?_ NB554_557.out _; (with_reducible repeat (first | refine kN ?_ _ | refine kD ?_ | refine kA ?_ _)); refine blk_far ?_ NB554_557.out _; (with_reducible repeat (first | refine kN ?_ _ | refine kD ?_ | refine kA ?_ _)); refine blk_far ?_ NB554_557.out _; (with_reducible repeat (first | refine kN ?_ _ | refine kD ?_ | refine kA ?_ _)); refine blk_far ?_ NB554_557.out _; (with_reducible repeat (first | refine kN ?_ _ | refine kD ?_ | refine kA ?_ _)); refine blk_far ?_ NB554_557.out _; (with_reducible repeat (first | refine kN ?_ _ | refine kD ?_ | refine kA ?_ _)); refine blk_far ?_ NB554_557.out _; (with_reducible repeat (first | refine kN ?_ _ | refine kD ?_ | refine kA ?_ _)); exact BK554.out))⟩; have n1_ : As (w37.heap[gb557]? = some (.cells #[.int .i64 ((rd_T45 l0_1 x24_2).f0), .int .i64 ((rd_T45 l0_1 x24_2).f1), .int .i64 ((rd_T45 l0_1 x24_2).f2), .string ((rd_T45 l0_1 x24_2).f3), .string ((rd_T45 l0_1 x24_2).f4), .bool ((rd_T45 l0_1 x24_2).f5), .int .i64 ((rd_T45 l0_1 x24_2).f6), .int .i64 ((rd_T45 l0_1 x24_2).f7), .int .i64 ((rd_T45 l0_1 x24_2).f8.f0), .int .i64 ((rd_T45 l0_1 x24_2).f8.f1), .int .i64 ((rd_T45 l0_1 x24_2).f8.f2), .int .i64 ((rd_T45 l0_1 x24_2).f9.f0), .int .i64 ((rd_T45 l0_1 x24_2).f9.f1)] 45 (0, 0))) := ⟨(by rw [hw]; exact (by (with_reducible repeat (first | refine kN ?_ _ | refine kD ?_ | refine kA ?_ _)); refine blk_put (cs := #[.int .i64 ((rd_T45 l0_1 x24_2).f0), .int .i64 ((rd_T45 l0_1 x24_2).f1), .int .i64 ((rd_T45 l0_1 x24_2).f2), .string ((rd_T45 l0_1 x24_2).f3), .string ((rd_T45 l0_1 x24_2).f4), .bool ((rd_T45 l0_1 x24_2).f5), .int .i64 ((rd_T45 l0_1 x24_2).f6), .int .i64 ((rd_T45 l0_1 x24_2).f7), .int .i64 ((rd_T45 l0_1 x24_2).f8.f0), .int .i64 ((rd_T45 l0_1 x24_2).f8.f1), .int .i64 ((rd_T45 l0_1 x24_2).f8.f2), .int .i64 ((rd_T45 l0_1 x24_2).f9.f0), .int .i64 0]) ?_ 12 _ rfl; (with_reducible repeat (first | refine kN ?_ _ | refine kD ?_ | refine kA ?_ _)); refine blk_put (cs := #[.int .i64 ((rd_T45 l0_1 x24_2).f0), .int .i64 ((rd_T45 l0_1 x24_2).f1), .int .i64 ((rd_T45 l0_1 x24_2).f2), .string ((rd_T45 l0_1 x24_2).f3), .string ((rd_T45 l0_1 x24_2).f4), .bool ((rd_T45 l0_1 x24_2).f5), .int .i64 ((rd_T45 l0_1 x24_2).f6), .int .i64 ((rd_T45 l0_1 x24_2).f7), .int .i64 ((rd_T45 l0_1 x24_2).f8.f0), .int .i64 ((rd_T45 l0_1 x24_2).f8.f1), .int .i64 ((rd_T45 l0_1 x24_2).f8.f2), .int .i64 0, .int .i64 0]) ?_ 11 _ rfl; (with_reducible repeat (first | refine kN ?_ _ | refine kD ?_ | refine kA ?_ _)); refine blk_put (cs := #[.int .i64 ((rd_T45 l0_1 x24_2).f0), .int .i64 ((rd_T45 l0_1 x24_2).f1), .int .i64 ((rd_T45 l0_1 x24_2).f2), .string ((rd_T45 l0_1 x24_2).f3), .string ((rd_T45 l0_1 x24_2).f4), .bool ((rd_T45 l0_1 x24_2).f5), .int .i64 ((rd_T45 l0_1 x24_2).f6), .int .i64 ((rd_T45 l0_1 x24_2).f7), .int .i64 ((rd_T45 l0_1 x24_2).f8.f0), .int .i64 ((rd_T45 l0_1 x24_2).f8.f1), .int .i64 0, .int .i64 0, .int .i64 0]) ?_ 10 _ rfl; (with_reducible repeat (first | refine kN ?_ _ | refine kD ?_ | refine kA ?_ _)); refine blk_put (cs := #[.int .i64 ((rd_T45 l0_1 x24_2).f0), .int .i64 ((rd_T45 l0_1 x24_2).f1), .int .i64 ((rd_T45 l0_1 x24_2).f2), .string ((rd_T45 l0_1 x24_2).f3), .string ((rd_T45 l0_1 x24_2).f4), .bool ((rd_T45 l0_1 x24_2).f5), .int .i64 ((rd_T45 l0_1 x24_2).f6), .int .i64 ((rd_T45 l0_1 x24_2).f7), .int .i64 ((rd_T45 l0_1 x24_2).f8.f0), .int .i64 0, .int .i64 0, .int .i64 0, .int .i64 0]) ?_ 9 _ rfl; (with_reducible repeat (first | refine kN ?_ _ | refine kD ?_ | refine kA ?_ _)); refine blk_put (cs := #[.int .i64 ((rd_T45 l0_1 x24_2).f0), .int .i64 ((rd_T45 l0_1 x24_2).f1), .int .i64 ((rd_T45 l0_1 x24_2).f2), .string ((rd_T45 l0_1 x24_2).f3), .string ((rd_T45 l0_1 x24_2).f4), .bool ((rd_T45 l0_1 x24_2).f5), .int .i64 ((rd_T45 l0_1 x24_2).f6), .int .i64 ((rd_T45 l0_1 x24_2).f7), .int .i64 0, .int .i64 0, .int .i64 0, .int .i64 0, .int .i64 0]) ?_ 8 _ rfl; (with_reducible repeat (first | refine kN ?_ _ | refine kD ?_ | refine kA ?_ _)); refine blk_put (cs := #[.int .i64 ((rd_T45 l0_1 x24_2).f0), .int .i64 ((rd_T45 l0_1 x24_2).f1), .int .i64 ((rd_T45 l0_1 x24_2).f2), .string ((rd_T45 l0_1 x24_2).f3), .string ((rd_T45 l0_1 x24_2).f4), .bool ((rd_T45 l0_1 x24_2).f5), .int .i64 ((rd_T45 l0_1 x24_2).f6), .int .i64 0, .int .i64 0, .int .i64 0, .int .i64 0, .int .i64 0, .int .i64 0]) ?_ 7 _ rfl; (with_reducible repeat (first | refine kN ?_ _ | refine kD ?_ | refine kA ?_ _)); refine blk_put (cs := #[.int .i64 ((rd_T45 l0_1 x24_2).f0), .int .i64 ((rd_T45 l0_1 x24_2).f1), .int .i64 ((rd_T45 l0_1 x24_2).f2), .string ((rd_T45 l0_1 x24_2).f3), .string ((rd_T45 l0_1 x24_2).f4), .bool ((rd_T45 l0_1 x24_2).f5), .int .i64 0, .int .i64 0, .int .i64 0, .int .i64 0, .int .i64 0, .int .i64 0, .int .i64 0]) ?_ 6 _ rfl; (with_reducible repeat (first | refine kN ?_ _ | refine kD ?_ | refine kA ?_ _)); refine blk_put (cs := #[.int .i64 ((rd_T45 l0_1 x24_2).f0), .int .i64 ((rd_T45 l0_1 x24_2).f1), .int .i64 ((rd_T45 l0_1 x24_2).f2), .string ((rd_T45 l0_1 x24_2).f3), .string ((rd_T45 l0_1 x24_2).f4), .bool false, .int .i64 0, .int .i64 0, .int .i64 0, .int .i64 0, .int .i64 0, .int .i64 0, .int .i64 0]) ?_ 5 _ rfl; (with_reducible repeat (first | refine kN ?_ _ | refine kD ?_ | refine kA ?_ _)); refine blk_put (cs := #[.int .i64 ((rd_T45 l0_1 x24_2).f0), .int .i64 ((rd_T45 l0_1 x24_2).f1), .int .i64 ((rd_T45 l0_1 x24_2).f2), .string ((rd_T45 l0_1 x24_2).f3), .string (⟨#[]⟩ : ByteArray), .bool false, .int .i64 0, .int .i64 0, .int .i64 0, .int .i64 0, .int .i64 0, .int .i64 0, .int .i64 0]) ?_ 4 _ rfl; (with_reducible repeat (first | refine kN ?_ _ | refine kD ?_ | refine kA ?_ _)); refine blk_put (cs := #[.int .i64 ((rd_T45 l0_1 x24_2).f0), .int .i64 ((rd_T45 l0_1 x24_2).f1), .int .i64 ((rd_T45 l0_1 x24_2).f2), .string (⟨#[]⟩ : ByteArray), .string (⟨#[]⟩ : ByteArray), .bool false, .int .i64 0, .int .i64 0, .int .i64 0, .int .i64 0, .int .i64 0, .int .i64 0, .int .i64 0]) ?_ 3 _ rfl; (with_reducible repeat (first | refine kN ?_ _ | refine kD ?_ | refine kA ?_ _)); refine blk_put (cs := #[.int .i64 ((rd_T45 l0_1 x24_2).f0), .int .i64 ((rd_T45 l0_1 x24_2).f1), .int .i64 0, .string (⟨#[]⟩ : ByteArray), .string (⟨#[]⟩ : ByteArray), .bool false, .int .i64 0, .int .i64 0, .int .i64 0, .int .i64 0, .int .i64 0, .int .i64 0, .int .i64 0]) ?_ 2 _ rfl; (with_reducible repeat (first | refine kN ?_ _ | refine kD ?_ | refine kA ?_ _)); refine blk_put (cs := #[.int .i64 ((rd_T45 l0_1 x24_2).f0), .int .i64 0, .int .i64 0, .string (⟨#[]⟩ : ByteArray), .string (⟨#[]⟩ : ByteArray), .bool false, .int .i64 0, .int .i64 0, .int .i64 0, .int .i64 0, .int .i64 0, .int .i64 0, .int .i64 0]) ?_ 1 _ rfl; (with_reducible repeat (first | refine kN ?_ _ | refine kD ?_ | refine kA ?_ _)); refine blk_put (cs := #[.int .i64 0, .int .i64 0, .int .i64 0, .string (⟨#[]⟩ : ByteArray), .string (⟨#[]⟩ : ByteArray), .bool false, .int .i64 0, .int .i64 0, .int .i64 0, .int .i64 0, .int .i64 0, .int .i64 0, .int .i64 0]) ?_ 0 _ rfl; (with_reducible repeat (first | refine kN ?_ _ | refine kD ?_ | refine kA ?_ _)); exact BK557.out))⟩; have n2_ : As (Below w.heap.size w w37) := ⟨(by rw [hw]; exact (by repeat (first | (with_reducible first | exact HB.out | apply bA | apply bN | apply bD | refine bS ?_ GE554.out | refine bS ?_ GE557.out) | exact HB.out)))⟩; clear hw; clear BK554; clear BK557; clear HB; have BK554 := n0_; have BK557 := n1_; have HB := n2_; clear n0_ n1_ n2_; obtain ⟨hcz38_0, hcz38_1, hcz38_2, hcz38_3, hcz38_4, hcz38_5, hcz38_6, hcz38_7, hcz38_8, hcz38_9, hcz38_10, hcz38_11, hcz38_12, hfz38_0, hfz38_1, hfz38_2, hfz38_3, hfz38_4, hfz38_5, hfz38_6, hfz38_7, hfz38_8, hfz38_9, hfz38_10, hfz38_11, hfz38_12⟩ := cl13 BK557.out) | ((with_reducible refine gC (f := 64) rfl ?_); refine goesL_ (some 30) rfl rfl Tryz.func64 (by kernel_rfl) rfl #[.agg #[.int .i64 ((rd_T45 l0_1 x24_2).f0), .int .i64 ((rd_T45 l0_1 x24_2).f1), .int .i64 ((rd_T45 l0_1 x24_2).f2), .string ((rd_T45 l0_1 x24_2).f3), .string ((rd_T45 l0_1 x24_2).f4), .bool ((rd_T45 l0_1 x24_2).f5), .int .i64 ((rd_T45 l0_1 x24_2).f6), .int .i64 ((rd_T45 l0_1 x24_2).f7), .int .i64 ((rd_T45 l0_1 x24_2).f8.f0), .int .i64 ((rd_T45 l0_1 x24_2).f8.f1), .int .i64 ((rd_T45 l0_1 x24_2).f8.f2), .int .i64 ((rd_T45 l0_1 x24_2).f9.f0), .int .i64 ((rd_T45 l0_1 x24_2).f9.f1)]] rfl (by (try simp only [List.map_toArray, List.map_cons, List.map_nil]); first | done | rfl | (simp only [List.length_drop, List.length_take]; rfl)) ?_; (with_reducible refine (zone_right.calls k2 ((rd_T45 l0_1 x24_2).f0) ((rd_T45 l0_1 x24_2).f1) ((rd_T45 l0_1 x24_2).f2) ((rd_T45 l0_1 x24_2).f3) ((rd_T45 l0_1 x24_2).f4) ((rd_T45 l0_1 x24_2).f5) ((rd_T45 l0_1 x24_2).f6) ((rd_T45 l0_1 x24_2).f7) ((rd_T45 l0_1 x24_2).f8.f0) ((rd_T45 l0_1 x24_2).f8.f1) ((rd_T45 l0_1 x24_2).f8.f2) ((rd_T45 l0_1 x24_2).f9.f0) ((rd_T45 l0_1 x24_2).f9.f1) false _ A15.out).mono ?_); rintro e w39 ⟨rfl, hb⟩; refine ⟨_, rfl, ?_⟩; have n0_ := As.mk (kB (g := gb554) (o := .cells #[.string a0_0, .slice (some ad556) l0_1.length c0_1] 54 (0, 0)) (by (with_reducible repeat (first | refine kN ?_ _ | refine kD ?_ | refine kA ?_ _)); exact BK554.out) hb); have n1_ := As.mk (kB (g := gb557) (o := .cells #[.int .i64 ((rd_T45 l0_1 x24_2).f0), .int .i64 ((rd_T45 l0_1 x24_2).f1), .int .i64 ((rd_T45 l0_1 x24_2).f2), .string ((rd_T45 l0_1 x24_2).f3), .string ((rd_T45 l0_1 x24_2).f4), .bool ((rd_T45 l0_1 x24_2).f5), .int .i64 ((rd_T45 l0_1 x24_2).f6), .int .i64 ((rd_T45 l0_1 x24_2).f7), .int .i64 ((rd_T45 l0_1 x24_2).f8.f0), .int .i64 ((rd_T45 l0_1 x24_2).f8.f1), .int .i64 ((rd_T45 l0_1 x24_2).f8.f2), .int .i64 ((rd_T45 l0_1 x24_2).f9.f0), .int .i64 ((rd_T45 l0_1 x24_2).f9.f1)] 45 (0, 0)) (by (with_reducible repeat (first | refine kN ?_ _ | refine kD ?_ | refine kA ?_ _)); exact BK557.out) hb); have n2_ := As.mk (bT (by repeat (first | (with_reducible first | exact HB.out | apply bA | apply bN | apply bD | refine bS ?_ GE554.out | refine bS ?_ GE557.out) | exact HB.out)) hb); clear BK554; clear BK557; clear HB; have BK554 := n0_; have BK557 := n1_; have HB := n2_; clear n0_ n1_ n2_; (try clear hb); (try clear hb2); (try clear hk); (try clear hi)))
          go_ret
          exact ⟨by first | rfl | (simp [eN, eS] <;> rfl) | (simp [*, eN, eS] <;> rfl), by repeat (first | (with_reducible first | exact HB.out | apply bA | apply bN | apply bD | refine bS ?_ GE554.out | refine bS ?_ GE557.out) | exact HB.out)⟩
        ·rw [if_neg c14] at H
         exact absurd H (by simp)
       ·rw [if_neg c13] at H
        exact absurd H (by simp)
      ·rw [if_neg c12] at H
       have c12b0 : decide (x24_2 < (l0_1.length : Int)) = false := decide_eq_false c12
       clear c12
       obtain rfl := Option.some.inj H
       go_wp2
       go_ret
       exact ⟨by first | rfl | (simp [eN, eS] <;> rfl) | (simp [*, eN, eS] <;> rfl), by repeat (first | (with_reducible first | exact HB.out | apply bA | apply bN | apply bD | refine bS ?_ GE554.out) | exact HB.out)⟩
def solsticelaw10_wakes.f (k : Nat)  : Option (Bool) := (fields_Split.f (⟨#[49, 58, 48, 48, 32, 69, 85, 32, 67, 69, 37, 115, 84, 32, 49, 57, 57, 54, 32, 79, 99, 116, 32, 108, 97, 115, 116, 83, 117, 110, 32, 50, 115]⟩ : ByteArray)).bind fun bt559 => ((zone_Era.f k bt559.1).bind fun bt563 => ((zone_Text.f k bt563.1 bt563.2.1 bt563.2.2.1 bt563.2.2.2.1 bt563.2.2.2.2.1 bt563.2.2.2.2.2.1 bt563.2.2.2.2.2.2.1 bt563.2.2.2.2.2.2.2.1 bt563.2.2.2.2.2.2.2.2.1 bt563.2.2.2.2.2.2.2.2.2.1 bt563.2.2.2.2.2.2.2.2.2.2.1 bt563.2.2.2.2.2.2.2.2.2.2.2.1 bt563.2.2.2.2.2.2.2.2.2.2.2.2.1).bind fun bt578 => (if bt559.2 = 0 then (if bt563.2.2.2.2.2.2.2.2.2.2.2.2.2 = 0 then (if bt578.2 = 0 then (if bt563.2.1 = 3 then (if bt563.2.2.2.1.toList = ([69, 85] : List UInt8) then (if bt563.2.2.2.2.2.1 = true then (if bt563.2.2.2.2.2.2.1 = 1996 then (if bt578.1.toList = ([49, 32, 69, 85, 32, 67, 69, 37, 115, 84, 32, 49, 57, 57, 54, 32, 79, 99, 116, 32, 108, 97, 115, 116, 83, 117, 110, 32, 50, 115] : List UInt8) then ((zone_Format.f k (⟨#[65, 47, 66]⟩ : ByteArray)).bind fun t580 => (if t580 = true then ((zone_Format.f k (⟨#[37, 120]⟩ : ByteArray)).bind fun t581 => (if t581 = true then (none) else ((zone_Check.f k (⟨#[]⟩ : ByteArray) ([] : List (S45))).bind fun t582 => (some (t582 == 11))))) else (none))) else (none)) else (none)) else (none)) else (none)) else (none)) else (none)) else (none)) else (none))))
set_option maxHeartbeats 8000000 in
set_option maxRecDepth 100000 in
theorem solsticelaw10_wakes.calls (k : Nat)  (r : Bool) (w : World) (hG : GW w) (h : solsticelaw10_wakes.f k  = some r) :
  Calls Tryz.prog 25 #[] w fun e w' => e = .returned (.bool r) ∧ Below w.heap.size w w' := by
 have hu45 := Tryz.underlying45
 have hu54 := Tryz.underlying54
 have HG := As.mk hG
 clear hG
 have HB := As.mk (Below.refl w.heap.size w)
 have H : ((fields_Split.f (⟨#[49, 58, 48, 48, 32, 69, 85, 32, 67, 69, 37, 115, 84, 32, 49, 57, 57, 54, 32, 79, 99, 116, 32, 108, 97, 115, 116, 83, 117, 110, 32, 50, 115]⟩ : ByteArray)).bind fun bt559 => ((zone_Era.f k bt559.1).bind fun bt563 => ((zone_Text.f k bt563.1 bt563.2.1 bt563.2.2.1 bt563.2.2.2.1 bt563.2.2.2.2.1 bt563.2.2.2.2.2.1 bt563.2.2.2.2.2.2.1 bt563.2.2.2.2.2.2.2.1 bt563.2.2.2.2.2.2.2.2.1 bt563.2.2.2.2.2.2.2.2.2.1 bt563.2.2.2.2.2.2.2.2.2.2.1 bt563.2.2.2.2.2.2.2.2.2.2.2.1 bt563.2.2.2.2.2.2.2.2.2.2.2.2.1).bind fun bt578 => (if bt559.2 = 0 then (if bt563.2.2.2.2.2.2.2.2.2.2.2.2.2 = 0 then (if bt578.2 = 0 then (if bt563.2.1 = 3 then (if bt563.2.2.2.1.toList = ([69, 85] : List UInt8) then (if bt563.2.2.2.2.2.1 = true then (if bt563.2.2.2.2.2.2.1 = 1996 then (if bt578.1.toList = ([49, 32, 69, 85, 32, 67, 69, 37, 115, 84, 32, 49, 57, 57, 54, 32, 79, 99, 116, 32, 108, 97, 115, 116, 83, 117, 110, 32, 50, 115] : List UInt8) then ((zone_Format.f k (⟨#[65, 47, 66]⟩ : ByteArray)).bind fun t580 => (if t580 = true then ((zone_Format.f k (⟨#[37, 120]⟩ : ByteArray)).bind fun t581 => (if t581 = true then (none) else ((zone_Check.f k (⟨#[]⟩ : ByteArray) ([] : List (S45))).bind fun t582 => (some (t582 == 11))))) else (none))) else (none)) else (none)) else (none)) else (none)) else (none)) else (none)) else (none)) else (none))))) = some r := h
 clear h
 replace H := Option.bind_eq_some_iff.mp H
 obtain ⟨⟨t559, t560⟩, A10, H⟩ := H
 (try dsimp only at H)
 have A1 := As.mk A10
 clear A10
 replace H := Option.bind_eq_some_iff.mp H
 obtain ⟨⟨t563, t564, t565, t566, t567, t568, t569, t570, t571, t572, t573, t574, t575, t576⟩, A20, H⟩ := H
 (try dsimp only at H)
 have A2 := As.mk A20
 clear A20
 replace H := Option.bind_eq_some_iff.mp H
 obtain ⟨⟨t578, t579⟩, A30, H⟩ := H
 (try dsimp only at H)
 have A3 := As.mk A30
 clear A30
 by_cases c4 : t560 = 0
 ·rw [if_pos c4] at H
  have c4b0 : (t560 == 0) = true := beq_iff_eq.mpr c4
  have c4b1 : (t560 != 0) = false := bne_eq_false_iff_eq.mpr c4
  clear c4
  by_cases c5 : t576 = 0
  ·rw [if_pos c5] at H
   have c5b0 : (t576 == 0) = true := beq_iff_eq.mpr c5
   have c5b1 : (t576 != 0) = false := bne_eq_false_iff_eq.mpr c5
   clear c5
   by_cases c6 : t579 = 0
   ·rw [if_pos c6] at H
    have c6b0 : (t579 == 0) = true := beq_iff_eq.mpr c6
    have c6b1 : (t579 != 0) = false := bne_eq_false_iff_eq.mpr c6
    clear c6
    by_cases c7 : t564 = 3
    ·rw [if_pos c7] at H
     have c7b0 : (t564 == 3) = true := beq_iff_eq.mpr c7
     have c7b1 : (t564 != 3) = false := bne_eq_false_iff_eq.mpr c7
     clear c7
     by_cases c8 : t566.toList = ([69, 85] : List UInt8)
     ·rw [if_pos c8] at H
      have c8b0 : (t566.toList == ([69, 85] : List UInt8)) = true := beq_iff_eq.mpr c8
      have c8b1 : (t566.toList != ([69, 85] : List UInt8)) = false := bne_eq_false_iff_eq.mpr c8
      clear c8
      by_cases c9 : t568 = true
      ·subst c9
       have H1 : (if t569 = 1996 then (if t578.toList = ([49, 32, 69, 85, 32, 67, 69, 37, 115, 84, 32, 49, 57, 57, 54, 32, 79, 99, 116, 32, 108, 97, 115, 116, 83, 117, 110, 32, 50, 115] : List UInt8) then ((zone_Format.f k (⟨#[65, 47, 66]⟩ : ByteArray)).bind fun t580 => (if t580 = true then ((zone_Format.f k (⟨#[37, 120]⟩ : ByteArray)).bind fun t581 => (if t581 = true then (none) else ((zone_Check.f k (⟨#[]⟩ : ByteArray) ([] : List (S45))).bind fun t582 => (some (t582 == 11))))) else (none))) else (none)) else (none)) = some r := by rw [if_pos rfl] at H; exact H
       clear H
       have H := H1
       clear H1
       by_cases c10 : t569 = 1996
       ·rw [if_pos c10] at H
        have c10b0 : (t569 == 1996) = true := beq_iff_eq.mpr c10
        have c10b1 : (t569 != 1996) = false := bne_eq_false_iff_eq.mpr c10
        clear c10
        by_cases c11 : t578.toList = ([49, 32, 69, 85, 32, 67, 69, 37, 115, 84, 32, 49, 57, 57, 54, 32, 79, 99, 116, 32, 108, 97, 115, 116, 83, 117, 110, 32, 50, 115] : List UInt8)
        ·rw [if_pos c11] at H
         have c11b0 : (t578.toList == ([49, 32, 69, 85, 32, 67, 69, 37, 115, 84, 32, 49, 57, 57, 54, 32, 79, 99, 116, 32, 108, 97, 115, 116, 83, 117, 110, 32, 50, 115] : List UInt8)) = true := beq_iff_eq.mpr c11
         have c11b1 : (t578.toList != ([49, 32, 69, 85, 32, 67, 69, 37, 115, 84, 32, 49, 57, 57, 54, 32, 79, 99, 116, 32, 108, 97, 115, 116, 83, 117, 110, 32, 50, 115] : List UInt8)) = false := bne_eq_false_iff_eq.mpr c11
         clear c11
         replace H := Option.bind_eq_some_iff.mp H
         obtain ⟨t580, A120, H⟩ := H
         (try dsimp only at H)
         have A12 := As.mk A120
         clear A120
         by_cases c13 : t580 = true
         ·subst c13
          have H1 : ((zone_Format.f k (⟨#[37, 120]⟩ : ByteArray)).bind fun t581 => (if t581 = true then (none) else ((zone_Check.f k (⟨#[]⟩ : ByteArray) ([] : List (S45))).bind fun t582 => (some (t582 == 11))))) = some r := by rw [if_pos rfl] at H; exact H
          clear H
          have H := H1
          clear H1
          replace H := Option.bind_eq_some_iff.mp H
          obtain ⟨t581, A140, H⟩ := H
          (try dsimp only at H)
          have A14 := As.mk A140
          clear A140
          by_cases c15 : t581 = true
          ·subst c15
           have H1 : (none) = some r := by rw [if_pos rfl] at H; exact H
           clear H
           have H := H1
           clear H1
           exact absurd H (by simp)
          ·replace c15 := Bool.eq_false_iff.mpr c15
           subst c15
           have H1 : ((zone_Check.f k (⟨#[]⟩ : ByteArray) ([] : List (S45))).bind fun t582 => (some (t582 == 11))) = some r := by rw [if_neg (show ¬ (false = true) by decide)] at H; exact H
           clear H
           have H := H1
           clear H1
           replace H := Option.bind_eq_some_iff.mp H
           obtain ⟨t582, A160, H⟩ := H
           (try dsimp only at H)
           have A16 := As.mk A160
           clear A160
           obtain rfl := Option.some.inj H
           go_enter Tryz.func25, Tryz.ntmps25
           go_wp2_with (first | ((with_reducible refine gC (f := 18) rfl ?_); refine goesL_ (some 8) rfl rfl Tryz.func18 (by kernel_rfl) rfl #[.string (⟨#[49, 58, 48, 48, 32, 69, 85, 32, 67, 69, 37, 115, 84, 32, 49, 57, 57, 54, 32, 79, 99, 116, 32, 108, 97, 115, 116, 83, 117, 110, 32, 50, 115]⟩ : ByteArray)] rfl (by (try simp only [List.map_toArray, List.map_cons, List.map_nil]); first | done | rfl | (simp only [List.length_drop, List.length_take]; rfl)) ?_; (with_reducible refine (fields_Split.calls (⟨#[49, 58, 48, 48, 32, 69, 85, 32, 67, 69, 37, 115, 84, 32, 49, 57, 57, 54, 32, 79, 99, 116, 32, 108, 97, 115, 116, 83, 117, 110, 32, 50, 115]⟩ : ByteArray) t559 t560 _ A1.out).mono ?_); rintro e w17 ⟨v561, rfl, ho0, hb⟩; refine ⟨_, rfl, ?_⟩; have n0_ := As.mk (Kd.R_lower ho0 (bZ (by repeat (first | (with_reducible first | exact HB.out | apply bA | apply bN | apply bD) | exact HB.out)))); have n1_ := As.mk (bT (by repeat (first | (with_reducible first | exact HB.out | apply bA | apply bN | apply bD) | exact HB.out)) hb); clear HB; have HO562 := n0_; have HB := n1_; clear n0_ n1_; (try clear hb); (try clear hb2); (try clear hk); (try clear hi); (try clear ho0); obtain ⟨Ao18, co18, eo18⟩ := Kd.R_slice HO562.out; subst eo18) | ((with_reducible refine gC (f := 26) rfl ?_); refine goesL_ (some 13) rfl rfl Tryz.func26 (by kernel_rfl) rfl #[.slice Ao18 t559.length co18] rfl (by (try simp only [List.map_toArray, List.map_cons, List.map_nil]); first | done | rfl | (simp only [List.length_drop, List.length_take]; rfl)) ?_; (with_reducible refine (zone_Era.calls k _ _ t559 t563 t564 t565 t566 t567 true t569 t570 t571 t572 t573 t574 t575 t576 _ ?side1 ?side2 ?side3 A2.out).mono ?_); (case side1 => exact GW.on HG.out (by repeat (first | (with_reducible first | exact HB.out | apply bA | apply bN | apply bD) | exact HB.out))); (case side2 => repeat (first | exact (Kd.R_reads' HO562.out).2.2 | (with_reducible refine Kd.C_alloc ?_ _) | (with_reducible refine Kd.C_drewN ?_ _) | (with_reducible refine Kd.C_drew ?_))); (case side3 => exact (Kd.R_reads' HO562.out).2.1); rintro e w19 ⟨rfl, hb⟩; refine ⟨_, rfl, ?_⟩; have n0_ := As.mk (Kd.R_below (by (with_reducible repeat (first | apply Kd.R_alloc | apply Kd.R_drewN | apply Kd.R_drew)); exact HO562.out) hb); have n1_ := As.mk (bT (by repeat (first | (with_reducible first | exact HB.out | apply bA | apply bN | apply bD) | exact HB.out)) hb); clear HO562; clear HB; have HO562 := n0_; have HB := n1_; clear n0_ n1_; (try clear hb); (try clear hb2); (try clear hk); (try clear hi)) | ((with_reducible refine gD (N := 3) rfl ?_); refine xE ?hg (N := 3) ?hd (cs := #[.int .i64 0, .int .i64 0, .int .i64 0, .string (⟨#[]⟩ : ByteArray), .string (⟨#[]⟩ : ByteArray), .bool false, .int .i64 0, .int .i64 0, .int .i64 0, .int .i64 0, .int .i64 0, .int .i64 0, .int .i64 0]) (t := 45) ?hr ?_; (case hd => rfl); (case hg => rfl); (case hr => first | (go_simp; done) | (go_simp; rfl)); intro gb577 hg w20 hbox hb; have n0_ := As.mk (Kd.R_below (by (with_reducible repeat (first | apply Kd.R_alloc | apply Kd.R_drewN | apply Kd.R_drew)); exact HO562.out) hb); have n1_ := As.mk (bT (by repeat (first | (with_reducible first | exact HB.out | apply bA | apply bN | apply bD) | exact HB.out)) hb); have n2_ := As.mk (hbox); have n3_ := As.mk ((by rw [hg]; exact (bZ (by repeat (first | (with_reducible first | exact HB.out | apply bA | apply bN | apply bD) | exact HB.out))) : w.heap.size ≤ gb577)); have n4_ := As.mk ((by rw [hg]; exact (bZ (by repeat (first | (with_reducible first | exact HB.out | apply bA | apply bN | apply bD) | exact HB.out))) : w.heap.size ≤ gb577)); clear HO562; clear HB; have HO562 := n0_; have HB := n1_; have BK577 := n2_; have GW577 := n3_; have GE577 := n4_; clear n0_ n1_ n2_ n3_ n4_; clear hb hbox hg; obtain ⟨hcz21_0, hcz21_1, hcz21_2, hcz21_3, hcz21_4, hcz21_5, hcz21_6, hcz21_7, hcz21_8, hcz21_9, hcz21_10, hcz21_11, hcz21_12, hfz21_0, hfz21_1, hfz21_2, hfz21_3, hfz21_4, hfz21_5, hfz21_6, hfz21_7, hfz21_8, hfz21_9, hfz21_10, hfz21_11, hfz21_12⟩ := cl13 BK577.out) | ((with_reducible refine gS (t := 45) (p := 3) rfl ?_); refine store_event (t := 45) (p := 3) (v := ?vo_w22) (w1 := (((((((((((((w20.setCell ⟨gb577, 0, none⟩ (.int .i64 t563)).setCell ⟨gb577, 1, none⟩ (.int .i64 t564)).setCell ⟨gb577, 2, none⟩ (.int .i64 t565)).setCell ⟨gb577, 3, none⟩ (.string t566)).setCell ⟨gb577, 4, none⟩ (.string t567)).setCell ⟨gb577, 5, none⟩ (.bool true)).setCell ⟨gb577, 6, none⟩ (.int .i64 t569)).setCell ⟨gb577, 7, none⟩ (.int .i64 t570)).setCell ⟨gb577, 8, none⟩ (.int .i64 t571)).setCell ⟨gb577, 9, none⟩ (.int .i64 t572)).setCell ⟨gb577, 10, none⟩ (.int .i64 t573)).setCell ⟨gb577, 11, none⟩ (.int .i64 t574)).setCell ⟨gb577, 12, none⟩ (.int .i64 t575))) ?hg ?ho ?hn ?hr ?_; (case ho => rfl); (case hg => rfl); (case hn => rfl); (case hr => first | (go_simp; done) | (go_simp; rfl)); intro w22 hw; have n0_ : As (Kd.R Kd.string 9 w22 w.heap.size (fun _ => True) (.slice Ao18 t559.length co18) t559) := ⟨(by rw [hw]; exact (by (with_reducible repeat (first | apply Kd.R_alloc | apply Kd.R_drewN | apply Kd.R_drew)); exact Kd.R_mono (Kd.R_far (p := ⟨gb577, 12, none⟩) (Kd.R_far (p := ⟨gb577, 11, none⟩) (Kd.R_far (p := ⟨gb577, 10, none⟩) (Kd.R_far (p := ⟨gb577, 9, none⟩) (Kd.R_far (p := ⟨gb577, 8, none⟩) (Kd.R_far (p := ⟨gb577, 7, none⟩) (Kd.R_far (p := ⟨gb577, 6, none⟩) (Kd.R_far (p := ⟨gb577, 5, none⟩) (Kd.R_far (p := ⟨gb577, 4, none⟩) (Kd.R_far (p := ⟨gb577, 3, none⟩) (Kd.R_far (p := ⟨gb577, 2, none⟩) (Kd.R_far (p := ⟨gb577, 1, none⟩) (Kd.R_far (p := ⟨gb577, 0, none⟩) (Kd.R_types HO562.out BK577.out (by decide)) (fun _ hk => hk.2) (.int .i64 t563)) (fun _ hk => hk.2) (.int .i64 t564)) (fun _ hk => hk.2) (.int .i64 t565)) (fun _ hk => hk.2) (.string t566)) (fun _ hk => hk.2) (.string t567)) (fun _ hk => hk.2) (.bool true)) (fun _ hk => hk.2) (.int .i64 t569)) (fun _ hk => hk.2) (.int .i64 t570)) (fun _ hk => hk.2) (.int .i64 t571)) (fun _ hk => hk.2) (.int .i64 t572)) (fun _ hk => hk.2) (.int .i64 t573)) (fun _ hk => hk.2) (.int .i64 t574)) (fun _ hk => hk.2) (.int .i64 t575)) (fun _ hk => trivial)))⟩; have n1_ : As (w22.heap[gb577]? = some (.cells #[.int .i64 t563, .int .i64 t564, .int .i64 t565, .string t566, .string t567, .bool true, .int .i64 t569, .int .i64 t570, .int .i64 t571, .int .i64 t572, .int .i64 t573, .int .i64 t574, .int .i64 t575] 45 (0, 0))) := ⟨(by rw [hw]; exact (by (with_reducible repeat (first | refine kN ?_ _ | refine kD ?_ | refine kA ?_ _)); refine blk_put (cs := #[.int .i64 t563, .int .i64 t564, .int .i64 t565, .string t566, .string t567, .bool true, .int .i64 t569, .int .i64 t570, .int .i64 t571, .int .i64 t572, .int .i64 t573, .int .i64 t574, .int .i64 0]) ?_ 12 _ rfl; (with_reducible repeat (first | refine kN ?_ _ | refine kD ?_ | refine kA ?_ _)); refine blk_put (cs := #[.int .i64 t563, .int .i64 t564, .int .i64 t565, .string t566, .string t567, .bool true, .int .i64 t569, .int .i64 t570, .int .i64 t571, .int .i64 t572, .int .i64 t573, .int .i64 0, .int .i64 0]) ?_ 11 _ rfl; (with_reducible repeat (first | refine kN ?_ _ | refine kD ?_ | refine kA ?_ _)); refine blk_put (cs := #[.int .i64 t563, .int .i64 t564, .int .i64 t565, .string t566, .string t567, .bool true, .int .i64 t569, .int .i64 t570, .int .i64 t571, .int .i64 t572, .int .i64 0, .int .i64 0, .int .i64 0]) ?_ 10 _ rfl; (with_reducible repeat (first | refine kN ?_ _ | refine kD ?_ | refine kA ?_ _)); refine blk_put (cs := #[.int .i64 t563, .int .i64 t564, .int .i64 t565, .string t566, .string t567, .bool true, .int .i64 t569, .int .i64 t570, .int .i64 t571, .int .i64 0, .int .i64 0, .int .i64 0, .int .i64 0]) ?_ 9 _ rfl; (with_reducible repeat (first | refine kN ?_ _ | refine kD ?_ | refine kA ?_ _)); refine blk_put (cs := #[.int .i64 t563, .int .i64 t564, .int .i64 t565, .string t566, .string t567, .bool true, .int .i64 t569, .int .i64 t570, .int .i64 0, .int .i64 0, .int .i64 0, .int .i64 0, .int .i64 0]) ?_ 8 _ rfl; (with_reducible repeat (first | refine kN ?_ _ | refine kD ?_ | refine kA ?_ _)); refine blk_put (cs := #[.int .i64 t563, .int .i64 t564, .int .i64 t565, .string t566, .string t567, .bool true, .int .i64 t569, .int .i64 0, .int .i64 0, .int .i64 0, .int .i64 0, .int .i64 0, .int .i64 0]) ?_ 7 _ rfl; (with_reducible repeat (first | refine kN ?_ _ | refine kD ?_ | refine kA ?_ _)); refine blk_put (cs := #[.int .i64 t563, .int .i64 t564, .int .i64 t565, .string t566, .string t567, .bool true, .int .i64 0, .int .i64 0, .int .i64 0, .int .i64 0, .int .i64 0, .int .i64 0, .int .i64 0]) ?_ 6 _ rfl; (with_reducible repeat (first | refine kN ?_ _ | refine kD ?_ | refine kA ?_ _)); refine blk_put (cs := #[.int .i64 t563, .int .i64 t564, .int .i64 t565, .string t566, .string t567, .bool false, .int .i64 0, .int .i64 0, .int .i64 0, .int .i64 0, .int .i64 0, .int .i64 0, .int .i64 0]) ?_ 5 _ rfl; (with_reducible repeat (first | refine kN ?_ _ | refine kD ?_ | refine kA ?_ _)); refine blk_put (cs := #[.int .i64 t563, .int .i64 t564, .int .i64 t565, .string t566, .string (⟨#[]⟩ : ByteArray), .bool false, .int .i64 0, .int .i64 0, .int .i64 0, .int .i64 0, .int .i64 0, .int .i64 0, .int .i64 0]) ?_ 4 _ rfl; (with_reducible repeat (first | refine kN ?_ _ | refine kD ?_ | refine kA ?_ _)); refine blk_put (cs := #[.int .i64 t563, .int .i64 t564, .int .i64 t565, .string (⟨#[]⟩ : ByteArray), .string (⟨#[]⟩ : ByteArray), .bool false, .int .i64 0, .int .i64 0, .int .i64 0, .int .i64 0, .int .i64 0, .int .i64 0, .int .i64 0]) ?_ 3 _ rfl; (with_reducible repeat (first | refine kN ?_ _ | refine kD ?_ | refine kA ?_ _)); refine blk_put (cs := #[.int .i64 t563, .int .i64 t564, .int .i64 0, .string (⟨#[]⟩ : ByteArray), .string (⟨#[]⟩ : ByteArray), .bool false, .int .i64 0, .int .i64 0, .int .i64 0, .int .i64 0, .int .i64 0, .int .i64 0, .int .i64 0]) ?_ 2 _ rfl; (with_reducible repeat (first | refine kN ?_ _ | refine kD ?_ | refine kA ?_ _)); refine blk_put (cs := #[.int .i64 t563, .int .i64 0, .int .i64 0, .string (⟨#[]⟩ : ByteArray), .string (⟨#[]⟩ : ByteArray), .bool false, .int .i64 0, .int .i64 0, .int .i64 0, .int .i64 0, .int .i64 0, .int .i64 0, .int .i64 0]) ?_ 1 _ rfl; (with_reducible repeat (first | refine kN ?_ _ | refine kD ?_ | refine kA ?_ _)); refine blk_put (cs := #[.int .i64 0, .int .i64 0, .int .i64 0, .string (⟨#[]⟩ : ByteArray), .string (⟨#[]⟩ : ByteArray), .bool false, .int .i64 0, .int .i64 0, .int .i64 0, .int .i64 0, .int .i64 0, .int .i64 0, .int .i64 0]) ?_ 0 _ rfl; (with_reducible repeat (first | refine kN ?_ _ | refine kD ?_ | refine kA ?_ _)); exact BK577.out))⟩; have n2_ : As (Below w.heap.size w w22) := ⟨(by rw [hw]; exact (by repeat (first | (with_reducible first | exact HB.out | apply bA | apply bN | apply bD | refine bS ?_ GE577.out) | exact HB.out)))⟩; clear hw; clear HO562; clear BK577; clear HB; have HO562 := n0_; have BK577 := n1_; have HB := n2_; clear n0_ n1_ n2_; obtain ⟨hcz23_0, hcz23_1, hcz23_2, hcz23_3, hcz23_4, hcz23_5, hcz23_6, hcz23_7, hcz23_8, hcz23_9, hcz23_10, hcz23_11, hcz23_12, hfz23_0, hfz23_1, hfz23_2, hfz23_3, hfz23_4, hfz23_5, hfz23_6, hfz23_7, hfz23_8, hfz23_9, hfz23_10, hfz23_11, hfz23_12⟩ := cl13 BK577.out) | ((with_reducible refine gC (f := 24) rfl ?_); refine goesL_ (some 18) rfl rfl Tryz.func24 (by kernel_rfl) rfl #[.agg #[.int .i64 t563, .int .i64 t564, .int .i64 t565, .string t566, .string t567, .bool true, .int .i64 t569, .int .i64 t570, .int .i64 t571, .int .i64 t572, .int .i64 t573, .int .i64 t574, .int .i64 t575]] rfl (by (try simp only [List.map_toArray, List.map_cons, List.map_nil]); first | done | rfl | (simp only [List.length_drop, List.length_take]; rfl)) ?_; (with_reducible refine (zone_Text.calls k t563 t564 t565 t566 t567 true t569 t570 t571 t572 t573 t574 t575 t578 t579 _ ?side1 A3.out).mono ?_); (case side1 => exact GW.on HG.out (by repeat (first | (with_reducible first | exact HB.out | apply bA | apply bN | apply bD | refine bS ?_ GE577.out) | exact HB.out))); rintro e w24 ⟨rfl, hb⟩; refine ⟨_, rfl, ?_⟩; have n0_ := As.mk (Kd.R_below (by (with_reducible repeat (first | apply Kd.R_alloc | apply Kd.R_drewN | apply Kd.R_drew)); exact HO562.out) hb); have n1_ := As.mk (kB (g := gb577) (o := .cells #[.int .i64 t563, .int .i64 t564, .int .i64 t565, .string t566, .string t567, .bool true, .int .i64 t569, .int .i64 t570, .int .i64 t571, .int .i64 t572, .int .i64 t573, .int .i64 t574, .int .i64 t575] 45 (0, 0)) (by (with_reducible repeat (first | refine kN ?_ _ | refine kD ?_ | refine kA ?_ _)); exact BK577.out) hb); have n2_ := As.mk (bT (by repeat (first | (with_reducible first | exact HB.out | apply bA | apply bN | apply bD | refine bS ?_ GE577.out) | exact HB.out)) hb); clear HO562; clear BK577; clear HB; have HO562 := n0_; have BK577 := n1_; have HB := n2_; clear n0_ n1_ n2_; (try clear hb); (try clear hb2); (try clear hk); (try clear hi); obtain ⟨hcz25_0, hcz25_1, hcz25_2, hcz25_3, hcz25_4, hcz25_5, hcz25_6, hcz25_7, hcz25_8, hcz25_9, hcz25_10, hcz25_11, hcz25_12, hfz25_0, hfz25_1, hfz25_2, hfz25_3, hfz25_4, hfz25_5, hfz25_6, hfz25_7, hfz25_8, hfz25_9, hfz25_10, hfz25_11, hfz25_12⟩ := cl13 BK577.out) | (go_at_call 30; (with_reducible refine (zone_Format.calls k (⟨#[65, 47, 66]⟩ : ByteArray) true _ A12.out).mono ?_); rintro e w' ⟨rfl, ⟨nd, rfl⟩⟩) | (go_at_call 30; (with_reducible refine (zone_Format.calls k (⟨#[37, 120]⟩ : ByteArray) false _ A14.out).mono ?_); rintro e w' ⟨rfl, ⟨nd, rfl⟩⟩) | (go_at_call 29; (refine (zone_Check.calls k (⟨#[]⟩ : ByteArray) _ _ ([] : List (S45)) t582 _ ?side1 ?side2 A16.out).mono ?_); (case side1 => exact Kd.C_nil _ _); (case side2 => exact Nat.le_refl _); rintro e w26 ⟨rfl, hb⟩; have n0_ := As.mk (Kd.R_below (by (with_reducible repeat (first | apply Kd.R_alloc | apply Kd.R_drewN | apply Kd.R_drew)); exact HO562.out) hb); have n1_ := As.mk (kB (g := gb577) (o := .cells #[.int .i64 t563, .int .i64 t564, .int .i64 t565, .string t566, .string t567, .bool true, .int .i64 t569, .int .i64 t570, .int .i64 t571, .int .i64 t572, .int .i64 t573, .int .i64 t574, .int .i64 t575] 45 (0, 0)) (by (with_reducible repeat (first | refine kN ?_ _ | refine kD ?_ | refine kA ?_ _)); exact BK577.out) hb); have n2_ := As.mk (bT (by repeat (first | (with_reducible first | exact HB.out | apply bA | apply bN | apply bD | refine bS ?_ GE577.out) | exact HB.out)) hb); clear HO562; clear BK577; clear HB; have HO562 := n0_; have BK577 := n1_; have HB := n2_; clear n0_ n1_ n2_; (try clear hb); (try clear hb2); (try clear hk); (try clear hi)))
           go_ret
           exact ⟨by first | rfl | (simp [eN, eS] <;> rfl) | (simp [*, eN, eS] <;> rfl), by repeat (first | (with_reducible first | exact HB.out | apply bA | apply bN | apply bD | refine bS ?_ GE577.out) | exact HB.out)⟩
         ·replace c13 := Bool.eq_false_iff.mpr c13
          subst c13
          have H1 : (none) = some r := by rw [if_neg (show ¬ (false = true) by decide)] at H; exact H
          clear H
          have H := H1
          clear H1
          exact absurd H (by simp)
        ·rw [if_neg c11] at H
         exact absurd H (by simp)
       ·rw [if_neg c10] at H
        exact absurd H (by simp)
      ·replace c9 := Bool.eq_false_iff.mpr c9
       subst c9
       have H1 : (none) = some r := by rw [if_neg (show ¬ (false = true) by decide)] at H; exact H
       clear H
       have H := H1
       clear H1
       exact absurd H (by simp)
     ·rw [if_neg c8] at H
      exact absurd H (by simp)
    ·rw [if_neg c7] at H
     exact absurd H (by simp)
   ·rw [if_neg c6] at H
    exact absurd H (by simp)
  ·rw [if_neg c5] at H
   exact absurd H (by simp)
 ·rw [if_neg c4] at H
  exact absurd H (by simp)
end Go.Proofs.YtfhemdnjoedioaaGreatDoor.X
end
