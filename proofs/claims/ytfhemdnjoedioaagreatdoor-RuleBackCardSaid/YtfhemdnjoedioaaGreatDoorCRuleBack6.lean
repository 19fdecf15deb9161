import Derived.Below
import Derived.Deep.Draws
import Derived.Deep.AppendLies
import Derived.Maps.AppendAt
import Derived.OwnWalk
import Derived.Laws.BytesArg
import Derived.Laws.MakeOwn
import Derived.Laws.OwnMore
import Derived.Deep.OwnRows
import Derived.Tactics
import Derived.Lib.ConvBytes
import Derived.Laws.Slices
import Derived.WalkKit
import Derived.KernelRfl
import Derived.RowKit3
import Derived.Deep.LoopGhost
import Derived.Deep.QuietTactic
import Derived.BigQuiet
import Derived.WideLaws
import Derived.Deep.DeepCutAuto
import Derived.Deep.CutBlock
import Derived.Deep.RegionHeld3
import Derived.Laws.Rows
import Derived.Lib.AppendStr
import Derived.ArgAppend
import Derived.Laws.IdiomCopy
import Derived.RowKit
import Derived.OrdersHeld
import Derived.Laws.BitsLemmas
import Derived.Laws.StructEq
import Derived.Test.YtfhemdnjoedioaaGreatDoorProg
import Derived.Lib.AppendIntMem
import Derived.Shelf.Strings.Fields
import Derived.Lib.ItoaNum
import Derived.Shelf.Strings.Builder1
import Derived.Shelf.Strings.Builder2
import Derived.Shelf.Strings.OnBuilder
import Derived.Shelf.Small.Bits
import Derived.Shelf.Small.Strs
import Derived.Shelf.Strings.BuilderF
import Derived.Shelf.Strconv.Itoa0
import Derived.Shelf.Strconv.Itoa1
import Derived.Shelf.LaysM
import Derived.Shelf.Strconv.Itoa2
import Derived.Shelf.Strconv.Itoa3
import Derived.Shelf.Strings.Search1
import Derived.Shelf.Strings.Search2
import Derived.Shelf.Strings.Search3
import Derived.Shelf.Strings.Cut
import Derived.Shelf.Strings.Count
import Derived.Shelf.Strings.Shaped
import Derived.Shelf.Sort.Plain
import Derived.Shelf.Strings.Prefix
import Derived.Shelf.Strings.Split
import Derived.Shelf.Strings.Fold
import Derived.Shelf.Unicode.Latin
import Derived.Shelf.Bits.Mul64
import Derived.Shelf.Strings.Repeat
import Derived.Shelf.Unicode.DecodeSlow
import Derived.Shelf.Unicode.DecodeAny
import Derived.Shelf.Unicode.Is16White
import Derived.Shelf.Unicode.IsSpaceAny
import Derived.Shelf.Unicode.CaseLookup
import Derived.Shelf.Unicode.CaseConvert
import Derived.Shelf.Unicode.Is16Any
import Derived.Shelf.Unicode.Is32Any
import Derived.Shelf.Unicode.ExclAny
import Derived.Shelf.Slices.CompactS
import Derived.Shelf.Slices.Cells
import Derived.Shelf.Slices.In.SortNone
import Derived.Outline
import Derived.Lib.SplitLaws
import Derived.Test.YtfhemdnjoedioaaGreatDoorCRuleBack5
section
namespace Go.Proofs.YtfhemdnjoedioaaGreatDoor.X
open Go.RowKit Go.Proofs.YtfhemdnjoedioaaGreatDoorW.PrintWords Go.Proofs.YtfhemdnjoedioaaGreatDoorW.PrintLast Go.Proofs.YtfhemdnjoedioaaGreatDoorW.PrintMore
attribute [local go_sem] max2_int min2_int max_two min_two max_three min_three max_four min_four
set_option linter.unusedVariables false
set_option linter.unusedSimpArgs false
attribute [local go_sem high] eqA27
mutual
def solsticelaw09_RuleBack.j0 : Nat → Bool → ByteArray → Int → Int → Int → Int → Int → Int → Int → Int → Int → ByteArray → ByteArray → Int → Int → Int → Int → Int → Int → Int → Int → Int → ByteArray → Option (Bool)
 | 0, _, _, _, _, _, _, _, _, _, _, _, _, _, _, _, _, _, _, _, _, _, _, _ => none
 | k + 1, x34, x345000, x345001, x345002, x345003, x345004, x345005, x345006, x345007, x345008, x345009, x345010, x346000, x346001, x346002, x346003, x346004, x346005, x346006, x346007, x346008, x346009, x346010 => if x34 = true then (some true) else ((rule_Text.f k x345000 x345001 x345002 x345003 x345004 x345005 x345006 x345007 x345008 x345009 x345010).bind fun bt346 => ((rule_Text.f k x346000 x346001 x346002 x346003 x346004 x346005 x346006 x346007 x346008 x346009 x346010).bind fun bt348 => (if bt346.2 = 0 then (solsticelaw09_RuleBack.j1 k bt346.1 bt346.2 bt348.1 bt348.2 (bt348.2 != 0) x345000 x345001 x345002 x345003 x345004 x345005 x345006 x345007 x345008 x345009 x345010 x346000 x346001 x346002 x346003 x346004 x346005 x346006 x346007 x346008 x346009 x346010) else (solsticelaw09_RuleBack.j1 k bt346.1 bt346.2 bt348.1 bt348.2 true x345000 x345001 x345002 x345003 x345004 x345005 x345006 x345007 x345008 x345009 x345010 x346000 x346001 x346002 x346003 x346004 x346005 x346006 x346007 x346008 x346009 x346010))))
def solsticelaw09_RuleBack.j1 : Nat → ByteArray → Int → ByteArray → Int → Bool → ByteArray → Int → Int → Int → Int → Int → Int → Int → Int → Int → ByteArray → ByteArray → Int → Int → Int → Int → Int → Int → Int → Int → Int → ByteArray → Option (Bool)
 | 0, _, _, _, _, _, _, _, _, _, _, _, _, _, _, _, _, _, _, _, _, _, _, _, _, _, _, _ => none
 | k + 1, x5, x6, x7, x8, x50, x345000, x345001, x345002, x345003, x345004, x345005, x345006, x345007, x345008, x345009, x345010, x346000, x346001, x346002, x346003, x346004, x346005, x346006, x346007, x346008, x346009, x346010 => if x50 = true then (if x6 = 0 then (if x8 = 0 then ((solsticelaw09_wakes.f k).bind fun t350 => (some t350)) else (if x7.toList = ([] : List UInt8) then ((solsticelaw09_wakes.f k).bind fun t351 => (some t351)) else (none))) else (if x5.toList = ([] : List UInt8) then (if x8 = 0 then ((solsticelaw09_wakes.f k).bind fun t352 => (some t352)) else (if x7.toList = ([] : List UInt8) then ((solsticelaw09_wakes.f k).bind fun t353 => (some t353)) else (none))) else (none))) else ((fields_Split.f x5).bind fun bt354 => ((rule_Parse.f k bt354.1).bind fun bt358 => (if bt354.2 = 0 then (if bt358.2.2.2.2.2.2.2.2.2.2.2 = 0 then (if (bt358.1.toList == x345000.toList && (bt358.2.1 == x345001 && (bt358.2.2.1 == x345002 && (bt358.2.2.2.1 == x345003 && ((bt358.2.2.2.2.1 == x345004 && (bt358.2.2.2.2.2.1 == x345005 && (bt358.2.2.2.2.2.2.1 == x345006))) && ((bt358.2.2.2.2.2.2.2.1 == x345007 && (bt358.2.2.2.2.2.2.2.2.1 == x345008)) && (bt358.2.2.2.2.2.2.2.2.2.1 == x345009 && (bt358.2.2.2.2.2.2.2.2.2.2.1.toList == x345010.toList)))))))) = true then (if ((x5.toList == x7.toList) == (x345000.toList == x346000.toList && (x345001 == x346001 && (x345002 == x346002 && (x345003 == x346003 && ((x345004 == x346004 && (x345005 == x346005 && (x345006 == x346006))) && ((x345007 == x346007 && (x345008 == x346008)) && (x345009 == x346009 && (x345010.toList == x346010.toList))))))))) = true then ((solsticelaw09_wakes.f k).bind fun t371 => (some t371)) else (none)) else (none)) else (none)) else (none))))
end
def solsticelaw09_RuleBack.f (k : Nat) (a0_0 : ByteArray) (a0_1 : Int) (a0_2 : Int) (a0_3 : Int) (a0_4 : Int) (a0_5 : Int) (a0_6 : Int) (a0_7 : Int) (a0_8 : Int) (a0_9 : Int) (a0_10 : ByteArray) (a1_0 : ByteArray) (a1_1 : Int) (a1_2 : Int) (a1_3 : Int) (a1_4 : Int) (a1_5 : Int) (a1_6 : Int) (a1_7 : Int) (a1_8 : Int) (a1_9 : Int) (a1_10 : ByteArray) : Option (Bool) := if (a0_0.size : Int) > 200 then (solsticelaw09_RuleBack.j0 k true a0_0 a0_1 a0_2 a0_3 a0_4 a0_5 a0_6 a0_7 a0_8 a0_9 a0_10 a1_0 a1_1 a1_2 a1_3 a1_4 a1_5 a1_6 a1_7 a1_8 a1_9 a1_10) else (if (a0_10.size : Int) > 200 then (solsticelaw09_RuleBack.j0 k true a0_0 a0_1 a0_2 a0_3 a0_4 a0_5 a0_6 a0_7 a0_8 a0_9 a0_10 a1_0 a1_1 a1_2 a1_3 a1_4 a1_5 a1_6 a1_7 a1_8 a1_9 a1_10) else (if (a1_0.size : Int) > 200 then (solsticelaw09_RuleBack.j0 k true a0_0 a0_1 a0_2 a0_3 a0_4 a0_5 a0_6 a0_7 a0_8 a0_9 a0_10 a1_0 a1_1 a1_2 a1_3 a1_4 a1_5 a1_6 a1_7 a1_8 a1_9 a1_10) else (solsticelaw09_RuleBack.j0 k (decide ((a1_10.size : Int) > 200)) a0_0 a0_1 a0_2 a0_3 a0_4 a0_5 a0_6 a0_7 a0_8 a0_9 a0_10 a1_0 a1_1 a1_2 a1_3 a1_4 a1_5 a1_6 a1_7 a1_8 a1_9 a1_10)))
set_option maxHeartbeats 8000000 in
set_option maxRecDepth 100000 in
theorem solsticelaw09_RuleBack.calls (k : Nat) (a0_0 : ByteArray) (a0_1 : Int) (a0_2 : Int) (a0_3 : Int) (a0_4 : Int) (a0_5 : Int) (a0_6 : Int) (a0_7 : Int) (a0_8 : Int) (a0_9 : Int) (a0_10 : ByteArray) (a1_0 : ByteArray) (a1_1 : Int) (a1_2 : Int) (a1_3 : Int) (a1_4 : Int) (a1_5 : Int) (a1_6 : Int) (a1_7 : Int) (a1_8 : Int) (a1_9 : Int) (a1_10 : ByteArray) (r : Bool) (w : World) (hG : GW w) (h : solsticelaw09_RuleBack.f k a0_0 a0_1 a0_2 a0_3 a0_4 a0_5 a0_6 a0_7 a0_8 a0_9 a0_10 a1_0 a1_1 a1_2 a1_3 a1_4 a1_5 a1_6 a1_7 a1_8 a1_9 a1_10 = some r) :
  Calls Tryz.prog 3 #[.agg #[.string a0_0, .int .i64 a0_1, .int .i64 a0_2, .int .i64 a0_3, .int .i64 a0_4, .int .i64 a0_5, .int .i64 a0_6, .int .i64 a0_7, .int .i64 a0_8, .int .i64 a0_9, .string a0_10], .agg #[.string a1_0, .int .i64 a1_1, .int .i64 a1_2, .int .i64 a1_3, .int .i64 a1_4, .int .i64 a1_5, .int .i64 a1_6, .int .i64 a1_7, .int .i64 a1_8, .int .i64 a1_9, .string a1_10]] w fun e w' => e = .returned (.bool r) ∧ Below w.heap.size w w' := by
 have hu27 := Tryz.underlying27
 have HG := As.mk hG
 clear hG
 have HB := As.mk (Below.refl w.heap.size w)
 have H : (if (a0_0.size : Int) > 200 then (solsticelaw09_RuleBack.j0 k true a0_0 a0_1 a0_2 a0_3 a0_4 a0_5 a0_6 a0_7 a0_8 a0_9 a0_10 a1_0 a1_1 a1_2 a1_3 a1_4 a1_5 a1_6 a1_7 a1_8 a1_9 a1_10) else (if (a0_10.size : Int) > 200 then (solsticelaw09_RuleBack.j0 k true a0_0 a0_1 a0_2 a0_3 a0_4 a0_5 a0_6 a0_7 a0_8 a0_9 a0_10 a1_0 a1_1 a1_2 a1_3 a1_4 a1_5 a1_6 a1_7 a1_8 a1_9 a1_10) else (if (a1_0.size : Int) > 200 then (solsticelaw09_RuleBack.j0 k true a0_0 a0_1 a0_2 a0_3 a0_4 a0_5 a0_6 a0_7 a0_8 a0_9 a0_10 a1_0 a1_1 a1_2 a1_3 a1_4 a1_5 a1_6 a1_7 a1_8 a1_9 a1_10) else (solsticelaw09_RuleBack.j0 k (decide ((a1_10.size : Int) > 200)) a0_0 a0_1 a0_2 a0_3 a0_4 a0_5 a0_6 a0_7 a0_8 a0_9 a0_10 a1_0 a1_1 a1_2 a1_3 a1_4 a1_5 a1_6 a1_7 a1_8 a1_9 a1_10)))) = some r := h
 clear h
 have HC3 := As.mk H
 clear H
 go_enter Tryz.func3, Tryz.ntmps3
 go_upto_region 1 with (first | ((with_reducible refine gD (N := 2) rfl ?_); (try (refine gate_guard (by rfl) ?_; dsimp only)); refine xE ?hg (N := 2) ?hd (cs := #[.string a0_0, .int .i64 a0_1, .int .i64 a0_2, .int .i64 a0_3, .int .i64 a0_4, .int .i64 a0_5, .int .i64 a0_6, .int .i64 a0_7, .int .i64 a0_8, .int .i64 a0_9, .string a0_10]) (t := 27) ?hr ?_; (case hd => rfl); (case hg => rfl); (case hr => first | (go_simp; done) | (go_simp; rfl)); intro gb344 hg w4 hbox hb; have n0_ := As.mk (bT (by repeat (first | (with_reducible first | exact HB.out | apply bA | apply bN | apply bD) | exact HB.out)) hb); have n1_ := As.mk (hbox); have n2_ := As.mk ((by rw [hg]; exact (bZ (by repeat (first | (with_reducible first | exact HB.out | apply bA | apply bN | apply bD) | exact HB.out))) : w.heap.size ≤ gb344)); have n3_ := As.mk ((by rw [hg]; exact (bZ (by repeat (first | (with_reducible first | exact HB.out | apply bA | apply bN | apply bD) | exact HB.out))) : w.heap.size ≤ gb344)); clear HB; have HB := n0_; have BK344 := n1_; have GW344 := n2_; have GE344 := n3_; clear n0_ n1_ n2_ n3_; clear hb hbox hg) | ((with_reducible refine gD (N := 3) rfl ?_); (try (refine gate_guard (by rfl) ?_; dsimp only)); refine xE ?hg (N := 3) ?hd (cs := #[.string a1_0, .int .i64 a1_1, .int .i64 a1_2, .int .i64 a1_3, .int .i64 a1_4, .int .i64 a1_5, .int .i64 a1_6, .int .i64 a1_7, .int .i64 a1_8, .int .i64 a1_9, .string a1_10]) (t := 27) ?hr ?_; (case hd => rfl); (case hg => rfl); (case hr => first | (go_simp; done) | (go_simp; rfl)); intro gb345 hg w5 hbox hb; have n0_ := As.mk (kB (g := gb344) (o := .cells #[.string a0_0, .int .i64 a0_1, .int .i64 a0_2, .int .i64 a0_3, .int .i64 a0_4, .int .i64 a0_5, .int .i64 a0_6, .int .i64 a0_7, .int .i64 a0_8, .int .i64 a0_9, .string a0_10] 27 (0, 0)) (by (with_reducible repeat (first | refine kN ?_ _ | refine kD ?_ | refine kA ?_ _)); exact BK344.out) hb); have n1_ := As.mk (bT (by repeat (first | (with_reducible first | exact HB.out | apply bA | apply bN | apply bD | refine bS ?_ GE344.out) | exact HB.out)) hb); have n2_ := As.mk (hbox); have n3_ := As.mk ((by rw [hg]; exact (bZ (by repeat (first | (with_reducible first | exact HB.out | apply bA | apply bN | apply bD | refine bS ?_ GE344.out) | exact HB.out))) : w.heap.size ≤ gb345)); have n4_ := As.mk ((by rw [hg]; exact (bZ (by repeat (first | (with_reducible first | exact HB.out | apply bA | apply bN | apply bD | refine bS ?_ GE344.out) | exact HB.out))) : w.heap.size ≤ gb345)); have n5_ := As.mk ((by rw [hg]; exact Nat.ne_of_lt (blk_lt (g := gb344) (o := .cells #[.string a0_0, .int .i64 a0_1, .int .i64 a0_2, .int .i64 a0_3, .int .i64 a0_4, .int .i64 a0_5, .int .i64 a0_6, .int .i64 a0_7, .int .i64 a0_8, .int .i64 a0_9, .string a0_10] 27 (0, 0)) (by (with_reducible repeat (first | refine kN ?_ _ | refine kD ?_ | refine kA ?_ _)); exact BK344.out)) : gb344 ≠ gb345)); have n6_ := As.mk ((by rw [hg]; exact Nat.ne_of_gt (blk_lt (g := gb344) (o := .cells #[.string a0_0, .int .i64 a0_1, .int .i64 a0_2, .int .i64 a0_3, .int .i64 a0_4, .int .i64 a0_5, .int .i64 a0_6, .int .i64 a0_7, .int .i64 a0_8, .int .i64 a0_9, .string a0_10] 27 (0, 0)) (by (with_reducible repeat (first | refine kN ?_ _ | refine kD ?_ | refine kA ?_ _)); exact BK344.out)) : gb345 ≠ gb344)); clear BK344; clear HB; have BK344 := n0_; have HB := n1_; have BK345 := n2_; have GW345 := n3_; have GE345 := n4_; have NB344_345 := n5_; have NB345_344 := n6_; clear n0_ n1_ n2_ n3_ n4_ n5_ n6_; clear hb hbox hg))
 (try simp only [Act.put, List.setIfInBounds_toArray, List.set_cons_zero, List.set_cons_succ])
 go_cut [34] (fun v34 wc => ∃ (kq : Nat) (x34_2 : Bool), v34 = .bool x34_2 ∧ As (solsticelaw09_RuleBack.j0 kq x34_2 a0_0 a0_1 a0_2 a0_3 a0_4 a0_5 a0_6 a0_7 a0_8 a0_9 a0_10 a1_0 a1_1 a1_2 a1_3 a1_4 a1_5 a1_6 a1_7 a1_8 a1_9 a1_10 = some r) ∧ As (kq ≤ k) ∧ As (wc.heap[gb344]? = some (.cells #[.string a0_0, .int .i64 a0_1, .int .i64 a0_2, .int .i64 a0_3, .int .i64 a0_4, .int .i64 a0_5, .int .i64 a0_6, .int .i64 a0_7, .int .i64 a0_8, .int .i64 a0_9, .string a0_10] 27 (0, 0))) ∧ As (wc.heap[gb345]? = some (.cells #[.string a1_0, .int .i64 a1_1, .int .i64 a1_2, .int .i64 a1_3, .int .i64 a1_4, .int .i64 a1_5, .int .i64 a1_6, .int .i64 a1_7, .int .i64 a1_8, .int .i64 a1_9, .string a1_10] 27 (0, 0))) ∧ As (Below w.heap.size w wc))
 case first =>
  have H := HC3.out
  clear HC3
  by_cases c6 : (a0_0.size : Int) > 200
  ·rw [if_pos c6] at H
   have c6b0 : decide (200 < (a0_0.size : Int)) = true := decide_eq_true c6
   have c6b1 : decide (200 < a0_0.size) = true := decide_eq_true (by omega)
   clear c6
   (first | rw [c6b0] | (simp only [i64_w, i32_w]; rw [c6b0]) | skip)
   have H' := As.mk H
   clear H
   have hnb7 := NB344_345.out
   have hnc7 := NB345_344.out
   obtain ⟨hcz8_0, hcz8_1, hcz8_2, hcz8_3, hcz8_4, hcz8_5, hcz8_6, hcz8_7, hcz8_8, hcz8_9, hcz8_10, hfz8_0, hfz8_1, hfz8_2, hfz8_3, hfz8_4, hfz8_5, hfz8_6, hfz8_7, hfz8_8, hfz8_9, hfz8_10⟩ := cl11 BK344.out
   go_wp2
   go_meet
   case rel => exact ⟨_, (true), (by first | rfl | (simp; done) | (simp [*]; done)), H', ⟨by first | omega | exact Nat.le_refl _⟩, ⟨by (with_reducible repeat (first | refine kN ?_ _ | refine kD ?_ | refine kA ?_ _)); exact BK344.out⟩, ⟨by (with_reducible repeat (first | refine kN ?_ _ | refine kD ?_ | refine kA ?_ _)); exact BK345.out⟩, ⟨by repeat (first | (with_reducible first | exact HB.out | apply bA | apply bN | apply bD | refine bS ?_ GE344.out | refine bS ?_ GE345.out) | exact HB.out)⟩⟩
  ·rw [if_neg c6] at H
   have c6b0 : decide (200 < (a0_0.size : Int)) = false := decide_eq_false c6
   have c6b1 : decide (200 < a0_0.size) = false := decide_eq_false (by omega)
   clear c6
   (first | rw [c6b0] | (simp only [i64_w, i32_w]; rw [c6b0]) | skip)
   by_cases c9 : (a0_10.size : Int) > 200
   ·rw [if_pos c9] at H
    have c9b0 : decide (200 < (a0_10.size : Int)) = true := decide_eq_true c9
    have c9b1 : decide (200 < a0_10.size) = true := decide_eq_true (by omega)
    clear c9
    have H' := As.mk H
    clear H
    have hnb10 := NB344_345.out
    have hnc10 := NB345_344.out
    obtain ⟨hcz11_0, hcz11_1, hcz11_2, hcz11_3, hcz11_4, hcz11_5, hcz11_6, hcz11_7, hcz11_8, hcz11_9, hcz11_10, hfz11_0, hfz11_1, hfz11_2, hfz11_3, hfz11_4, hfz11_5, hfz11_6, hfz11_7, hfz11_8, hfz11_9, hfz11_10⟩ := cl11 BK344.out
    go_wp2
    go_meet
    case rel => exact ⟨_, (true), (by first | rfl | (simp; done) | (simp [*]; done)), H', ⟨by first | omega | exact Nat.le_refl _⟩, ⟨by (with_reducible repeat (first | refine kN ?_ _ | refine kD ?_ | refine kA ?_ _)); exact BK344.out⟩, ⟨by (with_reducible repeat (first | refine kN ?_ _ | refine kD ?_ | refine kA ?_ _)); exact BK345.out⟩, ⟨by repeat (first | (with_reducible first | exact HB.out | apply bA | apply bN | apply bD | refine bS ?_ GE344.out | refine bS ?_ GE345.out) | exact HB.out)⟩⟩
   ·rw [if_neg c9] at H
    have c9b0 : decide (200 < (a0_10.size : Int)) = false := decide_eq_false c9
    have c9b1 : decide (200 < a0_10.size) = false := decide_eq_false (by omega)
    clear c9
    by_cases c12 : (a1_0.size : Int) > 200
    ·rw [if_pos c12] at H
     have c12b0 : decide (200 < (a1_0.size : Int)) = true := decide_eq_true c12
     have c12b1 : decide (200 < a1_0.size) = true := decide_eq_true (by omega)
     clear c12
     have H' := As.mk H
     clear H
     have hnb13 := NB344_345.out
     have hnc13 := NB345_344.out
     obtain ⟨hcz14_0, hcz14_1, hcz14_2, hcz14_3, hcz14_4, hcz14_5, hcz14_6, hcz14_7, hcz14_8, hcz14_9, hcz14_10, hfz14_0, hfz14_1, hfz14_2, hfz14_3, hfz14_4, hfz14_5, hfz14_6, hfz14_7, hfz14_8, hfz14_9, hfz14_10⟩ := cl11 BK344.out
     obtain ⟨hcz15_0, hcz15_1, hcz15_2, hcz15_3, hcz15_4, hcz15_5, hcz15_6, hcz15_7, hcz15_8, hcz15_9, hcz15_10, hfz15_0, hfz15_1, hfz15_2, hfz15_3, hfz15_4, hfz15_5, hfz15_6, hfz15_7, hfz15_8, hfz15_9, hfz15_10⟩ := cl11 BK345.out
     go_wp2
     go_meet
     case rel => exact ⟨_, (true), (by first | rfl | (simp; done) | (simp [*]; done)), H', ⟨by first | omega | exact Nat.le_refl _⟩, ⟨by (with_reducible repeat (first | refine kN ?_ _ | refine kD ?_ | refine kA ?_ _)); exact BK344.out⟩, ⟨by (with_reducible repeat (first | refine kN ?_ _ | refine kD ?_ | refine kA ?_ _)); exact BK345.out⟩, ⟨by repeat (first | (with_reducible first | exact HB.out | apply bA | apply bN | apply bD | refine bS ?_ GE344.out | refine bS ?_ GE345.out) | exact HB.out)⟩⟩
    ·rw [if_neg c12] at H
     have c12b0 : decide (200 < (a1_0.size : Int)) = false := decide_eq_false c12
     have c12b1 : decide (200 < a1_0.size) = false := decide_eq_false (by omega)
     clear c12
     have H' := As.mk H
     clear H
     have hnb16 := NB344_345.out
     have hnc16 := NB345_344.out
     obtain ⟨hcz17_0, hcz17_1, hcz17_2, hcz17_3, hcz17_4, hcz17_5, hcz17_6, hcz17_7, hcz17_8, hcz17_9, hcz17_10, hfz17_0, hfz17_1, hfz17_2, hfz17_3, hfz17_4, hfz17_5, hfz17_6, hfz17_7, hfz17_8, hfz17_9, hfz17_10⟩ := cl11 BK344.out
     obtain ⟨hcz18_0, hcz18_1, hcz18_2, hcz18_3, hcz18_4, hcz18_5, hcz18_6, hcz18_7, hcz18_8, hcz18_9, hcz18_10, hfz18_0, hfz18_1, hfz18_2, hfz18_3, hfz18_4, hfz18_5, hfz18_6, hfz18_7, hfz18_8, hfz18_9, hfz18_10⟩ := cl11 BK345.out
     go_wp2
     go_meet
     case rel => exact ⟨_, (decide ((a1_10.size : Int) > 200)), (by first | rfl | (simp; done) | (simp [*]; done)), H', ⟨by first | omega | exact Nat.le_refl _⟩, ⟨by (with_reducible repeat (first | refine kN ?_ _ | refine kD ?_ | refine kA ?_ _)); exact BK344.out⟩, ⟨by (with_reducible repeat (first | refine kN ?_ _ | refine kD ?_ | refine kA ?_ _)); exact BK345.out⟩, ⟨by repeat (first | (with_reducible first | exact HB.out | apply bA | apply bN | apply bD | refine bS ?_ GE344.out | refine bS ?_ GE345.out) | exact HB.out)⟩⟩
 case rest =>
  clear HC3
  try clear c1
  try clear p2
  try clear c3
  try clear c6
  try clear c6b0
  try clear c6b1
  try clear c7
  try clear c9
  try clear c9b0
  try clear c9b1
  try clear c10
  try clear c12
  try clear c12b0
  try clear c12b1
  try clear c13
  try clear c16
  try clear hcz11_0
  try clear hcz11_1
  try clear hcz11_10
  try clear hcz11_2
  try clear hcz11_3
  try clear hcz11_4
  try clear hcz11_5
  try clear hcz11_6
  try clear hcz11_7
  try clear hcz11_8
  try clear hcz11_9
  try clear hcz14_0
  try clear hcz14_1
  try clear hcz14_10
  try clear hcz14_2
  try clear hcz14_3
  try clear hcz14_4
  try clear hcz14_5
  try clear hcz14_6
  try clear hcz14_7
  try clear hcz14_8
  try clear hcz14_9
  try clear hcz15_0
  try clear hcz15_1
  try clear hcz15_10
  try clear hcz15_2
  try clear hcz15_3
  try clear hcz15_4
  try clear hcz15_5
  try clear hcz15_6
  try clear hcz15_7
  try clear hcz15_8
  try clear hcz15_9
  try clear hcz17_0
  try clear hcz17_1
  try clear hcz17_10
  try clear hcz17_2
  try clear hcz17_3
  try clear hcz17_4
  try clear hcz17_5
  try clear hcz17_6
  try clear hcz17_7
  try clear hcz17_8
  try clear hcz17_9
  try clear hcz18_0
  try clear hcz18_1
  try clear hcz18_10
  try clear hcz18_2
  try clear hcz18_3
  try clear hcz18_4
  try clear hcz18_5
  try clear hcz18_6
  try clear hcz18_7
  try clear hcz18_8
  try clear hcz18_9
  try clear hcz8_0
  try clear hcz8_1
  try clear hcz8_10
  try clear hcz8_2
  try clear hcz8_3
  try clear hcz8_4
  try clear hcz8_5
  try clear hcz8_6
  try clear hcz8_7
  try clear hcz8_8
  try clear hcz8_9
  try clear hfz11_0
  try clear hfz11_1
  try clear hfz11_10
  try clear hfz11_2
  try clear hfz11_3
  try clear hfz11_4
  try clear hfz11_5
  try clear hfz11_6
  try clear hfz11_7
  try clear hfz11_8
  try clear hfz11_9
  try clear hfz14_0
  try clear hfz14_1
  try clear hfz14_10
  try clear hfz14_2
  try clear hfz14_3
  try clear hfz14_4
  try clear hfz14_5
  try clear hfz14_6
  try clear hfz14_7
  try clear hfz14_8
  try clear hfz14_9
  try clear hfz15_0
  try clear hfz15_1
  try clear hfz15_10
  try clear hfz15_2
  try clear hfz15_3
  try clear hfz15_4
  try clear hfz15_5
  try clear hfz15_6
  try clear hfz15_7
  try clear hfz15_8
  try clear hfz15_9
  try clear hfz17_0
  try clear hfz17_1
  try clear hfz17_10
  try clear hfz17_2
  try clear hfz17_3
  try clear hfz17_4
  try clear hfz17_5
  try clear hfz17_6
  try clear hfz17_7
  try clear hfz17_8
  try clear hfz17_9
  try clear hfz18_0
  try clear hfz18_1
  try clear hfz18_10
  try clear hfz18_2
  try clear hfz18_3
  try clear hfz18_4
  try clear hfz18_5
  try clear hfz18_6
  try clear hfz18_7
  try clear hfz18_8
  try clear hfz18_9
  try clear hfz8_0
  try clear hfz8_1
  try clear hfz8_10
  try clear hfz8_2
  try clear hfz8_3
  try clear hfz8_4
  try clear hfz8_5
  try clear hfz8_6
  try clear hfz8_7
  try clear hfz8_8
  try clear hfz8_9
  obtain ⟨kq, x34_2, rfl, HA, HJ2, BK344, BK345, HB⟩ := hcut
  cases kq with
  | zero => exact absurd HA.out (by simp [solsticelaw09_RuleBack.j0])
  | succ kj2 =>
   have H := HA.out
   clear HA
   simp only [solsticelaw09_RuleBack.j0] at H
   by_cases c19 : x34_2 = true
   ·subst c19
    have H1 : (some true) = some r := by rw [if_pos rfl] at H; exact H
    clear H
    have H := H1
    clear H1
    obtain rfl := Option.some.inj H
    go_wp2
    go_ret
    exact ⟨by first | rfl | (simp [eN, eS] <;> rfl) | (simp [*, eN, eS] <;> rfl), by repeat (first | (with_reducible first | exact HB.out | apply bA | apply bN | apply bD | refine bS ?_ GE344.out | refine bS ?_ GE345.out) | exact HB.out)⟩
   ·replace c19 := Bool.eq_false_iff.mpr c19
    subst c19
    have H1 : ((rule_Text.f kj2 a0_0 a0_1 a0_2 a0_3 a0_4 a0_5 a0_6 a0_7 a0_8 a0_9 a0_10).bind fun bt346 => ((rule_Text.f kj2 a1_0 a1_1 a1_2 a1_3 a1_4 a1_5 a1_6 a1_7 a1_8 a1_9 a1_10).bind fun bt348 => (if bt346.2 = 0 then (solsticelaw09_RuleBack.j1 kj2 bt346.1 bt346.2 bt348.1 bt348.2 (bt348.2 != 0) a0_0 a0_1 a0_2 a0_3 a0_4 a0_5 a0_6 a0_7 a0_8 a0_9 a0_10 a1_0 a1_1 a1_2 a1_3 a1_4 a1_5 a1_6 a1_7 a1_8 a1_9 a1_10) else (solsticelaw09_RuleBack.j1 kj2 bt346.1 bt346.2 bt348.1 bt348.2 true a0_0 a0_1 a0_2 a0_3 a0_4 a0_5 a0_6 a0_7 a0_8 a0_9 a0_10 a1_0 a1_1 a1_2 a1_3 a1_4 a1_5 a1_6 a1_7 a1_8 a1_9 a1_10)))) = some r := by rw [if_neg (show ¬ (false = true) by decide)] at H; exact H
    clear H
    have H := H1
    clear H1
    replace H := Option.bind_eq_some_iff.mp H
    obtain ⟨⟨t346, t347⟩, A200, H⟩ := H
    (try dsimp only at H)
    have A20 := As.mk A200
    clear A200
    replace H := Option.bind_eq_some_iff.mp H
    obtain ⟨⟨t348, t349⟩, A210, H⟩ := H
    (try dsimp only at H)
    have A21 := As.mk A210
    clear A210
    have HC22 := As.mk H
    clear H
    have hnb23 := NB344_345.out
    have hnc23 := NB345_344.out
    obtain ⟨hcz24_0, hcz24_1, hcz24_2, hcz24_3, hcz24_4, hcz24_5, hcz24_6, hcz24_7, hcz24_8, hcz24_9, hcz24_10, hfz24_0, hfz24_1, hfz24_2, hfz24_3, hfz24_4, hfz24_5, hfz24_6, hfz24_7, hfz24_8, hfz24_9, hfz24_10⟩ := cl11 BK344.out
    go_upto_region 5 with (first | ((with_reducible refine gC (f := 16) rfl ?_); refine goesL_ (some 37) rfl rfl Tryz.func16 (by kernel_rfl) rfl #[.agg #[.string a0_0, .int .i64 a0_1, .int .i64 a0_2, .int .i64 a0_3, .int .i64 a0_4, .int .i64 a0_5, .int .i64 a0_6, .int .i64 a0_7, .int .i64 a0_8, .int .i64 a0_9, .string a0_10]] rfl (by (try simp only [List.map_toArray, List.map_cons, List.map_nil]); first | done | rfl | (simp only [List.length_drop, List.length_take]; rfl)) ?_; (with_reducible refine (rule_Text.calls kj2 a0_0 a0_1 a0_2 a0_3 a0_4 a0_5 a0_6 a0_7 a0_8 a0_9 a0_10 t346 t347 _ ?side1 A20.out).mono ?_); (case side1 => exact GW.on HG.out (by repeat (first | (with_reducible first | exact HB.out | apply bA | apply bN | apply bD | refine bS ?_ GE344.out | refine bS ?_ GE345.out) | exact HB.out))); rintro e w25 ⟨rfl, hb⟩; refine ⟨_, rfl, ?_⟩; have n0_ := As.mk (kB (g := gb344) (o := .cells #[.string a0_0, .int .i64 a0_1, .int .i64 a0_2, .int .i64 a0_3, .int .i64 a0_4, .int .i64 a0_5, .int .i64 a0_6, .int .i64 a0_7, .int .i64 a0_8, .int .i64 a0_9, .string a0_10] 27 (0, 0)) (by (with_reducible repeat (first | refine kN ?_ _ | refine kD ?_ | refine kA ?_ _)); exact BK344.out) hb); have n1_ := As.mk (kB (g := gb345) (o := .cells #[.string a1_0, .int .i64 a1_1, .int .i64 a1_2, .int .i64 a1_3, .int .i64 a1_4, .int .i64 a1_5, .int .i64 a1_6, .int .i64 a1_7, .int .i64 a1_8, .int .i64 a1_9, .string a1_10] 27 (0, 0)) (by (with_reducible repeat (first | refine kN ?_ _ | refine kD ?_ | refine kA ?_ _)); exact BK345.out) hb); have n2_ := As.mk (bT (by repeat (first | (with_reducible first | exact HB.out | apply bA | apply bN | apply bD | refine bS ?_ GE344.out | refine bS ?_ GE345.out) | exact HB.out)) hb); clear BK344; clear BK345; clear HB; have BK344 := n0_; have BK345 := n1_; have HB := n2_; clear n0_ n1_ n2_; (try clear hb); (try clear hb2); (try clear hk); (try clear hi); obtain ⟨hcz26_0, hcz26_1, hcz26_2, hcz26_3, hcz26_4, hcz26_5, hcz26_6, hcz26_7, hcz26_8, hcz26_9, hcz26_10, hfz26_0, hfz26_1, hfz26_2, hfz26_3, hfz26_4, hfz26_5, hfz26_6, hfz26_7, hfz26_8, hfz26_9, hfz26_10⟩ := cl11 BK345.out) | ((with_reducible refine gC (f := 16) rfl ?_); refine goesL_ (some 42) rfl rfl Tryz.func16 (by kernel_rfl) rfl #[.agg #[.string a1_0, .int .i64 a1_1, .int .i64 a1_2, .int .i64 a1_3, .int .i64 a1_4, .int .i64 a1_5, .int .i64 a1_6, .int .i64 a1_7, .int .i64 a1_8, .int .i64 a1_9, .string a1_10]] rfl (by (try simp only [List.map_toArray, List.map_cons, List.map_nil]); first | done | rfl | (simp only [List.length_drop, List.length_take]; rfl)) ?_; (with_reducible refine (rule_Text.calls kj2 a1_0 a1_1 a1_2 a1_3 a1_4 a1_5 a1_6 a1_7 a1_8 a1_9 a1_10 t348 t349 _ ?side1 A21.out).mono ?_); (case side1 => exact GW.on HG.out (by repeat (first | (with_reducible first | exact HB.out | apply bA | apply bN | apply bD | refine bS ?_ GE344.out | refine bS ?_ GE345.out) | exact HB.out))); rintro e w27 ⟨rfl, hb⟩; refine ⟨_, rfl, ?_⟩; have n0_ := As.mk (kB (g := gb344) (o := .cells #[.string a0_0, .int .i64 a0_1, .int .i64 a0_2, .int .i64 a0_3, .int .i64 a0_4, .int .i64 a0_5, .int .i64 a0_6, .int .i64 a0_7, .int .i64 a0_8, .int .i64 a0_9, .string a0_10] 27 (0, 0)) (by (with_reducible repeat (first | refine kN ?_ _ | refine kD ?_ | refine kA ?_ _)); exact BK344.out) hb); have n1_ := As.mk (kB (g := gb345) (o := .cells #[.string a1_0, .int .i64 a1_1, .int .i64 a1_2, .int .i64 a1_3, .int .i64 a1_4, .int .i64 a1_5, .int .i64 a1_6, .int .i64 a1_7, .int .i64 a1_8, .int .i64 a1_9, .string a1_10] 27 (0, 0)) (by (with_reducible repeat (first | refine kN ?_ _ | refine kD ?_ | refine kA ?_ _)); exact BK345.out) hb); have n2_ := As.mk (bT (by repeat (first | (with_reducible first | exact HB.out | apply bA | apply bN | apply bD | refine bS ?_ GE344.out | refine bS ?_ GE345.out) | exact HB.out)) hb); clear BK344; clear BK345; clear HB; have BK344 := n0_; have BK345 := n1_; have HB := n2_; clear n0_ n1_ n2_; (try clear hb); (try clear hb2); (try clear hk); (try clear hi)))
    (try simp only [Act.put, List.setIfInBounds_toArray, List.set_cons_zero, List.set_cons_succ])
    go_cut [50] (fun v50 wc => ∃ (kq : Nat) (x50_21 : Bool), v50 = .bool x50_21 ∧ As (solsticelaw09_RuleBack.j1 kq t346 t347 t348 t349 x50_21 a0_0 a0_1 a0_2 a0_3 a0_4 a0_5 a0_6 a0_7 a0_8 a0_9 a0_10 a1_0 a1_1 a1_2 a1_3 a1_4 a1_5 a1_6 a1_7 a1_8 a1_9 a1_10 = some r) ∧ As (kq ≤ kj2) ∧ As (wc.heap[gb344]? = some (.cells #[.string a0_0, .int .i64 a0_1, .int .i64 a0_2, .int .i64 a0_3, .int .i64 a0_4, .int .i64 a0_5, .int .i64 a0_6, .int .i64 a0_7, .int .i64 a0_8, .int .i64 a0_9, .string a0_10] 27 (0, 0))) ∧ As (wc.heap[gb345]? = some (.cells #[.string a1_0, .int .i64 a1_1, .int .i64 a1_2, .int .i64 a1_3, .int .i64 a1_4, .int .i64 a1_5, .int .i64 a1_6, .int .i64 a1_7, .int .i64 a1_8, .int .i64 a1_9, .string a1_10] 27 (0, 0))) ∧ As (Below w.heap.size w wc))
    case first =>
     have H := HC22.out
     clear HC22
     by_cases c28 : t347 = 0
     ·rw [if_pos c28] at H
      have c28b0 : (t347 == 0) = true := beq_iff_eq.mpr c28
      have c28b1 : (t347 != 0) = false := bne_eq_false_iff_eq.mpr c28
      clear c28
      (first | rw [c28b0] | (simp only [i64_w, i32_w]; rw [c28b0]) | skip)
      have H' := As.mk H
      clear H
      go_wp2
      go_meet
      case rel => exact ⟨_, ((t349 != 0)), (by first | rfl | (simp; done) | (simp [*]; done)), H', ⟨by have := HJ2.out; first | omega | exact Nat.le_refl _⟩, ⟨by (with_reducible repeat (first | refine kN ?_ _ | refine kD ?_ | refine kA ?_ _)); exact BK344.out⟩, ⟨by (with_reducible repeat (first | refine kN ?_ _ | refine kD ?_ | refine kA ?_ _)); exact BK345.out⟩, ⟨by repeat (first | (with_reducible first | exact HB.out | apply bA | apply bN | apply bD | refine bS ?_ GE344.out | refine bS ?_ GE345.out) | exact HB.out)⟩⟩
     ·rw [if_neg c28] at H
      have c28b0 : (t347 == 0) = false := beq_eq_false_iff_ne.mpr c28
      have c28b1 : (t347 != 0) = true := bne_iff_ne.mpr c28
      (first | rw [c28b0] | (simp only [i64_w, i32_w]; rw [c28b0]) | skip)
      have H' := As.mk H
      clear H
      go_wp2
      go_meet
      case rel => exact ⟨_, (true), (by first | rfl | (simp; done) | (simp [*]; done)), H', ⟨by have := HJ2.out; first | omega | exact Nat.le_refl _⟩, ⟨by (with_reducible repeat (first | refine kN ?_ _ | refine kD ?_ | refine kA ?_ _)); exact BK344.out⟩, ⟨by (with_reducible repeat (first | refine kN ?_ _ | refine kD ?_ | refine kA ?_ _)); exact BK345.out⟩, ⟨by repeat (first | (with_reducible first | exact HB.out | apply bA | apply bN | apply bD | refine bS ?_ GE344.out | refine bS ?_ GE345.out) | exact HB.out)⟩⟩
    case rest =>
     clear HC22
     try clear c1
     try clear c2
     try clear p2
     try clear c3
     try clear c6
     try clear c6b0
     try clear c6b1
     try clear c7
     try clear c9
     try clear c9b0
     try clear c9b1
     try clear c10
     try clear c12
     try clear c12b0
     try clear c12b1
     try clear c13
     try clear c16
     try clear c19
     try clear c23
     try clear c28
     try clear c28b0
     try clear c28b1
     try clear hcz11_0
     try clear hcz11_1
     try clear hcz11_10
     try clear hcz11_2
     try clear hcz11_3
     try clear hcz11_4
     try clear hcz11_5
     try clear hcz11_6
     try clear hcz11_7
     try clear hcz11_8
     try clear hcz11_9
     try clear hcz14_0
     try clear hcz14_1
     try clear hcz14_10
     try clear hcz14_2
     try clear hcz14_3
     try clear hcz14_4
     try clear hcz14_5
     try clear hcz14_6
     try clear hcz14_7
     try clear hcz14_8
     try clear hcz14_9
     try clear hcz15_0
     try clear hcz15_1
     try clear hcz15_10
     try clear hcz15_2
     try clear hcz15_3
     try clear hcz15_4
     try clear hcz15_5
     try clear hcz15_6
     try clear hcz15_7
     try clear hcz15_8
     try clear hcz15_9
     try clear hcz17_0
     try clear hcz17_1
     try clear hcz17_10
     try clear hcz17_2
     try clear hcz17_3
     try clear hcz17_4
     try clear hcz17_5
     try clear hcz17_6
     try clear hcz17_7
     try clear hcz17_8
     try clear hcz17_9
     try clear hcz18_0
     try clear hcz18_1
     try clear hcz18_10
     try clear hcz18_2
     try clear hcz18_3
     try clear hcz18_4
     try clear hcz18_5
     try clear hcz18_6
     try clear hcz18_7
     try clear hcz18_8
     try clear hcz18_9
     try clear hcz24_0
     try clear hcz24_1
     try clear hcz24_10
     try clear hcz24_2
     try clear hcz24_3
     try clear hcz24_4
     try clear hcz24_5
     try clear hcz24_6
     try clear hcz24_7
     try clear hcz24_8
     try clear hcz24_9
     try clear hcz26_0
     try clear hcz26_1
     try clear hcz26_10
     try clear hcz26_2
     try clear hcz26_3
     try clear hcz26_4
     try clear hcz26_5
     try clear hcz26_6
     try clear hcz26_7
     try clear hcz26_8
     try clear hcz26_9
     try clear hcz8_0
     try clear hcz8_1
     try clear hcz8_10
     try clear hcz8_2
     try clear hcz8_3
     try clear hcz8_4
     try clear hcz8_5
     try clear hcz8_6
     try clear hcz8_7
     try clear hcz8_8
     try clear hcz8_9
     try clear hfz11_0
     try clear hfz11_1
     try clear hfz11_10
     try clear hfz11_2
     try clear hfz11_3
     try clear hfz11_4
     try clear hfz11_5
     try clear hfz11_6
     try clear hfz11_7
     try clear hfz11_8
     try clear hfz11_9
     try clear hfz14_0
     try clear hfz14_1
     try clear hfz14_10
     try clear hfz14_2
     try clear hfz14_3
     try clear hfz14_4
     try clear hfz14_5
     try clear hfz14_6
     try clear hfz14_7
     try clear hfz14_8
     try clear hfz14_9
     try clear hfz15_0
     try clear hfz15_1
     try clear hfz15_10
     try clear hfz15_2
     try clear hfz15_3
     try clear hfz15_4
     try clear hfz15_5
     try clear hfz15_6
     try clear hfz15_7
     try clear hfz15_8
     try clear hfz15_9
     try clear hfz17_0
     try clear hfz17_1
     try clear hfz17_10
     try clear hfz17_2
     try clear hfz17_3
     try clear hfz17_4
     try clear hfz17_5
     try clear hfz17_6
     try clear hfz17_7
     try clear hfz17_8
     try clear hfz17_9
     try clear hfz18_0
     try clear hfz18_1
     try clear hfz18_10
     try clear hfz18_2
     try clear hfz18_3
     try clear hfz18_4
     try clear hfz18_5
     try clear hfz18_6
     try clear hfz18_7
     try clear hfz18_8
     try clear hfz18_9
     try clear hfz24_0
     try clear hfz24_1
     try clear hfz24_10
     try clear hfz24_2
     try clear hfz24_3
     try clear hfz24_4
     try clear hfz24_5
     try clear hfz24_6
     try clear hfz24_7
     try clear hfz24_8
     try clear hfz24_9
     try clear hfz26_0
     try clear hfz26_1
     try clear hfz26_10
     try clear hfz26_2
     try clear hfz26_3
     try clear hfz26_4
     try clear hfz26_5
     try clear hfz26_6
     try clear hfz26_7
     try clear hfz26_8
     try clear hfz26_9
     try clear hfz8_0
     try clear hfz8_1
     try clear hfz8_10
     try clear hfz8_2
     try clear hfz8_3
     try clear hfz8_4
     try clear hfz8_5
     try clear hfz8_6
     try clear hfz8_7
     try clear hfz8_8
     try clear hfz8_9
     try clear p2
     obtain ⟨kq, x50_21, rfl, HA, HJ21, BK344, BK345, HB⟩ := hcut
     cases kq with
     | zero => exact absurd HA.out (by simp [solsticelaw09_RuleBack.j1])
     | succ kj21 =>
      have H := HA.out
      clear HA
      simp only [solsticelaw09_RuleBack.j1] at H
      by_cases c29 : x50_21 = true
      ·subst c29
       have H1 : (if t347 = 0 then (if t349 = 0 then ((solsticelaw09_wakes.f kj21).bind fun t350 => (some t350)) else (if t348.toList = ([] : List UInt8) then ((solsticelaw09_wakes.f kj21).bind fun t351 => (some t351)) else (none))) else (if t346.toList = ([] : List UInt8) then (if t349 = 0 then ((solsticelaw09_wakes.f kj21).bind fun t352 => (some t352)) else (if t348.toList = ([] : List UInt8) then ((solsticelaw09_wakes.f kj21).bind fun t353 => (some t353)) else (none))) else (none))) = some r := by rw [if_pos rfl] at H; exact H
       clear H
       have H := H1
       clear H1
       by_cases c30 : t347 = 0
       ·rw [if_pos c30] at H
        have c30b0 : (t347 == 0) = true := beq_iff_eq.mpr c30
        have c30b1 : (t347 != 0) = false := bne_eq_false_iff_eq.mpr c30
        clear c30
        by_cases c31 : t349 = 0
        ·rw [if_pos c31] at H
         have c31b0 : (t349 == 0) = true := beq_iff_eq.mpr c31
         have c31b1 : (t349 != 0) = false := bne_eq_false_iff_eq.mpr c31
         clear c31
         replace H := Option.bind_eq_some_iff.mp H
         obtain ⟨t350, A320, H⟩ := H
         (try dsimp only at H)
         have A32 := As.mk A320
         clear A320
         obtain rfl := Option.some.inj H
         go_wp2_with (first | (go_at_call 17; (with_reducible refine (solsticelaw09_wakes.calls kj21  t350 _ ?side1 A32.out).mono ?_); (case side1 => exact GW.on HG.out (by repeat (first | (with_reducible first | exact HB.out | apply bA | apply bN | apply bD | refine bS ?_ GE344.out | refine bS ?_ GE345.out) | exact HB.out))); rintro e w33 ⟨rfl, hb⟩; have n0_ := As.mk (kB (g := gb344) (o := .cells #[.string a0_0, .int .i64 a0_1, .int .i64 a0_2, .int .i64 a0_3, .int .i64 a0_4, .int .i64 a0_5, .int .i64 a0_6, .int .i64 a0_7, .int .i64 a0_8, .int .i64 a0_9, .string a0_10] 27 (0, 0)) (by (with_reducible repeat (first | refine kN ?_ _ | refine kD ?_ | refine kA ?_ _)); exact BK344.out) hb); have n1_ := As.mk (kB (g := gb345) (o := .cells #[.string a1_0, .int .i64 a1_1, .int .i64 a1_2, .int .i64 a1_3, .int .i64 a1_4, .int .i64 a1_5, .int .i64 a1_6, .int .i64 a1_7, .int .i64 a1_8, .int .i64 a1_9, .string a1_10] 27 (0, 0)) (by (with_reducible repeat (first | refine kN ?_ _ | refine kD ?_ | refine kA ?_ _)); exact BK345.out) hb); have n2_ := As.mk (bT (by repeat (first | (with_reducible first | exact HB.out | apply bA | apply bN | apply bD | refine bS ?_ GE344.out | refine bS ?_ GE345.out) | exact HB.out)) hb); clear BK344; clear BK345; clear HB; have BK344 := n0_; have BK345 := n1_; have HB := n2_; clear n0_ n1_ n2_; (try clear hb); (try clear hb2); (try clear hk); (try clear hi)))
         go_ret
         exact ⟨by first | rfl | (simp [eN, eS] <;> rfl) | (simp [*, eN, eS] <;> rfl), by repeat (first | (with_reducible first | exact HB.out | apply bA | apply bN | apply bD | refine bS ?_ GE344.out | refine bS ?_ GE345.out) | exact HB.out)⟩
        ·rw [if_neg c31] at H
         have c31b0 : (t349 == 0) = false := beq_eq_false_iff_ne.mpr c31
         have c31b1 : (t349 != 0) = true := bne_iff_ne.mpr c31
         by_cases c34 : t348.toList = ([] : List UInt8)
         ·rw [if_pos c34] at H
          have c34b0 : (t348.toList == ([] : List UInt8)) = true := beq_iff_eq.mpr c34
          have c34b1 : (t348.toList != ([] : List UInt8)) = false := bne_eq_false_iff_eq.mpr c34
          clear c34
          replace H := Option.bind_eq_some_iff.mp H
          obtain ⟨t351, A350, H⟩ := H
          (try dsimp only at H)
          have A35 := As.mk A350
          clear A350
          obtain rfl := Option.some.inj H
          go_wp2_with (first | (go_at_call 17; (with_reducible refine (solsticelaw09_wakes.calls kj21  t351 _ ?side1 A35.out).mono ?_); (case side1 => exact GW.on HG.out (by repeat (first | (with_reducible first | exact HB.out | apply bA | apply bN | apply bD | refine bS ?_ GE344.out | refine bS ?_ GE345.out) | exact HB.out))); rintro e w36 ⟨rfl, hb⟩; have n0_ := As.mk (kB (g := gb344) (o := .cells #[.string a0_0, .int .i64 a0_1, .int .i64 a0_2, .int .i64 a0_3, .int .i64 a0_4, .int .i64 a0_5, .int .i64 a0_6, .int .i64 a0_7, .int .i64 a0_8, .int .i64 a0_9, .string a0_10] 27 (0, 0)) (by (with_reducible repeat (first | refine kN ?_ _ | refine kD ?_ | refine kA ?_ _)); exact BK344.out) hb); have n1_ := As.mk (kB (g := gb345) (o := .cells #[.string a1_0, .int .i64 a1_1, .int .i64 a1_2, .int .i64 a1_3, .int .i64 a1_4, .int .i64 a1_5, .int .i64 a1_6, .int .i64 a1_7, .int .i64 a1_8, .int .i64 a1_9, .string a1_10] 27 (0, 0)) (by (with_reducible repeat (first | refine kN ?_ _ | refine kD ?_ | refine kA ?_ _)); exact BK345.out) hb); have n2_ := As.mk (bT (by repeat (first | (with_reducible first | exact HB.out | apply bA | apply bN | apply bD | refine bS ?_ GE344.out | refine bS ?_ GE345.out) | exact HB.out)) hb); clear BK344; clear BK345; clear HB; have BK344 := n0_; have BK345 := n1_; have HB := n2_; clear n0_ n1_ n2_; (try clear hb); (try clear hb2); (try clear hk); (try clear hi)))
          go_ret
          exact ⟨by first | rfl | (simp [eN, eS] <;> rfl) | (simp [*, eN, eS] <;> rfl), by repeat (first | (with_reducible first | exact HB.out | apply bA | apply bN | apply bD | refine bS ?_ GE344.out | refine bS ?_ GE345.out) | exact HB.out)⟩
         ·rw [if_neg c34] at H
          exact absurd H (by simp)
       ·rw [if_neg c30] at H
        have c30b0 : (t347 == 0) = false := beq_eq_false_iff_ne.mpr c30
        have c30b1 : (t347 != 0) = true := bne_iff_ne.mpr c30
        by_cases c37 : t346.toList = ([] : List UInt8)
        ·rw [if_pos c37] at H
         have c37b0 : (t346.toList == ([] : List UInt8)) = true := beq_iff_eq.mpr c37
         have c37b1 : (t346.toList != ([] : List UInt8)) = false := bne_eq_false_iff_eq.mpr c37
         clear c37
         by_cases c38 : t349 = 0
         ·rw [if_pos c38] at H
          have c38b0 : (t349 == 0) = true := beq_iff_eq.mpr c38
          have c38b1 : (t349 != 0) = false := bne_eq_false_iff_eq.mpr c38
          clear c38
          replace H := Option.bind_eq_some_iff.mp H
          obtain ⟨t352, A390, H⟩ := H
          (try dsimp only at H)
          have A39 := As.mk A390
          clear A390
          obtain rfl := Option.some.inj H
          go_wp2_with (first | (go_at_call 17; (with_reducible refine (solsticelaw09_wakes.calls kj21  t352 _ ?side1 A39.out).mono ?_); (case side1 => exact GW.on HG.out (by repeat (first | (with_reducible first | exact HB.out | apply bA | apply bN | apply bD | refine bS ?_ GE344.out | refine bS ?_ GE345.out) | exact HB.out))); rintro e w40 ⟨rfl, hb⟩; have n0_ := As.mk (kB (g := gb344) (o := .cells #[.string a0_0, .int .i64 a0_1, .int .i64 a0_2, .int .i64 a0_3, .int .i64 a0_4, .int .i64 a0_5, .int .i64 a0_6, .int .i64 a0_7, .int .i64 a0_8, .int .i64 a0_9, .string a0_10] 27 (0, 0)) (by (with_reducible repeat (first | refine kN ?_ _ | refine kD ?_ | refine kA ?_ _)); exact BK344.out) hb); have n1_ := As.mk (kB (g := gb345) (o := .cells #[.string a1_0, .int .i64 a1_1, .int .i64 a1_2, .int .i64 a1_3, .int .i64 a1_4, .int .i64 a1_5, .int .i64 a1_6, .int .i64 a1_7, .int .i64 a1_8, .int .i64 a1_9, .string a1_10] 27 (0, 0)) (by (with_reducible repeat (first | refine kN ?_ _ | refine kD ?_ | refine kA ?_ _)); exact BK345.out) hb); have n2_ := As.mk (bT (by repeat (first | (with_reducible first | exact HB.out | apply bA | apply bN | apply bD | refine bS ?_ GE344.out | refine bS ?_ GE345.out) | exact HB.out)) hb); clear BK344; clear BK345; clear HB; have BK344 := n0_; have BK345 := n1_; have HB := n2_; clear n0_ n1_ n2_; (try clear hb); (try clear hb2); (try clear hk); (try clear hi)))
          go_ret
          exact ⟨by first | rfl | (simp [eN, eS] <;> rfl) | (simp [*, eN, eS] <;> rfl), by repeat (first | (with_reducible first | exact HB.out | apply bA | apply bN | apply bD | refine bS ?_ GE344.out | refine bS ?_ GE345.out) | exact HB.out)⟩
         ·rw [if_neg c38] at H
          have c38b0 : (t349 == 0) = false := beq_eq_false_iff_ne.mpr c38
          have c38b1 : (t349 != 0) = true := bne_iff_ne.mpr c38
          by_cases c41 : t348.toList = ([] : List UInt8)
          ·rw [if_pos c41] at H
           have c41b0 : (t348.toList == ([] : List UInt8)) = true := beq_iff_eq.mpr c41
           have c41b1 : (t348.toList != ([] : List UInt8)) = false := bne_eq_false_iff_eq.mpr c41
           clear c41
           replace H := Option.bind_eq_some_iff.mp H
           obtain ⟨t353, A420, H⟩ := H
           (try dsimp only at H)
           have A42 := As.mk A420
           clear A420
           obtain rfl := Option.some.inj H
           go_wp2_with (first | (go_at_call 17; (with_reducible refine (solsticelaw09_wakes.calls kj21  t353 _ ?side1 A42.out).mono ?_); (case side1 => exact GW.on HG.out (by repeat (first | (with_reducible first | exact HB.out | apply bA | apply bN | apply bD | refine bS ?_ GE344.out | refine bS ?_ GE345.out) | exact HB.out))); rintro e w43 ⟨rfl, hb⟩; have n0_ := As.mk (kB (g := gb344) (o := .cells #[.string a0_0, .int .i64 a0_1, .int .i64 a0_2, .int .i64 a0_3, .int .i64 a0_4, .int .i64 a0_5, .int .i64 a0_6, .int .i64 a0_7, .int .i64 a0_8, .int .i64 a0_9, .string a0_10] 27 (0, 0)) (by (with_reducible repeat (first | refine kN ?_ _ | refine kD ?_ | refine kA ?_ _)); exact BK344.out) hb); have n1_ := As.mk (kB (g := gb345) (o := .cells #[.string a1_0, .int .i64 a1_1, .int .i64 a1_2, .int .i64 a1_3, .int .i64 a1_4, .int .i64 a1_5, .int .i64 a1_6, .int .i64 a1_7, .int .i64 a1_8, .int .i64 a1_9, .string a1_10] 27 (0, 0)) (by (with_reducible repeat (first | refine kN ?_ _ | refine kD ?_ | refine kA ?_ _)); exact BK345.out) hb); have n2_ := As.mk (bT (by repeat (first | (with_reducible first | exact HB.out | apply bA | apply bN | apply bD | refine bS ?_ GE344.out | refine bS ?_ GE345.out) | exact HB.out)) hb); clear BK344; clear BK345; clear HB; have BK344 := n0_; have BK345 := n1_; have HB := n2_; clear n0_ n1_ n2_; (try clear hb); (try clear hb2); (try clear hk); (try clear hi)))
           go_ret
           exact ⟨by first | rfl | (simp [eN, eS] <;> rfl) | (simp [*, eN, eS] <;> rfl), by repeat (first | (with_reducible first | exact HB.out | apply bA | apply bN | apply bD | refine bS ?_ GE344.out | refine bS ?_ GE345.out) | exact HB.out)⟩
          ·rw [if_neg c41] at H
           exact absurd H (by simp)
        ·rw [if_neg c37] at H
         exact absurd H (by simp)
      ·replace c29 := Bool.eq_false_iff.mpr c29
       subst c29
       have H1 : ((fields_Split.f t346).bind fun bt354 => ((rule_Parse.f kj21 bt354.1).bind fun bt358 => (if bt354.2 = 0 then (if bt358.2.2.2.2.2.2.2.2.2.2.2 = 0 then (if (bt358.1.toList == a0_0.toList && (bt358.2.1 == a0_1 && (bt358.2.2.1 == a0_2 && (bt358.2.2.2.1 == a0_3 && ((bt358.2.2.2.2.1 == a0_4 && (bt358.2.2.2.2.2.1 == a0_5 && (bt358.2.2.2.2.2.2.1 == a0_6))) && ((bt358.2.2.2.2.2.2.2.1 == a0_7 && (bt358.2.2.2.2.2.2.2.2.1 == a0_8)) && (bt358.2.2.2.2.2.2.2.2.2.1 == a0_9 && (bt358.2.2.2.2.2.2.2.2.2.2.1.toList == a0_10.toList)))))))) = true then (if ((t346.toList == t348.toList) == (a0_0.toList == a1_0.toList && (a0_1 == a1_1 && (a0_2 == a1_2 && (a0_3 == a1_3 && ((a0_4 == a1_4 && (a0_5 == a1_5 && (a0_6 == a1_6))) && ((a0_7 == a1_7 && (a0_8 == a1_8)) && (a0_9 == a1_9 && (a0_10.toList == a1_10.toList))))))))) = true then ((solsticelaw09_wakes.f kj21).bind fun t371 => (some t371)) else (none)) else (none)) else (none)) else (none)))) = some r := by rw [if_neg (show ¬ (false = true) by decide)] at H; exact H
       clear H
       have H := H1
       clear H1
       replace H := Option.bind_eq_some_iff.mp H
       obtain ⟨⟨t354, t355⟩, A440, H⟩ := H
       (try dsimp only at H)
       have A44 := As.mk A440
       clear A440
       replace H := Option.bind_eq_some_iff.mp H
       obtain ⟨⟨t358, t359, t360, t361, t362, t363, t364, t365, t366, t367, t368, t369⟩, A450, H⟩ := H
       (try dsimp only at H)
       have A45 := As.mk A450
       clear A450
       by_cases c46 : t355 = 0
       ·rw [if_pos c46] at H
        have c46b0 : (t355 == 0) = true := beq_iff_eq.mpr c46
        have c46b1 : (t355 != 0) = false := bne_eq_false_iff_eq.mpr c46
        clear c46
        by_cases c47 : t369 = 0
        ·rw [if_pos c47] at H
         have c47b0 : (t369 == 0) = true := beq_iff_eq.mpr c47
         have c47b1 : (t369 != 0) = false := bne_eq_false_iff_eq.mpr c47
         clear c47
         by_cases c48 : (t358.toList == a0_0.toList && (t359 == a0_1 && (t360 == a0_2 && (t361 == a0_3 && ((t362 == a0_4 && (t363 == a0_5 && (t364 == a0_6))) && ((t365 == a0_7 && (t366 == a0_8)) && (t367 == a0_9 && (t368.toList == a0_10.toList)))))))) = true
         ·rw [if_pos c48] at H
          have c48b0 : (t358.toList == a0_0.toList && (t359 == a0_1 && (t360 == a0_2 && (t361 == a0_3 && ((t362 == a0_4 && (t363 == a0_5 && (t364 == a0_6))) && ((t365 == a0_7 && (t366 == a0_8)) && (t367 == a0_9 && (t368.toList == a0_10.toList)))))))) = true := c48
          (try (have c48b1 : decide (t358.toList = a0_0.toList && (t359 == a0_1 && (t360 == a0_2 && (t361 == a0_3 && ((t362 == a0_4 && (t363 == a0_5 && (t364 == a0_6))) && ((t365 == a0_7 && (t366 == a0_8)) && (t367 == a0_9 && (t368.toList == a0_10.toList)))))))) = true := by simpa using c48))
          (try (have c48b2 : (t358.toList == a0_0.toList && (t359 == a0_1 && (t360 == a0_2 && (t361 == a0_3 && ((t362 == a0_4 && (t363 == a0_5 && (t364 == a0_6))) && ((t365 == a0_7 && (t366 == a0_8)) && (t367 == a0_9 && (t368.toList == a0_10.toList)))))))) = true := by simpa using c48))
          clear c48
          by_cases c49 : ((t346.toList == t348.toList) == (a0_0.toList == a1_0.toList && (a0_1 == a1_1 && (a0_2 == a1_2 && (a0_3 == a1_3 && ((a0_4 == a1_4 && (a0_5 == a1_5 && (a0_6 == a1_6))) && ((a0_7 == a1_7 && (a0_8 == a1_8)) && (a0_9 == a1_9 && (a0_10.toList == a1_10.toList))))))))) = true
          ·rw [if_pos c49] at H
           have c49b0 : ((t346.toList == t348.toList) == (a0_0.toList == a1_0.toList && (a0_1 == a1_1 && (a0_2 == a1_2 && (a0_3 == a1_3 && ((a0_4 == a1_4 && (a0_5 == a1_5 && (a0_6 == a1_6))) && ((a0_7 == a1_7 && (a0_8 == a1_8)) && (a0_9 == a1_9 && (a0_10.toList == a1_10.toList))))))))) = true := c49
           (try (have c49b1 : decide ((t346.toList == t348.toList) = (a0_0.toList == a1_0.toList && (a0_1 == a1_1 && (a0_2 == a1_2 && (a0_3 == a1_3 && ((a0_4 == a1_4 && (a0_5 == a1_5 && (a0_6 == a1_6))) && ((a0_7 == a1_7 && (a0_8 == a1_8)) && (a0_9 == a1_9 && (a0_10.toList == a1_10.toList))))))))) = true := by simpa using c49))
           (try (have c49b2 : ((t346.toList == t348.toList) == (a0_0.toList == a1_0.toList && (a0_1 == a1_1 && (a0_2 == a1_2 && (a0_3 == a1_3 && ((a0_4 == a1_4 && (a0_5 == a1_5 && (a0_6 == a1_6))) && ((a0_7 == a1_7 && (a0_8 == a1_8)) && (a0_9 == a1_9 && (a0_10.toList == a1_10.toList))))))))) = true := by simpa using c49))
           clear c49
           replace H := Option.bind_eq_some_iff.mp H
           obtain ⟨t371, A500, H⟩ := H
           (try dsimp only at H)
           have A50 := As.mk A500
           clear A500
           obtain rfl := Option.some.inj H
           go_wp2_with (first | ((with_reducible refine gC (f := 18) rfl ?_); refine goesL_ (some 70) rfl rfl Tryz.func18 (by kernel_rfl) rfl #[.string t346] rfl (by (try simp only [List.map_toArray, List.map_cons, List.map_nil]); first | done | rfl | (simp only [List.length_drop, List.length_take]; rfl)) ?_; (with_reducible refine (fields_Split.calls t346 t354 t355 _ A44.out).mono ?_); rintro e w51 ⟨v356, rfl, ho0, hb⟩; refine ⟨_, rfl, ?_⟩; have n0_ := As.mk (Kd.R_lower ho0 (bZ (by repeat (first | (with_reducible first | exact HB.out | apply bA | apply bN | apply bD | refine bS ?_ GE344.out | refine bS ?_ GE345.out) | exact HB.out)))); have n1_ := As.mk (kB (g := gb344) (o := .cells #[.string a0_0, .int .i64 a0_1, .int .i64 a0_2, .int .i64 a0_3, .int .i64 a0_4, .int .i64 a0_5, .int .i64 a0_6, .int .i64 a0_7, .int .i64 a0_8, .int .i64 a0_9, .string a0_10] 27 (0, 0)) (by (with_reducible repeat (first | refine kN ?_ _ | refine kD ?_ | refine kA ?_ _)); exact BK344.out) hb); have n2_ := As.mk (kB (g := gb345) (o := .cells #[.string a1_0, .int .i64 a1_1, .int .i64 a1_2, .int .i64 a1_3, .int .i64 a1_4, .int .i64 a1_5, .int .i64 a1_6, .int .i64 a1_7, .int .i64 a1_8, .int .i64 a1_9, .string a1_10] 27 (0, 0)) (by (with_reducible repeat (first | refine kN ?_ _ | refine kD ?_ | refine kA ?_ _)); exact BK345.out) hb); have n3_ := As.mk (bT (by repeat (first | (with_reducible first | exact HB.out | apply bA | apply bN | apply bD | refine bS ?_ GE344.out | refine bS ?_ GE345.out) | exact HB.out)) hb); clear BK344; clear BK345; clear HB; have HO357 := n0_; have BK344 := n1_; have BK345 := n2_; have HB := n3_; clear n0_ n1_ n2_ n3_; (try clear hb); (try clear hb2); (try clear hk); (try clear hi); (try clear ho0); obtain ⟨Ao52, co52, eo52⟩ := Kd.R_slice HO357.out; subst eo52) | ((with_reducible refine gC (f := 19) rfl ?_); refine goesL_ (some 75) rfl rfl Tryz.func19 (by kernel_rfl) rfl #[.slice Ao52 t354.length co52] rfl (by (try simp only [List.map_toArray, List.map_cons, List.map_nil]); first | done | rfl | (simp only [List.length_drop, List.length_take]; rfl)) ?_; (with_reducible refine (rule_Parse.calls kj21 _ _ t354 t358 t359 t360 t361 t362 t363 t364 t365 t366 t367 t368 t369 _ ?side1 ?side2 ?side3 A45.out).mono ?_); (case side1 => exact GW.on HG.out (by repeat (first | (with_reducible first | exact HB.out | apply bA | apply bN | apply bD | refine bS ?_ GE344.out | refine bS ?_ GE345.out) | exact HB.out))); (case side2 => repeat (first | exact (Kd.R_reads' HO357.out).2.2 | (with_reducible refine Kd.C_alloc ?_ _) | (with_reducible refine Kd.C_drewN ?_ _) | (with_reducible refine Kd.C_drew ?_))); (case side3 => exact (Kd.R_reads' HO357.out).2.1); rintro e w53 ⟨rfl, hb⟩; refine ⟨_, rfl, ?_⟩; have n0_ := As.mk (Kd.R_below (by (with_reducible repeat (first | apply Kd.R_alloc | apply Kd.R_drewN | apply Kd.R_drew)); exact HO357.out) hb); have n1_ := As.mk (kB (g := gb344) (o := .cells #[.string a0_0, .int .i64 a0_1, .int .i64 a0_2, .int .i64 a0_3, .int .i64 a0_4, .int .i64 a0_5, .int .i64 a0_6, .int .i64 a0_7, .int .i64 a0_8, .int .i64 a0_9, .string a0_10] 27 (0, 0)) (by (with_reducible repeat (first | refine kN ?_ _ | refine kD ?_ | refine kA ?_ _)); exact BK344.out) hb); have n2_ := As.mk (kB (g := gb345) (o := .cells #[.string a1_0, .int .i64 a1_1, .int .i64 a1_2, .int .i64 a1_3, .int .i64 a1_4, .int .i64 a1_5, .int .i64 a1_6, .int .i64 a1_7, .int .i64 a1_8, .int .i64 a1_9, .string a1_10] 27 (0, 0)) (by (with_reducible repeat (first | refine kN ?_ _ | refine kD ?_ | refine kA ?_ _)); exact BK345.out) hb); have n3_ := As.mk (bT (by repeat (first | (with_reducible first | exact HB.out | apply bA | apply bN | apply bD | refine bS ?_ GE344.out | refine bS ?_ GE345.out) | exact HB.out)) hb); clear HO357; clear BK344; clear BK345; clear HB; have HO357 := n0_; have BK344 := n1_; have BK345 := n2_; have HB := n3_; clear n0_ n1_ n2_ n3_; (try clear hb); (try clear hb2); (try clear hk); (try clear hi)) | ((with_reducible refine gD (N := 11) rfl ?_); (try (refine gate_guard (by rfl) ?_; dsimp only)); refine xE ?hg (N := 11) ?hd (cs := #[.string (⟨#[]⟩ : ByteArray), .int .i64 0, .int .i64 0, .int .i64 0, .int .i64 0, .int .i64 0, .int .i64 0, .int .i64 0, .int .i64 0, .int .i64 0, .string (⟨#[]⟩ : ByteArray)]) (t := 27) ?hr ?_; (case hd => rfl); (case hg => rfl); (case hr => first | (go_simp; done) | (go_simp; rfl)); intro gb370 hg w54 hbox hb; have n0_ := As.mk (Kd.R_below (by (with_reducible repeat (first | apply Kd.R_alloc | apply Kd.R_drewN | apply Kd.R_drew)); exact HO357.out) hb); have n1_ := As.mk (kB (g := gb344) (o := .cells #[.string a0_0, .int .i64 a0_1, .int .i64 a0_2, .int .i64 a0_3, .int .i64 a0_4, .int .i64 a0_5, .int .i64 a0_6, .int .i64 a0_7, .int .i64 a0_8, .int .i64 a0_9, .string a0_10] 27 (0, 0)) (by (with_reducible repeat (first | refine kN ?_ _ | refine kD ?_ | refine kA ?_ _)); exact BK344.out) hb); have n2_ := As.mk (kB (g := gb345) (o := .cells #[.string a1_0, .int .i64 a1_1, .int .i64 a1_2, .int .i64 a1_3, .int .i64 a1_4, .int .i64 a1_5, .int .i64 a1_6, .int .i64 a1_7, .int .i64 a1_8, .int .i64 a1_9, .string a1_10] 27 (0, 0)) (by (with_reducible repeat (first | refine kN ?_ _ | refine kD ?_ | refine kA ?_ _)); exact BK345.out) hb); have n3_ := As.mk (bT (by repeat (first | (with_reducible first | exact HB.out | apply bA | apply bN | apply bD | refine bS ?_ GE344.out | refine bS ?_ GE345.out) | exact HB.out)) hb); have n4_ := As.mk (hbox); have n5_ := As.mk ((by rw [hg]; exact (bZ (by repeat (first | (with_reducible first | exact HB.out | apply bA | apply bN | apply bD | refine bS ?_ GE344.out | refine bS ?_ GE345.out) | exact HB.out))) : w.heap.size ≤ gb370)); have n6_ := As.mk ((by rw [hg]; exact (bZ (by repeat (first | (with_reducible first | exact HB.out | apply bA | apply bN | apply bD | refine bS ?_ GE344.out | refine bS ?_ GE345.out) | exact HB.out))) : w.heap.size ≤ gb370)); have n7_ := As.mk ((by rw [hg]; exact Nat.ne_of_lt (blk_lt (g := gb344) (o := .cells #[.string a0_0, .int .i64 a0_1, .int .i64 a0_2, .int .i64 a0_3, .int .i64 a0_4, .int .i64 a0_5, .int .i64 a0_6, .int .i64 a0_7, .int .i64 a0_8, .int .i64 a0_9, .string a0_10] 27 (0, 0)) (by (with_reducible repeat (first | refine kN ?_ _ | refine kD ?_ | refine kA ?_ _)); exact BK344.out)) : gb344 ≠ gb370)); have n8_ := As.mk ((by rw [hg]; exact Nat.ne_of_gt (blk_lt (g := gb344) (o := .cells #[.string a0_0, .int .i64 a0_1, .int .i64 a0_2, .int .i64 a0_3, .int .i64 a0_4, .int .i64 a0_5, .int .i64 a0_6, .int .i64 a0_7, .int .i64 a0_8, .int .i64 a0_9, .string a0_10] 27 (0, 0)) (by (with_reducible repeat (first | refine kN ?_ _ | refine kD ?_ | refine kA ?_ _)); exact BK344.out)) : gb370 ≠ gb344)); have n9_ := As.mk ((by rw [hg]; exact Nat.ne_of_lt (blk_lt (g := gb345) (o := .cells #[.string a1_0, .int .i64 a1_1, .int .i64 a1_2, .int .i64 a1_3, .int .i64 a1_4, .int .i64 a1_5, .int .i64 a1_6, .int .i64 a1_7, .int .i64 a1_8, .int .i64 a1_9, .string a1_10] 27 (0, 0)) (by (with_reducible repeat (first | refine kN ?_ _ | refine kD ?_ | refine kA ?_ _)); exact BK345.out)) : gb345 ≠ gb370)); have n10_ := As.mk ((by rw [hg]; exact Nat.ne_of_gt (blk_lt (g := gb345) (o := .cells #[.string a1_0, .int .i64 a1_1, .int .i64 a1_2, .int .i64 a1_3, .int .i64 a1_4, .int .i64 a1_5, .int .i64 a1_6, .int .i64 a1_7, .int .i64 a1_8, .int .i64 a1_9, .string a1_10] 27 (0, 0)) (by (with_reducible repeat (first | refine kN ?_ _ | refine kD ?_ | refine kA ?_ _)); exact BK345.out)) : gb370 ≠ gb345)); clear HO357; clear BK344; clear BK345; clear HB; have HO357 := n0_; have BK344 := n1_; have BK345 := n2_; have HB := n3_; have BK370 := n4_; have GW370 := n5_; have GE370 := n6_; have NB344_370 := n7_; have NB370_344 := n8_; have NB345_370 := n9_; have NB370_345 := n10_; clear n0_ n1_ n2_ n3_ n4_ n5_ n6_ n7_ n8_ n9_ n10_; clear hb hbox hg; have hnb55 := NB370_344.out; have hnc55 := NB344_370.out; have hnb56 := NB370_345.out; have hnc56 := NB345_370.out; obtain ⟨hcz57_0, hcz57_1, hcz57_2, hcz57_3, hcz57_4, hcz57_5, hcz57_6, hcz57_7, hcz57_8, hcz57_9, hcz57_10, hfz57_0, hfz57_1, hfz57_2, hfz57_3, hfz57_4, hfz57_5, hfz57_6, hfz57_7, hfz57_8, hfz57_9, hfz57_10⟩ := cl11 BK370.out) | ((with_reducible refine gS (t := 27) (p := 11) rfl ?_); refine store_event (t := 27) (p := 11) (v := ?vo_w58) (w1 := (((((((((((w54.setCell ⟨gb370, 0, none⟩ (.string t358)).setCell ⟨gb370, 1, none⟩ (.int .i64 t359)).setCell ⟨gb370, 2, none⟩ (.int .i64 t360)).setCell ⟨gb370, 3, none⟩ (.int .i64 t361)).setCell ⟨gb370, 4, none⟩ (.int .i64 t362)).setCell ⟨gb370, 5, none⟩ (.int .i64 t363)).setCell ⟨gb370, 6, none⟩ (.int .i64 t364)).setCell ⟨gb370, 7, none⟩ (.int .i64 t365)).setCell ⟨gb370, 8, none⟩ (.int .i64 t366)).setCell ⟨gb370, 9, none⟩ (.int .i64 t367)).setCell ⟨gb370, 10, none⟩ (.string t368))) ?hg ?ho ?hn ?hr ?_; (case ho => rfl); (case hg => rfl); (case hn => rfl); (case hr => first | (go_simp; done) | (go_simp; rfl)); intro w58 hw; have n0_ : As (Kd.R Kd.string 9 w58 w.heap.size (fun _ => True) (.slice Ao52 t354.length co52) t354) := ⟨(by rw [hw]; exact (by (with_reducible repeat (first | apply Kd.R_alloc | apply Kd.R_drewN | apply Kd.R_drew)); exact Kd.R_mono (Kd.R_far (p := ⟨gb370, 10, none⟩) (Kd.R_far (p := ⟨gb370, 9, none⟩) (Kd.R_far (p := ⟨gb370, 8, none⟩) (Kd.R_far (p := ⟨gb370, 7, none⟩) (Kd.R_far (p := ⟨gb370, 6, none⟩) (Kd.R_far (p := ⟨gb370, 5, none⟩) (Kd.R_far (p := ⟨gb370, 4, none⟩) (Kd.R_far (p := ⟨gb370, 3, none⟩) (Kd.R_far (p := ⟨gb370, 2, none⟩) (Kd.R_far (p := ⟨gb370, 1, none⟩) (Kd.R_far (p := ⟨gb370, 0, none⟩) (Kd.R_types HO357.out BK370.out (by decide)) (fun _ hk => hk.2) (.string t358)) (fun _ hk => hk.2) (.int .i64 t359)) (fun _ hk => hk.2) (.int .i64 t360)) (fun _ hk => hk.2) (.int .i64 t361)) (fun _ hk => hk.2) (.int .i64 t362)) (fun _ hk => hk.2) (.int .i64 t363)) (fun _ hk => hk.2) (.int .i64 t364)) (fun _ hk => hk.2) (.int .i64 t365)) (fun _ hk => hk.2) (.int .i64 t366)) (fun _ hk => hk.2) (.int .i64 t367)) (fun _ hk => hk.2) (.string t368)) (fun _ hk => trivial)))⟩; have n1_ : As (w58.heap[gb344]? = some (.cells #[.string a0_0, .int .i64 a0_1, .int .i64 a0_2, .int .i64 a0_3, .int .i64 a0_4, .int .i64 a0_5, .int .i64 a0_6, .int .i64 a0_7, .int .i64 a0_8, .int .i64 a0_9, .string a0_10] 27 (0, 0))) := ⟨(by rw [hw]; exact (by (with_reducible repeat (first | refine kN ?_ _ | refine kD ?_ | refine kA ?_ _)); refine blk_far ?_ NB344_370.out _; (with_reducible repeat (first | refine kN ?_ _ | refine kD ?_ | refine kA ?_ _)); refine blk_far ?_ NB344_370.out _; (with_reducible repeat (first | refine kN ?_ _ | refine kD ?_ | refine kA ?_ _)); refine blk_far ?_ NB344_370.out _; (with_reducible repeat (first | refine kN ?_ _ | refine kD ?_ | refine kA ?_ _)); refine blk_far ?_ NB344_370.out _; (with_reducible repeat (first | refine kN ?_ _ | refine kD ?_ | refine kA ?_ _)); refine blk_far ?_ NB344_370.out _; (with_reducible repeat (first | refine kN ?_ _ | refine kD ?_ | refine kA ?_ _)); refine blk_far ?_ NB344_370.out _; (with_reducible repeat (first | refine kN ?_ _ | refine kD ?_ | refine kA ?_ _)); refine blk_far ?_ NB344_370.out _; (with_reducible repeat (first | refine kN ?_ _ | refine kD ?_ | refine kA ?_ _)); refine blk_far ?_ NB344_370.out _; (with_reducible repeat (first | refine kN ?_ _ | refine kD ?_ | refine kA ?_ _)); refine blk_far ?_ NB344_370.out _; (with_reducible repeat (first | refine kN ?_ _ | refine kD ?_ | refine kA ?_ _)); refine blk_far ?_ NB344_370.out _; (with_reducible repeat (first | refine kN ?_ _ | refine kD ?_ | refine kA ?_ _)); refine blk_far ?_ NB344_370.out _; (with_reducible repeat (first | refine kN ?_ _ | refine kD ?_ | refine kA ?_ _)); exact BK344.out))⟩; have n2_ : As (w58.heap[gb345]? = some (.cells #[.string a1_0, .int .i64 a1_1, .int .i64 a1_2, .int .i64 a1_3, .int .i64 a1_4, .int .i64 a1_5, .int .i64 a1_6, .int .i64 a1_7, .int .i64 a1_8, .int .i64 a1_9, .string a1_10] 27 (0, 0))) := ⟨(by rw [hw]; exact (by (with_reducible repeat (first | refine kN ?_ _ | refine kD ?_ | refine kA ?_ _)); refine blk_far ?_ NB345_370.out _; (with_reducible repeat (first | refine kN ?_ _ | refine kD ?_ | refine kA ?_ _)); refine blk_far ?_ NB345_370.out _; (with_reducible repeat (first | refine kN ?_ _ | refine kD ?_ | refine kA ?_ _)); refine blk_far ?_ NB345_370.out _; (with_reducible repeat (first | refine kN ?_ _ | refine kD ?_ | refine kA ?_ _)); refine blk_far ?_ NB345_370.out _; (with_reducible repeat (first | refine kN ?_ _ | refine kD ?_ | refine kA ?_ _)); refine blk_far ?_ NB345_370.out _; (with_reducible repeat (first | refine kN ?_ _ | refine kD ?_ | refine kA ?_ _)); refine blk_far ?_ NB345_370.out _; (with_reducible repeat (first | refine kN ?_ _ | refine kD ?_ | refine kA ?_ _)); refine blk_far ?_ NB345_370.out _; (with_reducible repeat (first | refine kN ?_ _ | refine kD ?_ | refine kA ?_ _)); refine blk_far ?_ NB345_370.out _; (with_reducible repeat (first | refine kN ?_ _ | refine kD ?_ | refine kA ?_ _)); refine blk_far ?_ NB345_370.out _; (with_reducible repeat (first | refine kN ?_ _ | refine kD ?_ | refine kA ?_ _)); refine blk_far ?_ NB345_370.out _; (with_reducible repeat (first | refine kN ?_ _ | refine kD ?_ | refine kA ?_ _)); refine blk_far ?_ NB345_370.out _; (with_reducible repeat (first | refine kN ?_ _ | refine kD ?_ | refine kA ?_ _)); exact BK345.out))⟩; have n3_ : As (w58.heap[gb370]? = some (.cells #[.string t358, .int .i64 t359, .int .i64 t360, .int .i64 t361, .int .i64 t362, .int .i64 t363, .int .i64 t364, .int .i64 t365, .int .i64 t366, .int .i64 t367, .string t368] 27 (0, 0))) := ⟨(by rw [hw]; exact (by (with_reducible repeat (first | refine kN ?_ _ | refine kD ?_ | refine kA ?_ _)); refine blk_put (cs := #[.string t358, .int .i64 t359, .int .i64 t360, .int .i64 t361, .int .i64 t362, .int .i64 t363, .int .i64 t364, .int .i64 t365, .int .i64 t366, .int .i64 t367, .string (⟨#[]⟩ : ByteArray)]) ?_ 10 _ rfl; (with_reducible repeat (first | refine kN ?_ _ | refine kD ?_ | refine kA ?_ _)); refine blk_put (cs := #[.string t358, .int .i64 t359, .int .i64 t360, .int .i64 t361, .int .i64 t362, .int .i64 t363, .int .i64 t364, .int .i64 t365, .int .i64 t366, .int .i64 0, .string (⟨#[]⟩ : ByteArray)]) ?_ 9 _ rfl; (with_reducible repeat (first | refine kN ?_ _ | refine kD ?_ | refine kA ?_ _)); refine blk_put (cs := #[.string t358, .int .i64 t359, .int .i64 t360, .int .i64 t361, .int .i64 t362, .int .i64 t363, .int .i64 t364, .int .i64 t365, .int .i64 0, .int .i64 0, .string (⟨#[]⟩ : ByteArray)]) ?_ 8 _ rfl; (with_reducible repeat (first | refine kN ?_ _ | refine kD ?_ | refine kA ?_ _)); refine blk_put (cs := #[.string t358, .int .i64 t359, .int .i64 t360, .int .i64 t361, .int .i64 t362, .int .i64 t363, .int .i64 t364, .int .i64 0, .int .i64 0, .int .i64 0, .string (⟨#[]⟩ : ByteArray)]) ?_ 7 _ rfl; (with_reducible repeat (first | refine kN ?_ _ | refine kD ?_ | refine kA ?_ _)); refine blk_put (cs := #[.string t358, .int .i64 t359, .int .i64 t360, .int .i64 t361, .int .i64 t362, .int .i64 t363, .int .i64 0, .int .i64 0, .int .i64 0, .int .i64 0, .string (⟨#[]⟩ : ByteArray)]) ?_ 6 _ rfl; (with_reducible repeat (first | refine kN ?_ _ | refine kD ?_ | refine kA ?_ _)); refine blk_put (cs := #[.string t358, .int .i64 t359, .int .i64 t360, .int .i64 t361, .int .i64 t362, .int .i64 0, .int .i64 0, .int .i64 0, .int .i64 0, .int .i64 0, .string (⟨#[]⟩ : ByteArray)]) ?_ 5 _ rfl; (with_reducible repeat (first | refine kN ?_ _ | refine kD ?_ | refine kA ?_ _)); refine blk_put (cs := #[.string t358, .int .i64 t359, .int .i64 t360, .int .i64 t361, .int .i64 0, .int .i64 0, .int .i64 0, .int .i64 0, .int .i64 0, .int .i64 0, .string (⟨#[]⟩ : ByteArray)]) ?_ 4 _ rfl; (with_reducible repeat (first | refine kN ?_ _ | refine kD ?_ | refine kA ?_ _)); refine blk_put (cs := #[.string t358, .int .i64 t359, .int .i64 t360, .int .i64 0, .int .i64 0, .int .i64 0, .int .i64 0, .int .i64 0, .int .i64 0, .int .i64 0, .string (⟨#[]⟩ : ByteArray)]) ?_ 3 _ rfl; (with_reducible repeat (first | refine kN ?_ _ | refine kD ?_ | refine kA ?_ _)); refine blk_put (cs := #[.string t358, .int .i64 t359, .int .i64 0, .int .i64 0, .int .i64 0, .int .i64 0, .int .i64 0, .int .i64 0, .int .i64 0, .int .i64 0, .string (⟨#[]⟩ : ByteArray)]) ?_ 2 _ rfl; (with_reducible repeat (first | refine kN ?_ _ | refine kD ?_ | refine kA ?_ _)); refine blk_put (cs := #[.string t358, .int .i64 0, .int .i64 0, .int .i64 0, .int .i64 0, .int .i64 0, .int .i64 0, .int .i64 0, .int .i64 0, .int .i64 0, .string (⟨#[]⟩ : ByteArray)]) ?_ 1 _ rfl; (with_reducible repeat (first | refine kN ?_ _ | refine kD ?_ | refine kA ?_ _)); refine blk_put (cs := #[.string (⟨#[]⟩ : ByteArray), .int .i64 0, .int .i64 0, .int .i64 0, .int .i64 0, .int .i64 0, .int .i64 0, .int .i64 0, .int .i64 0, .int .i64 0, .string (⟨#[]⟩ : ByteArray)]) ?_ 0 _ rfl; (with_reducible repeat (first | refine kN ?_ _ | refine kD ?_ | refine kA ?_ _)); exact BK370.out))⟩; have n4_ : As (Below w.heap.size w w58) := ⟨(by rw [hw]; exact (by repeat (first | (with_reducible first | exact HB.out | apply bA | apply bN | apply bD | refine bS ?_ GE344.out | refine bS ?_ GE345.out | refine bS ?_ GE370.out) | exact HB.out)))⟩; clear hw; clear HO357; clear BK344; clear BK345; clear BK370; clear HB; have HO357 := n0_; have BK344 := n1_; have BK345 := n2_; have BK370 := n3_; have HB := n4_; clear n0_ n1_ n2_ n3_ n4_; obtain ⟨hcz59_0, hcz59_1, hcz59_2, hcz59_3, hcz59_4, hcz59_5, hcz59_6, hcz59_7, hcz59_8, hcz59_9, hcz59_10, hfz59_0, hfz59_1, hfz59_2, hfz59_3, hfz59_4, hfz59_5, hfz59_6, hfz59_7, hfz59_8, hfz59_9, hfz59_10⟩ := cl11 BK370.out; have hnb60 := NB344_345.out; have hnc60 := NB345_344.out; obtain ⟨hcz61_0, hcz61_1, hcz61_2, hcz61_3, hcz61_4, hcz61_5, hcz61_6, hcz61_7, hcz61_8, hcz61_9, hcz61_10, hfz61_0, hfz61_1, hfz61_2, hfz61_3, hfz61_4, hfz61_5, hfz61_6, hfz61_7, hfz61_8, hfz61_9, hfz61_10⟩ := cl11 BK344.out; obtain ⟨hcz62_0, hcz62_1, hcz62_2, hcz62_3, hcz62_4, hcz62_5, hcz62_6, hcz62_7, hcz62_8, hcz62_9, hcz62_10, hfz62_0, hfz62_1, hfz62_2, hfz62_3, hfz62_4, hfz62_5, hfz62_6, hfz62_7, hfz62_8, hfz62_9, hfz62_10⟩ := cl11 BK345.out) | (go_at_call 17; (with_reducible refine (solsticelaw09_wakes.calls kj21  t371 _ ?side1 A50.out).mono ?_); (case side1 => exact GW.on HG.out (by repeat (first | (with_reducible first | exact HB.out | apply bA | apply bN | apply bD | refine bS ?_ GE344.out | refine bS ?_ GE345.out | refine bS ?_ GE370.out) | exact HB.out))); rintro e w63 ⟨rfl, hb⟩; have n0_ := As.mk (Kd.R_below (by (with_reducible repeat (first | apply Kd.R_alloc | apply Kd.R_drewN | apply Kd.R_drew)); exact HO357.out) hb); have n1_ := As.mk (kB (g := gb344) (o := .cells #[.string a0_0, .int .i64 a0_1, .int .i64 a0_2, .int .i64 a0_3, .int .i64 a0_4, .int .i64 a0_5, .int .i64 a0_6, .int .i64 a0_7, .int .i64 a0_8, .int .i64 a0_9, .string a0_10] 27 (0, 0)) (by (with_reducible repeat (first | refine kN ?_ _ | refine kD ?_ | refine kA ?_ _)); exact BK344.out) hb); have n2_ := As.mk (kB (g := gb345) (o := .cells #[.string a1_0, .int .i64 a1_1, .int .i64 a1_2, .int .i64 a1_3, .int .i64 a1_4, .int .i64 a1_5, .int .i64 a1_6, .int .i64 a1_7, .int .i64 a1_8, .int .i64 a1_9, .string a1_10] 27 (0, 0)) (by (with_reducible repeat (first | refine kN ?_ _ | refine kD ?_ | refine kA ?_ _)); exact BK345.out) hb); have n3_ := As.mk (kB (g := gb370) (o := .cells #[.string t358, .int .i64 t359, .int .i64 t360, .int .i64 t361, .int .i64 t362, .int .i64 t363, .int .i64 t364, .int .i64 t365, .int .i64 t366, .int .i64 t367, .string t368] 27 (0, 0)) (by (with_reducible repeat (first | refine kN ?_ _ | refine kD ?_ | refine kA ?_ _)); exact BK370.out) hb); have n4_ := As.mk (bT (by repeat (first | (with_reducible first | exact HB.out | apply bA | apply bN | apply bD | refine bS ?_ GE344.out | refine bS ?_ GE345.out | refine bS ?_ GE370.out) | exact HB.out)) hb); clear HO357; clear BK344; clear BK345; clear BK370; clear HB; have HO357 := n0_; have BK344 := n1_; have BK345 := n2_; have BK370 := n3_; have HB := n4_; clear n0_ n1_ n2_ n3_ n4_; (try clear hb); (try clear hb2); (try clear hk); (try clear hi)))
           go_ret
           exact ⟨by first | rfl | (simp [eN, eS] <;> rfl) | (simp [*, eN, eS] <;> rfl), by repeat (first | (with_reducible first | exact HB.out | apply bA | apply bN | apply bD | refine bS ?_ GE344.out | refine bS ?_ GE345.out | refine bS ?_ GE370.out) | exact HB.out)⟩
          ·rw [if_neg c49] at H
           exact absurd H (by simp)
         ·rw [if_neg c48] at H
          exact absurd H (by simp)
        ·rw [if_neg c47] at H
         exact absurd H (by simp)
       ·rw [if_neg c46] at H
        exact absurd H (by simp)
end Go.Proofs.YtfhemdnjoedioaaGreatDoor.X
end
section
namespace Go.Proofs.YtfhemdnjoedioaaGreatDoor.X
open Go.RowKit Go.Proofs.YtfhemdnjoedioaaGreatDoorW.PrintWords Go.Proofs.YtfhemdnjoedioaaGreatDoorW.PrintLast Go.Proofs.YtfhemdnjoedioaaGreatDoorW.PrintMore
set_option linter.unusedVariables false
set_option linter.unusedSimpArgs false
theorem wrap_idd {x : Int} (h0 : -9223372036854775808 ≤ x) (h1 : x < 9223372036854775808) : wrap64 x = x := by unfold wrap64; omega
def isDg (b : UInt8) : Bool := decide (48 ≤ b.toNat) && decide (b.toNat ≤ 57)
theorem isDg_iff {b : UInt8} : isDg b = true ↔ 48 ≤ b.toNat ∧ b.toNat ≤ 57 := by unfold isDg; simp
def valL : List UInt8 → Nat → Nat
  | [], a => a
  | b :: l, a => valL l (10 * a + (b.toNat - 48))
theorem valL_append (l m : List UInt8) (a : Nat) : valL (l ++ m) a = valL m (valL l a) := by
  induction l generalizing a with
  | nil => rfl
  | cons b l ih => exact ih _
theorem valL_lt (l : List UInt8) (hd : ∀ b ∈ l, isDg b = true) (a : Nat) : valL l a < (a + 1) * 10 ^ l.length := by
  induction l generalizing a with
  | nil => simp [valL]
  | cons b l ih =>
    have hb := isDg_iff.mp (hd b (List.mem_cons_self ..))
    have h := ih (fun c hc => hd c (List.mem_cons_of_mem _ hc)) (10 * a + (b.toNat - 48))
    rw [List.length_cons, Nat.pow_succ]
    show valL l (10 * a + (b.toNat - 48)) < _
    refine Nat.lt_of_lt_of_le h ?_
    rw [show (a + 1) * (10 ^ l.length * 10) = (10 * (a + 1)) * 10 ^ l.length by rw [Nat.mul_comm (10 ^ l.length) 10, ← Nat.mul_assoc, Nat.mul_comm (a + 1) 10]]
    exact Nat.mul_le_mul_right _ (by omega)
theorem bt_list (l : List UInt8) (i : Nat) (h : i < l.length) : bt ⟨l.toArray⟩ (i : Int) = (l[i].toNat : Int) := by
  unfold bt
  have hi : ((i : Int)).toNat < (⟨l.toArray⟩ : ByteArray).size := by
    show ((i : Int)).toNat < l.toArray.size
    simpa using h
  rw [dif_pos hi]
  rfl
theorem size_list (l : List UInt8) : (⟨l.toArray⟩ : ByteArray).size = l.length := by
  show l.toArray.size = _
  simp
theorem parse_loop (l : List UInt8) (hd : ∀ b ∈ l, isDg b = true) (hl : l.length ≤ 18) (d : Nat) : ∀ (i k : Nat), i ≤ l.length → d = l.length - i → d < k →
    num_Parse.l0 k ⟨l.toArray⟩ ((valL (l.take i) 0 : Nat) : Int) (l.length : Int) (i : Int) = some (((valL l 0 : Nat) : Int), true) := by
  induction d with
  | zero =>
    intro i k hi he hk
    obtain ⟨k, rfl⟩ : ∃ m, k = m + 1 := ⟨k - 1, by omega⟩
    simp only [num_Parse.l0]
    rw [if_neg (by omega), List.take_of_length_le (by omega)]
  | succ d ih =>
    intro i k hi he hk
    obtain ⟨k, rfl⟩ : ∃ m, k = m + 1 := ⟨k - 1, by omega⟩
    have hlt : i < l.length := by omega
    have hb := isDg_iff.mp (hd l[i] (List.getElem_mem hlt))
    have hv := valL_lt (l.take i) (fun b hb => hd b (List.mem_of_mem_take hb)) 0
    rw [List.length_take, Nat.min_eq_left (by omega)] at hv
    have hp : 10 ^ i ≤ 10 ^ 17 := Nat.pow_le_pow_right (by decide) (by omega)
    have hp' : (10 : Nat) ^ 17 = 100000000000000000 := by decide
    have hv' : valL (l.take i) 0 < 100000000000000000 := by omega
    simp only [num_Parse.l0]
    rw [if_pos (by omega), if_pos (by omega), if_pos (by rw [size_list]; omega), bt_list l i hlt, if_neg (by omega), if_neg (by omega)]
    have e : wrap64 (wrap64 (10 * ((valL (l.take i) 0 : Nat) : Int)) + ((l[i].toNat : Int) - 48) % 256) = ((valL (l.take (i + 1)) 0 : Nat) : Int) := by
      rw [List.take_succ_eq_append_getElem hlt, valL_append]
      show _ = ((10 * valL (l.take i) 0 + (l[i].toNat - 48) : Nat) : Int)
      rw [wrap_idd (x := 10 * ((valL (l.take i) 0 : Nat) : Int)) (by omega) (by omega), wrap_idd (by omega) (by omega)]
      omega
    rw [e, wrap_idd (x := (i : Int) + 1) (by omega) (by omega)]
    exact ih (i + 1) k (by omega) (by omega) (by omega)
theorem parse_digits (l : List UInt8) (hd : ∀ b ∈ l, isDg b = true) (h1 : 1 ≤ l.length) (hl : l.length ≤ 18) (k : Nat) (hk : 20 ≤ k) : num_Parse.f k ⟨l.toArray⟩ = some (((valL l 0 : Nat) : Int), true) := by
  obtain ⟨k, rfl⟩ : ∃ m, k = m + 1 := ⟨k - 1, by omega⟩
  unfold num_Parse.f
  rw [if_neg (by rw [size_list]; omega)]
  simp only [num_Parse.j0]
  rw [if_neg (by rw [size_list]; simp; omega), size_list]
  exact parse_loop l hd hl l.length 0 k (by omega) (by omega) (by omega)
theorem dec_dg (n : Nat) : ∀ b ∈ Lib.decDigits n, isDg b = true := by
  induction n using Nat.strongRecOn with
  | _ n ih =>
    intro b hb
    by_cases h : n < 10
    · rw [Lib.decDigits_one h, List.mem_singleton] at hb
      subst hb
      rw [isDg_iff]
      simp
      omega
    · rw [Lib.decDigits, dif_neg h] at hb
      rcases List.mem_append.mp hb with hb | hb
      · exact ih (n / 10) (by omega) b hb
      · rw [List.mem_singleton] at hb
        subst hb
        rw [isDg_iff]
        simp
        omega
theorem dec_val (n : Nat) : valL (Lib.decDigits n) 0 = n := by
  induction n using Nat.strongRecOn with
  | _ n ih =>
    by_cases h : n < 10
    · rw [Lib.decDigits_one h]
      show 10 * 0 + ((UInt8.ofNat (48 + n)).toNat - 48) = n
      simp
      omega
    · rw [Lib.decDigits, dif_neg h, valL_append, ih (n / 10) (by omega)]
      show 10 * (n / 10) + ((UInt8.ofNat (48 + n % 10)).toNat - 48) = n
      simp
      omega
theorem dec_pos (n : Nat) : 1 ≤ (Lib.decDigits n).length := by rw [Lib.decDigits_length]; exact Lib.nDigits_pos n
theorem nDigits_le (m : Nat) : ∀ n, n < 10 ^ m → 1 ≤ m → Lib.nDigits n ≤ m := by
  induction m with
  | zero => intro n _ h; omega
  | succ m ih =>
    intro n hn _
    by_cases h : n < 10
    · rw [Lib.nDigits_small h]; omega
    · rw [Lib.nDigits_big h]
      rw [Nat.pow_succ] at hn
      by_cases hm : m = 0
      · subst hm; simp at hn; omega
      · have := ih (n / 10) (by omega) (by omega)
        omega
theorem parse_dec (n : Nat) (hn : n < 1000000000000000000) (k : Nat) (hk : 20 ≤ k) : num_Parse.f k ⟨(Lib.decDigits n).toArray⟩ = some ((n : Int), true) := by
  have h := parse_digits (Lib.decDigits n) (dec_dg n) (dec_pos n) (by rw [Lib.decDigits_length]; exact nDigits_le 18 n (by simpa using hn) (by decide)) k hk
  rw [dec_val] at h
  exact h
abbrev B (l : List UInt8) : ByteArray := ⟨l.toArray⟩
theorem B_data (l : List UInt8) : (B l).data.toList = l := by simp [B]
theorem B_toList (l : List UInt8) : (B l).toList = l := by rw [ByteArray.toList_eq]
theorem B_of (s : ByteArray) : s = B s.data.toList := rfl
theorem B_append (l m : List UInt8) : B l ++ B m = B (l ++ m) := by apply ByteArray.ext; rw [ByteArray.data_append]; simp [B]
theorem B_size (l : List UInt8) : (B l).size = l.length := size_list l
theorem B_take (l : List UInt8) (a : Nat) : (B l).extract 0 a = B (l.take a) := by
  rw [B_of ((B l).extract 0 a), Lib.extract_from_zero, B_data]
theorem B_drop (l : List UInt8) (a : Nat) : (B l).extract a (B l).size = B (l.drop a) := by
  rw [B_of ((B l).extract a (B l).size), Lib.extract_to_end, B_data]
theorem index_in (c : UInt8) (a r : List UInt8) (h : c ∉ a) : Lib.index (a ++ c :: r) [c] = a.length := by
  induction a with
  | nil => simp [Lib.index, List.isPrefixOf]
  | cons b a ih =>
    have hb : (c == b) = false := by rw [beq_eq_false_iff_ne]; intro e; exact h (e ▸ List.mem_cons_self ..)
    have ih' := ih (fun hc => h (List.mem_cons_of_mem _ hc))
    simp only [List.cons_append, Lib.index, List.isPrefixOf, hb, Bool.false_and, ih']
    rw [if_neg (by decide), if_neg (by simp <;> omega)]
    simp
theorem index_no (c : UInt8) (a : List UInt8) (h : c ∉ a) : Lib.index a [c] = -1 := by
  induction a with
  | nil => rfl
  | cons b a ih =>
    have hb : (c == b) = false := by rw [beq_eq_false_iff_ne]; intro e; exact h (e ▸ List.mem_cons_self ..)
    have ih' := ih (fun hc => h (List.mem_cons_of_mem _ hc))
    simp only [Lib.index, List.isPrefixOf, hb, Bool.false_and, ih']
    rw [if_neg (by decide)]
    rfl
def sp (l : List UInt8) : List ByteArray := Lib.splitB ⟨#[58]⟩ 0 (Lib.countB (B l) ⟨#[58]⟩) (B l)
theorem split_sp (l : List UInt8) (h : l.length < 1000000) : strings_Split.f (B l) ⟨#[58]⟩ = some (sp l) := by
  have h1 : 1 ≤ (⟨#[58]⟩ : ByteArray).size := by decide
  have hc := Lib.countB_le (⟨#[58]⟩ : ByteArray) h1 (B l).size (B l) (Nat.le_refl _)
  rw [B_size] at hc
  unfold strings_Split.f
  rw [if_pos (by rw [B_size]; omega), if_pos h1, if_pos (Lib.splitB_all _ h1 0 _ _ rfl), if_pos (by omega)]
  rfl
theorem sp_no (a : List UInt8) (h : (58 : UInt8) ∉ a) : sp a = [B a] := by
  have hi : Lib.indexB (B a) ⟨#[58]⟩ = -1 := by
    show Lib.index (B a).data.toList [58] = -1
    rw [B_data]
    exact index_no 58 a h
  unfold sp
  rw [Lib.countB_miss _ _ hi]
  rfl
theorem sp_cons (a r : List UInt8) (h : (58 : UInt8) ∉ a) : sp (a ++ 58 :: r) = B a :: sp r := by
  have hi : Lib.indexB (B (a ++ 58 :: r)) ⟨#[58]⟩ = (a.length : Nat) := by
    show Lib.index (B (a ++ 58 :: r)).data.toList [58] = _
    rw [B_data]
    exact index_in 58 a r h
  have e : (B (a ++ 58 :: r)).extract (a.length + 1) (B (a ++ 58 :: r)).size = B r := by
    rw [B_drop]
    congr 1
    rw [← List.drop_drop, List.drop_left]
    rfl
  have e2 : (B (a ++ 58 :: r)).extract 0 a.length = B a := by
    rw [B_take, List.take_left]
  unfold sp
  rw [Lib.countB_hit _ _ a.length (by decide) hi, show (⟨#[58]⟩ : ByteArray).size = 1 from rfl, e, Nat.add_comm, Lib.splitB_hit _ 0 _ _ a.length hi, show (⟨#[58]⟩ : ByteArray).size = 1 from rfl, e, Nat.add_zero, e2]
def two (m : Nat) : List UInt8 := [UInt8.ofNat (48 + m / 10), UInt8.ofNat (48 + m % 10)]
theorem text_two : ((List.range 60).all fun m => decide (num_Text.f (m : Int) 2 = some (B (two m)))) = true := by decide +kernel
theorem part_two : ((List.range 60).all fun m => decide (clock_part.f 30 (B (two m)) 1 = some ((m : Int), true)) && decide (clock_part.f 30 (B (two m)) 2 = some ((m : Int), true)) && decide ((58 : UInt8) ∉ two m)) = true := by decide +kernel
theorem all_at {p : Nat → Bool} {n : Nat} (h : ((List.range n).all p) = true) (m : Nat) (hm : m < n) : p m = true := List.all_eq_true.mp h m (List.mem_range.mpr hm)
theorem text_two_at (m : Nat) (h : m < 60) : num_Text.f (m : Int) 2 = some (B (two m)) := of_decide_eq_true (all_at text_two m h)
theorem part_two_at (m : Nat) (h : m < 60) (k : Nat) (hk : 30 ≤ k) : clock_part.f k (B (two m)) 1 = some ((m : Int), true) ∧ clock_part.f k (B (two m)) 2 = some ((m : Int), true) ∧ (58 : UInt8) ∉ two m := by
  have := all_at part_two m h
  simp only [Bool.and_eq_true, decide_eq_true_eq] at this
  exact ⟨at_rounds (g := fun k => clock_part.f k (B (two m)) 1) (fun k => clock_part.mono _ _ k) hk this.1.1, at_rounds (g := fun k => clock_part.f k (B (two m)) 2) (fun k => clock_part.mono _ _ k) hk this.1.2, this.2⟩
theorem text_one (n : Nat) (h : n < 1000000000000000000) : num_Text.f (n : Int) 1 = some (B (Lib.decDigits n)) := by
  unfold num_Text.f strconv_Itoa.f
  have hi : Lib.itoa (n : Int) = Lib.decDigits n := by unfold Lib.itoa; rw [if_neg (by omega)]; simp
  have hp := dec_pos n
  rw [if_neg (by omega), if_pos (by omega), if_pos (by omega), hi, Option.bind_some, if_neg (by decide), if_neg (by decide), if_pos (by rw [size_list]; omega)]
def ctx (n : Nat) : List UInt8 := Lib.decDigits (n / 3600) ++ (if n % 3600 = 0 then [] else 58 :: two (n % 3600 / 60)) ++ (if n % 60 = 0 then [] else 58 :: two (n % 60))
def sgnd (s : Int) : List UInt8 := (if s < 0 then [45] else []) ++ ctx s.natAbs
theorem dec_len (n : Nat) (h : n < 1000) : (Lib.decDigits n).length ≤ 3 := by rw [Lib.decDigits_length]; exact nDigits_le 3 n (by simpa using h) (by decide)
theorem ctx_len (n : Nat) (h : n ≤ 345600) : (ctx n).length ≤ 9 := by
  have := dec_len (n / 3600) (by omega)
  unfold ctx two
  split <;> split <;> simp <;> omega
theorem ctext_j1 (n : Nat) (hn : n ≤ 345600) (p : List UInt8) (hp : p.length ≤ 1) (k : Nat) : clock_Text.j1 (k + 1) (n : Int) (B p) = some (B (p ++ ctx n), 0) := by
  have hd := dec_len (n / 3600) (by omega)
  simp only [clock_Text.j1]
  have e1 : wrap64 (Int.tdiv (n : Int) 3600) = ((n / 3600 : Nat) : Int) := by rw [Int.tdiv_eq_ediv_of_nonneg (by omega), wrap_idd (by omega) (by omega)]; omega
  have e2 : Int.tmod (n : Int) 3600 = ((n % 3600 : Nat) : Int) := by rw [Int.tmod_eq_emod_of_nonneg (by omega)]; omega
  have e3 : Int.tmod (n : Int) 60 = ((n % 60 : Nat) : Int) := by rw [Int.tmod_eq_emod_of_nonneg (by omega)]; omega
  have e4 : wrap64 (Int.tdiv ((n % 3600 : Nat) : Int) 60) = ((n % 3600 / 60 : Nat) : Int) := by rw [Int.tdiv_eq_ediv_of_nonneg (by omega), wrap_idd (by omega) (by omega)]; omega
  rw [e1, e2, e3, e4, text_one _ (by omega), text_two_at _ (by omega), text_two_at _ (by omega)]
  simp only [Option.bind_some]
  rw [if_pos (by rw [B_size, B_size]; omega), B_append]
  have ec : ∀ m, (⟨#[58]⟩ : ByteArray) ++ B (two m) = B (58 :: two m) := fun m => B_append [58] (two m)
  simp only [ec, B_append, B_size]
  unfold ctx
  by_cases h1 : n % 3600 = 0
  · have h2 : n % 60 = 0 := by omega
    rw [if_pos (by omega), if_pos (by omega), if_pos h1, if_pos h2, List.append_nil, List.append_nil]
  · rw [if_neg (by omega), if_neg h1, if_pos (by simp [two]), if_pos (by simp [two]; omega)]
    by_cases h2 : n % 60 = 0
    · rw [if_pos (by omega), if_pos h2, List.append_nil, List.append_assoc]
    · rw [if_neg (by omega), if_neg h2, if_pos (by simp [two]), if_pos (by simp [two]; omega)]
      simp only [List.append_assoc]
theorem ctext_eq (s : Int) (h0 : -345600 ≤ s) (h1 : s ≤ 345600) (k : Nat) (hk : 5 ≤ k) : clock_Text.f k s = some (B (sgnd s), 0) := by
  obtain ⟨k, rfl⟩ : ∃ m, k = m + 2 := ⟨k - 2, by omega⟩
  unfold clock_Text.f
  rw [if_neg (by omega), decide_eq_false (by omega)]
  simp only [clock_Text.j0]
  rw [if_neg (by decide)]
  unfold sgnd
  by_cases h : s < 0
  · rw [if_pos h, if_pos h, wrap_idd (by omega) (by omega), show -s = ((s.natAbs : Nat) : Int) by omega]
    exact ctext_j1 s.natAbs (by omega) [45] (by decide) k
  · rw [if_neg h, if_neg h, show s = ((s.natAbs : Nat) : Int) by omega]
    exact ctext_j1 s.natAbs (by omega) [] (by decide) k
theorem prefix_eq (l : List UInt8) (h : l.length < 1000000) : strings_CutPrefix.f (B l) ⟨#[45]⟩ = some (if l.take 1 = [45] then (B (l.drop 1), true) else (B l, false)) := by
  unfold strings_CutPrefix.f stringslite_CutPrefix.f stringslite_HasPrefix.f
  have hs : ((⟨#[45]⟩ : ByteArray).size : Int) = 1 := rfl
  rw [hs, B_size]
  by_cases h1 : (l.length : Int) ≥ 1
  · rw [if_pos h1, if_pos (by decide), if_pos h1, Option.bind_some, show ((1 : Int)).toNat = 1 from rfl, B_take, B_toList, show (⟨#[45]⟩ : ByteArray).toList = [45] by decide +kernel]
    by_cases h2 : l.take 1 = [45]
    · rw [if_pos h2, if_pos (by rw [h2]; rfl), if_pos (by decide), if_pos h1, Option.bind_some, ← B_size l, B_drop]
    · rw [if_neg h2, if_neg (by simpa using h2), Option.bind_some]
  · rw [if_neg h1, Option.bind_some, if_neg (by decide), Option.bind_some]
    have : l = [] := List.eq_nil_of_length_eq_zero (by omega)
    subst this
    rfl
theorem dec_no58 (n : Nat) : (58 : UInt8) ∉ Lib.decDigits n := by
  intro h
  have := dec_dg n 58 h
  revert this
  decide
theorem dec_head (n : Nat) : ∃ b l, Lib.decDigits n = b :: l ∧ isDg b = true := by
  have h := dec_pos n
  cases e : Lib.decDigits n with
  | nil => rw [e] at h; simp at h
  | cons b l => exact ⟨b, l, rfl, dec_dg n b (by rw [e]; exact List.mem_cons_self ..)⟩
theorem part_dec (n : Nat) (h : n < 1000) (k : Nat) (hk : 20 ≤ k) : clock_part.f k (B (Lib.decDigits n)) 0 = some ((n : Int), true) := by
  have hl := dec_len n h
  unfold clock_part.f
  rw [parse_dec n (by omega) k hk, Option.bind_some, if_pos rfl, if_pos rfl, B_size, decide_eq_true (by omega)]
def parts (n : Nat) : List ByteArray := B (Lib.decDigits (n / 3600)) :: ((if n % 3600 = 0 then [] else [B (two (n % 3600 / 60))]) ++ (if n % 60 = 0 then [] else [B (two (n % 60))]))
theorem sp_ctx (n : Nat) : sp (ctx n) = parts n := by
  unfold ctx parts
  have t1 := (part_two_at (n % 3600 / 60) (by omega) 30 (by decide)).2.2
  have t2 := (part_two_at (n % 60) (by omega) 30 (by decide)).2.2
  by_cases h1 : n % 3600 = 0
  · have h2 : n % 60 = 0 := by omega
    rw [if_pos h1, if_pos h2, if_pos h1, if_pos h2, List.append_nil, List.append_nil, sp_no _ (dec_no58 _)]
    rfl
  · rw [if_neg h1, if_neg h1]
    by_cases h2 : n % 60 = 0
    · rw [if_pos h2, if_pos h2, List.append_nil, sp_cons _ _ (dec_no58 _), sp_no _ t1]
      rfl
    · rw [if_neg h2, if_neg h2, List.append_assoc, List.cons_append, sp_cons _ _ (dec_no58 _), sp_cons _ _ t1, sp_no _ t2]
      rfl
theorem cparse_l0 (n : Nat) (hn : n ≤ 345600) (x5 : Bool) (k : Nat) (hk : 40 ≤ k) : clock_Parse.l0 k x5 0 3600 (parts n) ((parts n).length : Int) 0 = some (if x5 = true then -(n : Int) else (n : Int), 0) := by
  obtain ⟨k, rfl⟩ : ∃ m, k = m + 4 := ⟨k - 4, by omega⟩
  have p0 : ∀ q, 30 ≤ q → clock_part.f q (B (Lib.decDigits (n / 3600))) 0 = some (((n / 3600 : Nat) : Int), true) := fun q hq => part_dec _ (by omega) q (by omega)
  have p1 : ∀ q, 30 ≤ q → clock_part.f q (B (two (n % 3600 / 60))) 1 = some (((n % 3600 / 60 : Nat) : Int), true) := fun q hq => (part_two_at (n % 3600 / 60) (by omega) q hq).1
  have p2 : ∀ q, 30 ≤ q → clock_part.f q (B (two (n % 60))) 2 = some (((n % 60 : Nat) : Int), true) := fun q hq => (part_two_at (n % 60) (by omega) q hq).2.1
  have d1 : wrap64 (Int.tdiv 3600 60) = 60 := by kernel_rfl
  have d2 : wrap64 (Int.tdiv 60 60) = 1 := by kernel_rfl
  have d3 : wrap64 (Int.tdiv 1 60) = 0 := by kernel_rfl
  have w1 : wrap64 (0 + 1) = 1 := by kernel_rfl
  have w2 : wrap64 (1 + 1) = 2 := by kernel_rfl
  have w3 : wrap64 (2 + 1) = 3 := by kernel_rfl
  have e0 : wrap64 (0 + wrap64 (((n / 3600 : Nat) : Int) * 3600)) = ((n / 3600 * 3600 : Nat) : Int) := by rw [wrap_idd (x := ((n / 3600 : Nat) : Int) * 3600) (by omega) (by omega), wrap_idd (by omega) (by omega)]; omega
  have ef : ∀ (v : Nat), v = n → (if (v : Int) > 345600 then (some (0, 5) : Option (Int × Int)) else (if x5 = true then some (wrap64 (-(v : Int)), 0) else some ((v : Int), 0))) = some (if x5 = true then -(n : Int) else (n : Int), 0) := by
    intro v hv
    subst hv
    rw [if_neg (by omega)]
    cases x5
    · rfl
    · rw [if_pos rfl, if_pos rfl, wrap_idd (by omega) (by omega)]
  unfold parts
  by_cases h1 : n % 3600 = 0
  · have h2 : n % 60 = 0 := by omega
    rw [if_pos h1, if_pos h2]
    simp only [List.append_nil, clock_Parse.l0]
    rw [if_pos (by show (0 : Int) < 1; decide), if_pos (by decide), if_pos (by show (0 : Int) < 1; decide), show rdOf ByteArray.empty [B (Lib.decDigits (n / 3600))] 0 = B (Lib.decDigits (n / 3600)) from rfl, p0 _ (by omega), Option.bind_some, if_pos rfl, w1, if_neg (by show ¬ (1 : Int) < 1; decide), e0]
    exact ef _ (by omega)
  · rw [if_neg h1]
    have e1 : wrap64 (((n / 3600 * 3600 : Nat) : Int) + wrap64 (((n % 3600 / 60 : Nat) : Int) * 60)) = ((n / 60 * 60 : Nat) : Int) := by rw [wrap_idd (x := ((n % 3600 / 60 : Nat) : Int) * 60) (by omega) (by omega), wrap_idd (by omega) (by omega)]; omega
    by_cases h2 : n % 60 = 0
    · rw [if_pos h2]
      simp only [List.append_nil, clock_Parse.l0]
      rw [if_pos (by show (0 : Int) < 2; decide), if_pos (by decide), if_pos (by show (0 : Int) < 2; decide), show rdOf ByteArray.empty [B (Lib.decDigits (n / 3600)), B (two (n % 3600 / 60))] 0 = B (Lib.decDigits (n / 3600)) from rfl, p0 _ (by omega), Option.bind_some, if_pos rfl, w1, d1, e0, if_pos (by show (1 : Int) < 2; decide), if_pos (by decide), if_pos (by show (1 : Int) < 2; decide),
        show rdOf ByteArray.empty [B (Lib.decDigits (n / 3600)), B (two (n % 3600 / 60))] 1 = B (two (n % 3600 / 60)) from rfl, p1 _ (by omega), Option.bind_some, if_pos rfl, w2, e1, if_neg (by show ¬ (2 : Int) < 2; decide)]
      exact ef _ (by omega)
    · rw [if_neg h2]
      have e2 : wrap64 (((n / 60 * 60 : Nat) : Int) + wrap64 (((n % 60 : Nat) : Int) * 1)) = (n : Int) := by rw [wrap_idd (x := ((n % 60 : Nat) : Int) * 1) (by omega) (by omega), wrap_idd (by omega) (by omega)]; omega
      simp only [List.cons_append, List.nil_append, clock_Parse.l0]
      rw [if_pos (by show (0 : Int) < 3; decide), if_pos (by decide), if_pos (by show (0 : Int) < 3; decide), show rdOf ByteArray.empty [B (Lib.decDigits (n / 3600)), B (two (n % 3600 / 60)), B (two (n % 60))] 0 = B (Lib.decDigits (n / 3600)) from rfl, p0 _ (by omega), Option.bind_some, if_pos rfl, w1, d1, e0, if_pos (by show (1 : Int) < 3; decide), if_pos (by decide), if_pos (by show (1 : Int) < 3; decide),
        show rdOf ByteArray.empty [B (Lib.decDigits (n / 3600)), B (two (n % 3600 / 60)), B (two (n % 60))] 1 = B (two (n % 3600 / 60)) from rfl, p1 _ (by omega), Option.bind_some, if_pos rfl, w2, d2, e1, if_pos (by show (2 : Int) < 3; decide), if_pos (by decide), if_pos (by show (2 : Int) < 3; decide),
        show rdOf ByteArray.empty [B (Lib.decDigits (n / 3600)), B (two (n % 3600 / 60)), B (two (n % 60))] 2 = B (two (n % 60)) from rfl, p2 _ (by omega), Option.bind_some, if_pos rfl, w3, e2, if_neg (by show ¬ (3 : Int) < 3; decide)]
      exact ef _ rfl
theorem ctx_head (n : Nat) : ∃ b l, ctx n = b :: l ∧ isDg b = true := by
  obtain ⟨b, l, e, hb⟩ := dec_head (n / 3600)
  unfold ctx
  rw [e]
  exact ⟨b, _, rfl, hb⟩
theorem cparse_eq (s : Int) (h0 : -345600 ≤ s) (h1 : s ≤ 345600) (k : Nat) (hk : 40 ≤ k) : clock_Parse.f k (B (sgnd s)) = some (s, 0) := by
  have hlen := ctx_len s.natAbs (by omega)
  obtain ⟨b, l, e, hb⟩ := ctx_head s.natAbs
  have hb45 : b ≠ 45 := by rintro rfl; revert hb; decide
  have hp : (parts s.natAbs).length ≤ 3 := by unfold parts; split <;> split <;> simp
  unfold clock_Parse.f sgnd
  by_cases h : s < 0
  · rw [if_pos h, if_neg (by rw [B_toList, e]; simp), prefix_eq _ (by simp; omega)]
    rw [if_pos (by rfl), Option.bind_some]
    show ((strings_Split.f (B (ctx s.natAbs)) ⟨#[58]⟩).bind fun t258 => if (t258.length : Int) > 3 then some (0, 5) else clock_Parse.l0 k true 0 3600 t258 (t258.length : Int) 0) = _
    rw [split_sp _ (by omega), sp_ctx, Option.bind_some, if_neg (by omega), cparse_l0 s.natAbs (by omega) true k hk, if_pos rfl]
    congr 2
    omega
  · rw [if_neg h, List.nil_append, if_neg (by rw [B_toList, e]; intro h'; injection h' with h' _; exact hb45 h'), prefix_eq _ (by omega), if_neg (by rw [e]; intro h'; injection h' with h' _; exact hb45 h'), Option.bind_some]
    show ((strings_Split.f (B (ctx s.natAbs)) ⟨#[58]⟩).bind fun t258 => if (t258.length : Int) > 3 then some (0, 5) else clock_Parse.l0 k false 0 3600 t258 (t258.length : Int) 0) = _
    rw [split_sp _ (by omega), sp_ctx, Option.bind_some, if_neg (by omega), cparse_l0 s.natAbs (by omega) false k hk, if_neg (by decide)]
    congr 2
    omega
def alnum (c : Int) : Bool := (decide (48 ≤ c) && decide (c ≤ 57)) || (decide (97 ≤ c) && decide (c ≤ 122)) || (decide (65 ≤ c) && decide (c ≤ 90))
def sgn (l : List Int) (c : Int) : Bool := alnum c || l.contains c
def nameO : List Int := [95, 43, 45, 47]
def letO : List Int := [43, 45]
theorem sign_name : ((List.range 256).all fun c => decide (rule_sign.f (c : Int) ⟨#[95, 43, 45, 47]⟩ = some (sgn nameO c))) = true := by decide +kernel
theorem sign_let : ((List.range 256).all fun c => decide (rule_sign.f (c : Int) ⟨#[43, 45]⟩ = some (sgn letO c))) = true := by decide +kernel
theorem of_range {p : Nat → Bool} {n : Nat} (h : ((List.range n).all p) = true) (c : Int) (h0 : 0 ≤ c) (h1 : c < n) : p c.toNat = true := List.all_eq_true.mp h c.toNat (List.mem_range.mpr (by omega))
theorem sign_name_at (c : Int) (h0 : 0 ≤ c) (h1 : c ≤ 255) : rule_sign.f c ⟨#[95, 43, 45, 47]⟩ = some (sgn nameO c) := by
  have := of_decide_eq_true (of_range sign_name c h0 (by omega))
  rwa [Int.toNat_of_nonneg h0] at this
theorem sign_let_at (c : Int) (h0 : 0 ≤ c) (h1 : c ≤ 255) : rule_sign.f c ⟨#[43, 45]⟩ = some (sgn letO c) := by
  have := of_decide_eq_true (of_range sign_let c h0 (by omega))
  rwa [Int.toNat_of_nonneg h0] at this
def bts (s : ByteArray) : List Int := s.data.toList.map fun b => (b.toNat : Int)
theorem bts_length (s : ByteArray) : (bts s).length = s.size := by simp only [bts, List.length_map, Array.length_toList]; rfl
theorem bts_drop (s : ByteArray) (i : Nat) (h : i < s.size) : (bts s).drop i = bt s i :: (bts s).drop (i + 1) := by
  have hl : i < (bts s).length := by rw [bts_length]; exact h
  rw [List.drop_eq_getElem_cons hl]
  congr 1
  have hi : ((i : Int)).toNat < s.size := by simpa using h
  have e : bt s i = ((s[i]'h).toNat : Int) := by
    unfold bt
    rw [dif_pos hi]
    rfl
  rw [e]
  simp only [bts, List.getElem_map]
  rfl
theorem all_loop (s o : ByteArray) (l : List Int) (hs : s.size ≤ 1000000) (ho : ∀ c, 0 ≤ c → c ≤ 255 → rule_sign.f c o = some (sgn l c)) (d : Nat) : ∀ (i k : Nat), i ≤ s.size → d = s.size - i → d < k →
    rule_all.l0 k s o (s.size : Int) (i : Int) = some (((bts s).drop i).all (sgn l)) := by
  induction d with
  | zero =>
    intro i k hi hd hk
    obtain ⟨k, rfl⟩ : ∃ m, k = m + 1 := ⟨k - 1, by omega⟩
    simp only [rule_all.l0]
    rw [if_neg (by omega), List.drop_eq_nil_of_le (by rw [bts_length]; omega)]
    rfl
  | succ d ih =>
    intro i k hi hd hk
    obtain ⟨k, rfl⟩ : ∃ m, k = m + 1 := ⟨k - 1, by omega⟩
    have hlt : i < s.size := by omega
    have b1 := bt_range s i
    simp only [rule_all.l0]
    rw [if_pos (by omega), if_pos (by omega), if_pos (by omega), ho _ b1.1 b1.2, Option.bind_some, bts_drop s i hlt, List.all_cons]
    cases e : sgn l (bt s i) with
    | true =>
      rw [if_pos rfl, wrap_idd (by omega) (by omega), show ((i : Int) + 1) = ((i + 1 : Nat) : Int) from by omega, ih (i + 1) k (by omega) (by omega) (by omega), Bool.true_and]
    | false => rw [if_neg (by decide), Bool.false_and]
theorem all_eq (s o : ByteArray) (l : List Int) (hs : s.size ≤ 1000000) (ho : ∀ c, 0 ≤ c → c ≤ 255 → rule_sign.f c o = some (sgn l c)) (k : Nat) (hk : s.size < k) : rule_all.f k s o = some ((bts s).all (sgn l)) := by
  unfold rule_all.f
  have := all_loop s o l hs ho s.size 0 k (by omega) (by omega) hk
  simpa using this
def headOk (c : Int) : Bool := !(decide (48 ≤ c) && decide (c ≤ 57)) && (c != 43 && c != 45)
def nameB (s : ByteArray) : Bool := decide (1 ≤ s.size) && decide (s.size ≤ 40) && (bts s).all (sgn nameO) && headOk (bt s 0)
theorem digit_eq (c : Int) : rule_digit.f c = some (decide (48 ≤ c) && decide (c ≤ 57)) := by
  unfold rule_digit.f
  by_cases h : c ≥ 48
  · rw [if_pos h, decide_eq_true h, Bool.true_and]
  · rw [if_neg h, decide_eq_false h, Bool.false_and]
theorem name_eq (s : ByteArray) (hs : s.size ≤ 1000000) (k : Nat) (hk : 1000 < k) : rule_Name.f k s = some (nameB s) := by
  unfold rule_Name.f nameB
  by_cases h1 : (s.size : Int) < 1
  · rw [if_pos h1, decide_eq_false (show ¬ 1 ≤ s.size by omega)]; simp
  · rw [if_neg h1, decide_eq_true (show 1 ≤ s.size by omega)]
    by_cases h2 : (s.size : Int) > 40
    · rw [if_pos h2, decide_eq_false (show ¬ s.size ≤ 40 by omega)]; simp
    · rw [if_neg h2, decide_eq_true (show s.size ≤ 40 by omega), all_eq s _ nameO hs sign_name_at k (by omega), Option.bind_some]
      cases e : (bts s).all (sgn nameO) with
      | false => rw [if_neg (by decide)]; simp
      | true =>
        rw [if_pos rfl, if_pos (by omega), digit_eq, Option.bind_some]
        unfold headOk
        cases e2 : (decide (48 ≤ bt s 0) && decide (bt s 0 ≤ 57)) with
        | true => rw [if_pos rfl]; simp
        | false =>
          rw [if_neg (by decide)]
          by_cases h3 : bt s 0 = 43
          · rw [if_pos h3, h3]; simp
          · rw [if_neg h3]
            have : (bt s 0 != 43) = true := by simpa using h3
            rw [this]
            simp
def letterB (s : ByteArray) : Bool := decide (s.size ≤ 6) && (bts s).all (sgn letO) && (s.toList != ([45] : List UInt8))
theorem letter_eq (s : ByteArray) (hs : s.size ≤ 1000000) (k : Nat) (hk : 1000 < k) : rule_Letter.f k s = some (letterB s) := by
  unfold rule_Letter.f letterB
  by_cases h1 : (s.size : Int) ≤ 6
  · rw [if_pos h1, decide_eq_true (show s.size ≤ 6 by omega), all_eq s _ letO hs sign_let_at k (by omega), Option.bind_some]
    cases e : (bts s).all (sgn letO) with
    | false => rw [if_neg (by decide)]; simp
    | true => rw [if_pos rfl]; simp
  · rw [if_neg h1, decide_eq_false (show ¬ s.size ≤ 6 by omega)]; simp
def onB (k w d : Int) : Bool := (k == 1 && (decide (1 ≤ d) && decide (d ≤ 31)) && w == 0) || (k == 2 && d == 0 && (decide (0 ≤ w) && decide (w ≤ 6))) || ((k == 3 || k == 4) && (decide (1 ≤ d) && decide (d ≤ 31)) && (decide (0 ≤ w) && decide (w ≤ 6)))
def atB (s k : Int) : Bool := (decide (-345600 ≤ s) && decide (s ≤ 345600)) && (decide (1 ≤ k) && decide (k ≤ 3))
theorem weekday_eq (c : Int) : week_weekday.f c = some (decide (0 ≤ c) && decide (c ≤ 6)) := by
  unfold week_weekday.f
  by_cases h : c ≥ 0
  · rw [if_pos h, decide_eq_true h, Bool.true_and]
    congr 1
    exact decide_eq_decide.mpr (by omega)
  · rw [if_neg h, decide_eq_false h, Bool.false_and]
theorem wcheck_eq (a b c : Int) (k : Nat) (hk : 3 ≤ k) : week_Check.f k a b c = some (if onB a b c = true then 0 else 8) := by
  obtain ⟨k, rfl⟩ : ∃ m, k = m + 2 := ⟨k - 2, by omega⟩
  have key : ∀ x3 : Bool, x3 = (decide (1 ≤ c) && decide (c ≤ 31)) → week_Check.j0 (k + 2) x3 a b c = some (if onB a b c = true then 0 else 8) := by
    intro x3 hx
    subst hx
    simp only [week_Check.j0, week_Check.j1]
    rw [weekday_eq]
    simp only [Option.bind_some]
    unfold onB
    by_cases h1 : a = 1
    · subst h1
      rw [if_pos rfl]
      by_cases h2 : (decide (1 ≤ c) && decide (c ≤ 31)) = true
      · rw [if_pos h2, h2]
        by_cases h3 : b = 0
        · rw [if_pos h3, h3]; rfl
        · rw [if_neg h3]; simp [h3]
      · rw [if_neg h2, Bool.eq_false_iff.mpr h2]; rfl
    · rw [if_neg h1]
      by_cases h2 : a = 2
      · subst h2
        rw [if_pos rfl]
        by_cases h3 : c = 0
        · rw [if_pos h3, h3]; simp; split <;> rfl
        · rw [if_neg h3]; simp [h3]
      · rw [if_neg h2]
        by_cases h3 : a = 3
        · subst h3
          rw [if_pos rfl]
          cases (decide (1 ≤ c) && decide (c ≤ 31))
          · simp
          · simp; split <;> rfl
        · rw [if_neg h3]
          by_cases h4 : a = 4
          · subst h4
            cases (decide (1 ≤ c) && decide (c ≤ 31))
            · simp
            · simp; split <;> rfl
          · simp [h1, h2, h3, h4]
  unfold week_Check.f
  by_cases h : c ≥ 1
  · rw [if_pos h]; exact key _ (by rw [decide_eq_true h, Bool.true_and])
  · rw [if_neg h]; exact key _ (by rw [decide_eq_false h, Bool.false_and])
theorem acheck_eq (a b : Int) : atform_Check.f a b = some (if atB a b = true then 0 else 9) := by
  unfold atform_Check.f atform_in.f atform_right.f atB
  rw [show wrap64 (-345600) = -345600 by kernel_rfl]
  by_cases h : a ≥ -345600
  · rw [if_pos h, Option.bind_some, decide_eq_true h, Bool.true_and]
    by_cases h2 : a ≤ 345600
    · rw [decide_eq_true h2, if_pos rfl, Bool.true_and]
      by_cases h3 : b = 1
      · subst h3; rfl
      · rw [if_neg h3]
        by_cases h4 : b = 2
        · subst h4; rfl
        · rw [if_neg h4, Option.bind_some]
          by_cases h5 : b = 3
          · subst h5; rfl
          · have e : (decide (1 ≤ b) && decide (b ≤ 3)) = false := by
              rw [Bool.eq_false_iff]; intro h'; simp at h'; omega
            rw [e]; simp [h5]
    · rw [decide_eq_false h2]; rfl
  · rw [if_neg h, Option.bind_some, decide_eq_false h]; rfl
def lenM (m : Int) : Int := if m = 2 then 29 else if m = 4 ∨ m = 6 ∨ m = 9 ∨ m = 11 then 30 else 31
def dayB (f t m k d : Int) : Bool := k == 2 || decide (d ≤ (if m = 2 ∧ k = 1 ∧ t > f then 28 else lenM m))
theorem len2000 : ((List.range 12).all fun m => decide (civil_Len.f 10 2000 ((m : Int) + 1) = some (lenM ((m : Int) + 1)))) = true := by decide +kernel
theorem len_eq (m : Int) (h0 : 1 ≤ m) (h1 : m ≤ 12) (k : Nat) (hk : 10 ≤ k) : civil_Len.f k 2000 m = some (lenM m) := by
  have := of_decide_eq_true (of_range len2000 (m - 1) (by omega) (by omega))
  rw [Int.toNat_of_nonneg (by omega), show m - 1 + 1 = m by omega] at this
  exact at_rounds (g := fun k => civil_Len.f k 2000 m) (fun k => civil_Len.mono 2000 m k) hk this
theorem rday_eq (n : ByteArray) (f t m kd w d s ak sv : Int) (l : ByteArray) (h0 : 1 ≤ m) (h1 : m ≤ 12) (k : Nat) (hk : 10 ≤ k) : rule_day.f k n f t m kd w d s ak sv l = some (dayB f t m kd d) := by
  unfold rule_day.f dayB
  by_cases h2 : kd = 2
  · rw [if_pos h2, h2]; simp
  · rw [if_neg h2, len_eq m h0 h1 k hk, Option.bind_some]
    have e : (kd == 2) = false := by simpa using h2
    rw [e, Bool.false_or]
    by_cases h3 : m = 2
    · rw [if_pos h3]
      subst h3
      by_cases h4 : kd = 1
      · rw [if_pos h4]
        by_cases h5 : t > f
        · rw [if_pos h5, if_pos ⟨rfl, h4, h5⟩, show wrap64 (lenM 2 - 1) = 28 by kernel_rfl]
        · rw [if_neg h5, if_neg (by omega)]
      · rw [if_neg h4, if_neg (by omega)]
    · rw [if_neg h3, if_neg (by omega)]
def rightB (n : ByteArray) (f t m kd w d s ak sv : Int) (l : ByteArray) : Bool :=
  nameB n && (decide (1 ≤ f) && (decide (f ≤ t) && decide (t ≤ 9999))) && (decide (1 ≤ m) && decide (m ≤ 12)) && onB kd w d && dayB f t m kd d && atB s ak && (decide (-86400 < sv) && decide (sv < 86400)) && letterB l
theorem check_eq (n : ByteArray) (f t m kd w d s ak sv : Int) (l : ByteArray) (hn : n.size ≤ 1000000) (hl : l.size ≤ 1000000) (k : Nat) (hk : 1010 < k) :
    rule_Check.f k n f t m kd w d s ak sv l = some (if rightB n f t m kd w d s ak sv l = true then 0 else 10) := by
  obtain ⟨k, rfl⟩ : ∃ q, k = q + 3 := ⟨k - 3, by omega⟩
  have key2 : ∀ x3 x4 x5 : Bool, x3 = (decide (1 ≤ f) && (decide (f ≤ t) && decide (t ≤ 9999))) → x4 = (decide (1 ≤ m) && decide (m ≤ 12)) → x5 = (decide (-86400 < sv) && decide (sv < 86400)) →
      rule_Check.j2 (k + 1) x3 x4 x5 n f t m kd w d s ak sv l = some (if rightB n f t m kd w d s ak sv l = true then 0 else 10) := by
    intro x3 x4 x5 h3 h4 h5
    simp only [rule_Check.j2]
    unfold rightB
    rw [← h3, ← h4, ← h5, name_eq n hn k (by omega), Option.bind_some]
    cases nameB n with
    | false => rw [if_neg (by decide)]; rfl
    | true =>
      rw [if_pos rfl]
      cases x3 with
      | false => rw [if_neg (by decide)]; rfl
      | true =>
        rw [if_pos rfl]
        cases hx4 : x4 with
        | false => rw [if_neg (by decide)]; rfl
        | true =>
          rw [if_pos rfl, wcheck_eq kd w d k (by omega), Option.bind_some]
          rw [hx4] at h4
          have hm : 1 ≤ m ∧ m ≤ 12 := by have := h4.symm; simpa using this
          cases onB kd w d with
          | false => rw [if_neg (show ¬ (false = true) by decide), if_neg (show ¬ ((8 : Int) = 0) by decide)]; rfl
          | true =>
            rw [if_pos rfl, if_pos rfl, rday_eq n f t m kd w d s ak sv l hm.1 hm.2 k (by omega), Option.bind_some]
            cases dayB f t m kd d with
            | false => rw [if_neg (by decide)]; rfl
            | true =>
              rw [if_pos rfl, acheck_eq, Option.bind_some]
              cases atB s ak with
              | false => rw [if_neg (show ¬ (false = true) by decide), if_neg (show ¬ ((9 : Int) = 0) by decide)]; rfl
              | true =>
                rw [if_pos rfl, if_pos rfl]
                cases x5 with
                | false => rw [if_neg (by decide)]; rfl
                | true =>
                  rw [if_pos rfl, letter_eq l hl k (by omega), Option.bind_some]
                  cases letterB l <;> rfl
  have key1 : ∀ x3 x4 : Bool, x3 = (decide (1 ≤ f) && (decide (f ≤ t) && decide (t ≤ 9999))) → x4 = (decide (1 ≤ m) && decide (m ≤ 12)) →
      rule_Check.j1 (k + 2) x3 x4 n f t m kd w d s ak sv l = some (if rightB n f t m kd w d s ak sv l = true then 0 else 10) := by
    intro x3 x4 h3 h4
    simp only [rule_Check.j1]
    by_cases h : sv > (-86400)
    · rw [if_pos h]; exact key2 _ _ _ h3 h4 (by rw [decide_eq_true (show -86400 < sv from h), Bool.true_and])
    · rw [if_neg h]; exact key2 _ _ _ h3 h4 (by rw [decide_eq_false (show ¬ -86400 < sv from h), Bool.false_and])
  have key0 : ∀ x3 : Bool, x3 = (decide (1 ≤ f) && (decide (f ≤ t) && decide (t ≤ 9999))) → rule_Check.j0 (k + 3) x3 n f t m kd w d s ak sv l = some (if rightB n f t m kd w d s ak sv l = true then 0 else 10) := by
    intro x3 h3
    simp only [rule_Check.j0]
    by_cases h : m ≥ 1
    · rw [if_pos h]; exact key1 _ _ h3 (by rw [decide_eq_true (show 1 ≤ m from h), Bool.true_and])
    · rw [if_neg h]; exact key1 _ _ h3 (by rw [decide_eq_false (show ¬ 1 ≤ m from h), Bool.false_and])
  unfold rule_Check.f
  by_cases h : f ≥ 1
  · rw [if_pos h]
    by_cases h2 : t ≥ f
    · rw [if_pos h2]; exact key0 _ (by rw [decide_eq_true (show 1 ≤ f from h), decide_eq_true (show f ≤ t from h2)]; simp)
    · rw [if_neg h2]; exact key0 _ (by rw [decide_eq_false (show ¬ f ≤ t from h2)]; simp)
  · rw [if_neg h]; exact key0 _ (by rw [decide_eq_false (show ¬ 1 ≤ f from h), Bool.false_and])
theorem empty_of (s : ByteArray) (h : s.size = 0) : s = ⟨#[]⟩ := by
  apply ByteArray.ext
  exact Array.eq_empty_of_size_eq_zero h
theorem dec_last (n : Nat) : ∃ l b, Lib.decDigits n = l ++ [b] ∧ isDg b = true := by
  by_cases h : n < 10
  · exact ⟨[], _, by rw [Lib.decDigits_one h]; rfl, dec_dg n _ (by rw [Lib.decDigits_one h]; exact List.mem_singleton.mpr rfl)⟩
  · exact ⟨Lib.decDigits (n / 10), UInt8.ofNat (48 + n % 10), by conv => lhs; rw [Lib.decDigits, dif_neg h], dec_dg n _ (by rw [Lib.decDigits, dif_neg h]; simp)⟩
theorem two_last (m : Nat) (h : m < 60) : ∃ b c, two m = [b, c] ∧ isDg b = true ∧ isDg c = true := by
  refine ⟨_, _, rfl, ?_, ?_⟩ <;> · rw [isDg_iff]; simp; omega
theorem ctx_last (n : Nat) : ∃ l b, ctx n = l ++ [b] ∧ isDg b = true := by
  unfold ctx
  by_cases h2 : n % 60 = 0
  · rw [if_pos h2, List.append_nil]
    by_cases h1 : n % 3600 = 0
    · rw [if_pos h1, List.append_nil]; exact dec_last _
    · rw [if_neg h1]
      obtain ⟨b, c, e, _, hc⟩ := two_last (n % 3600 / 60) (by omega)
      rw [e]
      exact ⟨Lib.decDigits (n / 3600) ++ [58, b], c, by simp, hc⟩
  · rw [if_neg h2]
    obtain ⟨b, c, e, _, hc⟩ := two_last (n % 60) (by omega)
    rw [e]
    exact ⟨Lib.decDigits (n / 3600) ++ (if n % 3600 = 0 then [] else 58 :: two (n % 3600 / 60)) ++ [58, b], c, by simp, hc⟩
theorem sgnd_last (s : Int) : ∃ l b, sgnd s = l ++ [b] ∧ isDg b = true := by
  obtain ⟨l, b, e, h⟩ := ctx_last s.natAbs
  unfold sgnd
  rw [e]
  exact ⟨_, b, by rw [List.append_assoc], h⟩
theorem sgnd_len (s : Int) (h0 : -345600 ≤ s) (h1 : s ≤ 345600) : (sgnd s).length ≤ 10 := by
  have := ctx_len s.natAbs (by omega)
  unfold sgnd
  split <;> simp <;> omega
def suf (k : Int) : List UInt8 := if k = 2 then [115] else if k = 3 then [117] else []
theorem atext_eq (s a : Int) (h : atB s a = true) (k : Nat) (hk : 5 ≤ k) : atform_Text.f k s a = some (B (sgnd s ++ suf a), 0) := by
  have h' := h
  unfold atB at h'
  simp only [Bool.and_eq_true, decide_eq_true_eq] at h'
  have hl := sgnd_len s h'.1.1 h'.1.2
  unfold atform_Text.f
  rw [acheck_eq, h, Option.bind_some, if_pos (show (if true = true then (0 : Int) else 9) = 0 from rfl), ctext_eq s h'.1.1 h'.1.2 k hk, Option.bind_some]
  unfold suf
  by_cases h2 : a = 2
  · rw [if_pos h2, if_pos h2, if_pos (by rw [B_size]; omega)]
    show some (B (sgnd s) ++ B [115], (0 : Int)) = _
    rw [B_append]
  · rw [if_neg h2, if_neg h2]
    by_cases h3 : a = 3
    · rw [if_pos h3, if_pos h3, if_pos (by rw [B_size]; omega)]
      show some (B (sgnd s) ++ B [117], (0 : Int)) = _
      rw [B_append]
    · rw [if_neg h3, if_neg h3, List.append_nil]
theorem akind_fin : ((List.range 10).all fun c => decide (atform_kind.f 10 ((c : Int) + 48) = some 0)) = true := by decide +kernel
theorem akind_digit (b : UInt8) (h : isDg b = true) (k : Nat) (hk : 10 ≤ k) : atform_kind.f k (b.toNat : Int) = some 0 := by
  have hb := isDg_iff.mp h
  have := of_decide_eq_true (all_at akind_fin (b.toNat - 48) (by omega))
  rw [show ((b.toNat - 48 : Nat) : Int) + 48 = (b.toNat : Int) by omega] at this
  exact at_rounds (g := fun k => atform_kind.f k (b.toNat : Int)) (fun k => atform_kind.mono _ k) hk this
theorem akind_at (c r : Int) (h : atform_kind.f 10 c = some r) (k : Nat) (hk : 10 ≤ k) : atform_kind.f k c = some r := at_rounds (g := fun k => atform_kind.f k c) (fun k => atform_kind.mono _ k) hk h
theorem bt_snoc (l : List UInt8) (b : UInt8) : bt (B (l ++ [b])) (l.length : Int) = (b.toNat : Int) := by
  have := bt_list (l ++ [b]) l.length (by simp)
  rw [this]
  simp
theorem aparse_suf (s a : Int) (c : UInt8) (h0 : -345600 ≤ s) (h1 : s ≤ 345600) (hc : atform_kind.f 10 (c.toNat : Int) = some a) (ha : a ≠ 0) (k : Nat) (hk : 50 ≤ k) : atform_Parse.f k (B (sgnd s ++ [c])) = some (s, a, 0) := by
  obtain ⟨k, rfl⟩ : ∃ m, k = m + 1 := ⟨k - 1, by omega⟩
  have hl := sgnd_len s h0 h1
  have hz : ((B (sgnd s ++ [c])).size : Int) = (sgnd s).length + 1 := by rw [B_size]; simp
  have hw : wrap64 (((sgnd s).length : Int) + 1 - 1) = ((sgnd s).length : Int) := by rw [wrap_idd (by omega) (by omega)]; omega
  unfold atform_Parse.f
  rw [hz, if_pos (by omega), hw, if_pos (by omega), if_pos (by omega), bt_snoc, akind_at _ _ hc _ (by omega), Option.bind_some]
  simp only [atform_Parse.j0]
  rw [if_pos (by simpa using ha), hw, if_pos (by omega), hz, if_pos (by omega), bt_snoc, akind_at _ _ hc _ (by omega), Option.bind_some, if_pos (by omega), Int.toNat_natCast, B_take, List.take_left, cparse_eq s h0 h1 k (by omega), Option.bind_some, if_pos rfl]
theorem aparse_eq (s a : Int) (h : atB s a = true) (k : Nat) (hk : 50 ≤ k) : atform_Parse.f k (B (sgnd s ++ suf a)) = some (s, a, 0) := by
  have h' := h
  unfold atB at h'
  simp only [Bool.and_eq_true, decide_eq_true_eq] at h'
  unfold suf
  by_cases h2 : a = 2
  · rw [if_pos h2]; exact aparse_suf s a 115 h'.1.1 h'.1.2 (by rw [h2]; decide +kernel) (by omega) k hk
  · rw [if_neg h2]
    by_cases h3 : a = 3
    · rw [if_pos h3]; exact aparse_suf s a 117 h'.1.1 h'.1.2 (by rw [h3]; decide +kernel) (by omega) k hk
    · rw [if_neg h3, List.append_nil]
      have ha : a = 1 := by omega
      obtain ⟨k, rfl⟩ : ∃ m, k = m + 1 := ⟨k - 1, by omega⟩
      have hl := sgnd_len s h'.1.1 h'.1.2
      have hcp := cparse_eq s h'.1.1 h'.1.2 k (by omega)
      obtain ⟨l, b, e, hb⟩ := sgnd_last s
      rw [e] at hl hcp ⊢
      have hz : ((B (l ++ [b])).size : Int) = l.length + 1 := by rw [B_size]; simp
      have hw : wrap64 ((l.length : Int) + 1 - 1) = (l.length : Int) := by
        simp only [List.length_append, List.length_cons, List.length_nil] at hl
        rw [wrap_idd (by omega) (by omega)]; omega
      unfold atform_Parse.f
      rw [hz, if_pos (by omega), hw, if_pos (by omega), if_pos (by omega), bt_snoc, akind_digit b hb _ (by omega), Option.bind_some]
      simp only [atform_Parse.j0]
      rw [if_neg (by decide), hcp, Option.bind_some, if_pos rfl, ha]
theorem saving_eq (s : Int) (h0 : -345600 ≤ s) (h1 : s ≤ 345600) (k : Nat) (hk : 50 ≤ k) : rule_saving.f k (B (sgnd s)) = some (s, 0) := by
  have hl := sgnd_len s h0 h1
  have hcp := cparse_eq s h0 h1 k (by omega)
  obtain ⟨l, b, e, hb⟩ := sgnd_last s
  rw [e] at hl hcp ⊢
  have hb' := isDg_iff.mp hb
  have hz : ((B (l ++ [b])).size : Int) = l.length + 1 := by rw [B_size]; simp
  have hw : wrap64 ((l.length : Int) + 1 - 1) = (l.length : Int) := by
    simp only [List.length_append, List.length_cons, List.length_nil] at hl
    rw [wrap_idd (by omega) (by omega)]; omega
  unfold rule_saving.f
  rw [hz, if_pos (by omega), hw, if_pos (by omega), if_pos (by omega), bt_snoc, if_neg (by omega), if_neg (by omega), hcp]
  rfl
def cln (b : UInt8) : Bool := b != 0 && b != 9 && b != 10 && b != 13 && b != 32 && b != 34 && b != 35
def okF (l : List UInt8) : Bool := !l.isEmpty && l.all cln
def fsr : List Int → List ByteArray → List Int → Bool → Bool → List ByteArray × List Int × Bool × Bool
  | [], out, fld, op, q => (out, fld, op, q)
  | c :: cs, out, fld, op, q => if (fs_s c out fld op q).1 = true then fsr cs (fs_s c out fld op q).2.1 (fs_s c out fld op q).2.2.1 (fs_s c out fld op q).2.2.2.1 (fs_s c out fld op q).2.2.2.2 else (fs_s c out fld op q).2
theorem fs_l_eq (s : ByteArray) (hs : s.size ≤ 1000000) (d : Nat) : ∀ (i k : Nat) (out : List ByteArray) (fld : List Int) (op q : Bool), i ≤ s.size → d = s.size - i → d < k → fs_l k s (i : Int) out fld op q = some (fsr ((bts s).drop i) out fld op q) := by
  induction d with
  | zero =>
    intro i k out fld op q hi hd hk
    obtain ⟨k, rfl⟩ : ∃ m, k = m + 1 := ⟨k - 1, by omega⟩
    simp only [fs_l]
    rw [if_neg (by omega), List.drop_eq_nil_of_le (by rw [bts_length]; omega)]
    rfl
  | succ d ih =>
    intro i k out fld op q hi hd hk
    obtain ⟨k, rfl⟩ : ∃ m, k = m + 1 := ⟨k - 1, by omega⟩
    have hlt : i < s.size := by omega
    simp only [fs_l]
    rw [if_pos (by omega), if_pos (by omega), bts_drop s i hlt, wrap_idd (by omega) (by omega), show ((i : Int) + 1) = ((i + 1 : Nat) : Int) from by omega]
    simp only [fsr]
    split
    · exact ih (i + 1) k _ _ _ _ (by omega) (by omega) (by omega)
    · rfl
def nmU (l : List UInt8) : List Int := l.map fun b => (b.toNat : Int)
theorem str_nm (l : List UInt8) : strOfNums (nmU l) = B l := by
  unfold strOfNums nmU
  rw [List.map_map]
  congr 2
  conv => rhs; rw [← List.map_id l]
  apply List.map_congr_left
  intro b _
  simp
theorem cln_bl : ((List.range 256).all fun n => !(cln n.toUInt8) || !(bl_ (n : Int))) = true := by decide +kernel
theorem cln_step (b : UInt8) (h : cln b = true) (out : List ByteArray) (fld : List Int) (op : Bool) : fs_s (b.toNat : Int) out fld op false = (true, out, fld ++ [(b.toNat : Int)], true, false) := by
  have hcl := h
  unfold cln at h
  simp only [Bool.and_eq_true, bne_iff_ne, ne_eq] at h
  obtain ⟨⟨⟨⟨⟨⟨h0, h1⟩, h2⟩, h3⟩, h4⟩, h5⟩, h6⟩ := h
  have n34 : ¬ (b.toNat : Int) = 34 := fun e => h5 (UInt8.toNat_inj.mp (by show b.toNat = 34; omega))
  have n35 : ¬ (b.toNat : Int) = 35 := fun e => h6 (UInt8.toNat_inj.mp (by show b.toNat = 35; omega))
  have nb : bl_ (b.toNat : Int) = false := by
    have := all_at cln_bl b.toNat b.toNat_lt
    rw [show (b.toNat).toUInt8 = b by simp, hcl] at this
    simpa using this
  unfold fs_s
  rw [if_neg n34, if_neg (by decide), if_neg n35, nb, if_neg (by decide)]
theorem fsr_field (l : List UInt8) (h : l.all cln = true) (rest : List Int) : ∀ (out : List ByteArray) (fld : List Int) (op : Bool), fsr (nmU l ++ rest) out fld op false = fsr rest out (fld ++ nmU l) (op || !l.isEmpty) false := by
  induction l with
  | nil => intro out fld op; simp [nmU]
  | cons b l ih =>
    intro out fld op
    rw [List.all_cons, Bool.and_eq_true] at h
    show fsr ((b.toNat : Int) :: (nmU l ++ rest)) out fld op false = _
    simp only [fsr, cln_step b h.1, if_true]
    rw [ih h.2]
    simp [nmU]
theorem fsr_blank (rest : List Int) (out : List ByteArray) (fld : List Int) : fsr (32 :: rest) out fld true false = fsr rest (out ++ [strOfNums fld]) [] false false := by
  have e : fs_s 32 out fld true false = (true, out ++ [strOfNums fld], [], false, false) := rfl
  simp only [fsr, e, if_true]
theorem fsr_tail (fs : List (List UInt8)) : ∀ (f : List UInt8) (out : List ByteArray), okF f = true → (fs.all okF) = true →
    fsr (nmU (Lib.joinTail [32] fs)) out (nmU f) true false = (out ++ ((f :: fs).dropLast).map B, nmU ((f :: fs).getLast (by simp)), true, false) := by
  induction fs with
  | nil => intro f out _ _; simp [Lib.joinTail, nmU, fsr]
  | cons g fs ih =>
    intro f out hf hfs
    rw [List.all_cons, Bool.and_eq_true] at hfs
    have hg := hfs.1
    unfold okF at hg
    rw [Bool.and_eq_true] at hg
    have e : nmU (Lib.joinTail [32] (g :: fs)) = 32 :: (nmU g ++ nmU (Lib.joinTail [32] fs)) := by
      simp [Lib.joinTail, nmU]
    rw [e, fsr_blank, fsr_field g hg.2, str_nm, List.nil_append]
    have hne : (false || !g.isEmpty) = true := by rw [Bool.false_or]; exact hg.1
    rw [hne, ih g (out ++ [B f]) hfs.1 hfs.2]
    simp
theorem indexByte_no (c : UInt8) (l : List UInt8) (h : c ∉ l) : Lib.indexByte l c = -1 := by
  induction l with
  | nil => rfl
  | cons b l ih =>
    have hb : (b == c) = false := by rw [beq_eq_false_iff_ne]; intro e; exact h (e ▸ List.mem_cons_self ..)
    simp only [Lib.indexByte, hb, ih (fun hc => h (List.mem_cons_of_mem _ hc))]
    rfl
theorem join_mem (fs : List (List UInt8)) (c : UInt8) (h : c ∈ Lib.join fs [32]) : c = 32 ∨ ∃ f ∈ fs, c ∈ f := by
  cases fs with
  | nil => simp [Lib.join, List.intercalate] at h
  | cons f fs =>
    rw [Lib.join_cons] at h
    rcases List.mem_append.mp h with h | h
    · exact Or.inr ⟨f, List.mem_cons_self .., h⟩
    · unfold Lib.joinTail at h
      obtain ⟨x, hx, hc⟩ := List.mem_flatten.mp h
      obtain ⟨g, hg, rfl⟩ := List.mem_map.mp hx
      rcases List.mem_append.mp hc with hc | hc
      · exact Or.inl (List.mem_singleton.mp hc)
      · exact Or.inr ⟨g, List.mem_cons_of_mem _ hg, hc⟩
theorem split_join (f : List UInt8) (fs : List (List UInt8)) (h : ((f :: fs).all okF) = true) (hl : (Lib.join (f :: fs) [32]).length ≤ 600) : fields_Split.f (B (Lib.join (f :: fs) [32])) = some ((f :: fs).map B, 0) := by
  have hcl : ∀ c, cln c = false → c ≠ 32 → c ∉ Lib.join (f :: fs) [32] := by
    intro c hc h32 hm
    rcases join_mem _ _ hm with e | ⟨g, hg, hcg⟩
    · exact h32 e
    · have := List.all_eq_true.mp h g hg
      unfold okF at this
      rw [Bool.and_eq_true] at this
      have := List.all_eq_true.mp this.2 c hcg
      rw [hc] at this
      cases this
  unfold fields_Split.f fields_Split.fk
  rw [B_size, if_neg (by omega), B_data, indexByte_no 0 _ (hcl 0 (by decide) (by decide)), if_neg (by decide), indexByte_no 10 _ (hcl 10 (by decide) (by decide)), if_neg (by decide)]
  have hr := fs_l_eq (B (Lib.join (f :: fs) [32])) (by rw [B_size]; omega) (B (Lib.join (f :: fs) [32])).size 0 602 [] [] false false (by omega) (by omega) (by rw [B_size]; omega)
  rw [List.drop_zero] at hr
  have hr' : fs_l 602 (B (Lib.join (f :: fs) [32])) 0 [] [] false false = some (fsr (nmU (Lib.join (f :: fs) [32])) [] [] false false) := by
    have e : bts (B (Lib.join (f :: fs) [32])) = nmU (Lib.join (f :: fs) [32]) := by unfold bts nmU; rw [B_data]
    rw [← e]; exact hr
  rw [List.all_cons, Bool.and_eq_true] at h
  have hf := h.1
  unfold okF at hf
  rw [Bool.and_eq_true] at hf
  have e1 : nmU (Lib.join (f :: fs) [32]) = nmU f ++ nmU (Lib.joinTail [32] fs) := by rw [Lib.join_cons]; simp [nmU]
  have hne : (false || !f.isEmpty) = true := by rw [Bool.false_or]; exact hf.1
  rw [hr', Option.bind_some, e1, fsr_field f hf.2, List.nil_append, hne, fsr_tail fs f [] h.1 h.2]
  unfold fs_e
  rw [if_neg (show ¬ (false = true) by decide), if_pos rfl, str_nm, List.nil_append]
  congr 2
  show (f :: fs).dropLast.map B ++ [B ((f :: fs).getLast (by simp))] = _
  rw [← List.map_singleton, ← List.map_append, List.dropLast_concat_getLast]
theorem join_eq (fs : List (List UInt8)) (hn : fs.length ≤ 100) (hl : (Lib.join fs [32]).length ≤ 100000) : strings_Join.f (fs.map B) ⟨#[32]⟩ = some (B (Lib.join fs [32])) := by
  have e : (fs.map B).map (·.data.toList) = fs := by
    rw [List.map_map]
    conv => rhs; rw [← List.map_id fs]
    apply List.map_congr_left
    intro l _
    exact B_data l
  unfold strings_Join.f
  rw [if_pos (by simp; omega), e, show (⟨#[32]⟩ : ByteArray).data.toList = [32] from rfl, if_pos (by omega)]
def smI (c : Int) : Int := if 65 ≤ c ∧ c ≤ 90 then c + 32 else c
theorem small_eq (c : Int) (h0 : 0 ≤ c) (h1 : c ≤ 255) : words_small.f c = some (smI c) := by
  unfold words_small.f smI
  by_cases h : c ≥ 65
  · rw [if_pos h]
    by_cases h' : c ≤ 90
    · rw [if_pos h', if_pos ⟨h, h'⟩]; congr 1; omega
    · rw [if_neg h', if_neg (by omega)]
  · rw [if_neg h, if_neg (by omega)]
def low (s : ByteArray) : List Int := s.data.toList.map fun b => smI b.toNat
theorem low_length (s : ByteArray) : (low s).length = s.size := by simp only [low, List.length_map, Array.length_toList]; rfl
theorem low_get (s : ByteArray) (i : Nat) (h : i < s.size) : (low s).drop i = smI (bt s i) :: (low s).drop (i + 1) := by
  have hl : i < (low s).length := by rw [low_length]; exact h
  rw [List.drop_eq_getElem_cons hl]
  congr 1
  have hi : ((i : Int)).toNat < s.size := by simpa using h
  have e : bt s i = ((s[i]'h).toNat : Int) := by
    unfold bt
    rw [dif_pos hi]
    rfl
  rw [e]
  simp only [low, List.getElem_map]
  rfl
theorem wrap_id {x : Int} (h0 : -9223372036854775808 ≤ x) (h1 : x < 9223372036854775808) : wrap64 x = x := by unfold wrap64; omega
theorem begins_l0 (w s : ByteArray) (hw : s.size ≤ w.size) (hs : s.size ≤ 4611686018427387904) (d : Nat) : ∀ (i k : Nat), i ≤ s.size → d = s.size - i → d < k →
    words_begins.l0 k w s (s.size : Int) (i : Int) = some (((low s).drop i).isPrefixOf ((low w).drop i)) := by
  induction d with
  | zero =>
    intro i k hi hd hk
    obtain ⟨k, rfl⟩ : ∃ m, k = m + 1 := ⟨k - 1, by omega⟩
    simp only [words_begins.l0]
    rw [if_neg (by omega), List.drop_eq_nil_of_le (by rw [low_length]; omega)]
    simp
  | succ d ih =>
    intro i k hi hd hk
    obtain ⟨k, rfl⟩ : ∃ m, k = m + 1 := ⟨k - 1, by omega⟩
    have hlt : i < s.size := by omega
    have b1 := bt_range s i
    have b2 := bt_range w i
    simp only [words_begins.l0]
    rw [if_pos (by omega), if_pos (by omega), if_pos (by omega), small_eq _ b1.1 b1.2]
    simp only [Option.bind_some]
    rw [if_pos (by omega), small_eq _ b2.1 b2.2]
    simp only [Option.bind_some]
    rw [low_get s i hlt, low_get w i (by omega), List.isPrefixOf_cons_cons]
    by_cases e : smI (bt s i) = smI (bt w i)
    · rw [if_pos e, wrap_id (by omega) (by omega)]
      have := ih (i + 1) k (by omega) (by omega) (by omega)
      rw [show ((i : Int) + 1) = ((i + 1 : Nat) : Int) from by omega, this, e]
      simp
    · rw [if_neg e]
      simp [e]
def begB (w s : ByteArray) : Bool := (low s).isPrefixOf (low w)
theorem begins_eq (w s : ByteArray) (hs : s.size ≤ 4611686018427387904) (k : Nat) (hk : s.size < k) : words_begins.f k w s = some (begB w s) := by
  unfold words_begins.f begB
  by_cases h : (s.size : Int) > (w.size : Int)
  · rw [if_pos h]
    congr 1
    symm
    rw [Bool.eq_false_iff]
    intro h'
    have := (List.isPrefixOf_iff_prefix.mp h').length_le
    rw [low_length, low_length] at this
    omega
  · rw [if_neg h]
    have := begins_l0 w s (by omega) hs s.size 0 k (by omega) (by omega) hk
    simpa using this
def goF (L : List Int) (first least : Int) : List (List Int) → Int → Int → Int → Int × Int
  | [], _, p, many => if many = 1 then (if (L.length : Int) < least then (0, 7) else (first + p, 0)) else (0, 7)
  | W :: Ws, i, p, many => if L.isPrefixOf W then (if L.length = W.length then (if (L.length : Int) < least then (0, 7) else (first + i, 0)) else goF L first least Ws (i + 1) i (many + 1)) else goF L first least Ws (i + 1) p many
theorem find_l0 (s : ByteArray) (hs : s.size ≤ 4611686018427387904) (ws : List ByteArray) (hws : ws.length ≤ 100) (first least : Int) (hf : 0 ≤ first) (hf' : first ≤ 100) (rest : List ByteArray) :
    ∀ (i k : Nat) (p many : Int), rest = ws.drop i → i + rest.length = ws.length → rest.length + s.size + 1 < k → 0 ≤ p → p ≤ 100 → 0 ≤ many → many ≤ i →
    words_find.l0 k s p many ws (ws.length : Int) (i : Int) ws first least = some (goF (low s) first least (rest.map low) i p many) := by
  induction rest with
  | nil =>
    intro i k p many hr hi hk hp hp' hm hm'
    obtain ⟨k, rfl⟩ : ∃ m, k = m + 1 := ⟨k - 1, by omega⟩
    simp only [List.length_nil] at hi
    simp only [words_find.l0, List.map_nil, goF, low_length]
    rw [if_neg (by omega)]
    by_cases h1 : many = 1
    · rw [if_pos h1, if_pos h1]
      by_cases h2 : (s.size : Int) < least
      · rw [if_pos h2, if_pos h2]
      · rw [if_neg h2, if_neg h2, wrap_id (by omega) (by omega)]
    · rw [if_neg h1, if_neg h1]
  | cons w rest ih =>
    intro i k p many hr hi hk hp hp' hm hm'
    obtain ⟨k, rfl⟩ : ∃ m, k = m + 1 := ⟨k - 1, by omega⟩
    simp only [List.length_cons] at hi hk
    have hlt : i < ws.length := by omega
    have hw : ws[i] = w ∧ rest = ws.drop (i + 1) := by
      rw [List.drop_eq_getElem_cons hlt] at hr
      injection hr with a b
      exact ⟨a.symm, b⟩
    have hrd : rdOf ByteArray.empty ws (i : Int) = w := by
      unfold rdOf
      rw [Int.toNat_natCast, List.getD_eq_getElem?_getD, List.getElem?_eq_getElem hlt, hw.1]
      rfl
    simp only [words_find.l0]
    rw [if_pos (by omega), if_pos (by omega), if_pos (by omega), hrd, begins_eq w s hs k (by omega)]
    simp only [Option.bind_some, List.map_cons, goF, low_length]
    rw [wrap_id (x := many + 1) (by omega) (by omega), wrap_id (x := (i : Int) + 1) (by omega) (by omega), show ((i : Int) + 1) = ((i + 1 : Nat) : Int) from by omega]
    cases hb : begB w s with
    | true =>
      rw [if_pos rfl]
      unfold begB at hb
      rw [hb, if_pos rfl]
      by_cases he : (s.size : Int) = (w.size : Int)
      · rw [if_pos he, if_pos (show s.size = w.size by omega)]
        by_cases h2 : (s.size : Int) < least
        · rw [if_pos h2, if_pos h2]
        · rw [if_neg h2, if_neg h2, wrap_id (by omega) (by omega)]
      · rw [if_neg he, if_neg (by omega)]
        exact ih (i + 1) k i (many + 1) hw.2 (by omega) (by omega) (by omega) (by omega) (by omega) (by omega)
    | false =>
      rw [if_neg (by decide)]
      unfold begB at hb
      rw [hb, if_neg (by decide)]
      exact ih (i + 1) k p many hw.2 (by omega) (by omega) hp hp' hm (by omega)
def W1 : List ByteArray := [⟨#[82, 117, 108, 101]⟩, ⟨#[90, 111, 110, 101]⟩, ⟨#[76, 105, 110, 107]⟩]
def W2 : List ByteArray := [⟨#[74, 97, 110, 117, 97, 114, 121]⟩, ⟨#[70, 101, 98, 114, 117, 97, 114, 121]⟩, ⟨#[77, 97, 114, 99, 104]⟩, ⟨#[65, 112, 114, 105, 108]⟩, ⟨#[77, 97, 121]⟩, ⟨#[74, 117, 110, 101]⟩, ⟨#[74, 117, 108, 121]⟩, ⟨#[65, 117, 103, 117, 115, 116]⟩, ⟨#[83, 101, 112, 116, 101, 109, 98, 101, 114]⟩, ⟨#[79, 99, 116, 111, 98, 101, 114]⟩, ⟨#[78, 111, 118, 101, 109, 98, 101, 114]⟩, ⟨#[68, 101, 99, 101, 109, 98, 101, 114]⟩]
def W4 : List ByteArray := [⟨#[109, 105, 110, 105, 109, 117, 109]⟩, ⟨#[109, 97, 120, 105, 109, 117, 109]⟩, ⟨#[111, 110, 108, 121]⟩]
theorem kind4 : words_kindOf.f 4 = some (W4, 1, 1, true) := by kernel_rfl
def fw (Ws : List (List Int)) (least : Int) (L : List Int) : Option Nat :=
  if (L.length : Int) < least then none else match (List.range Ws.length).filter fun i => L.isPrefixOf (Ws.getD i []) with
  | [i] => some i
  | _ => none
def ans (first : Int) : Option Nat → Int × Int
  | some i => (first + i, 0)
  | none => (0, 7)
def pres (W : List Int) : List (List Int) := (List.range (W.length + 1)).map fun n => W.take n
theorem mem_pres {L W : List Int} (h : L.isPrefixOf W = true) : L ∈ pres W := by
  have hp := List.isPrefixOf_iff_prefix.mp h
  unfold pres
  rw [List.mem_map]
  exact ⟨L.length, by rw [List.mem_range]; have := hp.length_le; omega, (List.prefix_iff_eq_take.mp hp).symm⟩
theorem goF_none (L : List Int) (first least : Int) : ∀ (Ws : List (List Int)) (i p many : Int), (∀ W ∈ Ws, L.isPrefixOf W = false) → many = 0 → goF L first least Ws i p many = (0, 7)
  | [], _, _, many, _, hm => by simp [goF, hm]
  | W :: Ws, i, p, many, h, hm => by
    simp only [goF]
    rw [h W List.mem_cons_self, if_neg (by decide)]
    exact goF_none L first least Ws _ _ _ (fun V hV => h V (List.mem_cons_of_mem _ hV)) hm
theorem fw_none (Ws : List (List Int)) (least : Int) (L : List Int) (h : ∀ W ∈ Ws, L.isPrefixOf W = false) : fw Ws least L = none := by
  unfold fw
  by_cases hl : (L.length : Int) < least
  · rw [if_pos hl]
  · rw [if_neg hl]
    have : ((List.range Ws.length).filter fun i => L.isPrefixOf (Ws.getD i [])) = [] := by
      rw [List.filter_eq_nil_iff]
      intro i hi
      have hlt := List.mem_range.mp hi
      rw [List.getD_eq_getElem?_getD, List.getElem?_eq_getElem hlt]
      have := h _ (List.getElem_mem hlt)
      simp [this]
    rw [this]
theorem chk (Ws : List (List Int)) (first least : Int) (hfin : ((Ws.flatMap pres).all fun L => decide (goF L first least Ws 0 0 0 = ans first (fw Ws least L))) = true) (L : List Int) :
    goF L first least Ws 0 0 0 = ans first (fw Ws least L) := by
  by_cases h : ∃ W ∈ Ws, L.isPrefixOf W = true
  · obtain ⟨W, hW, hp⟩ := h
    exact of_decide_eq_true (List.all_eq_true.mp hfin L (List.mem_flatMap.mpr ⟨W, hW, mem_pres hp⟩))
  · have h' : ∀ W ∈ Ws, L.isPrefixOf W = false := fun W hW => by
      cases e : L.isPrefixOf W
      · rfl
      · exact absurd ⟨W, hW, e⟩ h
    rw [goF_none L first least Ws 0 0 0 h' rfl, fw_none Ws least L h']
    rfl
theorem find_of (kind : Int) (ws : List ByteArray) (first least : Int) (hk : words_kindOf.f kind = some (ws, first, least, true)) (hws : ws.length ≤ 100) (hf : 0 ≤ first) (hf' : first ≤ 100)
    (hfin : (((ws.map low).flatMap pres).all fun L => decide (goF L first least (ws.map low) 0 0 0 = ans first (fw (ws.map low) least L))) = true)
    (s : ByteArray) (hs : s.size ≤ 4611686018427387904) (k : Nat) (h : s.size + 200 < k) : words_find.f k kind s = some (ans first (fw (ws.map low) least (low s))) := by
  unfold words_find.f
  rw [hk]
  simp only [Option.bind_some]
  refine Eq.trans (find_l0 s hs ws hws first least hf hf' ws 0 k 0 0 (by simp) (by simp) (by omega) (by decide) (by decide) (by decide) (by decide)) ?_
  exact congrArg some (chk _ _ _ hfin _)
theorem fin4 : (((W4.map low).flatMap pres).all fun L => decide (goF L 1 1 (W4.map low) 0 0 0 = ans 1 (fw (W4.map low) 1 L))) = true := by decide +kernel
theorem find4 (s : ByteArray) (hs : s.size ≤ 4611686018427387904) (k : Nat) (h : s.size + 200 < k) : words_find.f k 4 s = some (ans 1 (fw (W4.map low) 1 (low s))) := find_of 4 W4 1 1 kind4 (by decide) (by decide) (by decide) fin4 s hs k h
theorem wakes09 (k : Nat) (h : 700 ≤ k) : solsticelaw09_wakes.f k = some true := at_rounds (g := solsticelaw09_wakes.f) (solsticelaw09_wakes.mono) h (by kernel_rfl)
def dec (n : Nat) : ByteArray := ⟨(Lib.decDigits n).toArray⟩
theorem dec_size (n : Nat) (h : n < 1000000000000000000) : (dec n).size ≤ 18 := by
  unfold dec
  rw [size_list, Lib.decDigits_length]
  exact nDigits_le 18 n (by simpa using h) (by decide)
theorem from_dec (n : Nat) (h : n < 1000000000000000000) (k : Nat) (hk : 20 ≤ k) : rule_from.f k (dec n) = some ((n : Int), 0) := by
  unfold rule_from.f dec
  rw [parse_dec n h k hk]
  rfl
theorem to_dec (n : Nat) (a : Int) (h : n < 1000000000000000000) (k : Nat) (hk : 300 ≤ k) : rule_to.f k (dec n) a = some ((n : Int), 0) := by
  have hs := dec_size n h
  have h4 := find4 (dec n) (by omega) k (by omega)
  unfold rule_to.f words_Year.f
  rw [h4, from_dec n h k (by omega)]
  unfold dec
  rw [parse_dec n h k (by omega)]
  rfl
theorem to_only (a : Int) : rule_to.f 900 ⟨#[111, 110, 108, 121]⟩ a = some (a, 0) := by
  unfold rule_to.f
  rw [show num_Parse.f 900 ⟨#[111, 110, 108, 121]⟩ = some (0, false) by kernel_rfl, show words_Year.f 900 ⟨#[111, 110, 108, 121]⟩ = some (3, 0) by kernel_rfl]
  rfl
def forms : List (Int × Int × Int) :=
  ((List.range 31).map fun (d : Nat) => (1, 0, ((d : Int) + 1))) ++ ((List.range 7).map fun (w : Nat) => (2, (w : Int), 0)) ++
  ((List.range 7).flatMap fun (w : Nat) => (List.range 31).map fun (d : Nat) => (3, (w : Int), ((d : Int) + 1))) ++ ((List.range 7).flatMap fun (w : Nat) => (List.range 31).map fun (d : Nat) => (4, (w : Int), ((d : Int) + 1)))
def backs (x : Int × Int × Int) : Bool := match onform_Text.f 60 x.1 x.2.1 x.2.2 with
  | some (t, e) => decide (e = 0 ∧ onform_Parse.f 60 t = some (x.1, x.2.1, x.2.2, 0)) && okF t.data.toList && decide (t.size ≤ 20)
  | none => false
set_option maxRecDepth 100000 in
theorem all_back : forms.all backs = true := by decide +kernel
theorem on_mem (k w d : Int) (h : onB k w d = true) : (k, w, d) ∈ forms := by
  have hw' : 0 ≤ w → ((w.toNat : Nat) : Int) = w := by omega
  unfold onB at h
  simp only [Bool.or_eq_true, Bool.and_eq_true, beq_iff_eq, decide_eq_true_eq] at h
  unfold forms
  rcases h with (⟨⟨rfl, h1, h2⟩, rfl⟩ | ⟨⟨rfl, rfl⟩, h1, h2⟩) | ⟨⟨hk, h1, h2⟩, h3, h4⟩
  · have hd' : (((d - 1).toNat : Nat) : Int) + 1 = d := by omega
    exact List.mem_append_left _ (List.mem_append_left _ (List.mem_append_left _ (List.mem_map.mpr ⟨(d - 1).toNat, List.mem_range.mpr (by omega), by rw [hd']⟩)))
  · exact List.mem_append_left _ (List.mem_append_left _ (List.mem_append_right _ (List.mem_map.mpr ⟨w.toNat, List.mem_range.mpr (by omega), by rw [hw' h1]⟩)))
  · have hd' : (((d - 1).toNat : Nat) : Int) + 1 = d := by omega
    rcases hk with rfl | rfl
    · exact List.mem_append_left _ (List.mem_append_right _ (List.mem_flatMap.mpr ⟨w.toNat, List.mem_range.mpr (by omega), List.mem_map.mpr ⟨(d - 1).toNat, List.mem_range.mpr (by omega), by rw [hd', hw' h3]⟩⟩))
    · exact List.mem_append_right _ (List.mem_flatMap.mpr ⟨w.toNat, List.mem_range.mpr (by omega), List.mem_map.mpr ⟨(d - 1).toNat, List.mem_range.mpr (by omega), by rw [hd', hw' h3]⟩⟩)
theorem on_round (k w d : Int) (h : onB k w d = true) : ∃ l : List UInt8, okF l = true ∧ l.length ≤ 20 ∧ (∀ q, 60 ≤ q → onform_Text.f q k w d = some (B l, 0)) ∧ (∀ q, 60 ≤ q → onform_Parse.f q (B l) = some (k, w, d, 0)) := by
  have := List.all_eq_true.mp all_back _ (on_mem k w d h)
  unfold backs at this
  split at this
  · rename_i t e he
    simp only [Bool.and_eq_true, decide_eq_true_eq] at this
    obtain ⟨⟨⟨h1, h2⟩, h3⟩, h4⟩ := this
    subst h1
    refine ⟨t.data.toList, h3, ?_, ?_, ?_⟩
    · rw [← B_size]; exact h4
    · intro q hq; exact at_rounds (g := fun q => onform_Text.f q k w d) (fun q => onform_Text.mono _ _ _ q) hq he
    · intro q hq; exact at_rounds (g := fun q => onform_Parse.f q t) (fun q => onform_Parse.mono _ q) hq h2
  · cases this
def mon (m : Nat) : List UInt8 := ((W2.getD m ByteArray.empty).data.toList).take 3
theorem mon_fin : ((List.range 12).all fun m => decide ((words_Name.f 2 ((m : Int) + 1)) = some (W2.getD m ByteArray.empty, 0)) && decide ((3 : Int) ≤ ((W2.getD m ByteArray.empty).size : Int)) && decide ((W2.getD m ByteArray.empty).extract 0 3 = B (mon m)) && decide (words_Month.f 40 (B (mon m)) = some ((m : Int) + 1, 0)) && okF (mon m) && decide ((mon m).length = 3)) = true := by decide +kernel
theorem mon_round (m : Int) (h0 : 1 ≤ m) (h1 : m ≤ 12) : ∃ l : List UInt8, ∃ W : ByteArray, okF l = true ∧ l.length = 3 ∧ words_Name.f 2 m = some (W, 0) ∧ (3 : Int) ≤ (W.size : Int) ∧ W.extract 0 3 = B l ∧ (∀ q, 40 ≤ q → words_Month.f q (B l) = some (m, 0)) := by
  have := all_at mon_fin (m - 1).toNat (by omega)
  simp only [Bool.and_eq_true, decide_eq_true_eq] at this
  obtain ⟨⟨⟨⟨⟨a, b⟩, c⟩, d⟩, e⟩, f⟩ := this
  rw [show (((m - 1).toNat : Nat) : Int) + 1 = m by omega] at a d
  exact ⟨_, _, e, f, a, b, c, fun q hq => at_rounds (g := fun q => words_Month.f q (B (mon (m - 1).toNat))) (fun q => words_Month.mono _ q) hq d⟩
theorem sgn_cln : ((List.range 256).all fun n => !(sgn nameO (n : Int)) || cln n.toUInt8) = true := by decide +kernel
theorem sgn_cln2 : ((List.range 256).all fun n => !(sgn letO (n : Int)) || cln n.toUInt8) = true := by decide +kernel
theorem cln_of {o : List Int} (hf : ((List.range 256).all fun n => !(sgn o (n : Int)) || cln n.toUInt8) = true) (s : ByteArray) (h : (bts s).all (sgn o) = true) : s.data.toList.all cln = true := by
  rw [List.all_eq_true]
  intro b hb
  have h1 := List.all_eq_true.mp h (b.toNat : Int) (List.mem_map.mpr ⟨b, hb, rfl⟩)
  have h2 := all_at hf b.toNat b.toNat_lt
  rw [h1, show (b.toNat).toUInt8 = b by simp] at h2
  simpa using h2
theorem size_data (s : ByteArray) : s.data.toList.length = s.size := by rw [Array.length_toList]; rfl
theorem okF_name (s : ByteArray) (h : nameB s = true) : okF s.data.toList = true := by
  unfold nameB at h
  simp only [Bool.and_eq_true, decide_eq_true_eq] at h
  unfold okF
  rw [cln_of sgn_cln s h.1.2, Bool.and_true]
  have := size_data s
  cases e : s.data.toList with
  | nil => rw [e] at this; simp at this; omega
  | cons b l => rfl
theorem digit_cln : ((List.range 256).all fun n => !(isDg n.toUInt8) || cln n.toUInt8) = true := by decide +kernel
theorem cln_digit (b : UInt8) (h : isDg b = true) : cln b = true := by
  have := all_at digit_cln b.toNat b.toNat_lt
  rw [show (b.toNat).toUInt8 = b by simp, h] at this
  simpa using this
theorem okF_dec (n : Nat) : okF (Lib.decDigits n) = true := by
  unfold okF
  have h := dec_pos n
  have e : (Lib.decDigits n).all cln = true := List.all_eq_true.mpr fun b hb => cln_digit b (dec_dg n b hb)
  rw [e, Bool.and_true]
  cases e2 : Lib.decDigits n with
  | nil => rw [e2] at h; simp at h
  | cons b l => rfl
theorem two_cln (m : Nat) (h : m < 60) : (two m).all cln = true := by
  obtain ⟨b, c, e, hb, hc⟩ := two_last m h
  rw [e]
  simp [cln_digit b hb, cln_digit c hc]
theorem ctx_cln (n : Nat) : (ctx n).all cln = true := by
  have h1 : (Lib.decDigits (n / 3600)).all cln = true := List.all_eq_true.mpr fun b hb => cln_digit b (dec_dg _ b hb)
  have h2 := two_cln (n % 3600 / 60) (by omega)
  have h3 := two_cln (n % 60) (by omega)
  have h4 : cln 58 = true := by decide
  unfold ctx
  split <;> split <;> simp only [List.all_append, List.all_cons, List.all_nil, h1, h2, h3, h4, Bool.and_self]
theorem sgnd_cln (s : Int) : (sgnd s).all cln = true := by
  unfold sgnd
  rw [List.all_append, ctx_cln, Bool.and_true]
  split <;> decide
theorem okF_at (s a : Int) : okF (sgnd s ++ suf a) = true := by
  obtain ⟨l, b, e, _⟩ := sgnd_last s
  have h := sgnd_cln s
  unfold okF
  rw [List.all_append, h, Bool.true_and]
  have hs : (suf a).all cln = true := by unfold suf; split; decide; split <;> decide
  rw [hs, Bool.and_true, e]
  simp
theorem okF_sgnd (s : Int) : okF (sgnd s) = true := by
  have := okF_at s 1
  unfold suf at this
  rwa [if_neg (by decide), if_neg (by decide), List.append_nil] at this
def ul (f t : Int) : List UInt8 := if t = f then [111, 110, 108, 121] else if t = 9999 then [109, 97, 120] else Lib.decDigits t.toNat
theorem until_eq (n : ByteArray) (f t m kd w d s ak sv : Int) (l : ByteArray) (h0 : 0 ≤ t) (h1 : t ≤ 9999) : rule_until.f n f t m kd w d s ak sv l = some (B (ul f t)) := by
  unfold rule_until.f ul
  by_cases h2 : t = f
  · rw [if_pos h2, if_pos h2]
  · rw [if_neg h2, if_neg h2]
    by_cases h3 : t = 9999
    · rw [if_pos h3, if_pos h3]
    · have := text_one t.toNat (by omega)
      rw [Int.toNat_of_nonneg h0] at this
      rw [if_neg h3, if_neg h3, this]
      rfl
theorem okF_ul (f t : Int) : okF (ul f t) = true := by
  unfold ul
  split
  · decide
  · split
    · decide
    · exact okF_dec _
theorem dec_len4 (n : Nat) (h : n ≤ 9999) : (Lib.decDigits n).length ≤ 4 := by rw [Lib.decDigits_length]; exact nDigits_le 4 n (by omega) (by decide)
theorem ul_len (f t : Int) (h0 : 0 ≤ t) (h1 : t ≤ 9999) : (ul f t).length ≤ 4 := by
  have := dec_len4 t.toNat (by omega)
  unfold ul
  split
  · decide
  · split
    · decide
    · exact this
theorem to_at (s : ByteArray) (a r e : Int) (h : rule_to.f 900 s a = some (r, e)) (q : Nat) (hq : 900 ≤ q) : rule_to.f q s a = some (r, e) := at_rounds (g := fun q => rule_to.f q s a) (fun q => rule_to.mono _ _ q) hq h
theorem to_max2 (a : Int) : rule_to.f 900 ⟨#[109, 97, 120]⟩ a = some (9999, 0) := by
  unfold rule_to.f
  rw [show num_Parse.f 900 ⟨#[109, 97, 120]⟩ = some (0, false) by kernel_rfl, show words_Year.f 900 ⟨#[109, 97, 120]⟩ = some (2, 0) by kernel_rfl, show rule_from.f 900 ⟨#[109, 97, 120]⟩ = some (9999, 0) by kernel_rfl]
  rfl
theorem to_ul (f t : Int) (h0 : 0 ≤ t) (h1 : t ≤ 9999) (q : Nat) (hq : 900 ≤ q) : rule_to.f q (B (ul f t)) f = some (t, 0) := by
  unfold ul
  by_cases h2 : t = f
  · rw [if_pos h2, h2]; exact to_at _ _ _ _ (to_only f) q hq
  · rw [if_neg h2]
    by_cases h3 : t = 9999
    · rw [if_pos h3, h3]; exact to_at _ _ _ _ (to_max2 f) q hq
    · rw [if_neg h3]
      have := to_dec t.toNat f (by omega) q (by omega)
      rw [Int.toNat_of_nonneg h0] at this
      exact this
def lt_ (l : ByteArray) : List UInt8 := if l.toList = [] then [45] else l.data.toList
theorem toList_data (s : ByteArray) : s.toList = s.data.toList := by rw [ByteArray.toList_eq]
theorem okF_lt (l : ByteArray) (h : letterB l = true) : okF (lt_ l) = true := by
  unfold letterB at h
  simp only [Bool.and_eq_true, decide_eq_true_eq] at h
  unfold lt_
  by_cases h2 : l.toList = []
  · rw [if_pos h2]; decide
  · rw [if_neg h2]
    unfold okF
    rw [cln_of sgn_cln2 l h.1.2, Bool.and_true]
    rw [toList_data] at h2
    cases e : l.data.toList with
    | nil => exact absurd e h2
    | cons b m => rfl
theorem lt_len (l : ByteArray) (h : letterB l = true) : (lt_ l).length ≤ 6 := by
  unfold letterB at h
  simp only [Bool.and_eq_true, decide_eq_true_eq] at h
  have := size_data l
  unfold lt_
  split
  · decide
  · omega
def ruleF (n : ByteArray) (f t : Int) (mo on : List UInt8) (s ak sv : Int) (l : ByteArray) : List (List UInt8) :=
  [[82, 117, 108, 101], n.data.toList, Lib.decDigits f.toNat, ul f t, [45], mo, on, sgnd s ++ suf ak, sgnd sv, lt_ l]
theorem parse_ruleF (n : ByteArray) (f t m kd w d s ak sv : Int) (l : ByteArray) (mo on : List UInt8) (h : rightB n f t m kd w d s ak sv l = true) (hm : ∀ q, 40 ≤ q → words_Month.f q (B mo) = some (m, 0)) (ho : ∀ q, 60 ≤ q → onform_Parse.f q (B on) = some (kd, w, d, 0))
    (q : Nat) (hq : 1300 ≤ q) : rule_Parse.f q ((ruleF n f t mo on s ak sv l).map B) = some (n, f, t, m, kd, w, d, s, ak, sv, l, 0) := by
  obtain ⟨q, rfl⟩ : ∃ p, q = p + 1 := ⟨q - 1, by omega⟩
  have hr := h
  unfold rightB at hr
  simp only [Bool.and_eq_true, decide_eq_true_eq] at hr
  obtain ⟨⟨⟨⟨⟨⟨⟨hn, hy1, hy2, hy3⟩, hmm⟩, hon⟩, hd⟩, ha⟩, hsv⟩, hl⟩ := hr
  have ls : l.size ≤ 6 := by unfold letterB at hl; simp only [Bool.and_eq_true, decide_eq_true_eq] at hl; exact hl.1.1
  have ns : n.size ≤ 40 := by unfold nameB at hn; simp only [Bool.and_eq_true, decide_eq_true_eq] at hn; exact hn.1.1.2
  have fr : rule_from.f q (B (Lib.decDigits f.toNat)) = some (f, 0) := by
    have := from_dec f.toNat (by omega) q (by omega)
    rw [Int.toNat_of_nonneg (by omega)] at this
    exact this
  have tr := to_ul f t (by omega) hy3 q (by omega)
  have days : rule_days.f q n f t 0 0 0 0 0 0 0 l [B mo, B on, B (sgnd s ++ suf ak), B (sgnd sv)] = some (0, n, f, t, m, kd, w, d, s, ak, sv, l) := by
    unfold rule_days.f
    rw [if_pos (by show (0 : Int) < 4; decide), show rdOf ByteArray.empty [B mo, B on, B (sgnd s ++ suf ak), B (sgnd sv)] 0 = B mo from rfl, hm q (by omega), Option.bind_some, if_pos rfl, if_pos (by show (1 : Int) < 4; decide),
      show rdOf ByteArray.empty [B mo, B on, B (sgnd s ++ suf ak), B (sgnd sv)] 1 = B on from rfl, ho q (by omega), Option.bind_some, if_pos rfl, if_pos (by show (2 : Int) < 4; decide),
      show rdOf ByteArray.empty [B mo, B on, B (sgnd s ++ suf ak), B (sgnd sv)] 2 = B (sgnd s ++ suf ak) from rfl, aparse_eq s ak ha q (by omega), Option.bind_some, if_pos rfl, if_pos (by show (3 : Int) < 4; decide),
      show rdOf ByteArray.empty [B mo, B on, B (sgnd s ++ suf ak), B (sgnd sv)] 3 = B (sgnd sv) from rfl, saving_eq sv (by omega) (by omega) q (by omega)]
    rfl
  have chk := check_eq n f t m kd w d s ak sv l (by omega) (by omega) q (by omega)
  rw [h] at chk
  have j0 : ∀ L, L = (ruleF n f t mo on s ak sv l).map B → rule_Parse.j0 (q + 1) L n 0 0 0 0 0 0 0 0 0 l = some (n, f, t, m, kd, w, d, s, ak, sv, l, 0) := by
    intro L hL
    subst hL
    simp only [rule_Parse.j0]
    rw [if_pos (by show (2 : Int) < 10; decide), show rdOf ByteArray.empty ((ruleF n f t mo on s ak sv l).map B) 2 = B (Lib.decDigits f.toNat) from rfl, fr, Option.bind_some, if_pos rfl, if_pos (by show (3 : Int) < 10; decide),
      show rdOf ByteArray.empty ((ruleF n f t mo on s ak sv l).map B) 3 = B (ul f t) from rfl, tr, Option.bind_some, if_pos rfl, if_pos (by show (9 : Int) ≤ 10; decide),
      show (((ruleF n f t mo on s ak sv l).map B).take 9).drop 5 = [B mo, B on, B (sgnd s ++ suf ak), B (sgnd sv)] from rfl, days, Option.bind_some, if_pos rfl, chk, Option.bind_some, if_pos (show (if true = true then (0 : Int) else 10) = 0 from rfl)]
  have wl : words_Line.f (q + 1) (B [82, 117, 108, 101]) = some (1, 0) := at_rounds (g := fun q => words_Line.f q (B [82, 117, 108, 101])) (fun q => words_Line.mono _ q) (show 40 ≤ q + 1 by omega) (by decide +kernel)
  unfold rule_Parse.f
  rw [if_pos (by rfl), if_pos (by show (0 : Int) < 10; decide), show rdOf ByteArray.empty ((ruleF n f t mo on s ak sv l).map B) 0 = B [82, 117, 108, 101] from rfl, wl, Option.bind_some, if_pos rfl, if_pos (by show (4 : Int) < 10; decide),
    show rdOf ByteArray.empty ((ruleF n f t mo on s ak sv l).map B) 4 = B [45] from rfl, if_pos (by rw [B_toList]), if_pos (by show (1 : Int) < 10; decide), if_pos (by show (9 : Int) < 10; decide), show rdOf ByteArray.empty ((ruleF n f t mo on s ak sv l).map B) 9 = B (lt_ l) from rfl,
    show rdOf ByteArray.empty ((ruleF n f t mo on s ak sv l).map B) 1 = n from rfl]
  by_cases he : l.toList = []
  · have hl0 : l = ⟨#[]⟩ := empty_of l (by rw [toList_data] at he; have := size_data l; rw [he] at this; exact this.symm)
    have e1 : lt_ l = [45] := by unfold lt_; rw [if_pos he]
    rw [e1, if_pos (by rw [B_toList])]
    have := j0 _ rfl
    subst hl0
    exact this
  · have e1 : lt_ l = l.data.toList := by unfold lt_; rw [if_neg he]
    have hne : ¬ l.data.toList = [45] := by
      unfold letterB at hl
      simp only [Bool.and_eq_true, bne_iff_ne, ne_eq] at hl
      rw [← toList_data]
      exact hl.2
    rw [e1, if_neg (by rw [B_toList]; exact hne)]
    exact j0 _ rfl
theorem text_ruleF (n : ByteArray) (f t m kd w d s ak sv : Int) (l : ByteArray) (mo on : List UInt8) (W : ByteArray) (h : rightB n f t m kd w d s ak sv l = true) (hW : words_Name.f 2 m = some (W, 0)) (hW3 : (3 : Int) ≤ (W.size : Int)) (hWm : W.extract 0 3 = B mo) (hmo : mo.length = 3) (hon : on.length ≤ 20)
    (ho : ∀ q, 60 ≤ q → onform_Text.f q kd w d = some (B on, 0)) (q : Nat) (hq : 1300 ≤ q) :
    rule_Text.f q n f t m kd w d s ak sv l = some (B (Lib.join (ruleF n f t mo on s ak sv l) [32]), 0) ∧ (Lib.join (ruleF n f t mo on s ak sv l) [32]).length ≤ 600 := by
  have hr := h
  unfold rightB at hr
  simp only [Bool.and_eq_true, decide_eq_true_eq] at hr
  obtain ⟨⟨⟨⟨⟨⟨⟨hn, hy1, hy2, hy3⟩, hmm⟩, hob⟩, hd⟩, ha⟩, hsv⟩, hl⟩ := hr
  have ls : l.size ≤ 6 := by unfold letterB at hl; simp only [Bool.and_eq_true, decide_eq_true_eq] at hl; exact hl.1.1
  have ns : n.size ≤ 40 := by unfold nameB at hn; simp only [Bool.and_eq_true, decide_eq_true_eq] at hn; exact hn.1.1.2
  have ha' := ha
  unfold atB at ha'
  simp only [Bool.and_eq_true, decide_eq_true_eq] at ha'
  have hlen : (Lib.join (ruleF n f t mo on s ak sv l) [32]).length ≤ 600 := by
    have a1 := size_data n
    have a2 := dec_len4 f.toNat (by omega)
    have a3 := ul_len f t (by omega) hy3
    have a4 := sgnd_len s ha'.1.1 ha'.1.2
    have a5 := sgnd_len sv (by omega) (by omega)
    have a6 := lt_len l hl
    have a7 : (suf ak).length ≤ 1 := by unfold suf; split; decide; split <;> decide
    unfold ruleF
    rw [Lib.join_cons]
    simp [Lib.joinTail]
    omega
  refine ⟨?_, hlen⟩
  have chk := check_eq n f t m kd w d s ak sv l (by omega) (by omega) q (by omega)
  rw [h] at chk
  have tf := text_one f.toNat (by omega)
  rw [Int.toNat_of_nonneg (by omega)] at tf
  have jn := join_eq (ruleF n f t mo on s ak sv l) (by show 10 ≤ 100; decide) (by omega)
  unfold rule_Text.f
  rw [chk, Option.bind_some, if_pos (show (if true = true then (0 : Int) else 10) = 0 from rfl), hW, Option.bind_some, ho q (by omega), Option.bind_some, atext_eq s ak ha q (by omega), Option.bind_some, ctext_eq sv (by omega) (by omega) q (by omega), Option.bind_some]
  by_cases he : l.toList = []
  · have e1 : lt_ l = [45] := by unfold lt_; rw [if_pos he]
    rw [if_pos he, tf, Option.bind_some, until_eq n f t m kd w d s ak sv l (by omega) hy3, Option.bind_some, if_pos hW3, hWm]
    unfold ruleF at jn ⊢
    rw [e1] at jn ⊢
    refine Eq.trans (congrArg (fun z => z.bind fun t188 => some (t188, (0 : Int))) jn) rfl
  · have e1 : lt_ l = l.data.toList := by unfold lt_; rw [if_neg he]
    rw [if_neg he, tf, Option.bind_some, until_eq n f t m kd w d s ak sv l (by omega) hy3, Option.bind_some, if_pos hW3, hWm]
    unfold ruleF at jn ⊢
    rw [e1] at jn ⊢
    refine Eq.trans (congrArg (fun z => z.bind fun t194 => some (t194, (0 : Int))) jn) rfl
theorem rule_round (n : ByteArray) (f t m kd w d s ak sv : Int) (l : ByteArray) (h : rightB n f t m kd w d s ak sv l = true) :
    ∃ T L, (∀ q, 1300 ≤ q → rule_Text.f q n f t m kd w d s ak sv l = some (T, 0)) ∧ fields_Split.f T = some (L, 0) ∧ (∀ q, 1300 ≤ q → rule_Parse.f q L = some (n, f, t, m, kd, w, d, s, ak, sv, l, 0)) := by
  have hr := h
  unfold rightB at hr
  simp only [Bool.and_eq_true, decide_eq_true_eq] at hr
  obtain ⟨⟨⟨⟨⟨⟨⟨hn, hy1, hy2, hy3⟩, hmm⟩, hob⟩, hd⟩, ha⟩, hsv⟩, hl⟩ := hr
  obtain ⟨mo, W, o1, o2, o3, o4, o5, o6⟩ := mon_round m hmm.1 hmm.2
  obtain ⟨on, p1, p2, p3, p4⟩ := on_round kd w d hob
  have tx := fun q hq => text_ruleF n f t m kd w d s ak sv l mo on W h o3 o4 o5 o2 p2 p3 q hq
  have hall : ((ruleF n f t mo on s ak sv l).all okF) = true := by
    unfold ruleF
    simp only [List.all_cons, List.all_nil, okF_name n hn, okF_dec, okF_ul, o1, p1, okF_at, okF_sgnd, okF_lt l hl]
    decide
  refine ⟨_, _, fun q hq => (tx q hq).1, split_join _ _ hall (tx 1300 (by omega)).2, fun q hq => ?_⟩
  exact parse_ruleF n f t m kd w d s ak sv l mo on h o6 p4 q hq
theorem text_wrong (n : ByteArray) (f t m kd w d s ak sv : Int) (l : ByteArray) (hn : n.size ≤ 1000000) (hl : l.size ≤ 1000000) (k : Nat) (hk : 1010 < k) (h : rightB n f t m kd w d s ak sv l = false) :
    rule_Text.f k n f t m kd w d s ak sv l = some (⟨#[]⟩, 10) := by
  unfold rule_Text.f
  rw [check_eq n f t m kd w d s ak sv l hn hl k hk, h, Option.bind_some, if_neg (show ¬ ((if false = true then (0 : Int) else 10) = 0) by decide)]
  rfl
theorem empty_nil : (⟨#[]⟩ : ByteArray).toList = ([] : List UInt8) := by decide +kernel
theorem list_eq_of {a b : ByteArray} (h : a.toList = b.toList) : a = b := by
  rw [toList_data, toList_data] at h
  exact ByteArray.ext (Array.toList_inj.mp h)
theorem j1_wrong (x5 x7 : ByteArray) (x6 x8 : Int) (n : ByteArray) (f t m kd w d s ak sv : Int) (l : ByteArray) (n' : ByteArray) (f' t' m' kd' w' d' s' ak' sv' : Int) (l' : ByteArray) (h5 : x6 = 0 ∨ x5 = ⟨#[]⟩) (h7 : x8 = 0 ∨ x7 = ⟨#[]⟩) :
    solsticelaw09_RuleBack.j1 1302 x5 x6 x7 x8 true n f t m kd w d s ak sv l n' f' t' m' kd' w' d' s' ak' sv' l' = some true := by
  simp only [solsticelaw09_RuleBack.j1, if_true]
  rw [wakes09 1301 (by decide)]
  by_cases h6 : x6 = 0
  · rw [if_pos h6]
    by_cases h8 : x8 = 0
    · rw [if_pos h8]; rfl
    · rw [if_neg h8, if_pos (by rw [h7.resolve_left h8]; exact empty_nil)]; rfl
  · rw [if_neg h6, if_pos (by rw [h5.resolve_left h6]; exact empty_nil)]
    by_cases h8 : x8 = 0
    · rw [if_pos h8]; rfl
    · rw [if_neg h8, if_pos (by rw [h7.resolve_left h8]; exact empty_nil)]; rfl
theorem j1_right (n : ByteArray) (f t m kd w d s ak sv : Int) (l : ByteArray) (n' : ByteArray) (f' t' m' kd' w' d' s' ak' sv' : Int) (l' : ByteArray) (h : rightB n f t m kd w d s ak sv l = true) (h' : rightB n' f' t' m' kd' w' d' s' ak' sv' l' = true) (T T' : ByteArray)
    (hT : rule_Text.f 1302 n f t m kd w d s ak sv l = some (T, 0)) (hT' : rule_Text.f 1302 n' f' t' m' kd' w' d' s' ak' sv' l' = some (T', 0)) :
    solsticelaw09_RuleBack.j1 1302 T 0 T' 0 false n f t m kd w d s ak sv l n' f' t' m' kd' w' d' s' ak' sv' l' = some true := by
  obtain ⟨U, L, u1, u2, u3⟩ := rule_round n f t m kd w d s ak sv l h
  obtain ⟨U', L', v1, v2, v3⟩ := rule_round n' f' t' m' kd' w' d' s' ak' sv' l' h'
  have eU : U = T := by have := (u1 1302 (by decide)).symm.trans hT; injection this with this; injection this
  have eU' : U' = T' := by have := (v1 1302 (by decide)).symm.trans hT'; injection this with this; injection this
  subst eU eU'
  have e : ((U.toList == U'.toList) == (n.toList == n'.toList && (f == f' && (t == t' && (m == m' && ((kd == kd' && (w == w' && (d == d'))) && ((s == s' && (ak == ak')) && (sv == sv' && (l.toList == l'.toList))))))))) = true := by
    by_cases hU : U.toList = U'.toList
    · have hU' := list_eq_of hU
      subst hU'
      have hL : L = L' := by have := u2.symm.trans v2; injection this with this; injection this
      subst hL
      have := (u3 1300 (by decide)).symm.trans (v3 1300 (by decide))
      simp only [Option.some.injEq, Prod.mk.injEq] at this
      obtain ⟨rfl, rfl, rfl, rfl, rfl, rfl, rfl, rfl, rfl, rfl, rfl, _⟩ := this
      simp
    · have h1 : (U.toList == U'.toList) = false := by simpa using hU
      have h2 : (n.toList == n'.toList && (f == f' && (t == t' && (m == m' && ((kd == kd' && (w == w' && (d == d'))) && ((s == s' && (ak == ak')) && (sv == sv' && (l.toList == l'.toList)))))))) = false := by
        rw [Bool.eq_false_iff]
        intro hh
        simp only [Bool.and_eq_true, beq_iff_eq] at hh
        obtain ⟨a1, a2, a3, a4, ⟨a5, a6, a7⟩, ⟨a8, a9⟩, a10, a11⟩ := hh
        have b1 := list_eq_of a1
        have b11 := list_eq_of a11
        subst b1 a2 a3 a4 a5 a6 a7 a8 a9 a10 b11
        have := (u1 1300 (by decide)).symm.trans (v1 1300 (by decide))
        injection this with this
        injection this with this
        exact hU (by rw [this])
      rw [h1, h2]
      rfl
  simp only [solsticelaw09_RuleBack.j1, Bool.false_eq_true, if_false]
  rw [u2, Option.bind_some, u3 1301 (by decide), Option.bind_some, if_pos rfl, if_pos rfl, if_pos (by simp), if_pos e, wakes09 1301 (by decide)]
  rfl
theorem j0_big (x1 : Nat) (n : ByteArray) (f t m kd w d s ak sv : Int) (l : ByteArray) (n' : ByteArray) (f' t' m' kd' w' d' s' ak' sv' : Int) (l' : ByteArray) :
    solsticelaw09_RuleBack.j0 (x1 + 1) true n f t m kd w d s ak sv l n' f' t' m' kd' w' d' s' ak' sv' l' = some true := by
  simp only [solsticelaw09_RuleBack.j0, if_true]
theorem pure_RuleBack (n : ByteArray) (f t m kd w d s ak sv : Int) (l : ByteArray) (n' : ByteArray) (f' t' m' kd' w' d' s' ak' sv' : Int) (l' : ByteArray) :
    ∃ k, solsticelaw09_RuleBack.f k n f t m kd w d s ak sv l n' f' t' m' kd' w' d' s' ak' sv' l' = some true := by
  refine ⟨1303, ?_⟩
  unfold solsticelaw09_RuleBack.f
  by_cases z1 : (n.size : Int) > 200
  · rw [if_pos z1]; exact j0_big 1302 ..
  · rw [if_neg z1]
    by_cases z2 : (l.size : Int) > 200
    · rw [if_pos z2]; exact j0_big 1302 ..
    · rw [if_neg z2]
      by_cases z3 : (n'.size : Int) > 200
      · rw [if_pos z3]; exact j0_big 1302 ..
      · rw [if_neg z3]
        by_cases z4 : (l'.size : Int) > 200
        · rw [decide_eq_true z4]; exact j0_big 1302 ..
        · rw [decide_eq_false z4]
          simp only [solsticelaw09_RuleBack.j0, Bool.false_eq_true, if_false]
          cases h : rightB n f t m kd w d s ak sv l with
          | false =>
            rw [text_wrong n f t m kd w d s ak sv l (by omega) (by omega) 1302 (by decide) h, Option.bind_some]
            cases h' : rightB n' f' t' m' kd' w' d' s' ak' sv' l' with
            | false =>
              rw [text_wrong n' f' t' m' kd' w' d' s' ak' sv' l' (by omega) (by omega) 1302 (by decide) h', Option.bind_some, if_neg (by decide)]
              exact j1_wrong _ _ _ _ _ _ _ _ _ _ _ _ _ _ _ _ _ _ _ _ _ _ _ _ _ _ (Or.inr rfl) (Or.inr rfl)
            | true =>
              obtain ⟨T', L', v1, v2, v3⟩ := rule_round n' f' t' m' kd' w' d' s' ak' sv' l' h'
              rw [v1 1302 (by decide), Option.bind_some, if_neg (by decide)]
              exact j1_wrong _ _ _ _ _ _ _ _ _ _ _ _ _ _ _ _ _ _ _ _ _ _ _ _ _ _ (Or.inr rfl) (Or.inl rfl)
          | true =>
            obtain ⟨T, L, u1, u2, u3⟩ := rule_round n f t m kd w d s ak sv l h
            rw [u1 1302 (by decide), Option.bind_some]
            cases h' : rightB n' f' t' m' kd' w' d' s' ak' sv' l' with
            | false =>
              rw [text_wrong n' f' t' m' kd' w' d' s' ak' sv' l' (by omega) (by omega) 1302 (by decide) h', Option.bind_some, if_pos rfl]
              exact j1_wrong _ _ _ _ _ _ _ _ _ _ _ _ _ _ _ _ _ _ _ _ _ _ _ _ _ _ (Or.inl rfl) (Or.inr rfl)
            | true =>
              obtain ⟨T', L', v1, v2, v3⟩ := rule_round n' f' t' m' kd' w' d' s' ak' sv' l' h'
              rw [v1 1302 (by decide), Option.bind_some, if_pos rfl]
              exact j1_right n f t m kd w d s ak sv l n' f' t' m' kd' w' d' s' ak' sv' l' h h' T T' (u1 1302 (by decide)) (v1 1302 (by decide))
end Go.Proofs.YtfhemdnjoedioaaGreatDoor.X
end
