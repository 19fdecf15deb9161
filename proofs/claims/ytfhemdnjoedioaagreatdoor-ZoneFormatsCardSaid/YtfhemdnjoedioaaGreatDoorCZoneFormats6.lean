import Derived.Below
import Derived.Deep.Draws
import Derived.Deep.AppendLies
import Derived.Maps.AppendAt
import Derived.OwnWalk
import Derived.Laws.BytesArg
import Derived.Laws.MakeOwn
import Derived.Laws.OwnMore
import Derived.Deep.OwnRows
import Derived.Tactics
import Derived.Lib.ConvBytes
import Derived.Laws.Slices
import Derived.WalkKit
import Derived.KernelRfl
import Derived.RowKit3
import Derived.Deep.LoopGhost
import Derived.Deep.QuietTactic
import Derived.BigQuiet
import Derived.WideLaws
import Derived.Deep.DeepCutAuto
import Derived.Deep.CutBlock
import Derived.Deep.RegionHeld3
import Derived.Laws.Rows
import Derived.Lib.AppendStr
import Derived.ArgAppend
import Derived.Laws.IdiomCopy
import Derived.RowKit
import Derived.OrdersHeld
import Derived.Laws.BitsLemmas
import Derived.Laws.StructEq
import Derived.Test.YtfhemdnjoedioaaGreatDoorProg
import Derived.Lib.AppendIntMem
import Derived.Shelf.Strings.Fields
import Derived.Lib.ItoaNum
import Derived.Shelf.Strings.Builder1
import Derived.Shelf.Strings.Builder2
import Derived.Shelf.Strings.OnBuilder
import Derived.Shelf.Small.Bits
import Derived.Shelf.Small.Strs
import Derived.Shelf.Strings.BuilderF
import Derived.Shelf.Strconv.Itoa0
import Derived.Shelf.Strconv.Itoa1
import Derived.Shelf.LaysM
import Derived.Shelf.Strconv.Itoa2
import Derived.Shelf.Strconv.Itoa3
import Derived.Shelf.Strings.Search1
import Derived.Shelf.Strings.Search2
import Derived.Shelf.Strings.Search3
import Derived.Shelf.Strings.Cut
import Derived.Shelf.Strings.Count
import Derived.Shelf.Strings.Shaped
import Derived.Shelf.Sort.Plain
import Derived.Shelf.Strings.Prefix
import Derived.Shelf.Strings.Split
import Derived.Shelf.Strings.Fold
import Derived.Shelf.Unicode.Latin
import Derived.Shelf.Bits.Mul64
import Derived.Shelf.Strings.Repeat
import Derived.Shelf.Unicode.DecodeSlow
import Derived.Shelf.Unicode.DecodeAny
import Derived.Shelf.Unicode.Is16White
import Derived.Shelf.Unicode.IsSpaceAny
import Derived.Shelf.Unicode.CaseLookup
import Derived.Shelf.Unicode.CaseConvert
import Derived.Shelf.Unicode.Is16Any
import Derived.Shelf.Unicode.Is32Any
import Derived.Shelf.Unicode.ExclAny
import Derived.Shelf.Slices.CompactS
import Derived.Shelf.Slices.Cells
import Derived.Shelf.Slices.In.SortNone
import Derived.Outline
import Derived.Test.YtfhemdnjoedioaaGreatDoorCZoneFormats5
section
namespace Go.Proofs.YtfhemdnjoedioaaGreatDoor.X
open Go.RowKit Go.Proofs.YtfhemdnjoedioaaGreatDoorW.PrintWords Go.Proofs.YtfhemdnjoedioaaGreatDoorW.PrintLast Go.Proofs.YtfhemdnjoedioaaGreatDoorW.PrintMore
attribute [local go_sem] max2_int min2_int max_two min_two max_three min_three max_four min_four
set_option linter.unusedVariables false
set_option linter.unusedSimpArgs false
def solsticelaw10_wakes.f (k : Nat)  : Option (Bool) := (fields_Split.f (⟨#[49, 58, 48, 48, 32, 69, 85, 32, 67, 69, 37, 115, 84, 32, 49, 57, 57, 54, 32, 79, 99, 116, 32, 108, 97, 115, 116, 83, 117, 110, 32, 50, 115]⟩ : ByteArray)).bind fun bt559 => ((zone_Era.f k bt559.1).bind fun bt563 => ((zone_Text.f k bt563.1 bt563.2.1 bt563.2.2.1 bt563.2.2.2.1 bt563.2.2.2.2.1 bt563.2.2.2.2.2.1 bt563.2.2.2.2.2.2.1 bt563.2.2.2.2.2.2.2.1 bt563.2.2.2.2.2.2.2.2.1 bt563.2.2.2.2.2.2.2.2.2.1 bt563.2.2.2.2.2.2.2.2.2.2.1 bt563.2.2.2.2.2.2.2.2.2.2.2.1 bt563.2.2.2.2.2.2.2.2.2.2.2.2.1).bind fun bt578 => (if bt559.2 = 0 then (if bt563.2.2.2.2.2.2.2.2.2.2.2.2.2 = 0 then (if bt578.2 = 0 then (if bt563.2.1 = 3 then (if bt563.2.2.2.1.toList = ([69, 85] : List UInt8) then (if bt563.2.2.2.2.2.1 = true then (if bt563.2.2.2.2.2.2.1 = 1996 then (if bt578.1.toList = ([49, 32, 69, 85, 32, 67, 69, 37, 115, 84, 32, 49, 57, 57, 54, 32, 79, 99, 116, 32, 108, 97, 115, 116, 83, 117, 110, 32, 50, 115] : List UInt8) then ((zone_Format.f k (⟨#[65, 47, 66]⟩ : ByteArray)).bind fun t580 => (if t580 = true then ((zone_Format.f k (⟨#[37, 120]⟩ : ByteArray)).bind fun t581 => (if t581 = true then (none) else ((zone_Check.f k (⟨#[]⟩ : ByteArray) ([] : List (S45))).bind fun t582 => (some (t582 == 11))))) else (none))) else (none)) else (none)) else (none)) else (none)) else (none)) else (none)) else (none)) else (none))))
theorem solsticelaw10_wakes.mono : ∀ k, LeO (solsticelaw10_wakes.f k ) (solsticelaw10_wakes.f (k + 1) ) := by
 intro  k
 unfold solsticelaw10_wakes.f
 repeat' first
   | (with_reducible exact zone_Check.mono _ _ _)
   | (with_reducible exact zone_Era.mono _ _)
   | (with_reducible exact zone_Format.mono _ _)
   | (with_reducible exact zone_Text.mono _ _ _ _ _ _ _ _ _ _ _ _ _ _)
   | (with_reducible exact LeO.refl _)
   | (with_reducible exact LeO.none _)
   | (with_reducible refine LeO.ite ?_ ?_)
   | (with_reducible refine LeO.bind ?_ (fun _ => ?_))
   | exact zone_Check.mono _ _ _
   | exact zone_Era.mono _ _
   | exact zone_Format.mono _ _
   | exact zone_Text.mono _ _ _ _ _ _ _ _ _ _ _ _ _ _
   | exact LeO.none _
   | refine LeO.ite ?_ ?_
   | refine LeO.bind ?_ (fun _ => ?_)
set_option maxHeartbeats 8000000 in
set_option maxRecDepth 100000 in
theorem solsticelaw10_wakes.calls (k : Nat)  (r : Bool) (w : World) (hG : GW w) (h : solsticelaw10_wakes.f k  = some r) :
  Calls Tryz.prog 25 #[] w fun e w' => e = .returned (.bool r) ∧ Below w.heap.size w w' := by
 have hu45 := Tryz.underlying45
 have hu54 := Tryz.underlying54
 have HG := Aside0.mk hG
 clear hG
 have HB := Aside0.mk (Below.refl w.heap.size w)
 have H : ((fields_Split.f (⟨#[49, 58, 48, 48, 32, 69, 85, 32, 67, 69, 37, 115, 84, 32, 49, 57, 57, 54, 32, 79, 99, 116, 32, 108, 97, 115, 116, 83, 117, 110, 32, 50, 115]⟩ : ByteArray)).bind fun bt559 => ((zone_Era.f k bt559.1).bind fun bt563 => ((zone_Text.f k bt563.1 bt563.2.1 bt563.2.2.1 bt563.2.2.2.1 bt563.2.2.2.2.1 bt563.2.2.2.2.2.1 bt563.2.2.2.2.2.2.1 bt563.2.2.2.2.2.2.2.1 bt563.2.2.2.2.2.2.2.2.1 bt563.2.2.2.2.2.2.2.2.2.1 bt563.2.2.2.2.2.2.2.2.2.2.1 bt563.2.2.2.2.2.2.2.2.2.2.2.1 bt563.2.2.2.2.2.2.2.2.2.2.2.2.1).bind fun bt578 => (if bt559.2 = 0 then (if bt563.2.2.2.2.2.2.2.2.2.2.2.2.2 = 0 then (if bt578.2 = 0 then (if bt563.2.1 = 3 then (if bt563.2.2.2.1.toList = ([69, 85] : List UInt8) then (if bt563.2.2.2.2.2.1 = true then (if bt563.2.2.2.2.2.2.1 = 1996 then (if bt578.1.toList = ([49, 32, 69, 85, 32, 67, 69, 37, 115, 84, 32, 49, 57, 57, 54, 32, 79, 99, 116, 32, 108, 97, 115, 116, 83, 117, 110, 32, 50, 115] : List UInt8) then ((zone_Format.f k (⟨#[65, 47, 66]⟩ : ByteArray)).bind fun t580 => (if t580 = true then ((zone_Format.f k (⟨#[37, 120]⟩ : ByteArray)).bind fun t581 => (if t581 = true then (none) else ((zone_Check.f k (⟨#[]⟩ : ByteArray) ([] : List (S45))).bind fun t582 => (some (t582 == 11))))) else (none))) else (none)) else (none)) else (none)) else (none)) else (none)) else (none)) else (none)) else (none))))) = some r := h
 clear h
 replace H := Option.bind_eq_some_iff.mp H
 obtain ⟨⟨t559, t560⟩, A10, H⟩ := H
 (try dsimp only at H)
 have A1 := Aside0.mk A10
 clear A10
 replace H := Option.bind_eq_some_iff.mp H
 obtain ⟨⟨t563, t564, t565, t566, t567, t568, t569, t570, t571, t572, t573, t574, t575, t576⟩, A20, H⟩ := H
 (try dsimp only at H)
 have A2 := Aside0.mk A20
 clear A20
 replace H := Option.bind_eq_some_iff.mp H
 obtain ⟨⟨t578, t579⟩, A30, H⟩ := H
 (try dsimp only at H)
 have A3 := Aside0.mk A30
 clear A30
 by_cases c4 : t560 = 0
 ·rw [if_pos c4] at H
  have c4b0 : (t560 == 0) = true := beq_iff_eq.mpr c4
  have c4b1 : (t560 != 0) = false := bne_eq_false_iff_eq.mpr c4
  clear c4
  by_cases c5 : t576 = 0
  ·rw [if_pos c5] at H
   have c5b0 : (t576 == 0) = true := beq_iff_eq.mpr c5
   have c5b1 : (t576 != 0) = false := bne_eq_false_iff_eq.mpr c5
   clear c5
   by_cases c6 : t579 = 0
   ·rw [if_pos c6] at H
    have c6b0 : (t579 == 0) = true := beq_iff_eq.mpr c6
    have c6b1 : (t579 != 0) = false := bne_eq_false_iff_eq.mpr c6
    clear c6
    by_cases c7 : t564 = 3
    ·rw [if_pos c7] at H
     have c7b0 : (t564 == 3) = true := beq_iff_eq.mpr c7
     have c7b1 : (t564 != 3) = false := bne_eq_false_iff_eq.mpr c7
     clear c7
     by_cases c8 : t566.toList = ([69, 85] : List UInt8)
     ·rw [if_pos c8] at H
      have c8b0 : (t566.toList == ([69, 85] : List UInt8)) = true := beq_iff_eq.mpr c8
      have c8b1 : (t566.toList != ([69, 85] : List UInt8)) = false := bne_eq_false_iff_eq.mpr c8
      clear c8
      by_cases c9 : t568 = true
      ·subst c9
       have H1 : (if t569 = 1996 then (if t578.toList = ([49, 32, 69, 85, 32, 67, 69, 37, 115, 84, 32, 49, 57, 57, 54, 32, 79, 99, 116, 32, 108, 97, 115, 116, 83, 117, 110, 32, 50, 115] : List UInt8) then ((zone_Format.f k (⟨#[65, 47, 66]⟩ : ByteArray)).bind fun t580 => (if t580 = true then ((zone_Format.f k (⟨#[37, 120]⟩ : ByteArray)).bind fun t581 => (if t581 = true then (none) else ((zone_Check.f k (⟨#[]⟩ : ByteArray) ([] : List (S45))).bind fun t582 => (some (t582 == 11))))) else (none))) else (none)) else (none)) = some r := by rw [if_pos rfl] at H; exact H
       clear H
       have H := H1
       clear H1
       by_cases c10 : t569 = 1996
       ·rw [if_pos c10] at H
        have c10b0 : (t569 == 1996) = true := beq_iff_eq.mpr c10
        have c10b1 : (t569 != 1996) = false := bne_eq_false_iff_eq.mpr c10
        clear c10
        by_cases c11 : t578.toList = ([49, 32, 69, 85, 32, 67, 69, 37, 115, 84, 32, 49, 57, 57, 54, 32, 79, 99, 116, 32, 108, 97, 115, 116, 83, 117, 110, 32, 50, 115] : List UInt8)
        ·rw [if_pos c11] at H
         have c11b0 : (t578.toList == ([49, 32, 69, 85, 32, 67, 69, 37, 115, 84, 32, 49, 57, 57, 54, 32, 79, 99, 116, 32, 108, 97, 115, 116, 83, 117, 110, 32, 50, 115] : List UInt8)) = true := beq_iff_eq.mpr c11
         have c11b1 : (t578.toList != ([49, 32, 69, 85, 32, 67, 69, 37, 115, 84, 32, 49, 57, 57, 54, 32, 79, 99, 116, 32, 108, 97, 115, 116, 83, 117, 110, 32, 50, 115] : List UInt8)) = false := bne_eq_false_iff_eq.mpr c11
         clear c11
         replace H := Option.bind_eq_some_iff.mp H
         obtain ⟨t580, A120, H⟩ := H
         (try dsimp only at H)
         have A12 := Aside0.mk A120
         clear A120
         by_cases c13 : t580 = true
         ·subst c13
          have H1 : ((zone_Format.f k (⟨#[37, 120]⟩ : ByteArray)).bind fun t581 => (if t581 = true then (none) else ((zone_Check.f k (⟨#[]⟩ : ByteArray) ([] : List (S45))).bind fun t582 => (some (t582 == 11))))) = some r := by rw [if_pos rfl] at H; exact H
          clear H
          have H := H1
          clear H1
          replace H := Option.bind_eq_some_iff.mp H
          obtain ⟨t581, A140, H⟩ := H
          (try dsimp only at H)
          have A14 := Aside0.mk A140
          clear A140
          by_cases c15 : t581 = true
          ·subst c15
           have H1 : (none) = some r := by rw [if_pos rfl] at H; exact H
           clear H
           have H := H1
           clear H1
           exact absurd H (by simp)
          ·replace c15 := Bool.eq_false_iff.mpr c15
           subst c15
           have H1 : ((zone_Check.f k (⟨#[]⟩ : ByteArray) ([] : List (S45))).bind fun t582 => (some (t582 == 11))) = some r := by rw [if_neg (show ¬ (false = true) by decide)] at H; exact H
           clear H
           have H := H1
           clear H1
           replace H := Option.bind_eq_some_iff.mp H
           obtain ⟨t582, A160, H⟩ := H
           (try dsimp only at H)
           have A16 := Aside0.mk A160
           clear A160
           obtain rfl := Option.some.inj H
           go_enter Tryz.func25, Tryz.ntmps25
           go_wp2_with (first | ((with_reducible refine gate_callee (f := 18) rfl ?_); refine goesL_ (some 8) rfl rfl Tryz.func18 (by kernel_rfl) rfl #[.string (⟨#[49, 58, 48, 48, 32, 69, 85, 32, 67, 69, 37, 115, 84, 32, 49, 57, 57, 54, 32, 79, 99, 116, 32, 108, 97, 115, 116, 83, 117, 110, 32, 50, 115]⟩ : ByteArray)] rfl (by (try simp only [List.map_toArray, List.map_cons, List.map_nil]); first | done | rfl | (simp only [List.length_drop, List.length_take]; rfl)) ?_; (with_reducible refine (fields_Split.calls (⟨#[49, 58, 48, 48, 32, 69, 85, 32, 67, 69, 37, 115, 84, 32, 49, 57, 57, 54, 32, 79, 99, 116, 32, 108, 97, 115, 116, 83, 117, 110, 32, 50, 115]⟩ : ByteArray) t559 t560 _ A1.out).mono ?_); rintro e w17 ⟨v561, rfl, ho0, hb⟩; refine ⟨_, rfl, ?_⟩; have n0_ := Aside0.mk (Kd.R_lower ho0 (below_size (by repeat (first | (with_reducible first | exact HB.out | apply bA | apply bN | apply below_drew1) | exact HB.out)))); have n1_ := Aside0.mk (below_step (by repeat (first | (with_reducible first | exact HB.out | apply bA | apply bN | apply below_drew1) | exact HB.out)) hb); clear HB; have HO562 := n0_; have HB := n1_; clear n0_ n1_; (try clear hb); (try clear hb2); (try clear hk); (try clear hi); (try clear ho0); obtain ⟨Ao18, co18, eo18⟩ := Kd.R_slice HO562.out; subst eo18) | ((with_reducible refine gate_callee (f := 26) rfl ?_); refine goesL_ (some 13) rfl rfl Tryz.func26 (by kernel_rfl) rfl #[.slice Ao18 t559.length co18] rfl (by (try simp only [List.map_toArray, List.map_cons, List.map_nil]); first | done | rfl | (simp only [List.length_drop, List.length_take]; rfl)) ?_; (with_reducible refine (zone_Era.calls k _ _ t559 t563 t564 t565 t566 t567 true t569 t570 t571 t572 t573 t574 t575 t576 _ ?side1 ?side2 ?side3 A2.out).mono ?_); (case side1 => exact GW.on HG.out (by repeat (first | (with_reducible first | exact HB.out | apply bA | apply bN | apply below_drew1) | exact HB.out))); (case side2 => repeat (first | exact (Kd.R_reads' HO562.out).2.2 | (with_reducible refine Kd.C_alloc ?_ _) | (with_reducible refine Kd.C_drewN ?_ _) | (with_reducible refine Kd.C_drew ?_))); (case side3 => exact (Kd.R_reads' HO562.out).2.1); rintro e w19 ⟨rfl, hb⟩; refine ⟨_, rfl, ?_⟩; have n0_ := Aside0.mk (Kd.R_below (by (with_reducible repeat (first | apply Kd.R_alloc | apply Kd.R_drewN | apply Kd.R_drew)); exact HO562.out) hb); have n1_ := Aside0.mk (below_step (by repeat (first | (with_reducible first | exact HB.out | apply bA | apply bN | apply below_drew1) | exact HB.out)) hb); clear HO562; clear HB; have HO562 := n0_; have HB := n1_; clear n0_ n1_; (try clear hb); (try clear hb2); (try clear hk); (try clear hi)) | ((with_reducible refine gate_dst (N := 3) rfl ?_); refine box_event ?hg (N := 3) ?hd (cs := #[.int .i64 0, .int .i64 0, .int .i64 0, .string (⟨#[]⟩ : ByteArray), .string (⟨#[]⟩ : ByteArray), .bool false, .int .i64 0, .int .i64 0, .int .i64 0, .int .i64 0, .int .i64 0, .int .i64 0, .int .i64 0]) (t := 45) ?hr ?_; (case hd => rfl); (case hg => rfl); (case hr => first | (go_simp; done) | (go_simp; rfl)); intro gb577 hg w20 hbox hb; have n0_ := Aside0.mk (Kd.R_below (by (with_reducible repeat (first | apply Kd.R_alloc | apply Kd.R_drewN | apply Kd.R_drew)); exact HO562.out) hb); have n1_ := Aside0.mk (below_step (by repeat (first | (with_reducible first | exact HB.out | apply bA | apply bN | apply below_drew1) | exact HB.out)) hb); have n2_ := Aside0.mk (hbox); have n3_ := Aside0.mk ((by rw [hg]; exact (below_size (by repeat (first | (with_reducible first | exact HB.out | apply bA | apply bN | apply below_drew1) | exact HB.out))) : w.heap.size ≤ gb577)); have n4_ := Aside0.mk ((by rw [hg]; exact (below_size (by repeat (first | (with_reducible first | exact HB.out | apply bA | apply bN | apply below_drew1) | exact HB.out))) : w.heap.size ≤ gb577)); clear HO562; clear HB; have HO562 := n0_; have HB := n1_; have BK577 := n2_; have GW577 := n3_; have GE577 := n4_; clear n0_ n1_ n2_ n3_ n4_; clear hb hbox hg; obtain ⟨hcz21_0, hcz21_1, hcz21_2, hcz21_3, hcz21_4, hcz21_5, hcz21_6, hcz21_7, hcz21_8, hcz21_9, hcz21_10, hcz21_11, hcz21_12, hfz21_0, hfz21_1, hfz21_2, hfz21_3, hfz21_4, hfz21_5, hfz21_6, hfz21_7, hfz21_8, hfz21_9, hfz21_10, hfz21_11, hfz21_12⟩ := cl13 BK577.out) | ((with_reducible refine gate_store (t := 45) (p := 3) rfl ?_); refine store_event (t := 45) (p := 3) (v := ?vo_w22) (w1 := (((((((((((((w20.setCell ⟨gb577, 0, none⟩ (.int .i64 t563)).setCell ⟨gb577, 1, none⟩ (.int .i64 t564)).setCell ⟨gb577, 2, none⟩ (.int .i64 t565)).setCell ⟨gb577, 3, none⟩ (.string t566)).setCell ⟨gb577, 4, none⟩ (.string t567)).setCell ⟨gb577, 5, none⟩ (.bool true)).setCell ⟨gb577, 6, none⟩ (.int .i64 t569)).setCell ⟨gb577, 7, none⟩ (.int .i64 t570)).setCell ⟨gb577, 8, none⟩ (.int .i64 t571)).setCell ⟨gb577, 9, none⟩ (.int .i64 t572)).setCell ⟨gb577, 10, none⟩ (.int .i64 t573)).setCell ⟨gb577, 11, none⟩ (.int .i64 t574)).setCell ⟨gb577, 12, none⟩ (.int .i64 t575))) ?hg ?ho ?hn ?hr ?_; (case ho => rfl); (case hg => rfl); (case hn => rfl); (case hr => first | (go_simp; done) | (go_simp; rfl)); intro w22 hw; have n0_ : Aside0 (Kd.R Kd.string 9 w22 w.heap.size (fun _ => True) (.slice Ao18 t559.length co18) t559) := ⟨(by rw [hw]; exact (by (with_reducible repeat (first | apply Kd.R_alloc | apply Kd.R_drewN | apply Kd.R_drew)); exact Kd.R_mono (Kd.R_far (p := ⟨gb577, 12, none⟩) (Kd.R_far (p := ⟨gb577, 11, none⟩) (Kd.R_far (p := ⟨gb577, 10, none⟩) (Kd.R_far (p := ⟨gb577, 9, none⟩) (Kd.R_far (p := ⟨gb577, 8, none⟩) (Kd.R_far (p := ⟨gb577, 7, none⟩) (Kd.R_far (p := ⟨gb577, 6, none⟩) (Kd.R_far (p := ⟨gb577, 5, none⟩) (Kd.R_far (p := ⟨gb577, 4, none⟩) (Kd.R_far (p := ⟨gb577, 3, none⟩) (Kd.R_far (p := ⟨gb577, 2, none⟩) (Kd.R_far (p := ⟨gb577, 1, none⟩) (Kd.R_far (p := ⟨gb577, 0, none⟩) (Kd.R_types HO562.out BK577.out (by decide)) (fun _ hk => hk.2) (.int .i64 t563)) (fun _ hk => hk.2) (.int .i64 t564)) (fun _ hk => hk.2) (.int .i64 t565)) (fun _ hk => hk.2) (.string t566)) (fun _ hk => hk.2) (.string t567)) (fun _ hk => hk.2) (.bool true)) (fun _ hk => hk.2) (.int .i64 t569)) (fun _ hk => hk.2) (.int .i64 t570)) (fun _ hk => hk.2) (.int .i64 t571)) (fun _ hk => hk.2) (.int .i64 t572)) (fun _ hk => hk.2) (.int .i64 t573)) (fun _ hk => hk.2) (.int .i64 t574)) (fun _ hk => hk.2) (.int .i64 t575)) (fun _ hk => trivial)))⟩; have n1_ : Aside0 (w22.heap[gb577]? = some (.cells #[.int .i64 t563, .int .i64 t564, .int .i64 t565, .string t566, .string t567, .bool true, .int .i64 t569, .int .i64 t570, .int .i64 t571, .int .i64 t572, .int .i64 t573, .int .i64 t574, .int .i64 t575] 45 (0, 0))) := ⟨(by rw [hw]; exact (by (with_reducible repeat (first | refine blk_drewN ?_ _ | refine blk_drew ?_ | refine blk_alloc ?_ _)); refine blk_put (cs := #[.int .i64 t563, .int .i64 t564, .int .i64 t565, .string t566, .string t567, .bool true, .int .i64 t569, .int .i64 t570, .int .i64 t571, .int .i64 t572, .int .i64 t573, .int .i64 t574, .int .i64 0]) ?_ 12 _ rfl; (with_reducible repeat (first | refine blk_drewN ?_ _ | refine blk_drew ?_ | refine blk_alloc ?_ _)); refine blk_put (cs := #[.int .i64 t563, .int .i64 t564, .int .i64 t565, .string t566, .string t567, .bool true, .int .i64 t569, .int .i64 t570, .int .i64 t571, .int .i64 t572, .int .i64 t573, .int .i64 0, .int .i64 0]) ?_ 11 _ rfl; (with_reducible repeat (first | refine blk_drewN ?_ _ | refine blk_drew ?_ | refine blk_alloc ?_ _)); refine blk_put (cs := #[.int .i64 t563, .int .i64 t564, .int .i64 t565, .string t566, .string t567, .bool true, .int .i64 t569, .int .i64 t570, .int .i64 t571, .int .i64 t572, .int .i64 0, .int .i64 0, .int .i64 0]) ?_ 10 _ rfl; (with_reducible repeat (first | refine blk_drewN ?_ _ | refine blk_drew ?_ | refine blk_alloc ?_ _)); refine blk_put (cs := #[.int .i64 t563, .int .i64 t564, .int .i64 t565, .string t566, .string t567, .bool true, .int .i64 t569, .int .i64 t570, .int .i64 t571, .int .i64 0, .int .i64 0, .int .i64 0, .int .i64 0]) ?_ 9 _ rfl; (with_reducible repeat (first | refine blk_drewN ?_ _ | refine blk_drew ?_ | refine blk_alloc ?_ _)); refine blk_put (cs := #[.int .i64 t563, .int .i64 t564, .int .i64 t565, .string t566, .string t567, .bool true, .int .i64 t569, .int .i64 t570, .int .i64 0, .int .i64 0, .int .i64 0, .int .i64 0, .int .i64 0]) ?_ 8 _ rfl; (with_reducible repeat (first | refine blk_drewN ?_ _ | refine blk_drew ?_ | refine blk_alloc ?_ _)); refine blk_put (cs := #[.int .i64 t563, .int .i64 t564, .int .i64 t565, .string t566, .string t567, .bool true, .int .i64 t569, .int .i64 0, .int .i64 0, .int .i64 0, .int .i64 0, .int .i64 0, .int .i64 0]) ?_ 7 _ rfl; (with_reducible repeat (first | refine blk_drewN ?_ _ | refine blk_drew ?_ | refine blk_alloc ?_ _)); refine blk_put (cs := #[.int .i64 t563, .int .i64 t564, .int .i64 t565, .string t566, .string t567, .bool true, .int .i64 0, .int .i64 0, .int .i64 0, .int .i64 0, .int .i64 0, .int .i64 0, .int .i64 0]) ?_ 6 _ rfl; (with_reducible repeat (first | refine blk_drewN ?_ _ | refine blk_drew ?_ | refine blk_alloc ?_ _)); refine blk_put (cs := #[.int .i64 t563, .int .i64 t564, .int .i64 t565, .string t566, .string t567, .bool false, .int .i64 0, .int .i64 0, .int .i64 0, .int .i64 0, .int .i64 0, .int .i64 0, .int .i64 0]) ?_ 5 _ rfl; (with_reducible repeat (first | refine blk_drewN ?_ _ | refine blk_drew ?_ | refine blk_alloc ?_ _)); refine blk_put (cs := #[.int .i64 t563, .int .i64 t564, .int .i64 t565, .string t566, .string (⟨#[]⟩ : ByteArray), .bool false, .int .i64 0, .int .i64 0, .int .i64 0, .int .i64 0, .int .i64 0, .int .i64 0, .int .i64 0]) ?_ 4 _ rfl; (with_reducible repeat (first | refine blk_drewN ?_ _ | refine blk_drew ?_ | refine blk_alloc ?_ _)); refine blk_put (cs := #[.int .i64 t563, .int .i64 t564, .int .i64 t565, .string (⟨#[]⟩ : ByteArray), .string (⟨#[]⟩ : ByteArray), .bool false, .int .i64 0, .int .i64 0, .int .i64 0, .int .i64 0, .int .i64 0, .int .i64 0, .int .i64 0]) ?_ 3 _ rfl; (with_reducible repeat (first | refine blk_drewN ?_ _ | refine blk_drew ?_ | refine blk_alloc ?_ _)); refine blk_put (cs := #[.int .i64 t563, .int .i64 t564, .int .i64 0, .string (⟨#[]⟩ : ByteArray), .string (⟨#[]⟩ : ByteArray), .bool false, .int .i64 0, .int .i64 0, .int .i64 0, .int .i64 0, .int .i64 0, .int .i64 0, .int .i64 0]) ?_ 2 _ rfl; (with_reducible repeat (first | refine blk_drewN ?_ _ | refine blk_drew ?_ | refine blk_alloc ?_ _)); refine blk_put (cs := #[.int .i64 t563, .int .i64 0, .int .i64 0, .string (⟨#[]⟩ : ByteArray), .string (⟨#[]⟩ : ByteArray), .bool false, .int .i64 0, .int .i64 0, .int .i64 0, .int .i64 0, .int .i64 0, .int .i64 0, .int .i64 0]) ?_ 1 _ rfl; (with_reducible repeat (first | refine blk_drewN ?_ _ | refine blk_drew ?_ | refine blk_alloc ?_ _)); refine blk_put (cs := #[.int .i64 0, .int .i64 0, .int .i64 0, .string (⟨#[]⟩ : ByteArray), .string (⟨#[]⟩ : ByteArray), .bool false, .int .i64 0, .int .i64 0, .int .i64 0, .int .i64 0, .int .i64 0, .int .i64 0, .int .i64 0]) ?_ 0 _ rfl; (with_reducible repeat (first | refine blk_drewN ?_ _ | refine blk_drew ?_ | refine blk_alloc ?_ _)); exact BK577.out))⟩; have n2_ : Aside0 (Below w.heap.size w w22) := ⟨(by rw [hw]; exact (by repeat (first | (with_reducible first | exact HB.out | apply bA | apply bN | apply below_drew1 | refine below_set ?_ GE577.out) | exact HB.out)))⟩; clear hw; clear HO562; clear BK577; clear HB; have HO562 := n0_; have BK577 := n1_; have HB := n2_; clear n0_ n1_ n2_; obtain ⟨hcz23_0, hcz23_1, hcz23_2, hcz23_3, hcz23_4, hcz23_5, hcz23_6, hcz23_7, hcz23_8, hcz23_9, hcz23_10, hcz23_11, hcz23_12, hfz23_0, hfz23_1, hfz23_2, hfz23_3, hfz23_4, hfz23_5, hfz23_6, hfz23_7, hfz23_8, hfz23_9, hfz23_10, hfz23_11, hfz23_12⟩ := cl13 BK577.out) | ((with_reducible refine gate_callee (f := 24) rfl ?_); refine goesL_ (some 18) rfl rfl Tryz.func24 (by kernel_rfl) rfl #[.agg #[.int .i64 t563, .int .i64 t564, .int .i64 t565, .string t566, .string t567, .bool true, .int .i64 t569, .int .i64 t570, .int .i64 t571, .int .i64 t572, .int .i64 t573, .int .i64 t574, .int .i64 t575]] rfl (by (try simp only [List.map_toArray, List.map_cons, List.map_nil]); first | done | rfl | (simp only [List.length_drop, List.length_take]; rfl)) ?_; (with_reducible refine (zone_Text.calls k t563 t564 t565 t566 t567 true t569 t570 t571 t572 t573 t574 t575 t578 t579 _ ?side1 A3.out).mono ?_); (case side1 => exact GW.on HG.out (by repeat (first | (with_reducible first | exact HB.out | apply bA | apply bN | apply below_drew1 | refine below_set ?_ GE577.out) | exact HB.out))); rintro e w24 ⟨rfl, hb⟩; refine ⟨_, rfl, ?_⟩; have n0_ := Aside0.mk (Kd.R_below (by (with_reducible repeat (first | apply Kd.R_alloc | apply Kd.R_drewN | apply Kd.R_drew)); exact HO562.out) hb); have n1_ := Aside0.mk (blk_below (g := gb577) (o := .cells #[.int .i64 t563, .int .i64 t564, .int .i64 t565, .string t566, .string t567, .bool true, .int .i64 t569, .int .i64 t570, .int .i64 t571, .int .i64 t572, .int .i64 t573, .int .i64 t574, .int .i64 t575] 45 (0, 0)) (by (with_reducible repeat (first | refine blk_drewN ?_ _ | refine blk_drew ?_ | refine blk_alloc ?_ _)); exact BK577.out) hb); have n2_ := Aside0.mk (below_step (by repeat (first | (with_reducible first | exact HB.out | apply bA | apply bN | apply below_drew1 | refine below_set ?_ GE577.out) | exact HB.out)) hb); clear HO562; clear BK577; clear HB; have HO562 := n0_; have BK577 := n1_; have HB := n2_; clear n0_ n1_ n2_; (try clear hb); (try clear hb2); (try clear hk); (try clear hi); obtain ⟨hcz25_0, hcz25_1, hcz25_2, hcz25_3, hcz25_4, hcz25_5, hcz25_6, hcz25_7, hcz25_8, hcz25_9, hcz25_10, hcz25_11, hcz25_12, hfz25_0, hfz25_1, hfz25_2, hfz25_3, hfz25_4, hfz25_5, hfz25_6, hfz25_7, hfz25_8, hfz25_9, hfz25_10, hfz25_11, hfz25_12⟩ := cl13 BK577.out) | (go_at_call 30; (with_reducible refine (zone_Format.calls k (⟨#[65, 47, 66]⟩ : ByteArray) true _ A12.out).mono ?_); rintro e w' ⟨rfl, ⟨nd, rfl⟩⟩) | (go_at_call 30; (with_reducible refine (zone_Format.calls k (⟨#[37, 120]⟩ : ByteArray) false _ A14.out).mono ?_); rintro e w' ⟨rfl, ⟨nd, rfl⟩⟩) | (go_at_call 29; (refine (zone_Check.calls k (⟨#[]⟩ : ByteArray) _ _ ([] : List (S45)) t582 _ ?side1 ?side2 A16.out).mono ?_); (case side1 => exact Kd.C_nil _ _); (case side2 => exact Nat.le_refl _); rintro e w26 ⟨rfl, hb⟩; have n0_ := Aside0.mk (Kd.R_below (by (with_reducible repeat (first | apply Kd.R_alloc | apply Kd.R_drewN | apply Kd.R_drew)); exact HO562.out) hb); have n1_ := Aside0.mk (blk_below (g := gb577) (o := .cells #[.int .i64 t563, .int .i64 t564, .int .i64 t565, .string t566, .string t567, .bool true, .int .i64 t569, .int .i64 t570, .int .i64 t571, .int .i64 t572, .int .i64 t573, .int .i64 t574, .int .i64 t575] 45 (0, 0)) (by (with_reducible repeat (first | refine blk_drewN ?_ _ | refine blk_drew ?_ | refine blk_alloc ?_ _)); exact BK577.out) hb); have n2_ := Aside0.mk (below_step (by repeat (first | (with_reducible first | exact HB.out | apply bA | apply bN | apply below_drew1 | refine below_set ?_ GE577.out) | exact HB.out)) hb); clear HO562; clear BK577; clear HB; have HO562 := n0_; have BK577 := n1_; have HB := n2_; clear n0_ n1_ n2_; (try clear hb); (try clear hb2); (try clear hk); (try clear hi)))
           go_ret
           exact ⟨by first | rfl | (simp [errW_none, errW_some] <;> rfl) | (simp [*, errW_none, errW_some] <;> rfl), by repeat (first | (with_reducible first | exact HB.out | apply bA | apply bN | apply below_drew1 | refine below_set ?_ GE577.out) | exact HB.out)⟩
         ·replace c13 := Bool.eq_false_iff.mpr c13
          subst c13
          have H1 : (none) = some r := by rw [if_neg (show ¬ (false = true) by decide)] at H; exact H
          clear H
          have H := H1
          clear H1
          exact absurd H (by simp)
        ·rw [if_neg c11] at H
         exact absurd H (by simp)
       ·rw [if_neg c10] at H
        exact absurd H (by simp)
      ·replace c9 := Bool.eq_false_iff.mpr c9
       subst c9
       have H1 : (none) = some r := by rw [if_neg (show ¬ (false = true) by decide)] at H; exact H
       clear H
       have H := H1
       clear H1
       exact absurd H (by simp)
     ·rw [if_neg c8] at H
      exact absurd H (by simp)
    ·rw [if_neg c7] at H
     exact absurd H (by simp)
   ·rw [if_neg c6] at H
    exact absurd H (by simp)
  ·rw [if_neg c5] at H
   exact absurd H (by simp)
 ·rw [if_neg c4] at H
  exact absurd H (by simp)
end Go.Proofs.YtfhemdnjoedioaaGreatDoor.X
end
section
namespace Go.Proofs.YtfhemdnjoedioaaGreatDoor.X
open Go.RowKit Go.Proofs.YtfhemdnjoedioaaGreatDoorW.PrintWords Go.Proofs.YtfhemdnjoedioaaGreatDoorW.PrintLast Go.Proofs.YtfhemdnjoedioaaGreatDoorW.PrintMore
attribute [local go_sem] max2_int min2_int max_two min_two max_three min_three max_four min_four
set_option linter.unusedVariables false
set_option linter.unusedSimpArgs false
def solsticelaw10_ZoneFormats.f (k : Nat) (a0 : Int) : Option (Bool) := (some (([(⟨#[65]⟩ : ByteArray), (⟨#[67, 69, 37, 115, 84]⟩ : ByteArray), (⟨#[37, 122]⟩ : ByteArray), (⟨#[65, 47, 66]⟩ : ByteArray), (⟨#[43, 48, 51]⟩ : ByteArray), (⟨#[45, 37, 115]⟩ : ByteArray), (⟨#[47]⟩ : ByteArray), (⟨#[97, 47]⟩ : ByteArray), (⟨#[57]⟩ : ByteArray)] : List ByteArray) : List ByteArray)).bind fun y713 => ((some (([(⟨#[]⟩ : ByteArray), (⟨#[37]⟩ : ByteArray), (⟨#[97, 37]⟩ : ByteArray), (⟨#[37, 37]⟩ : ByteArray), (⟨#[37, 83]⟩ : ByteArray), (⟨#[97, 47, 98, 47, 99]⟩ : ByteArray), (⟨#[37, 115, 37, 115]⟩ : ByteArray), (⟨#[37, 115, 47, 37, 122]⟩ : ByteArray), (⟨#[97, 32, 98]⟩ : ByteArray), (⟨#[97, 95, 98]⟩ : ByteArray), (⟨#[195, 169]⟩ : ByteArray)] : List ByteArray) : List ByteArray)).bind fun y716 => (if (IntKind.u64.wrap ((y713.length : Int))) = 0 then (none) else (if 0 ≤ (wrap64 (Int.tmod (IntKind.u64.wrap (a0)) (IntKind.u64.wrap ((y713.length : Int))))) then (if (wrap64 (Int.tmod (IntKind.u64.wrap (a0)) (IntKind.u64.wrap ((y713.length : Int))))) < (y713.length : Int) then ((zone_Format.f k (rdOf ByteArray.empty y713 (wrap64 (Int.tmod (IntKind.u64.wrap (a0)) (IntKind.u64.wrap ((y713.length : Int))))))).bind fun t720 => (if t720 = true then (if (IntKind.u64.wrap ((y716.length : Int))) = 0 then (none) else (if 0 ≤ (wrap64 (Int.tmod (IntKind.u64.wrap (a0)) (IntKind.u64.wrap ((y716.length : Int))))) then (if (wrap64 (Int.tmod (IntKind.u64.wrap (a0)) (IntKind.u64.wrap ((y716.length : Int))))) < (y716.length : Int) then ((zone_Format.f k (rdOf ByteArray.empty y716 (wrap64 (Int.tmod (IntKind.u64.wrap (a0)) (IntKind.u64.wrap ((y716.length : Int))))))).bind fun t722 => (if t722 = true then (none) else ((solsticelaw10_wakes.f k).bind fun t723 => (some t723)))) else (none)) else (none))) else (none))) else (none)) else (none))))
theorem solsticelaw10_ZoneFormats.mono : ∀ a0 k, LeO (solsticelaw10_ZoneFormats.f k a0) (solsticelaw10_ZoneFormats.f (k + 1) a0) := by
 intro a0 k
 unfold solsticelaw10_ZoneFormats.f
 repeat' first
   | (with_reducible exact solsticelaw10_wakes.mono _)
   | (with_reducible exact zone_Format.mono _ _)
   | (with_reducible exact LeO.refl _)
   | (with_reducible exact LeO.none _)
   | (with_reducible refine LeO.ite ?_ ?_)
   | (with_reducible refine LeO.bind ?_ (fun _ => ?_))
   | exact solsticelaw10_wakes.mono _
   | exact zone_Format.mono _ _
   | exact LeO.none _
   | refine LeO.ite ?_ ?_
   | refine LeO.bind ?_ (fun _ => ?_)
set_option maxHeartbeats 8000000 in
set_option maxRecDepth 100000 in
theorem solsticelaw10_ZoneFormats.calls (k : Nat) (a0 : Int) (r : Bool) (w : World) (hG : GW w) (h : solsticelaw10_ZoneFormats.f k a0 = some r) :
  Calls Tryz.prog 9 #[.int .i64 a0] w fun e w' => e = .returned (.bool r) ∧ Below w.heap.size w w' := by
 have HG := Aside0.mk hG
 clear hG
 have HB := Aside0.mk (Below.refl w.heap.size w)
 have H : ((some (([(⟨#[65]⟩ : ByteArray), (⟨#[67, 69, 37, 115, 84]⟩ : ByteArray), (⟨#[37, 122]⟩ : ByteArray), (⟨#[65, 47, 66]⟩ : ByteArray), (⟨#[43, 48, 51]⟩ : ByteArray), (⟨#[45, 37, 115]⟩ : ByteArray), (⟨#[47]⟩ : ByteArray), (⟨#[97, 47]⟩ : ByteArray), (⟨#[57]⟩ : ByteArray)] : List ByteArray) : List ByteArray)).bind fun y713 => ((some (([(⟨#[]⟩ : ByteArray), (⟨#[37]⟩ : ByteArray), (⟨#[97, 37]⟩ : ByteArray), (⟨#[37, 37]⟩ : ByteArray), (⟨#[37, 83]⟩ : ByteArray), (⟨#[97, 47, 98, 47, 99]⟩ : ByteArray), (⟨#[37, 115, 37, 115]⟩ : ByteArray), (⟨#[37, 115, 47, 37, 122]⟩ : ByteArray), (⟨#[97, 32, 98]⟩ : ByteArray), (⟨#[97, 95, 98]⟩ : ByteArray), (⟨#[195, 169]⟩ : ByteArray)] : List ByteArray) : List ByteArray)).bind fun y716 => (if (IntKind.u64.wrap ((y713.length : Int))) = 0 then (none) else (if 0 ≤ (wrap64 (Int.tmod (IntKind.u64.wrap (a0)) (IntKind.u64.wrap ((y713.length : Int))))) then (if (wrap64 (Int.tmod (IntKind.u64.wrap (a0)) (IntKind.u64.wrap ((y713.length : Int))))) < (y713.length : Int) then ((zone_Format.f k (rdOf ByteArray.empty y713 (wrap64 (Int.tmod (IntKind.u64.wrap (a0)) (IntKind.u64.wrap ((y713.length : Int))))))).bind fun t720 => (if t720 = true then (if (IntKind.u64.wrap ((y716.length : Int))) = 0 then (none) else (if 0 ≤ (wrap64 (Int.tmod (IntKind.u64.wrap (a0)) (IntKind.u64.wrap ((y716.length : Int))))) then (if (wrap64 (Int.tmod (IntKind.u64.wrap (a0)) (IntKind.u64.wrap ((y716.length : Int))))) < (y716.length : Int) then ((zone_Format.f k (rdOf ByteArray.empty y716 (wrap64 (Int.tmod (IntKind.u64.wrap (a0)) (IntKind.u64.wrap ((y716.length : Int))))))).bind fun t722 => (if t722 = true then (none) else ((solsticelaw10_wakes.f k).bind fun t723 => (some t723)))) else (none)) else (none))) else (none))) else (none)) else (none))))) = some r := h
 clear h
 obtain ⟨y713, hy713⟩ : ∃ y_ : List ByteArray, y_ = (([(⟨#[65]⟩ : ByteArray), (⟨#[67, 69, 37, 115, 84]⟩ : ByteArray), (⟨#[37, 122]⟩ : ByteArray), (⟨#[65, 47, 66]⟩ : ByteArray), (⟨#[43, 48, 51]⟩ : ByteArray), (⟨#[45, 37, 115]⟩ : ByteArray), (⟨#[47]⟩ : ByteArray), (⟨#[97, 47]⟩ : ByteArray), (⟨#[57]⟩ : ByteArray)] : List ByteArray)) := ⟨_, rfl⟩
 replace H : ((some (([(⟨#[]⟩ : ByteArray), (⟨#[37]⟩ : ByteArray), (⟨#[97, 37]⟩ : ByteArray), (⟨#[37, 37]⟩ : ByteArray), (⟨#[37, 83]⟩ : ByteArray), (⟨#[97, 47, 98, 47, 99]⟩ : ByteArray), (⟨#[37, 115, 37, 115]⟩ : ByteArray), (⟨#[37, 115, 47, 37, 122]⟩ : ByteArray), (⟨#[97, 32, 98]⟩ : ByteArray), (⟨#[97, 95, 98]⟩ : ByteArray), (⟨#[195, 169]⟩ : ByteArray)] : List ByteArray) : List ByteArray)).bind fun y716 => (if (IntKind.u64.wrap ((y713.length : Int))) = 0 then (none) else (if 0 ≤ (wrap64 (Int.tmod (IntKind.u64.wrap (a0)) (IntKind.u64.wrap ((y713.length : Int))))) then (if (wrap64 (Int.tmod (IntKind.u64.wrap (a0)) (IntKind.u64.wrap ((y713.length : Int))))) < (y713.length : Int) then ((zone_Format.f k (rdOf ByteArray.empty y713 (wrap64 (Int.tmod (IntKind.u64.wrap (a0)) (IntKind.u64.wrap ((y713.length : Int))))))).bind fun t720 => (if t720 = true then (if (IntKind.u64.wrap ((y716.length : Int))) = 0 then (none) else (if 0 ≤ (wrap64 (Int.tmod (IntKind.u64.wrap (a0)) (IntKind.u64.wrap ((y716.length : Int))))) then (if (wrap64 (Int.tmod (IntKind.u64.wrap (a0)) (IntKind.u64.wrap ((y716.length : Int))))) < (y716.length : Int) then ((zone_Format.f k (rdOf ByteArray.empty y716 (wrap64 (Int.tmod (IntKind.u64.wrap (a0)) (IntKind.u64.wrap ((y716.length : Int))))))).bind fun t722 => (if t722 = true then (none) else ((solsticelaw10_wakes.f k).bind fun t723 => (some t723)))) else (none)) else (none))) else (none))) else (none)) else (none)))) = some r := by first | (rw [hy713]; with_reducible exact H) | (have H2_ := (Option.bind_some _ _).symm.trans H; rw [hy713]; with_reducible exact H2_) | (have H2_ := (Option.bind_some _ _).symm.trans H; with_reducible exact H2_) | with_reducible exact H | (rw [hy713]; exact H) | exact H
 have Ny713 := Aside0.mk hy713
 clear hy713
 obtain ⟨y716, hy716⟩ : ∃ y_ : List ByteArray, y_ = (([(⟨#[]⟩ : ByteArray), (⟨#[37]⟩ : ByteArray), (⟨#[97, 37]⟩ : ByteArray), (⟨#[37, 37]⟩ : ByteArray), (⟨#[37, 83]⟩ : ByteArray), (⟨#[97, 47, 98, 47, 99]⟩ : ByteArray), (⟨#[37, 115, 37, 115]⟩ : ByteArray), (⟨#[37, 115, 47, 37, 122]⟩ : ByteArray), (⟨#[97, 32, 98]⟩ : ByteArray), (⟨#[97, 95, 98]⟩ : ByteArray), (⟨#[195, 169]⟩ : ByteArray)] : List ByteArray)) := ⟨_, rfl⟩
 replace H : (if (IntKind.u64.wrap ((y713.length : Int))) = 0 then (none) else (if 0 ≤ (wrap64 (Int.tmod (IntKind.u64.wrap (a0)) (IntKind.u64.wrap ((y713.length : Int))))) then (if (wrap64 (Int.tmod (IntKind.u64.wrap (a0)) (IntKind.u64.wrap ((y713.length : Int))))) < (y713.length : Int) then ((zone_Format.f k (rdOf ByteArray.empty y713 (wrap64 (Int.tmod (IntKind.u64.wrap (a0)) (IntKind.u64.wrap ((y713.length : Int))))))).bind fun t720 => (if t720 = true then (if (IntKind.u64.wrap ((y716.length : Int))) = 0 then (none) else (if 0 ≤ (wrap64 (Int.tmod (IntKind.u64.wrap (a0)) (IntKind.u64.wrap ((y716.length : Int))))) then (if (wrap64 (Int.tmod (IntKind.u64.wrap (a0)) (IntKind.u64.wrap ((y716.length : Int))))) < (y716.length : Int) then ((zone_Format.f k (rdOf ByteArray.empty y716 (wrap64 (Int.tmod (IntKind.u64.wrap (a0)) (IntKind.u64.wrap ((y716.length : Int))))))).bind fun t722 => (if t722 = true then (none) else ((solsticelaw10_wakes.f k).bind fun t723 => (some t723)))) else (none)) else (none))) else (none))) else (none)) else (none))) = some r := by first | (rw [hy716]; with_reducible exact H) | (have H2_ := (Option.bind_some _ _).symm.trans H; rw [hy716]; with_reducible exact H2_) | (have H2_ := (Option.bind_some _ _).symm.trans H; with_reducible exact H2_) | with_reducible exact H | (rw [hy716]; exact H) | exact H
 have Ny716 := Aside0.mk hy716
 clear hy716
 by_cases c2 : (IntKind.u64.wrap ((y713.length : Int))) = 0
 ·rw [if_pos c2] at H
  exact absurd H (by simp)
 ·rw [if_neg c2] at H
  have c2b0 : ((IntKind.u64.wrap ((y713.length : Int))) == 0) = false := beq_eq_false_iff_ne.mpr c2
  have c2b1 : ((IntKind.u64.wrap ((y713.length : Int))) != 0) = true := bne_iff_ne.mpr c2
  obtain ⟨ji3, hji3⟩ : ∃ j_ : Int, (wrap64 (Int.tmod (IntKind.u64.wrap (a0)) (IntKind.u64.wrap ((y713.length : Int))))) = j_ := ⟨_, rfl⟩
  replace H : (if 0 ≤ (ji3) then (if (ji3) < (y713.length : Int) then ((zone_Format.f k (rdOf ByteArray.empty y713 (ji3))).bind fun t720 => (if t720 = true then (if (IntKind.u64.wrap ((y716.length : Int))) = 0 then (none) else (if 0 ≤ (wrap64 (Int.tmod (IntKind.u64.wrap (a0)) (IntKind.u64.wrap ((y716.length : Int))))) then (if (wrap64 (Int.tmod (IntKind.u64.wrap (a0)) (IntKind.u64.wrap ((y716.length : Int))))) < (y716.length : Int) then ((zone_Format.f k (rdOf ByteArray.empty y716 (wrap64 (Int.tmod (IntKind.u64.wrap (a0)) (IntKind.u64.wrap ((y716.length : Int))))))).bind fun t722 => (if t722 = true then (none) else ((solsticelaw10_wakes.f k).bind fun t723 => (some t723)))) else (none)) else (none))) else (none))) else (none)) else (none)) = some r := by first | (rw [hji3] at H; exact H) | (simp only [hji3] at H ⊢; exact H)
  have hji3w : (IntKind.i64.wrap (Int.tmod (IntKind.u64.wrap (a0)) (IntKind.u64.wrap ((y713.length : Int))))) = ji3 := (i64_w _).trans hji3
  by_cases c4 : 0 ≤ (ji3)
  ·rw [if_pos c4] at H
   have c4b0 : decide (0 ≤ (ji3)) = true := decide_eq_true c4
   clear c4
   by_cases c5 : (ji3) < (y713.length : Int)
   ·rw [if_pos c5] at H
    have c5b0 : decide ((ji3) < (y713.length : Int)) = true := decide_eq_true c5
    clear c5
    replace H := Option.bind_eq_some_iff.mp H
    obtain ⟨t720, A60, H⟩ := H
    (try dsimp only at H)
    have A6 := Aside0.mk A60
    clear A60
    by_cases c7 : t720 = true
    ·subst c7
     have H1 : (if (IntKind.u64.wrap ((y716.length : Int))) = 0 then (none) else (if 0 ≤ (wrap64 (Int.tmod (IntKind.u64.wrap (a0)) (IntKind.u64.wrap ((y716.length : Int))))) then (if (wrap64 (Int.tmod (IntKind.u64.wrap (a0)) (IntKind.u64.wrap ((y716.length : Int))))) < (y716.length : Int) then ((zone_Format.f k (rdOf ByteArray.empty y716 (wrap64 (Int.tmod (IntKind.u64.wrap (a0)) (IntKind.u64.wrap ((y716.length : Int))))))).bind fun t722 => (if t722 = true then (none) else ((solsticelaw10_wakes.f k).bind fun t723 => (some t723)))) else (none)) else (none))) = some r := by rw [if_pos rfl] at H; exact H
     clear H
     have H := H1
     clear H1
     by_cases c8 : (IntKind.u64.wrap ((y716.length : Int))) = 0
     ·rw [if_pos c8] at H
      exact absurd H (by simp)
     ·rw [if_neg c8] at H
      have c8b0 : ((IntKind.u64.wrap ((y716.length : Int))) == 0) = false := beq_eq_false_iff_ne.mpr c8
      have c8b1 : ((IntKind.u64.wrap ((y716.length : Int))) != 0) = true := bne_iff_ne.mpr c8
      obtain ⟨ji9, hji9⟩ : ∃ j_ : Int, (wrap64 (Int.tmod (IntKind.u64.wrap (a0)) (IntKind.u64.wrap ((y716.length : Int))))) = j_ := ⟨_, rfl⟩
      replace H : (if 0 ≤ (ji9) then (if (ji9) < (y716.length : Int) then ((zone_Format.f k (rdOf ByteArray.empty y716 (ji9))).bind fun t722 => (if t722 = true then (none) else ((solsticelaw10_wakes.f k).bind fun t723 => (some t723)))) else (none)) else (none)) = some r := by first | (rw [hji9] at H; exact H) | (simp only [hji9] at H ⊢; exact H)
      (try rw [hji9] at A6)
      have hji9w : (IntKind.i64.wrap (Int.tmod (IntKind.u64.wrap (a0)) (IntKind.u64.wrap ((y716.length : Int))))) = ji9 := (i64_w _).trans hji9
      by_cases c10 : 0 ≤ (ji9)
      ·rw [if_pos c10] at H
       have c10b0 : decide (0 ≤ (ji9)) = true := decide_eq_true c10
       clear c10
       by_cases c11 : (ji9) < (y716.length : Int)
       ·rw [if_pos c11] at H
        have c11b0 : decide ((ji9) < (y716.length : Int)) = true := decide_eq_true c11
        clear c11
        replace H := Option.bind_eq_some_iff.mp H
        obtain ⟨t722, A120, H⟩ := H
        (try dsimp only at H)
        have A12 := Aside0.mk A120
        clear A120
        by_cases c13 : t722 = true
        ·subst c13
         have H1 : (none) = some r := by rw [if_pos rfl] at H; exact H
         clear H
         have H := H1
         clear H1
         exact absurd H (by simp)
        ·replace c13 := Bool.eq_false_iff.mpr c13
         subst c13
         have H1 : ((solsticelaw10_wakes.f k).bind fun t723 => (some t723)) = some r := by rw [if_neg (show ¬ (false = true) by decide)] at H; exact H
         clear H
         have H := H1
         clear H1
         replace H := Option.bind_eq_some_iff.mp H
         obtain ⟨t723, A140, H⟩ := H
         (try dsimp only at H)
         have A14 := Aside0.mk A140
         clear A140
         obtain rfl := Option.some.inj H
         go_enter Tryz.func9, Tryz.ntmps9
         go_wp2_with (first | ((with_reducible refine gate_dst (N := 5) rfl ?_); (try (refine gate_guard (by rfl) ?_; dsimp only)); refine Kd.R_lit Kd.string _ 9 ?hg (N := 5) ?hd (xs := ([(⟨#[65]⟩ : ByteArray), (⟨#[67, 69, 37, 115, 84]⟩ : ByteArray), (⟨#[37, 122]⟩ : ByteArray), (⟨#[65, 47, 66]⟩ : ByteArray), (⟨#[43, 48, 51]⟩ : ByteArray), (⟨#[45, 37, 115]⟩ : ByteArray), (⟨#[47]⟩ : ByteArray), (⟨#[97, 47]⟩ : ByteArray), (⟨#[57]⟩ : ByteArray)] : List ByteArray)) (inner := [.string (⟨#[65]⟩ : ByteArray), .string (⟨#[67, 69, 37, 115, 84]⟩ : ByteArray), .string (⟨#[37, 122]⟩ : ByteArray), .string (⟨#[65, 47, 66]⟩ : ByteArray), .string (⟨#[43, 48, 51]⟩ : ByteArray), .string (⟨#[45, 37, 115]⟩ : ByteArray), .string (⟨#[47]⟩ : ByteArray), .string (⟨#[97, 47]⟩ : ByteArray), .string (⟨#[57]⟩ : ByteArray)]) (ok := fun _ => True) (okp := fun _ => True) ?hr ?hp (fun _ hk => hk) trivial (Below.refl _ _) (Nat.le_refl _) (by simp) ?_; (case hd => rfl); (case hg => rfl); (case hr => first | (go_simp; done) | (go_simp; rfl)); (case hp => exact (Reps.one (show Kd.M Kd.string _ _ _ (⟨#[65]⟩ : ByteArray) [.string (⟨#[65]⟩ : ByteArray)] from rfl) (Reps.one (show Kd.M Kd.string _ _ _ (⟨#[67, 69, 37, 115, 84]⟩ : ByteArray) [.string (⟨#[67, 69, 37, 115, 84]⟩ : ByteArray)] from rfl) (Reps.one (show Kd.M Kd.string _ _ _ (⟨#[37, 122]⟩ : ByteArray) [.string (⟨#[37, 122]⟩ : ByteArray)] from rfl) (Reps.one (show Kd.M Kd.string _ _ _ (⟨#[65, 47, 66]⟩ : ByteArray) [.string (⟨#[65, 47, 66]⟩ : ByteArray)] from rfl) (Reps.one (show Kd.M Kd.string _ _ _ (⟨#[43, 48, 51]⟩ : ByteArray) [.string (⟨#[43, 48, 51]⟩ : ByteArray)] from rfl) (Reps.one (show Kd.M Kd.string _ _ _ (⟨#[45, 37, 115]⟩ : ByteArray) [.string (⟨#[45, 37, 115]⟩ : ByteArray)] from rfl) (Reps.one (show Kd.M Kd.string _ _ _ (⟨#[47]⟩ : ByteArray) [.string (⟨#[47]⟩ : ByteArray)] from rfl) (Reps.one (show Kd.M Kd.string _ _ _ (⟨#[97, 47]⟩ : ByteArray) [.string (⟨#[97, 47]⟩ : ByteArray)] from rfl) (Reps.one (show Kd.M Kd.string _ _ _ (⟨#[57]⟩ : ByteArray) [.string (⟨#[57]⟩ : ByteArray)] from rfl) (Reps.none _ _))))))))))); intro v714 w15 ho16 hb hg_ hnew_; clear hg_ hnew_; (first | rw [← Ny713.out] at ho16 | (simp only [Int.reduceToNat] at ho16; rw [← Ny713.out] at ho16)); have n0_ := Aside0.mk (Kd.R_lower ho16 (below_size (by repeat (first | (with_reducible first | exact HB.out | apply bA | apply bN | apply below_drew1) | exact HB.out)))); have n1_ := Aside0.mk (below_step (by repeat (first | (with_reducible first | exact HB.out | apply bA | apply bN | apply below_drew1) | exact HB.out)) hb); clear HB; have HO715 := n0_; have HB := n1_; clear n0_ n1_; clear hb ho16) | ((with_reducible refine gate_dst (N := 6) rfl ?_); (try (refine gate_guard (by rfl) ?_; dsimp only)); refine Kd.R_lit Kd.string _ 9 ?hg (N := 6) ?hd (xs := ([(⟨#[]⟩ : ByteArray), (⟨#[37]⟩ : ByteArray), (⟨#[97, 37]⟩ : ByteArray), (⟨#[37, 37]⟩ : ByteArray), (⟨#[37, 83]⟩ : ByteArray), (⟨#[97, 47, 98, 47, 99]⟩ : ByteArray), (⟨#[37, 115, 37, 115]⟩ : ByteArray), (⟨#[37, 115, 47, 37, 122]⟩ : ByteArray), (⟨#[97, 32, 98]⟩ : ByteArray), (⟨#[97, 95, 98]⟩ : ByteArray), (⟨#[195, 169]⟩ : ByteArray)] : List ByteArray)) (inner := [.string (⟨#[]⟩ : ByteArray), .string (⟨#[37]⟩ : ByteArray), .string (⟨#[97, 37]⟩ : ByteArray), .string (⟨#[37, 37]⟩ : ByteArray), .string (⟨#[37, 83]⟩ : ByteArray), .string (⟨#[97, 47, 98, 47, 99]⟩ : ByteArray), .string (⟨#[37, 115, 37, 115]⟩ : ByteArray), .string (⟨#[37, 115, 47, 37, 122]⟩ : ByteArray), .string (⟨#[97, 32, 98]⟩ : ByteArray), .string (⟨#[97, 95, 98]⟩ : ByteArray), .string (⟨#[195, 169]⟩ : ByteArray)]) (ok := fun _ => True) (okp := fun _ => True) ?hr ?hp (fun _ hk => hk) trivial (Below.refl _ _) (Nat.le_refl _) (by simp) ?_; (case hd => rfl); (case hg => rfl); (case hr => first | (go_simp; done) | (go_simp; rfl)); (case hp => exact (Reps.one (show Kd.M Kd.string _ _ _ (⟨#[]⟩ : ByteArray) [.string (⟨#[]⟩ : ByteArray)] from rfl) (Reps.one (show Kd.M Kd.string _ _ _ (⟨#[37]⟩ : ByteArray) [.string (⟨#[37]⟩ : ByteArray)] from rfl) (Reps.one (show Kd.M Kd.string _ _ _ (⟨#[97, 37]⟩ : ByteArray) [.string (⟨#[97, 37]⟩ : ByteArray)] from rfl) (Reps.one (show Kd.M Kd.string _ _ _ (⟨#[37, 37]⟩ : ByteArray) [.string (⟨#[37, 37]⟩ : ByteArray)] from rfl) (Reps.one (show Kd.M Kd.string _ _ _ (⟨#[37, 83]⟩ : ByteArray) [.string (⟨#[37, 83]⟩ : ByteArray)] from rfl) (Reps.one (show Kd.M Kd.string _ _ _ (⟨#[97, 47, 98, 47, 99]⟩ : ByteArray) [.string (⟨#[97, 47, 98, 47, 99]⟩ : ByteArray)] from rfl) (Reps.one (show Kd.M Kd.string _ _ _ (⟨#[37, 115, 37, 115]⟩ : ByteArray) [.string (⟨#[37, 115, 37, 115]⟩ : ByteArray)] from rfl) (Reps.one (show Kd.M Kd.string _ _ _ (⟨#[37, 115, 47, 37, 122]⟩ : ByteArray) [.string (⟨#[37, 115, 47, 37, 122]⟩ : ByteArray)] from rfl) (Reps.one (show Kd.M Kd.string _ _ _ (⟨#[97, 32, 98]⟩ : ByteArray) [.string (⟨#[97, 32, 98]⟩ : ByteArray)] from rfl) (Reps.one (show Kd.M Kd.string _ _ _ (⟨#[97, 95, 98]⟩ : ByteArray) [.string (⟨#[97, 95, 98]⟩ : ByteArray)] from rfl) (Reps.one (show Kd.M Kd.string _ _ _ (⟨#[195, 169]⟩ : ByteArray) [.string (⟨#[195, 169]⟩ : ByteArray)] from rfl) (Reps.none _ _))))))))))))); intro v717 w17 ho18 hb hg_ hnew_; clear hg_ hnew_; (first | rw [← Ny716.out] at ho18 | (simp only [Int.reduceToNat] at ho18; rw [← Ny716.out] at ho18)); have n0_ := Aside0.mk (Kd.R_elder' (by (with_reducible repeat (first | apply Kd.R_alloc | apply Kd.R_drewN | apply Kd.R_drew)); exact HO715.out) (Kd.R_base ho18) hb); have n1_ := Aside0.mk (Kd.R_lower (Kd.R_new' ho18 (Kd.R_lt (by (with_reducible repeat (first | apply Kd.R_alloc | apply Kd.R_drewN | apply Kd.R_drew)); exact HO715.out))) (below_size (by repeat (first | (with_reducible first | exact HB.out | apply bA | apply bN | apply below_drew1) | exact HB.out)))); have n2_ := Aside0.mk (below_step (by repeat (first | (with_reducible first | exact HB.out | apply bA | apply bN | apply below_drew1) | exact HB.out)) hb); clear HO715; clear HB; have HO715 := n0_; have HO718 := n1_; have HB := n2_; clear n0_ n1_ n2_; clear hb ho18; obtain ⟨Ao19, co19, eo19⟩ := Kd.R_slice HO715.out; subst eo19; have p719 : 0 ≤ ((ji3) : Int) := of_decide_eq_true (by first | (with_reducible assumption) | assumption); have q719 : (ji3) < (y713.length : Int) := of_decide_eq_true (by first | (with_reducible assumption) | assumption); obtain ⟨ad719, e719, hx719_0⟩ := Kd.at_string (Kd.R_reads' HO715.out).2.2 (ji3) p719 q719; cases e719; replace p719 := eq_true p719; replace q719 := eq_true q719) | ((with_reducible refine gate_callee (f := 30) rfl ?_); refine goesL_ (some 17) rfl rfl Tryz.func30 (by kernel_rfl) rfl #[.string (rdOf ByteArray.empty y713 (ji3))] rfl (by (try simp only [List.map_toArray, List.map_cons, List.map_nil]); first | done | (simp only [hji3]; rfl) | rfl | (simp only [List.length_drop, List.length_take]; rfl)) ?_; (with_reducible refine (zone_Format.calls k (rdOf ByteArray.empty y713 (ji3)) true _ A6.out).mono ?_); rintro e w' ⟨rfl, ⟨nd, rfl⟩⟩; refine ⟨_, rfl, ?_⟩; obtain ⟨Ao20, co20, eo20⟩ := Kd.R_slice HO718.out; subst eo20; have p721 : 0 ≤ ((ji9) : Int) := of_decide_eq_true (by first | (with_reducible assumption) | assumption); have q721 : (ji9) < (y716.length : Int) := of_decide_eq_true (by first | (with_reducible assumption) | assumption); obtain ⟨ad721, e721, hx721_0⟩ := Kd.at_string (Kd.R_reads' HO718.out).2.2 (ji9) p721 q721; cases e721; replace p721 := eq_true p721; replace q721 := eq_true q721) | (go_at_call 30; (with_reducible refine (zone_Format.calls k (rdOf ByteArray.empty y716 (ji9)) false _ A12.out).mono ?_); rintro e w' ⟨rfl, ⟨nd, rfl⟩⟩) | (go_at_call 25; (with_reducible refine (solsticelaw10_wakes.calls k  t723 _ ?side1 A14.out).mono ?_); (case side1 => exact GW.on HG.out (by repeat (first | (with_reducible first | exact HB.out | apply bA | apply bN | apply below_drew1) | exact HB.out))); rintro e w21 ⟨rfl, hb⟩; have n0_ := Aside0.mk (Kd.R_below (by (with_reducible repeat (first | apply Kd.R_alloc | apply Kd.R_drewN | apply Kd.R_drew)); exact HO715.out) hb); have n1_ := Aside0.mk (Kd.R_below (by (with_reducible repeat (first | apply Kd.R_alloc | apply Kd.R_drewN | apply Kd.R_drew)); exact HO718.out) hb); have n2_ := Aside0.mk (below_step (by repeat (first | (with_reducible first | exact HB.out | apply bA | apply bN | apply below_drew1) | exact HB.out)) hb); clear HO715; clear HO718; clear HB; have HO715 := n0_; have HO718 := n1_; have HB := n2_; clear n0_ n1_ n2_; (try clear hb); (try clear hb2); (try clear hk); (try clear hi)))
         go_ret
         exact ⟨by first | rfl | (simp [errW_none, errW_some] <;> rfl) | (simp only [← hji3, ← hji9]; first | rfl | (simp [errW_none, errW_some] <;> rfl)) | (simp [*, errW_none, errW_some] <;> rfl), by repeat (first | (with_reducible first | exact HB.out | apply bA | apply bN | apply below_drew1) | exact HB.out)⟩
       ·rw [if_neg c11] at H
        exact absurd H (by simp)
      ·rw [if_neg c10] at H
       exact absurd H (by simp)
    ·replace c7 := Bool.eq_false_iff.mpr c7
     subst c7
     have H1 : (none) = some r := by rw [if_neg (show ¬ (false = true) by decide)] at H; exact H
     clear H
     have H := H1
     clear H1
     exact absurd H (by simp)
   ·rw [if_neg c5] at H
    exact absurd H (by simp)
  ·rw [if_neg c4] at H
   exact absurd H (by simp)
end Go.Proofs.YtfhemdnjoedioaaGreatDoor.X
end
section
namespace Go.Proofs.YtfhemdnjoedioaaGreatDoor.X
open Go.RowKit Go.Proofs.YtfhemdnjoedioaaGreatDoorW.PrintWords Go.Proofs.YtfhemdnjoedioaaGreatDoorW.PrintLast Go.Proofs.YtfhemdnjoedioaaGreatDoorW.PrintMore
set_option linter.unusedVariables false
set_option linter.unusedSimpArgs false
theorem wakes10 (k : Nat) (h : 700 ≤ k) : solsticelaw10_wakes.f k = some true := at_rounds (g := solsticelaw10_wakes.f) (solsticelaw10_wakes.mono) h (by kernel_rfl)
theorem umod10_at (x n : Int) (h0 : 0 < n) (h1 : n < 1000) : 0 ≤ wrap64 (Int.tmod (IntKind.u64.wrap x) n) ∧ wrap64 (Int.tmod (IntKind.u64.wrap x) n) < n := by
  have hu : 0 ≤ IntKind.u64.wrap x := by
    simp [IntKind.wrap, IntKind.signed, IntKind.bits]
    omega
  have h2 : Int.tmod (IntKind.u64.wrap x) n = IntKind.u64.wrap x % n := Int.tmod_eq_emod_of_nonneg hu
  have h3 := Int.emod_nonneg (IntKind.u64.wrap x) (show n ≠ 0 by omega)
  have h4 := Int.emod_lt_of_pos (IntKind.u64.wrap x) h0
  rw [h2]
  unfold wrap64
  omega
def goodF : List ByteArray := [(⟨#[65]⟩ : ByteArray), (⟨#[67, 69, 37, 115, 84]⟩ : ByteArray), (⟨#[37, 122]⟩ : ByteArray), (⟨#[65, 47, 66]⟩ : ByteArray), (⟨#[43, 48, 51]⟩ : ByteArray), (⟨#[45, 37, 115]⟩ : ByteArray), (⟨#[47]⟩ : ByteArray), (⟨#[97, 47]⟩ : ByteArray), (⟨#[57]⟩ : ByteArray)]
def badF : List ByteArray := [(⟨#[]⟩ : ByteArray), (⟨#[37]⟩ : ByteArray), (⟨#[97, 37]⟩ : ByteArray), (⟨#[37, 37]⟩ : ByteArray), (⟨#[37, 83]⟩ : ByteArray), (⟨#[97, 47, 98, 47, 99]⟩ : ByteArray), (⟨#[37, 115, 37, 115]⟩ : ByteArray), (⟨#[37, 115, 47, 37, 122]⟩ : ByteArray), (⟨#[97, 32, 98]⟩ : ByteArray), (⟨#[97, 95, 98]⟩ : ByteArray), (⟨#[195, 169]⟩ : ByteArray)]
set_option maxRecDepth 100000 in
theorem all_goodF : (goodF.all fun t => decide (zone_Format.f 700 t = some true)) = true := by decide +kernel
set_option maxRecDepth 100000 in
theorem all_badF : (badF.all fun t => decide (zone_Format.f 700 t = some false)) = true := by decide +kernel
theorem memF (l : List ByteArray) (r : Int) (r0 : 0 ≤ r) (r1 : r < (l.length : Int)) : rdOf ByteArray.empty l r ∈ l := by
  have hl : r.toNat < l.length := by omega
  unfold rdOf
  rw [List.getD_eq_getElem?_getD, List.getElem?_eq_getElem hl]
  exact List.getElem_mem hl
/-- ZoneFormats answers true. -/
theorem pure_ZoneFormats (a0 : Int) : ∃ k, solsticelaw10_ZoneFormats.f k a0 = some true := by
  refine ⟨700, ?_⟩
  obtain ⟨r0, r1⟩ := umod10_at a0 9 (by decide) (by decide)
  obtain ⟨s0, s1⟩ := umod10_at a0 11 (by decide) (by decide)
  have e9 : IntKind.u64.wrap ((goodF.length : Int)) = 9 := by decide
  have e11 : IntKind.u64.wrap ((badF.length : Int)) = 11 := by decide
  generalize hr : wrap64 (Int.tmod (IntKind.u64.wrap a0) 9) = r at *
  generalize hs : wrap64 (Int.tmod (IntKind.u64.wrap a0) 11) = s at *
  have hg := of_decide_eq_true (List.all_eq_true.mp all_goodF _ (memF goodF r r0 r1))
  have hb := of_decide_eq_true (List.all_eq_true.mp all_badF _ (memF badF s s0 s1))
  show ((some goodF).bind fun y713 => ((some badF).bind fun y716 => _)) = _
  rw [Option.bind_some, Option.bind_some, e9, hr, e11, hs, if_neg (by decide), if_pos r0, if_pos (show r < (goodF.length : Int) from r1), hg, Option.bind_some, if_pos rfl, if_neg (by decide), if_pos s0, if_pos (show s < (badF.length : Int) from s1), hb, Option.bind_some, if_neg (by decide), wakes10 700 (by decide)]
  rfl
end Go.Proofs.YtfhemdnjoedioaaGreatDoor.X
end
