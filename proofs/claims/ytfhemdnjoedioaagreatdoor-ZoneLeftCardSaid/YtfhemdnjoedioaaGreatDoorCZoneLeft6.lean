import Derived.Below
import Derived.Deep.Draws
import Derived.Deep.AppendLies
import Derived.Maps.AppendAt
import Derived.OwnWalk
import Derived.Laws.BytesArg
import Derived.Laws.MakeOwn
import Derived.Laws.OwnMore
import Derived.Deep.OwnRows
import Derived.Tactics
import Derived.Lib.ConvBytes
import Derived.Laws.Slices
import Derived.WalkKit
import Derived.KernelRfl
import Derived.RowKit3
import Derived.Deep.LoopGhost
import Derived.Deep.QuietTactic
import Derived.BigQuiet
import Derived.WideLaws
import Derived.Deep.DeepCutAuto
import Derived.Deep.CutBlock
import Derived.Deep.RegionHeld3
import Derived.Laws.Rows
import Derived.Lib.AppendStr
import Derived.ArgAppend
import Derived.Laws.IdiomCopy
import Derived.RowKit
import Derived.OrdersHeld
import Derived.Laws.BitsLemmas
import Derived.Laws.StructEq
import Derived.Test.YtfhemdnjoedioaaGreatDoorProg
import Derived.Lib.AppendIntMem
import Derived.Shelf.Strings.Fields
import Derived.Lib.ItoaNum
import Derived.Shelf.Strings.Builder1
import Derived.Shelf.Strings.Builder2
import Derived.Shelf.Strings.OnBuilder
import Derived.Shelf.Small.Bits
import Derived.Shelf.Small.Strs
import Derived.Shelf.Strings.BuilderF
import Derived.Shelf.Strconv.Itoa0
import Derived.Shelf.Strconv.Itoa1
import Derived.Shelf.LaysM
import Derived.Shelf.Strconv.Itoa2
import Derived.Shelf.Strconv.Itoa3
import Derived.Shelf.Strings.Search1
import Derived.Shelf.Strings.Search2
import Derived.Shelf.Strings.Search3
import Derived.Shelf.Strings.Cut
import Derived.Shelf.Strings.Count
import Derived.Shelf.Strings.Shaped
import Derived.Shelf.Sort.Plain
import Derived.Shelf.Strings.Prefix
import Derived.Shelf.Strings.Split
import Derived.Shelf.Strings.Fold
import Derived.Shelf.Unicode.Latin
import Derived.Shelf.Bits.Mul64
import Derived.Shelf.Strings.Repeat
import Derived.Shelf.Unicode.DecodeSlow
import Derived.Shelf.Unicode.DecodeAny
import Derived.Shelf.Unicode.Is16White
import Derived.Shelf.Unicode.IsSpaceAny
import Derived.Shelf.Unicode.CaseLookup
import Derived.Shelf.Unicode.CaseConvert
import Derived.Shelf.Unicode.Is16Any
import Derived.Shelf.Unicode.Is32Any
import Derived.Shelf.Unicode.ExclAny
import Derived.Shelf.Slices.CompactS
import Derived.Shelf.Slices.Cells
import Derived.Shelf.Slices.In.SortNone
import Derived.Outline
import Derived.Lib.SplitLaws
import Derived.Test.YtfhemdnjoedioaaGreatDoorCZoneLeft5
section
namespace Go.Proofs.YtfhemdnjoedioaaGreatDoor.X
open Go.RowKit Go.Proofs.YtfhemdnjoedioaaGreatDoorW.PrintWords Go.Proofs.YtfhemdnjoedioaaGreatDoorW.PrintLast Go.Proofs.YtfhemdnjoedioaaGreatDoorW.PrintMore
attribute [local go_sem] max2_int min2_int max_two min_two max_three min_three max_four min_four
set_option linter.unusedVariables false
set_option linter.unusedSimpArgs false
def solsticelaw10_wakes.f (k : Nat)  : Option (Bool) := (fields_Split.f (⟨#[49, 58, 48, 48, 32, 69, 85, 32, 67, 69, 37, 115, 84, 32, 49, 57, 57, 54, 32, 79, 99, 116, 32, 108, 97, 115, 116, 83, 117, 110, 32, 50, 115]⟩ : ByteArray)).bind fun bt559 => ((zone_Era.f k bt559.1).bind fun bt563 => ((zone_Text.f k bt563.1 bt563.2.1 bt563.2.2.1 bt563.2.2.2.1 bt563.2.2.2.2.1 bt563.2.2.2.2.2.1 bt563.2.2.2.2.2.2.1 bt563.2.2.2.2.2.2.2.1 bt563.2.2.2.2.2.2.2.2.1 bt563.2.2.2.2.2.2.2.2.2.1 bt563.2.2.2.2.2.2.2.2.2.2.1 bt563.2.2.2.2.2.2.2.2.2.2.2.1 bt563.2.2.2.2.2.2.2.2.2.2.2.2.1).bind fun bt578 => (if bt559.2 = 0 then (if bt563.2.2.2.2.2.2.2.2.2.2.2.2.2 = 0 then (if bt578.2 = 0 then (if bt563.2.1 = 3 then (if bt563.2.2.2.1.toList = ([69, 85] : List UInt8) then (if bt563.2.2.2.2.2.1 = true then (if bt563.2.2.2.2.2.2.1 = 1996 then (if bt578.1.toList = ([49, 32, 69, 85, 32, 67, 69, 37, 115, 84, 32, 49, 57, 57, 54, 32, 79, 99, 116, 32, 108, 97, 115, 116, 83, 117, 110, 32, 50, 115] : List UInt8) then ((zone_Format.f k (⟨#[65, 47, 66]⟩ : ByteArray)).bind fun t580 => (if t580 = true then ((zone_Format.f k (⟨#[37, 120]⟩ : ByteArray)).bind fun t581 => (if t581 = true then (none) else ((zone_Check.f k (⟨#[]⟩ : ByteArray) ([] : List (S45))).bind fun t582 => (some (t582 == 11))))) else (none))) else (none)) else (none)) else (none)) else (none)) else (none)) else (none)) else (none)) else (none))))
theorem solsticelaw10_wakes.mono : ∀ k, LeO (solsticelaw10_wakes.f k ) (solsticelaw10_wakes.f (k + 1) ) := by
 intro  k
 unfold solsticelaw10_wakes.f
 repeat' first
   | (with_reducible exact zone_Check.mono _ _ _)
   | (with_reducible exact zone_Era.mono _ _)
   | (with_reducible exact zone_Format.mono _ _)
   | (with_reducible exact zone_Text.mono _ _ _ _ _ _ _ _ _ _ _ _ _ _)
   | (with_reducible exact LeO.refl _)
   | (with_reducible exact LeO.none _)
   | (with_reducible refine LeO.ite ?_ ?_)
   | (with_reducible refine LeO.bind ?_ (fun _ => ?_))
   | exact zone_Check.mono _ _ _
   | exact zone_Era.mono _ _
   | exact zone_Format.mono _ _
   | exact zone_Text.mono _ _ _ _ _ _ _ _ _ _ _ _ _ _
   | exact LeO.none _
   | refine LeO.ite ?_ ?_
   | refine LeO.bind ?_ (fun _ => ?_)
set_option maxHeartbeats 8000000 in
set_option maxRecDepth 100000 in
theorem solsticelaw10_wakes.calls (k : Nat)  (r : Bool) (w : World) (hG : GW w) (h : solsticelaw10_wakes.f k  = some r) :
  Calls Tryz.prog 25 #[] w fun e w' => e = .returned (.bool r) ∧ Below w.heap.size w w' := by
 have hu45 := Tryz.underlying45
 have hu54 := Tryz.underlying54
 have HG := As.mk hG
 clear hG
 have HB := As.mk (Below.refl w.heap.size w)
 have H : ((fields_Split.f (⟨#[49, 58, 48, 48, 32, 69, 85, 32, 67, 69, 37, 115, 84, 32, 49, 57, 57, 54, 32, 79, 99, 116, 32, 108, 97, 115, 116, 83, 117, 110, 32, 50, 115]⟩ : ByteArray)).bind fun bt559 => ((zone_Era.f k bt559.1).bind fun bt563 => ((zone_Text.f k bt563.1 bt563.2.1 bt563.2.2.1 bt563.2.2.2.1 bt563.2.2.2.2.1 bt563.2.2.2.2.2.1 bt563.2.2.2.2.2.2.1 bt563.2.2.2.2.2.2.2.1 bt563.2.2.2.2.2.2.2.2.1 bt563.2.2.2.2.2.2.2.2.2.1 bt563.2.2.2.2.2.2.2.2.2.2.1 bt563.2.2.2.2.2.2.2.2.2.2.2.1 bt563.2.2.2.2.2.2.2.2.2.2.2.2.1).bind fun bt578 => (if bt559.2 = 0 then (if bt563.2.2.2.2.2.2.2.2.2.2.2.2.2 = 0 then (if bt578.2 = 0 then (if bt563.2.1 = 3 then (if bt563.2.2.2.1.toList = ([69, 85] : List UInt8) then (if bt563.2.2.2.2.2.1 = true then (if bt563.2.2.2.2.2.2.1 = 1996 then (if bt578.1.toList = ([49, 32, 69, 85, 32, 67, 69, 37, 115, 84, 32, 49, 57, 57, 54, 32, 79, 99, 116, 32, 108, 97, 115, 116, 83, 117, 110, 32, 50, 115] : List UInt8) then ((zone_Format.f k (⟨#[65, 47, 66]⟩ : ByteArray)).bind fun t580 => (if t580 = true then ((zone_Format.f k (⟨#[37, 120]⟩ : ByteArray)).bind fun t581 => (if t581 = true then (none) else ((zone_Check.f k (⟨#[]⟩ : ByteArray) ([] : List (S45))).bind fun t582 => (some (t582 == 11))))) else (none))) else (none)) else (none)) else (none)) else (none)) else (none)) else (none)) else (none)) else (none))))) = some r := h
 clear h
 replace H := Option.bind_eq_some_iff.mp H
 obtain ⟨⟨t559, t560⟩, A10, H⟩ := H
 (try dsimp only at H)
 have A1 := As.mk A10
 clear A10
 replace H := Option.bind_eq_some_iff.mp H
 obtain ⟨⟨t563, t564, t565, t566, t567, t568, t569, t570, t571, t572, t573, t574, t575, t576⟩, A20, H⟩ := H
 (try dsimp only at H)
 have A2 := As.mk A20
 clear A20
 replace H := Option.bind_eq_some_iff.mp H
 obtain ⟨⟨t578, t579⟩, A30, H⟩ := H
 (try dsimp only at H)
 have A3 := As.mk A30
 clear A30
 by_cases c4 : t560 = 0
 ·rw [if_pos c4] at H
  have c4b0 : (t560 == 0) = true := beq_iff_eq.mpr c4
  have c4b1 : (t560 != 0) = false := bne_eq_false_iff_eq.mpr c4
  clear c4
  by_cases c5 : t576 = 0
  ·rw [if_pos c5] at H
   have c5b0 : (t576 == 0) = true := beq_iff_eq.mpr c5
   have c5b1 : (t576 != 0) = false := bne_eq_false_iff_eq.mpr c5
   clear c5
   by_cases c6 : t579 = 0
   ·rw [if_pos c6] at H
    have c6b0 : (t579 == 0) = true := beq_iff_eq.mpr c6
    have c6b1 : (t579 != 0) = false := bne_eq_false_iff_eq.mpr c6
    clear c6
    by_cases c7 : t564 = 3
    ·rw [if_pos c7] at H
     have c7b0 : (t564 == 3) = true := beq_iff_eq.mpr c7
     have c7b1 : (t564 != 3) = false := bne_eq_false_iff_eq.mpr c7
     clear c7
     by_cases c8 : t566.toList = ([69, 85] : List UInt8)
     ·rw [if_pos c8] at H
      have c8b0 : (t566.toList == ([69, 85] : List UInt8)) = true := beq_iff_eq.mpr c8
      have c8b1 : (t566.toList != ([69, 85] : List UInt8)) = false := bne_eq_false_iff_eq.mpr c8
      clear c8
      by_cases c9 : t568 = true
      ·subst c9
       have H1 : (if t569 = 1996 then (if t578.toList = ([49, 32, 69, 85, 32, 67, 69, 37, 115, 84, 32, 49, 57, 57, 54, 32, 79, 99, 116, 32, 108, 97, 115, 116, 83, 117, 110, 32, 50, 115] : List UInt8) then ((zone_Format.f k (⟨#[65, 47, 66]⟩ : ByteArray)).bind fun t580 => (if t580 = true then ((zone_Format.f k (⟨#[37, 120]⟩ : ByteArray)).bind fun t581 => (if t581 = true then (none) else ((zone_Check.f k (⟨#[]⟩ : ByteArray) ([] : List (S45))).bind fun t582 => (some (t582 == 11))))) else (none))) else (none)) else (none)) = some r := by rw [if_pos rfl] at H; exact H
       clear H
       have H := H1
       clear H1
       by_cases c10 : t569 = 1996
       ·rw [if_pos c10] at H
        have c10b0 : (t569 == 1996) = true := beq_iff_eq.mpr c10
        have c10b1 : (t569 != 1996) = false := bne_eq_false_iff_eq.mpr c10
        clear c10
        by_cases c11 : t578.toList = ([49, 32, 69, 85, 32, 67, 69, 37, 115, 84, 32, 49, 57, 57, 54, 32, 79, 99, 116, 32, 108, 97, 115, 116, 83, 117, 110, 32, 50, 115] : List UInt8)
        ·rw [if_pos c11] at H
         have c11b0 : (t578.toList == ([49, 32, 69, 85, 32, 67, 69, 37, 115, 84, 32, 49, 57, 57, 54, 32, 79, 99, 116, 32, 108, 97, 115, 116, 83, 117, 110, 32, 50, 115] : List UInt8)) = true := beq_iff_eq.mpr c11
         have c11b1 : (t578.toList != ([49, 32, 69, 85, 32, 67, 69, 37, 115, 84, 32, 49, 57, 57, 54, 32, 79, 99, 116, 32, 108, 97, 115, 116, 83, 117, 110, 32, 50, 115] : List UInt8)) = false := bne_eq_false_iff_eq.mpr c11
         clear c11
         replace H := Option.bind_eq_some_iff.mp H
         obtain ⟨t580, A120, H⟩ := H
         (try dsimp only at H)
         have A12 := As.mk A120
         clear A120
         by_cases c13 : t580 = true
         ·subst c13
          have H1 : ((zone_Format.f k (⟨#[37, 120]⟩ : ByteArray)).bind fun t581 => (if t581 = true then (none) else ((zone_Check.f k (⟨#[]⟩ : ByteArray) ([] : List (S45))).bind fun t582 => (some (t582 == 11))))) = some r := by rw [if_pos rfl] at H; exact H
          clear H
          have H := H1
          clear H1
          replace H := Option.bind_eq_some_iff.mp H
          obtain ⟨t581, A140, H⟩ := H
          (try dsimp only at H)
          have A14 := As.mk A140
          clear A140
          by_cases c15 : t581 = true
          ·subst c15
           have H1 : (none) = some r := by rw [if_pos rfl] at H; exact H
           clear H
           have H := H1
           clear H1
           exact absurd H (by simp)
          ·replace c15 := Bool.eq_false_iff.mpr c15
           subst c15
           have H1 : ((zone_Check.f k (⟨#[]⟩ : ByteArray) ([] : List (S45))).bind fun t582 => (some (t582 == 11))) = some r := by rw [if_neg (show ¬ (false = true) by decide)] at H; exact H
           clear H
           have H := H1
           clear H1
           replace H := Option.bind_eq_some_iff.mp H
           obtain ⟨t582, A160, H⟩ := H
           (try dsimp only at H)
           have A16 := As.mk A160
           clear A160
           obtain rfl := Option.some.inj H
           go_enter Tryz.func25, Tryz.ntmps25
           go_wp2_with (first | ((with_reducible refine gC (f := 18) rfl ?_); refine goesL_ (some 8) rfl rfl Tryz.func18 (by kernel_rfl) rfl #[.string (⟨#[49, 58, 48, 48, 32, 69, 85, 32, 67, 69, 37, 115, 84, 32, 49, 57, 57, 54, 32, 79, 99, 116, 32, 108, 97, 115, 116, 83, 117, 110, 32, 50, 115]⟩ : ByteArray)] rfl (by (try simp only [List.map_toArray, List.map_cons, List.map_nil]); first | done | rfl | (simp only [List.length_drop, List.length_take]; rfl)) ?_; (with_reducible refine (fields_Split.calls (⟨#[49, 58, 48, 48, 32, 69, 85, 32, 67, 69, 37, 115, 84, 32, 49, 57, 57, 54, 32, 79, 99, 116, 32, 108, 97, 115, 116, 83, 117, 110, 32, 50, 115]⟩ : ByteArray) t559 t560 _ A1.out).mono ?_); rintro e w17 ⟨v561, rfl, ho0, hb⟩; refine ⟨_, rfl, ?_⟩; have n0_ := As.mk (Kd.R_lower ho0 (bZ (by repeat (first | (with_reducible first | exact HB.out | apply bA | apply bN | apply bD) | exact HB.out)))); have n1_ := As.mk (bT (by repeat (first | (with_reducible first | exact HB.out | apply bA | apply bN | apply bD) | exact HB.out)) hb); clear HB; have HO562 := n0_; have HB := n1_; clear n0_ n1_; (try clear hb); (try clear hb2); (try clear hk); (try clear hi); (try clear ho0); obtain ⟨Ao18, co18, eo18⟩ := Kd.R_slice HO562.out; subst eo18) | ((with_reducible refine gC (f := 26) rfl ?_); refine goesL_ (some 13) rfl rfl Tryz.func26 (by kernel_rfl) rfl #[.slice Ao18 t559.length co18] rfl (by (try simp only [List.map_toArray, List.map_cons, List.map_nil]); first | done | rfl | (simp only [List.length_drop, List.length_take]; rfl)) ?_; (with_reducible refine (zone_Era.calls k _ _ t559 t563 t564 t565 t566 t567 true t569 t570 t571 t572 t573 t574 t575 t576 _ ?side1 ?side2 ?side3 A2.out).mono ?_); (case side1 => exact GW.on HG.out (by repeat (first | (with_reducible first | exact HB.out | apply bA | apply bN | apply bD) | exact HB.out))); (case side2 => repeat (first | exact (Kd.R_reads' HO562.out).2.2 | (with_reducible refine Kd.C_alloc ?_ _) | (with_reducible refine Kd.C_drewN ?_ _) | (with_reducible refine Kd.C_drew ?_))); (case side3 => exact (Kd.R_reads' HO562.out).2.1); rintro e w19 ⟨rfl, hb⟩; refine ⟨_, rfl, ?_⟩; have n0_ := As.mk (Kd.R_below (by (with_reducible repeat (first | apply Kd.R_alloc | apply Kd.R_drewN | apply Kd.R_drew)); exact HO562.out) hb); have n1_ := As.mk (bT (by repeat (first | (with_reducible first | exact HB.out | apply bA | apply bN | apply bD) | exact HB.out)) hb); clear HO562; clear HB; have HO562 := n0_; have HB := n1_; clear n0_ n1_; (try clear hb); (try clear hb2); (try clear hk); (try clear hi)) | ((with_reducible refine gD (N := 3) rfl ?_); refine xE ?hg (N := 3) ?hd (cs := #[.int .i64 0, .int .i64 0, .int .i64 0, .string (⟨#[]⟩ : ByteArray), .string (⟨#[]⟩ : ByteArray), .bool false, .int .i64 0, .int .i64 0, .int .i64 0, .int .i64 0, .int .i64 0, .int .i64 0, .int .i64 0]) (t := 45) ?hr ?_; (case hd => rfl); (case hg => rfl); (case hr => first | (go_simp; done) | (go_simp; rfl)); intro gb577 hg w20 hbox hb; have n0_ := As.mk (Kd.R_below (by (with_reducible repeat (first | apply Kd.R_alloc | apply Kd.R_drewN | apply Kd.R_drew)); exact HO562.out) hb); have n1_ := As.mk (bT (by repeat (first | (with_reducible first | exact HB.out | apply bA | apply bN | apply bD) | exact HB.out)) hb); have n2_ := As.mk (hbox); have n3_ := As.mk ((by rw [hg]; exact (bZ (by repeat (first | (with_reducible first | exact HB.out | apply bA | apply bN | apply bD) | exact HB.out))) : w.heap.size ≤ gb577)); have n4_ := As.mk ((by rw [hg]; exact (bZ (by repeat (first | (with_reducible first | exact HB.out | apply bA | apply bN | apply bD) | exact HB.out))) : w.heap.size ≤ gb577)); clear HO562; clear HB; have HO562 := n0_; have HB := n1_; have BK577 := n2_; have GW577 := n3_; have GE577 := n4_; clear n0_ n1_ n2_ n3_ n4_; clear hb hbox hg; obtain ⟨hcz21_0, hcz21_1, hcz21_2, hcz21_3, hcz21_4, hcz21_5, hcz21_6, hcz21_7, hcz21_8, hcz21_9, hcz21_10, hcz21_11, hcz21_12, hfz21_0, hfz21_1, hfz21_2, hfz21_3, hfz21_4, hfz21_5, hfz21_6, hfz21_7, hfz21_8, hfz21_9, hfz21_10, hfz21_11, hfz21_12⟩ := cl13 BK577.out) | ((with_reducible refine gS (t := 45) (p := 3) rfl ?_); refine store_event (t := 45) (p := 3) (v := ?vo_w22) (w1 := (((((((((((((w20.setCell ⟨gb577, 0, none⟩ (.int .i64 t563)).setCell ⟨gb577, 1, none⟩ (.int .i64 t564)).setCell ⟨gb577, 2, none⟩ (.int .i64 t565)).setCell ⟨gb577, 3, none⟩ (.string t566)).setCell ⟨gb577, 4, none⟩ (.string t567)).setCell ⟨gb577, 5, none⟩ (.bool true)).setCell ⟨gb577, 6, none⟩ (.int .i64 t569)).setCell ⟨gb577, 7, none⟩ (.int .i64 t570)).setCell ⟨gb577, 8, none⟩ (.int .i64 t571)).setCell ⟨gb577, 9, none⟩ (.int .i64 t572)).setCell ⟨gb577, 10, none⟩ (.int .i64 t573)).setCell ⟨gb577, 11, none⟩ (.int .i64 t574)).setCell ⟨gb577, 12, none⟩ (.int .i64 t575))) ?hg ?ho ?hn ?hr ?_; (case ho => rfl); (case hg => rfl); (case hn => rfl); (case hr => first | (go_simp; done) | (go_simp; rfl)); intro w22 hw; have n0_ : As (Kd.R Kd.string 9 w22 w.heap.size (fun _ => True) (.slice Ao18 t559.length co18) t559) := ⟨(by rw [hw]; exact (by (with_reducible repeat (first | apply Kd.R_alloc | apply Kd.R_drewN | apply Kd.R_drew)); exact Kd.R_mono (Kd.R_far (p := ⟨gb577, 12, none⟩) (Kd.R_far (p := ⟨gb577, 11, none⟩) (Kd.R_far (p := ⟨gb577, 10, none⟩) (Kd.R_far (p := ⟨gb577, 9, none⟩) (Kd.R_far (p := ⟨gb577, 8, none⟩) (Kd.R_far (p := ⟨gb577, 7, none⟩) (Kd.R_far (p := ⟨gb577, 6, none⟩) (Kd.R_far (p := ⟨gb577, 5, none⟩) (Kd.R_far (p := ⟨gb577, 4, none⟩) (Kd.R_far (p := ⟨gb577, 3, none⟩) (Kd.R_far (p := ⟨gb577, 2, none⟩) (Kd.R_far (p := ⟨gb577, 1, none⟩) (Kd.R_far (p := ⟨gb577, 0, none⟩) (Kd.R_types HO562.out BK577.out (by decide)) (fun _ hk => hk.2) (.int .i64 t563)) (fun _ hk => hk.2) (.int .i64 t564)) (fun _ hk => hk.2) (.int .i64 t565)) (fun _ hk => hk.2) (.string t566)) (fun _ hk => hk.2) (.string t567)) (fun _ hk => hk.2) (.bool true)) (fun _ hk => hk.2) (.int .i64 t569)) (fun _ hk => hk.2) (.int .i64 t570)) (fun _ hk => hk.2) (.int .i64 t571)) (fun _ hk => hk.2) (.int .i64 t572)) (fun _ hk => hk.2) (.int .i64 t573)) (fun _ hk => hk.2) (.int .i64 t574)) (fun _ hk => hk.2) (.int .i64 t575)) (fun _ hk => trivial)))⟩; have n1_ : As (w22.heap[gb577]? = some (.cells #[.int .i64 t563, .int .i64 t564, .int .i64 t565, .string t566, .string t567, .bool true, .int .i64 t569, .int .i64 t570, .int .i64 t571, .int .i64 t572, .int .i64 t573, .int .i64 t574, .int .i64 t575] 45 (0, 0))) := ⟨(by rw [hw]; exact (by (with_reducible repeat (first | refine kN ?_ _ | refine kD ?_ | refine kA ?_ _)); refine blk_put (cs := #[.int .i64 t563, .int .i64 t564, .int .i64 t565, .string t566, .string t567, .bool true, .int .i64 t569, .int .i64 t570, .int .i64 t571, .int .i64 t572, .int .i64 t573, .int .i64 t574, .int .i64 0]) ?_ 12 _ rfl; (with_reducible repeat (first | refine kN ?_ _ | refine kD ?_ | refine kA ?_ _)); refine blk_put (cs := #[.int .i64 t563, .int .i64 t564, .int .i64 t565, .string t566, .string t567, .bool true, .int .i64 t569, .int .i64 t570, .int .i64 t571, .int .i64 t572, .int .i64 t573, .int .i64 0, .int .i64 0]) ?_ 11 _ rfl; (with_reducible repeat (first | refine kN ?_ _ | refine kD ?_ | refine kA ?_ _)); refine blk_put (cs := #[.int .i64 t563, .int .i64 t564, .int .i64 t565, .string t566, .string t567, .bool true, .int .i64 t569, .int .i64 t570, .int .i64 t571, .int .i64 t572, .int .i64 0, .int .i64 0, .int .i64 0]) ?_ 10 _ rfl; (with_reducible repeat (first | refine kN ?_ _ | refine kD ?_ | refine kA ?_ _)); refine blk_put (cs := #[.int .i64 t563, .int .i64 t564, .int .i64 t565, .string t566, .string t567, .bool true, .int .i64 t569, .int .i64 t570, .int .i64 t571, .int .i64 0, .int .i64 0, .int .i64 0, .int .i64 0]) ?_ 9 _ rfl; (with_reducible repeat (first | refine kN ?_ _ | refine kD ?_ | refine kA ?_ _)); refine blk_put (cs := #[.int .i64 t563, .int .i64 t564, .int .i64 t565, .string t566, .string t567, .bool true, .int .i64 t569, .int .i64 t570, .int .i64 0, .int .i64 0, .int .i64 0, .int .i64 0, .int .i64 0]) ?_ 8 _ rfl; (with_reducible repeat (first | refine kN ?_ _ | refine kD ?_ | refine kA ?_ _)); refine blk_put (cs := #[.int .i64 t563, .int .i64 t564, .int .i64 t565, .string t566, .string t567, .bool true, .int .i64 t569, .int .i64 0, .int .i64 0, .int .i64 0, .int .i64 0, .int .i64 0, .int .i64 0]) ?_ 7 _ rfl; (with_reducible repeat (first | refine kN ?_ _ | refine kD ?_ | refine kA ?_ _)); refine blk_put (cs := #[.int .i64 t563, .int .i64 t564, .int .i64 t565, .string t566, .string t567, .bool true, .int .i64 0, .int .i64 0, .int .i64 0, .int .i64 0, .int .i64 0, .int .i64 0, .int .i64 0]) ?_ 6 _ rfl; (with_reducible repeat (first | refine kN ?_ _ | refine kD ?_ | refine kA ?_ _)); refine blk_put (cs := #[.int .i64 t563, .int .i64 t564, .int .i64 t565, .string t566, .string t567, .bool false, .int .i64 0, .int .i64 0, .int .i64 0, .int .i64 0, .int .i64 0, .int .i64 0, .int .i64 0]) ?_ 5 _ rfl; (with_reducible repeat (first | refine kN ?_ _ | refine kD ?_ | refine kA ?_ _)); refine blk_put (cs := #[.int .i64 t563, .int .i64 t564, .int .i64 t565, .string t566, .string (⟨#[]⟩ : ByteArray), .bool false, .int .i64 0, .int .i64 0, .int .i64 0, .int .i64 0, .int .i64 0, .int .i64 0, .int .i64 0]) ?_ 4 _ rfl; (with_reducible repeat (first | refine kN ?_ _ | refine kD ?_ | refine kA ?_ _)); refine blk_put (cs := #[.int .i64 t563, .int .i64 t564, .int .i64 t565, .string (⟨#[]⟩ : ByteArray), .string (⟨#[]⟩ : ByteArray), .bool false, .int .i64 0, .int .i64 0, .int .i64 0, .int .i64 0, .int .i64 0, .int .i64 0, .int .i64 0]) ?_ 3 _ rfl; (with_reducible repeat (first | refine kN ?_ _ | refine kD ?_ | refine kA ?_ _)); refine blk_put (cs := #[.int .i64 t563, .int .i64 t564, .int .i64 0, .string (⟨#[]⟩ : ByteArray), .string (⟨#[]⟩ : ByteArray), .bool false, .int .i64 0, .int .i64 0, .int .i64 0, .int .i64 0, .int .i64 0, .int .i64 0, .int .i64 0]) ?_ 2 _ rfl; (with_reducible repeat (first | refine kN ?_ _ | refine kD ?_ | refine kA ?_ _)); refine blk_put (cs := #[.int .i64 t563, .int .i64 0, .int .i64 0, .string (⟨#[]⟩ : ByteArray), .string (⟨#[]⟩ : ByteArray), .bool false, .int .i64 0, .int .i64 0, .int .i64 0, .int .i64 0, .int .i64 0, .int .i64 0, .int .i64 0]) ?_ 1 _ rfl; (with_reducible repeat (first | refine kN ?_ _ | refine kD ?_ | refine kA ?_ _)); refine blk_put (cs := #[.int .i64 0, .int .i64 0, .int .i64 0, .string (⟨#[]⟩ : ByteArray), .string (⟨#[]⟩ : ByteArray), .bool false, .int .i64 0, .int .i64 0, .int .i64 0, .int .i64 0, .int .i64 0, .int .i64 0, .int .i64 0]) ?_ 0 _ rfl; (with_reducible repeat (first | refine kN ?_ _ | refine kD ?_ | refine kA ?_ _)); exact BK577.out))⟩; have n2_ : As (Below w.heap.size w w22) := ⟨(by rw [hw]; exact (by repeat (first | (with_reducible first | exact HB.out | apply bA | apply bN | apply bD | refine bS ?_ GE577.out) | exact HB.out)))⟩; clear hw; clear HO562; clear BK577; clear HB; have HO562 := n0_; have BK577 := n1_; have HB := n2_; clear n0_ n1_ n2_; obtain ⟨hcz23_0, hcz23_1, hcz23_2, hcz23_3, hcz23_4, hcz23_5, hcz23_6, hcz23_7, hcz23_8, hcz23_9, hcz23_10, hcz23_11, hcz23_12, hfz23_0, hfz23_1, hfz23_2, hfz23_3, hfz23_4, hfz23_5, hfz23_6, hfz23_7, hfz23_8, hfz23_9, hfz23_10, hfz23_11, hfz23_12⟩ := cl13 BK577.out) | ((with_reducible refine gC (f := 24) rfl ?_); refine goesL_ (some 18) rfl rfl Tryz.func24 (by kernel_rfl) rfl #[.agg #[.int .i64 t563, .int .i64 t564, .int .i64 t565, .string t566, .string t567, .bool true, .int .i64 t569, .int .i64 t570, .int .i64 t571, .int .i64 t572, .int .i64 t573, .int .i64 t574, .int .i64 t575]] rfl (by (try simp only [List.map_toArray, List.map_cons, List.map_nil]); first | done | rfl | (simp only [List.length_drop, List.length_take]; rfl)) ?_; (with_reducible refine (zone_Text.calls k t563 t564 t565 t566 t567 true t569 t570 t571 t572 t573 t574 t575 t578 t579 _ ?side1 A3.out).mono ?_); (case side1 => exact GW.on HG.out (by repeat (first | (with_reducible first | exact HB.out | apply bA | apply bN | apply bD | refine bS ?_ GE577.out) | exact HB.out))); rintro e w24 ⟨rfl, hb⟩; refine ⟨_, rfl, ?_⟩; have n0_ := As.mk (Kd.R_below (by (with_reducible repeat (first | apply Kd.R_alloc | apply Kd.R_drewN | apply Kd.R_drew)); exact HO562.out) hb); have n1_ := As.mk (kB (g := gb577) (o := .cells #[.int .i64 t563, .int .i64 t564, .int .i64 t565, .string t566, .string t567, .bool true, .int .i64 t569, .int .i64 t570, .int .i64 t571, .int .i64 t572, .int .i64 t573, .int .i64 t574, .int .i64 t575] 45 (0, 0)) (by (with_reducible repeat (first | refine kN ?_ _ | refine kD ?_ | refine kA ?_ _)); exact BK577.out) hb); have n2_ := As.mk (bT (by repeat (first | (with_reducible first | exact HB.out | apply bA | apply bN | apply bD | refine bS ?_ GE577.out) | exact HB.out)) hb); clear HO562; clear BK577; clear HB; have HO562 := n0_; have BK577 := n1_; have HB := n2_; clear n0_ n1_ n2_; (try clear hb); (try clear hb2); (try clear hk); (try clear hi); obtain ⟨hcz25_0, hcz25_1, hcz25_2, hcz25_3, hcz25_4, hcz25_5, hcz25_6, hcz25_7, hcz25_8, hcz25_9, hcz25_10, hcz25_11, hcz25_12, hfz25_0, hfz25_1, hfz25_2, hfz25_3, hfz25_4, hfz25_5, hfz25_6, hfz25_7, hfz25_8, hfz25_9, hfz25_10, hfz25_11, hfz25_12⟩ := cl13 BK577.out) | (go_at_call 30; (with_reducible refine (zone_Format.calls k (⟨#[65, 47, 66]⟩ : ByteArray) true _ A12.out).mono ?_); rintro e w' ⟨rfl, ⟨nd, rfl⟩⟩) | (go_at_call 30; (with_reducible refine (zone_Format.calls k (⟨#[37, 120]⟩ : ByteArray) false _ A14.out).mono ?_); rintro e w' ⟨rfl, ⟨nd, rfl⟩⟩) | (go_at_call 29; (refine (zone_Check.calls k (⟨#[]⟩ : ByteArray) _ _ ([] : List (S45)) t582 _ ?side1 ?side2 A16.out).mono ?_); (case side1 => exact Kd.C_nil _ _); (case side2 => exact Nat.le_refl _); rintro e w26 ⟨rfl, hb⟩; have n0_ := As.mk (Kd.R_below (by (with_reducible repeat (first | apply Kd.R_alloc | apply Kd.R_drewN | apply Kd.R_drew)); exact HO562.out) hb); have n1_ := As.mk (kB (g := gb577) (o := .cells #[.int .i64 t563, .int .i64 t564, .int .i64 t565, .string t566, .string t567, .bool true, .int .i64 t569, .int .i64 t570, .int .i64 t571, .int .i64 t572, .int .i64 t573, .int .i64 t574, .int .i64 t575] 45 (0, 0)) (by (with_reducible repeat (first | refine kN ?_ _ | refine kD ?_ | refine kA ?_ _)); exact BK577.out) hb); have n2_ := As.mk (bT (by repeat (first | (with_reducible first | exact HB.out | apply bA | apply bN | apply bD | refine bS ?_ GE577.out) | exact HB.out)) hb); clear HO562; clear BK577; clear HB; have HO562 := n0_; have BK577 := n1_; have HB := n2_; clear n0_ n1_ n2_; (try clear hb); (try clear hb2); (try clear hk); (try clear hi)))
           go_ret
           exact ⟨by first | rfl | (simp [eN, eS] <;> rfl) | (simp [*, eN, eS] <;> rfl), by repeat (first | (with_reducible first | exact HB.out | apply bA | apply bN | apply bD | refine bS ?_ GE577.out) | exact HB.out)⟩
         ·replace c13 := Bool.eq_false_iff.mpr c13
          subst c13
          have H1 : (none) = some r := by rw [if_neg (show ¬ (false = true) by decide)] at H; exact H
          clear H
          have H := H1
          clear H1
          exact absurd H (by simp)
        ·rw [if_neg c11] at H
         exact absurd H (by simp)
       ·rw [if_neg c10] at H
        exact absurd H (by simp)
      ·replace c9 := Bool.eq_false_iff.mpr c9
       subst c9
       have H1 : (none) = some r := by rw [if_neg (show ¬ (false = true) by decide)] at H; exact H
       clear H
       have H := H1
       clear H1
       exact absurd H (by simp)
     ·rw [if_neg c8] at H
      exact absurd H (by simp)
    ·rw [if_neg c7] at H
     exact absurd H (by simp)
   ·rw [if_neg c6] at H
    exact absurd H (by simp)
  ·rw [if_neg c5] at H
   exact absurd H (by simp)
 ·rw [if_neg c4] at H
  exact absurd H (by simp)
end Go.Proofs.YtfhemdnjoedioaaGreatDoor.X
end
section
namespace Go.Proofs.YtfhemdnjoedioaaGreatDoor.X
open Go.RowKit Go.Proofs.YtfhemdnjoedioaaGreatDoorW.PrintWords Go.Proofs.YtfhemdnjoedioaaGreatDoorW.PrintLast Go.Proofs.YtfhemdnjoedioaaGreatDoorW.PrintMore
attribute [local go_sem] max2_int min2_int max_two min_two max_three min_three max_four min_four
set_option linter.unusedVariables false
set_option linter.unusedSimpArgs false
attribute [local go_sem high] eqA45
mutual
def solsticelaw10_ZoneLeft.j0 : Nat → Int → Int → Int → Int → Int → ByteArray → ByteArray → Bool → Int → Int → Int → Int → Int → Int → Int → Int → Int → Int → ByteArray → ByteArray → Bool → Int → Int → Int → Int → Int → Int → Int → Option (Bool)
 | 0, _, _, _, _, _, _, _, _, _, _, _, _, _, _, _, _, _, _, _, _, _, _, _, _, _, _, _, _ => none
 | k + 1, x1, x9, x637000, x637001, x637002, x637003, x637004, x637005, x637006, x637007, x637008, x637009, x637010, x637011, x637012, x639000, x639001, x639002, x639003, x639004, x639005, x639006, x639007, x639008, x639009, x639010, x639011, x639012 => if x1 > 4 then (solsticelaw10_ZoneLeft.j1 k x1 x9 x637000 x637001 x637002 x637003 x637004 x637005 x637006 x637007 x637008 x637009 x637010 x637011 x637012 x639000 x639001 x639002 x639003 x639004 x639005 x639006 3 x639008 x639009 x639010 x639011 x639012) else (solsticelaw10_ZoneLeft.j1 k x1 x9 x637000 x637001 x637002 x637003 x637004 x637005 x637006 x637007 x637008 x637009 x637010 x637011 x637012 x639000 x639001 x639002 x639003 x639004 x639005 x639006 x639007 x639008 x639009 x639010 x639011 x639012)
def solsticelaw10_ZoneLeft.j1 : Nat → Int → Int → Int → Int → Int → ByteArray → ByteArray → Bool → Int → Int → Int → Int → Int → Int → Int → Int → Int → Int → ByteArray → ByteArray → Bool → Int → Int → Int → Int → Int → Int → Int → Option (Bool)
 | 0, _, _, _, _, _, _, _, _, _, _, _, _, _, _, _, _, _, _, _, _, _, _, _, _, _, _, _, _ => none
 | k + 1, x1, x9, x637000, x637001, x637002, x637003, x637004, x637005, x637006, x637007, x637008, x637009, x637010, x637011, x637012, x639000, x639001, x639002, x639003, x639004, x639005, x639006, x639007, x639008, x639009, x639010, x639011, x639012 => if x1 > 5 then (if x1 > 6 then (if x9 = 0 then (if (x637000 == x639000 && (x637001 == x639001 && (x637002 == x639002 && (x637003.toList == x639003.toList && (x637004.toList == x639004.toList && (x637005 == x639005 && (x637006 == x639006 && (x637007 == x639007 && ((x637008 == 3 && (x637009 == 0 && (x637010 == 8))) && ((x637011 == 10800 && (x637012 == 2)))))))))))) = true then ((solsticelaw10_wakes.f k).bind fun t639 => (some t639)) else (none)) else (none)) else (if x9 = 0 then (if (x637000 == x639000 && (x637001 == x639001 && (x637002 == x639002 && (x637003.toList == x639003.toList && (x637004.toList == x639004.toList && (x637005 == x639005 && (x637006 == x639006 && (x637007 == x639007 && ((x637008 == 3 && (x637009 == 0 && (x637010 == 8))) && ((x637011 == x639011 && (x637012 == x639012)))))))))))) = true then ((solsticelaw10_wakes.f k).bind fun t640 => (some t640)) else (none)) else (none))) else (if x1 > 6 then (if x9 = 0 then (if (x637000 == x639000 && (x637001 == x639001 && (x637002 == x639002 && (x637003.toList == x639003.toList && (x637004.toList == x639004.toList && (x637005 == x639005 && (x637006 == x639006 && (x637007 == x639007 && ((x637008 == x639008 && (x637009 == x639009 && (x637010 == x639010))) && ((x637011 == 10800 && (x637012 == 2)))))))))))) = true then ((solsticelaw10_wakes.f k).bind fun t641 => (some t641)) else (none)) else (none)) else (if x9 = 0 then (if (x637000 == x639000 && (x637001 == x639001 && (x637002 == x639002 && (x637003.toList == x639003.toList && (x637004.toList == x639004.toList && (x637005 == x639005 && (x637006 == x639006 && (x637007 == x639007 && ((x637008 == x639008 && (x637009 == x639009 && (x637010 == x639010))) && ((x637011 == x639011 && (x637012 == x639012)))))))))))) = true then ((solsticelaw10_wakes.f k).bind fun t642 => (some t642)) else (none)) else (none)))
end
def solsticelaw10_ZoneLeft.f (k : Nat) (a0 : Int) (a1 : Int) : Option (Bool) := if 0 ≤ (wrap64 (Int.tdiv (wrap64 (1 + (wrap64 (Int.tmod (IntKind.u64.wrap (a0)) 9999)))) 1000)) then (if (wrap64 (Int.tdiv (wrap64 (1 + (wrap64 (Int.tmod (IntKind.u64.wrap (a0)) 9999)))) 1000)) ≤ (wrap64 ((wrap64 (Int.tdiv (wrap64 (1 + (wrap64 (Int.tmod (IntKind.u64.wrap (a0)) 9999)))) 1000)) + 1)) then (if (wrap64 ((wrap64 (Int.tdiv (wrap64 (1 + (wrap64 (Int.tmod (IntKind.u64.wrap (a0)) 9999)))) 1000)) + 1)) ≤ 10 then (if 0 ≤ (Int.tmod (wrap64 (Int.tdiv (wrap64 (1 + (wrap64 (Int.tmod (IntKind.u64.wrap (a0)) 9999)))) 100)) 10) then (if (Int.tmod (wrap64 (Int.tdiv (wrap64 (1 + (wrap64 (Int.tmod (IntKind.u64.wrap (a0)) 9999)))) 100)) 10) ≤ (wrap64 ((Int.tmod (wrap64 (Int.tdiv (wrap64 (1 + (wrap64 (Int.tmod (IntKind.u64.wrap (a0)) 9999)))) 100)) 10) + 1)) then (if (wrap64 ((Int.tmod (wrap64 (Int.tdiv (wrap64 (1 + (wrap64 (Int.tmod (IntKind.u64.wrap (a0)) 9999)))) 100)) 10) + 1)) ≤ 10 then (if ((⟨#[48, 49, 50, 51, 52, 53, 54, 55, 56, 57]⟩ : ByteArray).extract ((wrap64 (Int.tdiv (wrap64 (1 + (wrap64 (Int.tmod (IntKind.u64.wrap (a0)) 9999)))) 1000)) : Int).toNat ((wrap64 ((wrap64 (Int.tdiv (wrap64 (1 + (wrap64 (Int.tmod (IntKind.u64.wrap (a0)) 9999)))) 1000)) + 1)) : Int).toNat).size + ((⟨#[48, 49, 50, 51, 52, 53, 54, 55, 56, 57]⟩ : ByteArray).extract ((Int.tmod (wrap64 (Int.tdiv (wrap64 (1 + (wrap64 (Int.tmod (IntKind.u64.wrap (a0)) 9999)))) 100)) 10) : Int).toNat ((wrap64 ((Int.tmod (wrap64 (Int.tdiv (wrap64 (1 + (wrap64 (Int.tmod (IntKind.u64.wrap (a0)) 9999)))) 100)) 10) + 1)) : Int).toNat).size ≤ 9223372036854775807 then (if 0 ≤ (Int.tmod (wrap64 (Int.tdiv (wrap64 (1 + (wrap64 (Int.tmod (IntKind.u64.wrap (a0)) 9999)))) 10)) 10) then (if (Int.tmod (wrap64 (Int.tdiv (wrap64 (1 + (wrap64 (Int.tmod (IntKind.u64.wrap (a0)) 9999)))) 10)) 10) ≤ (wrap64 ((Int.tmod (wrap64 (Int.tdiv (wrap64 (1 + (wrap64 (Int.tmod (IntKind.u64.wrap (a0)) 9999)))) 10)) 10) + 1)) then (if (wrap64 ((Int.tmod (wrap64 (Int.tdiv (wrap64 (1 + (wrap64 (Int.tmod (IntKind.u64.wrap (a0)) 9999)))) 10)) 10) + 1)) ≤ 10 then (if (((⟨#[48, 49, 50, 51, 52, 53, 54, 55, 56, 57]⟩ : ByteArray).extract ((wrap64 (Int.tdiv (wrap64 (1 + (wrap64 (Int.tmod (IntKind.u64.wrap (a0)) 9999)))) 1000)) : Int).toNat ((wrap64 ((wrap64 (Int.tdiv (wrap64 (1 + (wrap64 (Int.tmod (IntKind.u64.wrap (a0)) 9999)))) 1000)) + 1)) : Int).toNat) ++ ((⟨#[48, 49, 50, 51, 52, 53, 54, 55, 56, 57]⟩ : ByteArray).extract ((Int.tmod (wrap64 (Int.tdiv (wrap64 (1 + (wrap64 (Int.tmod (IntKind.u64.wrap (a0)) 9999)))) 100)) 10) : Int).toNat ((wrap64 ((Int.tmod (wrap64 (Int.tdiv (wrap64 (1 + (wrap64 (Int.tmod (IntKind.u64.wrap (a0)) 9999)))) 100)) 10) + 1)) : Int).toNat)).size + ((⟨#[48, 49, 50, 51, 52, 53, 54, 55, 56, 57]⟩ : ByteArray).extract ((Int.tmod (wrap64 (Int.tdiv (wrap64 (1 + (wrap64 (Int.tmod (IntKind.u64.wrap (a0)) 9999)))) 10)) 10) : Int).toNat ((wrap64 ((Int.tmod (wrap64 (Int.tdiv (wrap64 (1 + (wrap64 (Int.tmod (IntKind.u64.wrap (a0)) 9999)))) 10)) 10) + 1)) : Int).toNat).size ≤ 9223372036854775807 then (if 0 ≤ (Int.tmod (wrap64 (1 + (wrap64 (Int.tmod (IntKind.u64.wrap (a0)) 9999)))) 10) then (if (Int.tmod (wrap64 (1 + (wrap64 (Int.tmod (IntKind.u64.wrap (a0)) 9999)))) 10) ≤ (wrap64 ((Int.tmod (wrap64 (1 + (wrap64 (Int.tmod (IntKind.u64.wrap (a0)) 9999)))) 10) + 1)) then (if (wrap64 ((Int.tmod (wrap64 (1 + (wrap64 (Int.tmod (IntKind.u64.wrap (a0)) 9999)))) 10) + 1)) ≤ 10 then (if ((((⟨#[48, 49, 50, 51, 52, 53, 54, 55, 56, 57]⟩ : ByteArray).extract ((wrap64 (Int.tdiv (wrap64 (1 + (wrap64 (Int.tmod (IntKind.u64.wrap (a0)) 9999)))) 1000)) : Int).toNat ((wrap64 ((wrap64 (Int.tdiv (wrap64 (1 + (wrap64 (Int.tmod (IntKind.u64.wrap (a0)) 9999)))) 1000)) + 1)) : Int).toNat) ++ ((⟨#[48, 49, 50, 51, 52, 53, 54, 55, 56, 57]⟩ : ByteArray).extract ((Int.tmod (wrap64 (Int.tdiv (wrap64 (1 + (wrap64 (Int.tmod (IntKind.u64.wrap (a0)) 9999)))) 100)) 10) : Int).toNat ((wrap64 ((Int.tmod (wrap64 (Int.tdiv (wrap64 (1 + (wrap64 (Int.tmod (IntKind.u64.wrap (a0)) 9999)))) 100)) 10) + 1)) : Int).toNat)) ++ ((⟨#[48, 49, 50, 51, 52, 53, 54, 55, 56, 57]⟩ : ByteArray).extract ((Int.tmod (wrap64 (Int.tdiv (wrap64 (1 + (wrap64 (Int.tmod (IntKind.u64.wrap (a0)) 9999)))) 10)) 10) : Int).toNat ((wrap64 ((Int.tmod (wrap64 (Int.tdiv (wrap64 (1 + (wrap64 (Int.tmod (IntKind.u64.wrap (a0)) 9999)))) 10)) 10) + 1)) : Int).toNat)).size + ((⟨#[48, 49, 50, 51, 52, 53, 54, 55, 56, 57]⟩ : ByteArray).extract ((Int.tmod (wrap64 (1 + (wrap64 (Int.tmod (IntKind.u64.wrap (a0)) 9999)))) 10) : Int).toNat ((wrap64 ((Int.tmod (wrap64 (1 + (wrap64 (Int.tmod (IntKind.u64.wrap (a0)) 9999)))) 10) + 1)) : Int).toNat).size ≤ 9223372036854775807 then ((some (([(⟨#[50, 58, 48, 48]⟩ : ByteArray), (⟨#[45]⟩ : ByteArray), (⟨#[69, 69, 84]⟩ : ByteArray), ((((⟨#[48, 49, 50, 51, 52, 53, 54, 55, 56, 57]⟩ : ByteArray).extract ((wrap64 (Int.tdiv (wrap64 (1 + (wrap64 (Int.tmod (IntKind.u64.wrap (a0)) 9999)))) 1000)) : Int).toNat ((wrap64 ((wrap64 (Int.tdiv (wrap64 (1 + (wrap64 (Int.tmod (IntKind.u64.wrap (a0)) 9999)))) 1000)) + 1)) : Int).toNat) ++ ((⟨#[48, 49, 50, 51, 52, 53, 54, 55, 56, 57]⟩ : ByteArray).extract ((Int.tmod (wrap64 (Int.tdiv (wrap64 (1 + (wrap64 (Int.tmod (IntKind.u64.wrap (a0)) 9999)))) 100)) 10) : Int).toNat ((wrap64 ((Int.tmod (wrap64 (Int.tdiv (wrap64 (1 + (wrap64 (Int.tmod (IntKind.u64.wrap (a0)) 9999)))) 100)) 10) + 1)) : Int).toNat)) ++ ((⟨#[48, 49, 50, 51, 52, 53, 54, 55, 56, 57]⟩ : ByteArray).extract ((Int.tmod (wrap64 (Int.tdiv (wrap64 (1 + (wrap64 (Int.tmod (IntKind.u64.wrap (a0)) 9999)))) 10)) 10) : Int).toNat ((wrap64 ((Int.tmod (wrap64 (Int.tdiv (wrap64 (1 + (wrap64 (Int.tmod (IntKind.u64.wrap (a0)) 9999)))) 10)) 10) + 1)) : Int).toNat)) ++ ((⟨#[48, 49, 50, 51, 52, 53, 54, 55, 56, 57]⟩ : ByteArray).extract ((Int.tmod (wrap64 (1 + (wrap64 (Int.tmod (IntKind.u64.wrap (a0)) 9999)))) 10) : Int).toNat ((wrap64 ((Int.tmod (wrap64 (1 + (wrap64 (Int.tmod (IntKind.u64.wrap (a0)) 9999)))) 10) + 1)) : Int).toNat), (⟨#[77, 97, 114]⟩ : ByteArray), (⟨#[83, 117, 110, 62, 61, 56]⟩ : ByteArray), (⟨#[51, 115]⟩ : ByteArray), (⟨#[120]⟩ : ByteArray)] : List ByteArray) : List ByteArray)).bind fun y615 => (if 0 ≤ (wrap64 (3 + (wrap64 (Int.tmod (IntKind.u64.wrap (a1)) 6)))) then (if (wrap64 (3 + (wrap64 (Int.tmod (IntKind.u64.wrap (a1)) 6)))) ≤ (y615.length : Int) then ((zone_Era.f k (y615.take ((wrap64 (3 + (wrap64 (Int.tmod (IntKind.u64.wrap (a1)) 6)))) : Int).toNat)).bind fun bt622 => (if (wrap64 (3 + (wrap64 (Int.tmod (IntKind.u64.wrap (a1)) 6)))) = 8 then (if bt622.2.2.2.2.2.2.2.2.2.2.2.2.2 = 6 then (if (bt622.1 == 0 && (bt622.2.1 == 0 && (bt622.2.2.1 == 0 && (bt622.2.2.2.1.toList == ([] : List UInt8) && (bt622.2.2.2.2.1.toList == ([] : List UInt8) && (!bt622.2.2.2.2.2.1 && (bt622.2.2.2.2.2.2.1 == 0 && (bt622.2.2.2.2.2.2.2.1 == 0 && ((bt622.2.2.2.2.2.2.2.2.1 == 0 && (bt622.2.2.2.2.2.2.2.2.2.1 == 0 && (bt622.2.2.2.2.2.2.2.2.2.2.1 == 0))) && ((bt622.2.2.2.2.2.2.2.2.2.2.2.1 == 0 && (bt622.2.2.2.2.2.2.2.2.2.2.2.2.1 == 0)))))))))))) = true then ((solsticelaw10_wakes.f k).bind fun t637 => (some t637)) else (none)) else (none)) else (if (wrap64 (3 + (wrap64 (Int.tmod (IntKind.u64.wrap (a1)) 6)))) > 3 then (solsticelaw10_ZoneLeft.j0 k (wrap64 (3 + (wrap64 (Int.tmod (IntKind.u64.wrap (a1)) 6)))) bt622.2.2.2.2.2.2.2.2.2.2.2.2.2 bt622.1 bt622.2.1 bt622.2.2.1 bt622.2.2.2.1 bt622.2.2.2.2.1 bt622.2.2.2.2.2.1 bt622.2.2.2.2.2.2.1 bt622.2.2.2.2.2.2.2.1 bt622.2.2.2.2.2.2.2.2.1 bt622.2.2.2.2.2.2.2.2.2.1 bt622.2.2.2.2.2.2.2.2.2.2.1 bt622.2.2.2.2.2.2.2.2.2.2.2.1 bt622.2.2.2.2.2.2.2.2.2.2.2.2.1 7200 1 0 (⟨#[]⟩ : ByteArray) (⟨#[69, 69, 84]⟩ : ByteArray) true (wrap64 (1 + (wrap64 (Int.tmod (IntKind.u64.wrap (a0)) 9999)))) 1 1 0 1 0 1) else (solsticelaw10_ZoneLeft.j0 k (wrap64 (3 + (wrap64 (Int.tmod (IntKind.u64.wrap (a1)) 6)))) bt622.2.2.2.2.2.2.2.2.2.2.2.2.2 bt622.1 bt622.2.1 bt622.2.2.1 bt622.2.2.2.1 bt622.2.2.2.2.1 bt622.2.2.2.2.2.1 bt622.2.2.2.2.2.2.1 bt622.2.2.2.2.2.2.2.1 bt622.2.2.2.2.2.2.2.2.1 bt622.2.2.2.2.2.2.2.2.2.1 bt622.2.2.2.2.2.2.2.2.2.2.1 bt622.2.2.2.2.2.2.2.2.2.2.2.1 bt622.2.2.2.2.2.2.2.2.2.2.2.2.1 7200 1 0 (⟨#[]⟩ : ByteArray) (⟨#[69, 69, 84]⟩ : ByteArray) false 0 0 0 0 0 0 0)))) else (none)) else (none))) else (none)) else (none)) else (none)) else (none)) else (none)) else (none)) else (none)) else (none)) else (none)) else (none)) else (none)) else (none)) else (none)) else (none)) else (none)
set_option maxHeartbeats 8000000 in
set_option maxRecDepth 100000 in
theorem solsticelaw10_ZoneLeft.calls (k : Nat) (a0 : Int) (a1 : Int) (r : Bool) (w : World) (hG : GW w) (h : solsticelaw10_ZoneLeft.f k a0 a1 = some r) :
  Calls Tryz.prog 7 #[.int .i64 a0, .int .i64 a1] w fun e w' => e = .returned (.bool r) ∧ Below w.heap.size w w' := by
 have hu45 := Tryz.underlying45
 have hu23 := Tryz.underlying23
 have hu25 := Tryz.underlying25
 have HG := As.mk hG
 clear hG
 have HB := As.mk (Below.refl w.heap.size w)
 have H := h
 unfold solsticelaw10_ZoneLeft.f at H
 clear h
 obtain ⟨ji3, hji3⟩ : ∃ j_ : Int, (wrap64 (Int.tdiv (wrap64 (1 + (wrap64 (Int.tmod (IntKind.u64.wrap (a0)) 9999)))) 1000)) = j_ := ⟨_, rfl⟩
 rw [hji3] at H
 have hji3w : (IntKind.i64.wrap (Int.tdiv (wrap64 (1 + (wrap64 (Int.tmod (IntKind.u64.wrap (a0)) 9999)))) 1000)) = ji3 := (i64_w _).trans hji3
 by_cases c4 : 0 ≤ (ji3)
 ·rw [if_pos c4] at H
  have c4b0 := eq_true c4
  have c4b1 : decide (0 ≤ (ji3)) = true := decide_eq_true c4
  clear c4
  by_cases c5 : (ji3) ≤ (wrap64 ((ji3) + 1))
  ·rw [if_pos c5] at H
   have c5b0 := eq_true c5
   have c5b1 : decide ((ji3) ≤ (wrap64 ((ji3) + 1))) = true := decide_eq_true c5
   by_cases c6 : (wrap64 ((ji3) + 1)) ≤ 10
   ·rw [if_pos c6] at H
    have c6b0 := eq_true c6
    have c6b1 : decide ((wrap64 ((ji3) + 1)) ≤ 10) = true := decide_eq_true c6
    obtain ⟨ji7, hji7⟩ : ∃ j_ : Int, (Int.tmod (wrap64 (Int.tdiv (wrap64 (1 + (wrap64 (Int.tmod (IntKind.u64.wrap (a0)) 9999)))) 100)) 10) = j_ := ⟨_, rfl⟩
    rw [hji7] at H
    by_cases c8 : 0 ≤ (ji7)
    ·rw [if_pos c8] at H
     have c8b0 := eq_true c8
     have c8b1 : decide (0 ≤ (ji7)) = true := decide_eq_true c8
     clear c8
     by_cases c9 : (ji7) ≤ (wrap64 ((ji7) + 1))
     ·rw [if_pos c9] at H
      have c9b0 := eq_true c9
      have c9b1 : decide ((ji7) ≤ (wrap64 ((ji7) + 1))) = true := decide_eq_true c9
      by_cases c10 : (wrap64 ((ji7) + 1)) ≤ 10
      ·rw [if_pos c10] at H
       have c10b0 := eq_true c10
       have c10b1 : decide ((wrap64 ((ji7) + 1)) ≤ 10) = true := decide_eq_true c10
       by_cases c11 : ((⟨#[48, 49, 50, 51, 52, 53, 54, 55, 56, 57]⟩ : ByteArray).extract ((ji3) : Int).toNat ((wrap64 ((ji3) + 1)) : Int).toNat).size + ((⟨#[48, 49, 50, 51, 52, 53, 54, 55, 56, 57]⟩ : ByteArray).extract ((ji7) : Int).toNat ((wrap64 ((ji7) + 1)) : Int).toNat).size ≤ 9223372036854775807
       ·rw [if_pos c11] at H
        have c11b0 := eq_true c11
        have c11b1 : decide (((⟨#[48, 49, 50, 51, 52, 53, 54, 55, 56, 57]⟩ : ByteArray).extract ((ji3) : Int).toNat ((wrap64 ((ji3) + 1)) : Int).toNat).size + ((⟨#[48, 49, 50, 51, 52, 53, 54, 55, 56, 57]⟩ : ByteArray).extract ((ji7) : Int).toNat ((wrap64 ((ji7) + 1)) : Int).toNat).size ≤ 9223372036854775807) = true := decide_eq_true c11
        try have c11b2 : (9223372036854775807 < ((⟨#[48, 49, 50, 51, 52, 53, 54, 55, 56, 57]⟩ : ByteArray).extract ((ji3) : Int).toNat ((wrap64 ((ji3) + 1)) : Int).toNat).size + ((⟨#[48, 49, 50, 51, 52, 53, 54, 55, 56, 57]⟩ : ByteArray).extract ((ji7) : Int).toNat ((wrap64 ((ji7) + 1)) : Int).toNat).size) = False := eq_false (Nat.not_lt.2 c11)
        try (have c11b3 := c11b2; simp only [ByteArray.size_extract, Nat.sub_zero] at c11b3)
        try (have c11b4 : (9223372036854775807 < ((⟨#[48, 49, 50, 51, 52, 53, 54, 55, 56, 57]⟩ : ByteArray).extract ((ji3) : Int).toNat ((wrap64 ((ji3) + 1)) : Int).toNat).size + (((⟨#[48, 49, 50, 51, 52, 53, 54, 55, 56, 57]⟩ : ByteArray).extract ((ji7) : Int).toNat ((wrap64 ((ji7) + 1)) : Int).toNat).size)) = False := (by have h_ := c11b2; simp only [ByteArray.size_append, ByteArray.size_extract, Nat.sub_zero] at h_; exact h_))
        obtain ⟨ji12, hji12⟩ : ∃ j_ : Int, (Int.tmod (wrap64 (Int.tdiv (wrap64 (1 + (wrap64 (Int.tmod (IntKind.u64.wrap (a0)) 9999)))) 10)) 10) = j_ := ⟨_, rfl⟩
        rw [hji12] at H
        by_cases c13 : 0 ≤ (ji12)
        ·rw [if_pos c13] at H
         have c13b0 := eq_true c13
         have c13b1 : decide (0 ≤ (ji12)) = true := decide_eq_true c13
         clear c13
         by_cases c14 : (ji12) ≤ (wrap64 ((ji12) + 1))
         ·rw [if_pos c14] at H
          have c14b0 := eq_true c14
          have c14b1 : decide ((ji12) ≤ (wrap64 ((ji12) + 1))) = true := decide_eq_true c14
          by_cases c15 : (wrap64 ((ji12) + 1)) ≤ 10
          ·rw [if_pos c15] at H
           have c15b0 := eq_true c15
           have c15b1 : decide ((wrap64 ((ji12) + 1)) ≤ 10) = true := decide_eq_true c15
           by_cases c16 : (((⟨#[48, 49, 50, 51, 52, 53, 54, 55, 56, 57]⟩ : ByteArray).extract ((ji3) : Int).toNat ((wrap64 ((ji3) + 1)) : Int).toNat) ++ ((⟨#[48, 49, 50, 51, 52, 53, 54, 55, 56, 57]⟩ : ByteArray).extract ((ji7) : Int).toNat ((wrap64 ((ji7) + 1)) : Int).toNat)).size + ((⟨#[48, 49, 50, 51, 52, 53, 54, 55, 56, 57]⟩ : ByteArray).extract ((ji12) : Int).toNat ((wrap64 ((ji12) + 1)) : Int).toNat).size ≤ 9223372036854775807
           ·rw [if_pos c16] at H
            have c16b0 := eq_true c16
            have c16b1 : decide ((((⟨#[48, 49, 50, 51, 52, 53, 54, 55, 56, 57]⟩ : ByteArray).extract ((ji3) : Int).toNat ((wrap64 ((ji3) + 1)) : Int).toNat) ++ ((⟨#[48, 49, 50, 51, 52, 53, 54, 55, 56, 57]⟩ : ByteArray).extract ((ji7) : Int).toNat ((wrap64 ((ji7) + 1)) : Int).toNat)).size + ((⟨#[48, 49, 50, 51, 52, 53, 54, 55, 56, 57]⟩ : ByteArray).extract ((ji12) : Int).toNat ((wrap64 ((ji12) + 1)) : Int).toNat).size ≤ 9223372036854775807) = true := decide_eq_true c16
            try have c16b2 : (9223372036854775807 < (((⟨#[48, 49, 50, 51, 52, 53, 54, 55, 56, 57]⟩ : ByteArray).extract ((ji3) : Int).toNat ((wrap64 ((ji3) + 1)) : Int).toNat) ++ ((⟨#[48, 49, 50, 51, 52, 53, 54, 55, 56, 57]⟩ : ByteArray).extract ((ji7) : Int).toNat ((wrap64 ((ji7) + 1)) : Int).toNat)).size + ((⟨#[48, 49, 50, 51, 52, 53, 54, 55, 56, 57]⟩ : ByteArray).extract ((ji12) : Int).toNat ((wrap64 ((ji12) + 1)) : Int).toNat).size) = False := eq_false (Nat.not_lt.2 c16)
            try (have c16b3 := c16b2; simp only [ByteArray.size_extract, Nat.sub_zero] at c16b3)
            try (have c16b4 : (9223372036854775807 < ((⟨#[48, 49, 50, 51, 52, 53, 54, 55, 56, 57]⟩ : ByteArray).extract ((ji3) : Int).toNat ((wrap64 ((ji3) + 1)) : Int).toNat).size + ((⟨#[48, 49, 50, 51, 52, 53, 54, 55, 56, 57]⟩ : ByteArray).extract ((ji7) : Int).toNat ((wrap64 ((ji7) + 1)) : Int).toNat).size + (((⟨#[48, 49, 50, 51, 52, 53, 54, 55, 56, 57]⟩ : ByteArray).extract ((ji12) : Int).toNat ((wrap64 ((ji12) + 1)) : Int).toNat).size)) = False := (by have h_ := c16b2; simp only [ByteArray.size_append, ByteArray.size_extract, Nat.sub_zero] at h_; exact h_))
            obtain ⟨ji17, hji17⟩ : ∃ j_ : Int, (Int.tmod (wrap64 (1 + (wrap64 (Int.tmod (IntKind.u64.wrap (a0)) 9999)))) 10) = j_ := ⟨_, rfl⟩
            rw [hji17] at H
            by_cases c18 : 0 ≤ (ji17)
            ·rw [if_pos c18] at H
             have c18b0 := eq_true c18
             have c18b1 : decide (0 ≤ (ji17)) = true := decide_eq_true c18
             clear c18
             by_cases c19 : (ji17) ≤ (wrap64 ((ji17) + 1))
             ·rw [if_pos c19] at H
              have c19b0 := eq_true c19
              have c19b1 : decide ((ji17) ≤ (wrap64 ((ji17) + 1))) = true := decide_eq_true c19
              by_cases c20 : (wrap64 ((ji17) + 1)) ≤ 10
              ·rw [if_pos c20] at H
               have c20b0 := eq_true c20
               have c20b1 : decide ((wrap64 ((ji17) + 1)) ≤ 10) = true := decide_eq_true c20
               by_cases c21 : ((((⟨#[48, 49, 50, 51, 52, 53, 54, 55, 56, 57]⟩ : ByteArray).extract ((ji3) : Int).toNat ((wrap64 ((ji3) + 1)) : Int).toNat) ++ ((⟨#[48, 49, 50, 51, 52, 53, 54, 55, 56, 57]⟩ : ByteArray).extract ((ji7) : Int).toNat ((wrap64 ((ji7) + 1)) : Int).toNat)) ++ ((⟨#[48, 49, 50, 51, 52, 53, 54, 55, 56, 57]⟩ : ByteArray).extract ((ji12) : Int).toNat ((wrap64 ((ji12) + 1)) : Int).toNat)).size + ((⟨#[48, 49, 50, 51, 52, 53, 54, 55, 56, 57]⟩ : ByteArray).extract ((ji17) : Int).toNat ((wrap64 ((ji17) + 1)) : Int).toNat).size ≤ 9223372036854775807
               ·rw [if_pos c21] at H
                have c21b0 := eq_true c21
                have c21b1 : decide (((((⟨#[48, 49, 50, 51, 52, 53, 54, 55, 56, 57]⟩ : ByteArray).extract ((ji3) : Int).toNat ((wrap64 ((ji3) + 1)) : Int).toNat) ++ ((⟨#[48, 49, 50, 51, 52, 53, 54, 55, 56, 57]⟩ : ByteArray).extract ((ji7) : Int).toNat ((wrap64 ((ji7) + 1)) : Int).toNat)) ++ ((⟨#[48, 49, 50, 51, 52, 53, 54, 55, 56, 57]⟩ : ByteArray).extract ((ji12) : Int).toNat ((wrap64 ((ji12) + 1)) : Int).toNat)).size + ((⟨#[48, 49, 50, 51, 52, 53, 54, 55, 56, 57]⟩ : ByteArray).extract ((ji17) : Int).toNat ((wrap64 ((ji17) + 1)) : Int).toNat).size ≤ 9223372036854775807) = true := decide_eq_true c21
                try have c21b2 : (9223372036854775807 < ((((⟨#[48, 49, 50, 51, 52, 53, 54, 55, 56, 57]⟩ : ByteArray).extract ((ji3) : Int).toNat ((wrap64 ((ji3) + 1)) : Int).toNat) ++ ((⟨#[48, 49, 50, 51, 52, 53, 54, 55, 56, 57]⟩ : ByteArray).extract ((ji7) : Int).toNat ((wrap64 ((ji7) + 1)) : Int).toNat)) ++ ((⟨#[48, 49, 50, 51, 52, 53, 54, 55, 56, 57]⟩ : ByteArray).extract ((ji12) : Int).toNat ((wrap64 ((ji12) + 1)) : Int).toNat)).size + ((⟨#[48, 49, 50, 51, 52, 53, 54, 55, 56, 57]⟩ : ByteArray).extract ((ji17) : Int).toNat ((wrap64 ((ji17) + 1)) : Int).toNat).size) = False := eq_false (Nat.not_lt.2 c21)
                try (have c21b3 := c21b2; simp only [ByteArray.size_extract, Nat.sub_zero] at c21b3)
                try (have c21b4 : (9223372036854775807 < ((⟨#[48, 49, 50, 51, 52, 53, 54, 55, 56, 57]⟩ : ByteArray).extract ((ji3) : Int).toNat ((wrap64 ((ji3) + 1)) : Int).toNat).size + ((⟨#[48, 49, 50, 51, 52, 53, 54, 55, 56, 57]⟩ : ByteArray).extract ((ji7) : Int).toNat ((wrap64 ((ji7) + 1)) : Int).toNat).size + ((⟨#[48, 49, 50, 51, 52, 53, 54, 55, 56, 57]⟩ : ByteArray).extract ((ji12) : Int).toNat ((wrap64 ((ji12) + 1)) : Int).toNat).size + (((⟨#[48, 49, 50, 51, 52, 53, 54, 55, 56, 57]⟩ : ByteArray).extract ((ji17) : Int).toNat ((wrap64 ((ji17) + 1)) : Int).toNat).size)) = False := (by have h_ := c21b2; simp only [ByteArray.size_append, ByteArray.size_extract, Nat.sub_zero] at h_; exact h_))
                obtain ⟨y615, hy615⟩ : ∃ y_ : List ByteArray, y_ = (([(⟨#[50, 58, 48, 48]⟩ : ByteArray), (⟨#[45]⟩ : ByteArray), (⟨#[69, 69, 84]⟩ : ByteArray), ((((⟨#[48, 49, 50, 51, 52, 53, 54, 55, 56, 57]⟩ : ByteArray).extract ((ji3) : Int).toNat ((wrap64 ((ji3) + 1)) : Int).toNat) ++ ((⟨#[48, 49, 50, 51, 52, 53, 54, 55, 56, 57]⟩ : ByteArray).extract ((ji7) : Int).toNat ((wrap64 ((ji7) + 1)) : Int).toNat)) ++ ((⟨#[48, 49, 50, 51, 52, 53, 54, 55, 56, 57]⟩ : ByteArray).extract ((ji12) : Int).toNat ((wrap64 ((ji12) + 1)) : Int).toNat)) ++ ((⟨#[48, 49, 50, 51, 52, 53, 54, 55, 56, 57]⟩ : ByteArray).extract ((ji17) : Int).toNat ((wrap64 ((ji17) + 1)) : Int).toNat), (⟨#[77, 97, 114]⟩ : ByteArray), (⟨#[83, 117, 110, 62, 61, 56]⟩ : ByteArray), (⟨#[51, 115]⟩ : ByteArray), (⟨#[120]⟩ : ByteArray)] : List ByteArray)) := ⟨_, rfl⟩
                replace H : (if 0 ≤ (wrap64 (3 + (wrap64 (Int.tmod (IntKind.u64.wrap (a1)) 6)))) then (if (wrap64 (3 + (wrap64 (Int.tmod (IntKind.u64.wrap (a1)) 6)))) ≤ (y615.length : Int) then ((zone_Era.f k (y615.take ((wrap64 (3 + (wrap64 (Int.tmod (IntKind.u64.wrap (a1)) 6)))) : Int).toNat)).bind fun bt622 => (if (wrap64 (3 + (wrap64 (Int.tmod (IntKind.u64.wrap (a1)) 6)))) = 8 then (if bt622.2.2.2.2.2.2.2.2.2.2.2.2.2 = 6 then (if (bt622.1 == 0 && (bt622.2.1 == 0 && (bt622.2.2.1 == 0 && (bt622.2.2.2.1.toList == ([] : List UInt8) && (bt622.2.2.2.2.1.toList == ([] : List UInt8) && (!bt622.2.2.2.2.2.1 && (bt622.2.2.2.2.2.2.1 == 0 && (bt622.2.2.2.2.2.2.2.1 == 0 && ((bt622.2.2.2.2.2.2.2.2.1 == 0 && (bt622.2.2.2.2.2.2.2.2.2.1 == 0 && (bt622.2.2.2.2.2.2.2.2.2.2.1 == 0))) && ((bt622.2.2.2.2.2.2.2.2.2.2.2.1 == 0 && (bt622.2.2.2.2.2.2.2.2.2.2.2.2.1 == 0)))))))))))) = true then ((solsticelaw10_wakes.f k).bind fun t637 => (some t637)) else (none)) else (none)) else (if (wrap64 (3 + (wrap64 (Int.tmod (IntKind.u64.wrap (a1)) 6)))) > 3 then (solsticelaw10_ZoneLeft.j0 k (wrap64 (3 + (wrap64 (Int.tmod (IntKind.u64.wrap (a1)) 6)))) bt622.2.2.2.2.2.2.2.2.2.2.2.2.2 bt622.1 bt622.2.1 bt622.2.2.1 bt622.2.2.2.1 bt622.2.2.2.2.1 bt622.2.2.2.2.2.1 bt622.2.2.2.2.2.2.1 bt622.2.2.2.2.2.2.2.1 bt622.2.2.2.2.2.2.2.2.1 bt622.2.2.2.2.2.2.2.2.2.1 bt622.2.2.2.2.2.2.2.2.2.2.1 bt622.2.2.2.2.2.2.2.2.2.2.2.1 bt622.2.2.2.2.2.2.2.2.2.2.2.2.1 7200 1 0 (⟨#[]⟩ : ByteArray) (⟨#[69, 69, 84]⟩ : ByteArray) true (wrap64 (1 + (wrap64 (Int.tmod (IntKind.u64.wrap (a0)) 9999)))) 1 1 0 1 0 1) else (solsticelaw10_ZoneLeft.j0 k (wrap64 (3 + (wrap64 (Int.tmod (IntKind.u64.wrap (a1)) 6)))) bt622.2.2.2.2.2.2.2.2.2.2.2.2.2 bt622.1 bt622.2.1 bt622.2.2.1 bt622.2.2.2.1 bt622.2.2.2.2.1 bt622.2.2.2.2.2.1 bt622.2.2.2.2.2.2.1 bt622.2.2.2.2.2.2.2.1 bt622.2.2.2.2.2.2.2.2.1 bt622.2.2.2.2.2.2.2.2.2.1 bt622.2.2.2.2.2.2.2.2.2.2.1 bt622.2.2.2.2.2.2.2.2.2.2.2.1 bt622.2.2.2.2.2.2.2.2.2.2.2.2.1 7200 1 0 (⟨#[]⟩ : ByteArray) (⟨#[69, 69, 84]⟩ : ByteArray) false 0 0 0 0 0 0 0)))) else (none)) else (none)) = some r := by first | (rw [hy615]; with_reducible exact H) | (have H2_ := (Option.bind_some _ _).symm.trans H; rw [hy615]; with_reducible exact H2_) | (have H2_ := (Option.bind_some _ _).symm.trans H; with_reducible exact H2_) | with_reducible exact H | (rw [hy615]; exact H) | exact H
                have Ny615 := As.mk hy615
                clear hy615
                obtain ⟨ji22, hji22⟩ : ∃ j_ : Int, (wrap64 (3 + (wrap64 (Int.tmod (IntKind.u64.wrap (a1)) 6)))) = j_ := ⟨_, rfl⟩
                rw [hji22] at H
                have hji22w : (IntKind.i64.wrap (3 + (wrap64 (Int.tmod (IntKind.u64.wrap (a1)) 6)))) = ji22 := (i64_w _).trans hji22
                by_cases c23 : 0 ≤ (ji22)
                ·rw [if_pos c23] at H
                 have c23b0 := eq_true c23
                 have c23b1 : decide (0 ≤ (ji22)) = true := decide_eq_true c23
                 clear c23
                 by_cases c24 : (ji22) ≤ (y615.length : Int)
                 ·rw [if_pos c24] at H
                  have c24b0 := eq_true c24
                  have c24b1 : decide ((ji22) ≤ (y615.length : Int)) = true := decide_eq_true c24
                  clear c24
                  obtain ⟨y618, hy618⟩ : ∃ y_ : List ByteArray, y_ = (y615.take ((ji22) : Int).toNat) := ⟨_, rfl⟩
                  replace H : ((zone_Era.f k y618).bind fun bt622 => (if (ji22) = 8 then (if bt622.2.2.2.2.2.2.2.2.2.2.2.2.2 = 6 then (if (bt622.1 == 0 && (bt622.2.1 == 0 && (bt622.2.2.1 == 0 && (bt622.2.2.2.1.toList == ([] : List UInt8) && (bt622.2.2.2.2.1.toList == ([] : List UInt8) && (!bt622.2.2.2.2.2.1 && (bt622.2.2.2.2.2.2.1 == 0 && (bt622.2.2.2.2.2.2.2.1 == 0 && ((bt622.2.2.2.2.2.2.2.2.1 == 0 && (bt622.2.2.2.2.2.2.2.2.2.1 == 0 && (bt622.2.2.2.2.2.2.2.2.2.2.1 == 0))) && ((bt622.2.2.2.2.2.2.2.2.2.2.2.1 == 0 && (bt622.2.2.2.2.2.2.2.2.2.2.2.2.1 == 0)))))))))))) = true then ((solsticelaw10_wakes.f k).bind fun t637 => (some t637)) else (none)) else (none)) else (if (ji22) > 3 then (solsticelaw10_ZoneLeft.j0 k ji22 bt622.2.2.2.2.2.2.2.2.2.2.2.2.2 bt622.1 bt622.2.1 bt622.2.2.1 bt622.2.2.2.1 bt622.2.2.2.2.1 bt622.2.2.2.2.2.1 bt622.2.2.2.2.2.2.1 bt622.2.2.2.2.2.2.2.1 bt622.2.2.2.2.2.2.2.2.1 bt622.2.2.2.2.2.2.2.2.2.1 bt622.2.2.2.2.2.2.2.2.2.2.1 bt622.2.2.2.2.2.2.2.2.2.2.2.1 bt622.2.2.2.2.2.2.2.2.2.2.2.2.1 7200 1 0 (⟨#[]⟩ : ByteArray) (⟨#[69, 69, 84]⟩ : ByteArray) true (wrap64 (1 + (wrap64 (Int.tmod (IntKind.u64.wrap (a0)) 9999)))) 1 1 0 1 0 1) else (solsticelaw10_ZoneLeft.j0 k ji22 bt622.2.2.2.2.2.2.2.2.2.2.2.2.2 bt622.1 bt622.2.1 bt622.2.2.1 bt622.2.2.2.1 bt622.2.2.2.2.1 bt622.2.2.2.2.2.1 bt622.2.2.2.2.2.2.1 bt622.2.2.2.2.2.2.2.1 bt622.2.2.2.2.2.2.2.2.1 bt622.2.2.2.2.2.2.2.2.2.1 bt622.2.2.2.2.2.2.2.2.2.2.1 bt622.2.2.2.2.2.2.2.2.2.2.2.1 bt622.2.2.2.2.2.2.2.2.2.2.2.2.1 7200 1 0 (⟨#[]⟩ : ByteArray) (⟨#[69, 69, 84]⟩ : ByteArray) false 0 0 0 0 0 0 0)))) = some r := by first | (rw [hy618]; with_reducible exact H) | (have H2_ := (Option.bind_some _ _).symm.trans H; rw [hy618]; with_reducible exact H2_) | (have H2_ := (Option.bind_some _ _).symm.trans H; with_reducible exact H2_) | with_reducible exact H | (rw [hy618]; exact H) | exact H
                  have Ny618 := As.mk hy618
                  clear hy618
                  replace H := Option.bind_eq_some_iff.mp H
                  obtain ⟨⟨t622, t623, t624, t625, t626, t627, t628, t629, t630, t631, t632, t633, t634, t635⟩, A250, H⟩ := H
                  (try dsimp only at H)
                  have A25 := As.mk A250
                  clear A250
                  by_cases c26 : (ji22) = 8
                  ·rw [if_pos c26] at H
                   have c26b0 : ((ji22) == 8) = true := beq_iff_eq.mpr c26
                   have c26b1 : ((ji22) != 8) = false := bne_eq_false_iff_eq.mpr c26
                   clear c26
                   by_cases c27 : t635 = 6
                   ·rw [if_pos c27] at H
                    have c27b0 : (t635 == 6) = true := beq_iff_eq.mpr c27
                    have c27b1 : (t635 != 6) = false := bne_eq_false_iff_eq.mpr c27
                    clear c27
                    by_cases c28 : (t622 == 0 && (t623 == 0 && (t624 == 0 && (t625.toList == ([] : List UInt8) && (t626.toList == ([] : List UInt8) && (!t627 && (t628 == 0 && (t629 == 0 && ((t630 == 0 && (t631 == 0 && (t632 == 0))) && ((t633 == 0 && (t634 == 0)))))))))))) = true
                    ·rw [if_pos c28] at H
                     have c28b0 : (t622 == 0 && (t623 == 0 && (t624 == 0 && (t625.toList == ([] : List UInt8) && (t626.toList == ([] : List UInt8) && (!t627 && (t628 == 0 && (t629 == 0 && ((t630 == 0 && (t631 == 0 && (t632 == 0))) && ((t633 == 0 && (t634 == 0)))))))))))) = true := c28
                     (try (have c28b1 : decide (t622 = 0 && (t623 == 0 && (t624 == 0 && (t625.toList == ([] : List UInt8) && (t626.toList == ([] : List UInt8) && (!t627 && (t628 == 0 && (t629 == 0 && ((t630 == 0 && (t631 == 0 && (t632 == 0))) && ((t633 == 0 && (t634 == 0)))))))))))) = true := by simpa using c28))
                     (try (have c28b2 : (t622 == 0 && (t623 == 0 && (t624 == 0 && (t625.toList == ([] : List UInt8) && (t626.toList == ([] : List UInt8) && (!t627 && (t628 == 0 && (t629 == 0 && ((t630 == 0 && (t631 == 0 && (t632 == 0))) && ((t633 == 0 && (t634 == 0)))))))))))) = true := by simpa using c28))
                     clear c28
                     replace H := Option.bind_eq_some_iff.mp H
                     obtain ⟨t637, A290, H⟩ := H
                     (try dsimp only at H)
                     have A29 := As.mk A290
                     clear A290
                     obtain rfl := Option.some.inj H
                     go_enter Tryz.func7, Tryz.ntmps7
                     go_wp2_with (first | ((with_reducible refine gD (N := 57) rfl ?_); refine Kd.R_lit Kd.string _ 9 ?hg (N := 57) ?hd (xs := ([(⟨#[50, 58, 48, 48]⟩ : ByteArray), (⟨#[45]⟩ : ByteArray), (⟨#[69, 69, 84]⟩ : ByteArray), ((((⟨#[48, 49, 50, 51, 52, 53, 54, 55, 56, 57]⟩ : ByteArray).extract ((ji3) : Int).toNat ((wrap64 ((ji3) + 1)) : Int).toNat) ++ ((⟨#[48, 49, 50, 51, 52, 53, 54, 55, 56, 57]⟩ : ByteArray).extract ((ji7) : Int).toNat ((wrap64 ((ji7) + 1)) : Int).toNat)) ++ ((⟨#[48, 49, 50, 51, 52, 53, 54, 55, 56, 57]⟩ : ByteArray).extract ((ji12) : Int).toNat ((wrap64 ((ji12) + 1)) : Int).toNat)) ++ ((⟨#[48, 49, 50, 51, 52, 53, 54, 55, 56, 57]⟩ : ByteArray).extract ((ji17) : Int).toNat ((wrap64 ((ji17) + 1)) : Int).toNat), (⟨#[77, 97, 114]⟩ : ByteArray), (⟨#[83, 117, 110, 62, 61, 56]⟩ : ByteArray), (⟨#[51, 115]⟩ : ByteArray), (⟨#[120]⟩ : ByteArray)] : List ByteArray)) (inner := [.string (⟨#[50, 58, 48, 48]⟩ : ByteArray), .string (⟨#[45]⟩ : ByteArray), .string (⟨#[69, 69, 84]⟩ : ByteArray), .string (((((⟨#[48, 49, 50, 51, 52, 53, 54, 55, 56, 57]⟩ : ByteArray).extract ((ji3) : Int).toNat ((wrap64 ((ji3) + 1)) : Int).toNat) ++ ((⟨#[48, 49, 50, 51, 52, 53, 54, 55, 56, 57]⟩ : ByteArray).extract ((ji7) : Int).toNat ((wrap64 ((ji7) + 1)) : Int).toNat)) ++ ((⟨#[48, 49, 50, 51, 52, 53, 54, 55, 56, 57]⟩ : ByteArray).extract ((ji12) : Int).toNat ((wrap64 ((ji12) + 1)) : Int).toNat)) ++ ((⟨#[48, 49, 50, 51, 52, 53, 54, 55, 56, 57]⟩ : ByteArray).extract ((ji17) : Int).toNat ((wrap64 ((ji17) + 1)) : Int).toNat)), .string (⟨#[77, 97, 114]⟩ : ByteArray), .string (⟨#[83, 117, 110, 62, 61, 56]⟩ : ByteArray), .string (⟨#[51, 115]⟩ : ByteArray), .string (⟨#[120]⟩ : ByteArray)]) (ok := fun _ => True) (okp := fun _ => True) ?hr ?hp (fun _ hk => hk) trivial (Below.refl _ _) (Nat.le_refl _) (by simp) ?_; (case hd => rfl); (case hg => rfl); (case hr => first | (go_simp; done) | (go_simp; rfl)); (case hp => exact (Reps.one (show Kd.M Kd.string _ _ _ (⟨#[50, 58, 48, 48]⟩ : ByteArray) [.string (⟨#[50, 58, 48, 48]⟩ : ByteArray)] from rfl) (Reps.one (show Kd.M Kd.string _ _ _ (⟨#[45]⟩ : ByteArray) [.string (⟨#[45]⟩ : ByteArray)] from rfl) (Reps.one (show Kd.M Kd.string _ _ _ (⟨#[69, 69, 84]⟩ : ByteArray) [.string (⟨#[69, 69, 84]⟩ : ByteArray)] from rfl) (Reps.one (show Kd.M Kd.string _ _ _ (((((⟨#[48, 49, 50, 51, 52, 53, 54, 55, 56, 57]⟩ : ByteArray).extract ((ji3) : Int).toNat ((wrap64 ((ji3) + 1)) : Int).toNat) ++ ((⟨#[48, 49, 50, 51, 52, 53, 54, 55, 56, 57]⟩ : ByteArray).extract ((ji7) : Int).toNat ((wrap64 ((ji7) + 1)) : Int).toNat)) ++ ((⟨#[48, 49, 50, 51, 52, 53, 54, 55, 56, 57]⟩ : ByteArray).extract ((ji12) : Int).toNat ((wrap64 ((ji12) + 1)) : Int).toNat)) ++ ((⟨#[48, 49, 50, 51, 52, 53, 54, 55, 56, 57]⟩ : ByteArray).extract ((ji17) : Int).toNat ((wrap64 ((ji17) + 1)) : Int).toNat)) [.string (((((⟨#[48, 49, 50, 51, 52, 53, 54, 55, 56, 57]⟩ : ByteArray).extract ((ji3) : Int).toNat ((wrap64 ((ji3) + 1)) : Int).toNat) ++ ((⟨#[48, 49, 50, 51, 52, 53, 54, 55, 56, 57]⟩ : ByteArray).extract ((ji7) : Int).toNat ((wrap64 ((ji7) + 1)) : Int).toNat)) ++ ((⟨#[48, 49, 50, 51, 52, 53, 54, 55, 56, 57]⟩ : ByteArray).extract ((ji12) : Int).toNat ((wrap64 ((ji12) + 1)) : Int).toNat)) ++ ((⟨#[48, 49, 50, 51, 52, 53, 54, 55, 56, 57]⟩ : ByteArray).extract ((ji17) : Int).toNat ((wrap64 ((ji17) + 1)) : Int).toNat))] from rfl) (Reps.one (show Kd.M Kd.string _ _ _ (⟨#[77, 97, 114]⟩ : ByteArray) [.string (⟨#[77, 97, 114]⟩ : ByteArray)] from rfl) (Reps.one (show Kd.M Kd.string _ _ _ (⟨#[83, 117, 110, 62, 61, 56]⟩ : ByteArray) [.string (⟨#[83, 117, 110, 62, 61, 56]⟩ : ByteArray)] from rfl) (Reps.one (show Kd.M Kd.string _ _ _ (⟨#[51, 115]⟩ : ByteArray) [.string (⟨#[51, 115]⟩ : ByteArray)] from rfl) (Reps.one (show Kd.M Kd.string _ _ _ (⟨#[120]⟩ : ByteArray) [.string (⟨#[120]⟩ : ByteArray)] from rfl) (Reps.none _ _)))))))))); intro v616 w30 ho31 hb hg_ hnew_; clear hg_ hnew_; (first | rw [← Ny615.out] at ho31 | (simp only [Int.reduceToNat] at ho31; rw [← Ny615.out] at ho31)); have n0_ := As.mk (Kd.R_lower ho31 (bZ (by repeat (first | (with_reducible first | exact HB.out | apply bA | apply bN | apply bD) | exact HB.out)))); have n1_ := As.mk (bT (by repeat (first | (with_reducible first | exact HB.out | apply bA | apply bN | apply bD) | exact HB.out)) hb); clear HB; have HO617 := n0_; have HB := n1_; clear n0_ n1_; clear hb ho31; obtain ⟨Ao33, co33, eo33⟩ := Kd.R_slice HO617.out; subst eo33; have q32 : ((ji22) : Int) ≤ ((y615.length : Int) : Int) := of_decide_eq_true (by first | (with_reducible assumption) | assumption); obtain ⟨i032, hi032, _, hsz32, _⟩ := info_parts info9; have hroom32 : y615.length ≤ co33 := (Kd.R_reads' HO617.out).2.1; have hC32 : Kd.C Kd.string _ Ao33 y615.length y615 := (Kd.R_reads' HO617.out).2.2; have hcut32 := cut_to (P := Tryz.prog) 32 9 .i64 Tryz.underlying32 hi032 Ao33 y615.length co33 (ji22) (of_decide_eq_true (by first | (with_reducible assumption) | assumption)) q32 hroom32; have hr32 := Kd.C_take (m := ((ji22) : Int).toNat) hC32 (by omega); have hy32 : y618.length = ((ji22) : Int).toNat := (by rw [Ny618.out, List.length_take]; omega); rw [← Ny618.out] at hr32; rw [← hy32] at hcut32; have HR621 := As.mk hr32; have HC621 := As.mk (show y618.length ≤ co33 from by omega); clear hr32 hC32 hroom32 hi032 hsz32; have KY32 := As.mk hy32; clear hy32; have KL32 := As.mk (show ((ji22) : Int).toNat ≤ y615.length from by omega); replace q32 := eq_true q32))
                     repeat (go_quiet (first | fail); try go_wp2_with (first | ((with_reducible refine gD (N := 57) rfl ?_); refine Kd.R_lit Kd.string _ 9 ?hg (N := 57) ?hd (xs := ([(⟨#[50, 58, 48, 48]⟩ : ByteArray), (⟨#[45]⟩ : ByteArray), (⟨#[69, 69, 84]⟩ : ByteArray), ((((⟨#[48, 49, 50, 51, 52, 53, 54, 55, 56, 57]⟩ : ByteArray).extract ((ji3) : Int).toNat ((wrap64 ((ji3) + 1)) : Int).toNat) ++ ((⟨#[48, 49, 50, 51, 52, 53, 54, 55, 56, 57]⟩ : ByteArray).extract ((ji7) : Int).toNat ((wrap64 ((ji7) + 1)) : Int).toNat)) ++ ((⟨#[48, 49, 50, 51, 52, 53, 54, 55, 56, 57]⟩ : ByteArray).extract ((ji12) : Int).toNat ((wrap64 ((ji12) + 1)) : Int).toNat)) ++ ((⟨#[48, 49, 50, 51, 52, 53, 54, 55, 56, 57]⟩ : ByteArray).extract ((ji17) : Int).toNat ((wrap64 ((ji17) + 1)) : Int).toNat), (⟨#[77, 97, 114]⟩ : ByteArray), (⟨#[83, 117, 110, 62, 61, 56]⟩ : ByteArray), (⟨#[51, 115]⟩ : ByteArray), (⟨#[120]⟩ : ByteArray)] : List ByteArray)) (inner := [.string (⟨#[50, 58, 48, 48]⟩ : ByteArray), .string (⟨#[45]⟩ : ByteArray), .string (⟨#[69, 69, 84]⟩ : ByteArray), .string (((((⟨#[48, 49, 50, 51, 52, 53, 54, 55, 56, 57]⟩ : ByteArray).extract ((ji3) : Int).toNat ((wrap64 ((ji3) + 1)) : Int).toNat) ++ ((⟨#[48, 49, 50, 51, 52, 53, 54, 55, 56, 57]⟩ : ByteArray).extract ((ji7) : Int).toNat ((wrap64 ((ji7) + 1)) : Int).toNat)) ++ ((⟨#[48, 49, 50, 51, 52, 53, 54, 55, 56, 57]⟩ : ByteArray).extract ((ji12) : Int).toNat ((wrap64 ((ji12) + 1)) : Int).toNat)) ++ ((⟨#[48, 49, 50, 51, 52, 53, 54, 55, 56, 57]⟩ : ByteArray).extract ((ji17) : Int).toNat ((wrap64 ((ji17) + 1)) : Int).toNat)), .string (⟨#[77, 97, 114]⟩ : ByteArray), .string (⟨#[83, 117, 110, 62, 61, 56]⟩ : ByteArray), .string (⟨#[51, 115]⟩ : ByteArray), .string (⟨#[120]⟩ : ByteArray)]) (ok := fun _ => True) (okp := fun _ => True) ?hr ?hp (fun _ hk => hk) trivial (Below.refl _ _) (Nat.le_refl _) (by simp) ?_; (case hd => rfl); (case hg => rfl); (case hr => first | (go_simp; done) | (go_simp; rfl)); (case hp => exact (Reps.one (show Kd.M Kd.string _ _ _ (⟨#[50, 58, 48, 48]⟩ : ByteArray) [.string (⟨#[50, 58, 48, 48]⟩ : ByteArray)] from rfl) (Reps.one (show Kd.M Kd.string _ _ _ (⟨#[45]⟩ : ByteArray) [.string (⟨#[45]⟩ : ByteArray)] from rfl) (Reps.one (show Kd.M Kd.string _ _ _ (⟨#[69, 69, 84]⟩ : ByteArray) [.string (⟨#[69, 69, 84]⟩ : ByteArray)] from rfl) (Reps.one (show Kd.M Kd.string _ _ _ (((((⟨#[48, 49, 50, 51, 52, 53, 54, 55, 56, 57]⟩ : ByteArray).extract ((ji3) : Int).toNat ((wrap64 ((ji3) + 1)) : Int).toNat) ++ ((⟨#[48, 49, 50, 51, 52, 53, 54, 55, 56, 57]⟩ : ByteArray).extract ((ji7) : Int).toNat ((wrap64 ((ji7) + 1)) : Int).toNat)) ++ ((⟨#[48, 49, 50, 51, 52, 53, 54, 55, 56, 57]⟩ : ByteArray).extract ((ji12) : Int).toNat ((wrap64 ((ji12) + 1)) : Int).toNat)) ++ ((⟨#[48, 49, 50, 51, 52, 53, 54, 55, 56, 57]⟩ : ByteArray).extract ((ji17) : Int).toNat ((wrap64 ((ji17) + 1)) : Int).toNat)) [.string (((((⟨#[48, 49, 50, 51, 52, 53, 54, 55, 56, 57]⟩ : ByteArray).extract ((ji3) : Int).toNat ((wrap64 ((ji3) + 1)) : Int).toNat) ++ ((⟨#[48, 49, 50, 51, 52, 53, 54, 55, 56, 57]⟩ : ByteArray).extract ((ji7) : Int).toNat ((wrap64 ((ji7) + 1)) : Int).toNat)) ++ ((⟨#[48, 49, 50, 51, 52, 53, 54, 55, 56, 57]⟩ : ByteArray).extract ((ji12) : Int).toNat ((wrap64 ((ji12) + 1)) : Int).toNat)) ++ ((⟨#[48, 49, 50, 51, 52, 53, 54, 55, 56, 57]⟩ : ByteArray).extract ((ji17) : Int).toNat ((wrap64 ((ji17) + 1)) : Int).toNat))] from rfl) (Reps.one (show Kd.M Kd.string _ _ _ (⟨#[77, 97, 114]⟩ : ByteArray) [.string (⟨#[77, 97, 114]⟩ : ByteArray)] from rfl) (Reps.one (show Kd.M Kd.string _ _ _ (⟨#[83, 117, 110, 62, 61, 56]⟩ : ByteArray) [.string (⟨#[83, 117, 110, 62, 61, 56]⟩ : ByteArray)] from rfl) (Reps.one (show Kd.M Kd.string _ _ _ (⟨#[51, 115]⟩ : ByteArray) [.string (⟨#[51, 115]⟩ : ByteArray)] from rfl) (Reps.one (show Kd.M Kd.string _ _ _ (⟨#[120]⟩ : ByteArray) [.string (⟨#[120]⟩ : ByteArray)] from rfl) (Reps.none _ _)))))))))); intro v616 w30 ho31 hb hg_ hnew_; clear hg_ hnew_; (first | rw [← Ny615.out] at ho31 | (simp only [Int.reduceToNat] at ho31; rw [← Ny615.out] at ho31)); have n0_ := As.mk (Kd.R_lower ho31 (bZ (by repeat (first | (with_reducible first | exact HB.out | apply bA | apply bN | apply bD) | exact HB.out)))); have n1_ := As.mk (bT (by repeat (first | (with_reducible first | exact HB.out | apply bA | apply bN | apply bD) | exact HB.out)) hb); clear HB; have HO617 := n0_; have HB := n1_; clear n0_ n1_; clear hb ho31; obtain ⟨Ao33, co33, eo33⟩ := Kd.R_slice HO617.out; subst eo33; have q32 : ((ji22) : Int) ≤ ((y615.length : Int) : Int) := of_decide_eq_true (by first | (with_reducible assumption) | assumption); obtain ⟨i032, hi032, _, hsz32, _⟩ := info_parts info9; have hroom32 : y615.length ≤ co33 := (Kd.R_reads' HO617.out).2.1; have hC32 : Kd.C Kd.string _ Ao33 y615.length y615 := (Kd.R_reads' HO617.out).2.2; have hcut32 := cut_to (P := Tryz.prog) 32 9 .i64 Tryz.underlying32 hi032 Ao33 y615.length co33 (ji22) (of_decide_eq_true (by first | (with_reducible assumption) | assumption)) q32 hroom32; have hr32 := Kd.C_take (m := ((ji22) : Int).toNat) hC32 (by omega); have hy32 : y618.length = ((ji22) : Int).toNat := (by rw [Ny618.out, List.length_take]; omega); rw [← Ny618.out] at hr32; rw [← hy32] at hcut32; have HR621 := As.mk hr32; have HC621 := As.mk (show y618.length ≤ co33 from by omega); clear hr32 hC32 hroom32 hi032 hsz32; have KY32 := As.mk hy32; clear hy32; have KL32 := As.mk (show ((ji22) : Int).toNat ≤ y615.length from by omega); replace q32 := eq_true q32) | (go_at_call 26; (with_reducible refine (zone_Era.calls k _ _ y618 t622 t623 t624 t625 t626 t627 t628 t629 t630 t631 t632 t633 t634 t635 _ ?side1 ?side2 ?side3 A25.out).mono ?_); (case side1 => exact GW.on HG.out (by repeat (first | (with_reducible first | exact HB.out | apply bA | apply bN | apply bD) | exact HB.out))); (case side2 => repeat (first | exact (by repeat (first | (with_reducible exact HR621.out) | (with_reducible refine Kd.C_alloc ?_ _) | (with_reducible refine Kd.C_drewN ?_ _) | (with_reducible refine Kd.C_drew ?_) | exact HR621.out)) | (with_reducible refine Kd.C_alloc ?_ _) | (with_reducible refine Kd.C_drewN ?_ _) | (with_reducible refine Kd.C_drew ?_))); (case side3 => exact HC621.out); rintro e w34 ⟨rfl, hb⟩; have n0_ := As.mk (Kd.R_below (by (with_reducible repeat (first | apply Kd.R_alloc | apply Kd.R_drewN | apply Kd.R_drew)); exact HO617.out) hb); have n1_ := As.mk (Kd.C_below (by repeat (first | (with_reducible exact HR621.out) | (with_reducible refine Kd.C_alloc ?_ _) | (with_reducible refine Kd.C_drewN ?_ _) | (with_reducible refine Kd.C_drew ?_) | exact HR621.out)) hb); have n2_ := As.mk (bT (by repeat (first | (with_reducible first | exact HB.out | apply bA | apply bN | apply bD) | exact HB.out)) hb); clear HO617; clear HR621; clear HB; have HO617 := n0_; have HR621 := n1_; have HB := n2_; clear n0_ n1_ n2_; (try clear hb); (try clear hb2); (try clear hk); (try clear hi)) | ((with_reducible refine gD (N := 8) rfl ?_); refine xE ?hg (N := 8) ?hd (cs := #[.int .i64 0, .int .i64 0, .int .i64 0, .string (⟨#[]⟩ : ByteArray), .string (⟨#[]⟩ : ByteArray), .bool false, .int .i64 0, .int .i64 0, .int .i64 0, .int .i64 0, .int .i64 0, .int .i64 0, .int .i64 0]) (t := 45) ?hr ?_; (case hd => rfl); (case hg => rfl); (case hr => first | (go_simp; done) | (go_simp; rfl)); intro gb636 hg w35 hbox hb; have n0_ := As.mk (Kd.R_below (by (with_reducible repeat (first | apply Kd.R_alloc | apply Kd.R_drewN | apply Kd.R_drew)); exact HO617.out) hb); have n1_ := As.mk (Kd.C_below (by repeat (first | (with_reducible exact HR621.out) | (with_reducible refine Kd.C_alloc ?_ _) | (with_reducible refine Kd.C_drewN ?_ _) | (with_reducible refine Kd.C_drew ?_) | exact HR621.out)) hb); have n2_ := As.mk (bT (by repeat (first | (with_reducible first | exact HB.out | apply bA | apply bN | apply bD) | exact HB.out)) hb); have n3_ := As.mk (hbox); have n4_ := As.mk ((by rw [hg]; exact (bZ (by repeat (first | (with_reducible first | exact HB.out | apply bA | apply bN | apply bD) | exact HB.out))) : w.heap.size ≤ gb636)); have n5_ := As.mk ((by rw [hg]; exact (bZ (by repeat (first | (with_reducible first | exact HB.out | apply bA | apply bN | apply bD) | exact HB.out))) : w.heap.size ≤ gb636)); clear HO617; clear HR621; clear HB; have HO617 := n0_; have HR621 := n1_; have HB := n2_; have BK636 := n3_; have GW636 := n4_; have GE636 := n5_; clear n0_ n1_ n2_ n3_ n4_ n5_; clear hb hbox hg; obtain ⟨hcz36_0, hcz36_1, hcz36_2, hcz36_3, hcz36_4, hcz36_5, hcz36_6, hcz36_7, hcz36_8, hcz36_9, hcz36_10, hcz36_11, hcz36_12, hfz36_0, hfz36_1, hfz36_2, hfz36_3, hfz36_4, hfz36_5, hfz36_6, hfz36_7, hfz36_8, hfz36_9, hfz36_10, hfz36_11, hfz36_12⟩ := cl13 BK636.out) | (go_at_call 25; (with_reducible refine (solsticelaw10_wakes.calls k  t637 _ ?side1 A29.out).mono ?_); (case side1 => exact GW.on HG.out (by repeat (first | (with_reducible first | exact HB.out | apply bA | apply bN | apply bD | refine bS ?_ GE636.out) | exact HB.out))); rintro e w37 ⟨rfl, hb⟩; have n0_ := As.mk True.intro; have n1_ := As.mk True.intro; have n2_ := As.mk (bT (by repeat (first | (with_reducible first | exact HB.out | apply bA | apply bN | apply bD | refine bS ?_ GE636.out) | exact HB.out)) hb); clear HO617; clear BK636; clear HB; have HO617 := n0_; have BK636 := n1_; have HB := n2_; clear n0_ n1_ n2_; (try clear hb); (try clear hb2); (try clear hk); (try clear hi))))
                     go_ret
                     exact ⟨by first | rfl | (simp [eN, eS] <;> rfl) | (simp only [← hji3, ← hji7, ← hji12, ← hji17, ← hji22]; first | rfl | (simp [eN, eS] <;> rfl)) | (simp [*, eN, eS] <;> rfl), by repeat (first | (with_reducible first | exact HB.out | apply bA | apply bN | apply bD | refine bS ?_ GE636.out) | exact HB.out)⟩
                     all_goals (exfalso; apply ‹¬ (t622 = _ ∧ _)›; simpa using c28b0)
                    ·rw [if_neg c28] at H
                     exact absurd H (by simp)
                   ·rw [if_neg c27] at H
                    exact absurd H (by simp)
                  ·rw [if_neg c26] at H
                   have c26b0 : ((ji22) == 8) = false := beq_eq_false_iff_ne.mpr c26
                   have c26b1 : ((ji22) != 8) = true := bne_iff_ne.mpr c26
                   have HC38 := As.mk H
                   clear H
                   go_enter Tryz.func7, Tryz.ntmps7
                   go_upto_if 79 with (first | ((with_reducible refine gD (N := 57) rfl ?_); refine Kd.R_lit Kd.string _ 9 ?hg (N := 57) ?hd (xs := ([(⟨#[50, 58, 48, 48]⟩ : ByteArray), (⟨#[45]⟩ : ByteArray), (⟨#[69, 69, 84]⟩ : ByteArray), ((((⟨#[48, 49, 50, 51, 52, 53, 54, 55, 56, 57]⟩ : ByteArray).extract ((ji3) : Int).toNat ((wrap64 ((ji3) + 1)) : Int).toNat) ++ ((⟨#[48, 49, 50, 51, 52, 53, 54, 55, 56, 57]⟩ : ByteArray).extract ((ji7) : Int).toNat ((wrap64 ((ji7) + 1)) : Int).toNat)) ++ ((⟨#[48, 49, 50, 51, 52, 53, 54, 55, 56, 57]⟩ : ByteArray).extract ((ji12) : Int).toNat ((wrap64 ((ji12) + 1)) : Int).toNat)) ++ ((⟨#[48, 49, 50, 51, 52, 53, 54, 55, 56, 57]⟩ : ByteArray).extract ((ji17) : Int).toNat ((wrap64 ((ji17) + 1)) : Int).toNat), (⟨#[77, 97, 114]⟩ : ByteArray), (⟨#[83, 117, 110, 62, 61, 56]⟩ : ByteArray), (⟨#[51, 115]⟩ : ByteArray), (⟨#[120]⟩ : ByteArray)] : List ByteArray)) (inner := [.string (⟨#[50, 58, 48, 48]⟩ : ByteArray), .string (⟨#[45]⟩ : ByteArray), .string (⟨#[69, 69, 84]⟩ : ByteArray), .string (((((⟨#[48, 49, 50, 51, 52, 53, 54, 55, 56, 57]⟩ : ByteArray).extract ((ji3) : Int).toNat ((wrap64 ((ji3) + 1)) : Int).toNat) ++ ((⟨#[48, 49, 50, 51, 52, 53, 54, 55, 56, 57]⟩ : ByteArray).extract ((ji7) : Int).toNat ((wrap64 ((ji7) + 1)) : Int).toNat)) ++ ((⟨#[48, 49, 50, 51, 52, 53, 54, 55, 56, 57]⟩ : ByteArray).extract ((ji12) : Int).toNat ((wrap64 ((ji12) + 1)) : Int).toNat)) ++ ((⟨#[48, 49, 50, 51, 52, 53, 54, 55, 56, 57]⟩ : ByteArray).extract ((ji17) : Int).toNat ((wrap64 ((ji17) + 1)) : Int).toNat)), .string (⟨#[77, 97, 114]⟩ : ByteArray), .string (⟨#[83, 117, 110, 62, 61, 56]⟩ : ByteArray), .string (⟨#[51, 115]⟩ : ByteArray), .string (⟨#[120]⟩ : ByteArray)]) (ok := fun _ => True) (okp := fun _ => True) ?hr ?hp (fun _ hk => hk) trivial (Below.refl _ _) (Nat.le_refl _) (by simp) ?_; (case hd => rfl); (case hg => rfl); (case hr => first | (go_simp; done) | (go_simp; rfl)); (case hp => exact (Reps.one (show Kd.M Kd.string _ _ _ (⟨#[50, 58, 48, 48]⟩ : ByteArray) [.string (⟨#[50, 58, 48, 48]⟩ : ByteArray)] from rfl) (Reps.one (show Kd.M Kd.string _ _ _ (⟨#[45]⟩ : ByteArray) [.string (⟨#[45]⟩ : ByteArray)] from rfl) (Reps.one (show Kd.M Kd.string _ _ _ (⟨#[69, 69, 84]⟩ : ByteArray) [.string (⟨#[69, 69, 84]⟩ : ByteArray)] from rfl) (Reps.one (show Kd.M Kd.string _ _ _ (((((⟨#[48, 49, 50, 51, 52, 53, 54, 55, 56, 57]⟩ : ByteArray).extract ((ji3) : Int).toNat ((wrap64 ((ji3) + 1)) : Int).toNat) ++ ((⟨#[48, 49, 50, 51, 52, 53, 54, 55, 56, 57]⟩ : ByteArray).extract ((ji7) : Int).toNat ((wrap64 ((ji7) + 1)) : Int).toNat)) ++ ((⟨#[48, 49, 50, 51, 52, 53, 54, 55, 56, 57]⟩ : ByteArray).extract ((ji12) : Int).toNat ((wrap64 ((ji12) + 1)) : Int).toNat)) ++ ((⟨#[48, 49, 50, 51, 52, 53, 54, 55, 56, 57]⟩ : ByteArray).extract ((ji17) : Int).toNat ((wrap64 ((ji17) + 1)) : Int).toNat)) [.string (((((⟨#[48, 49, 50, 51, 52, 53, 54, 55, 56, 57]⟩ : ByteArray).extract ((ji3) : Int).toNat ((wrap64 ((ji3) + 1)) : Int).toNat) ++ ((⟨#[48, 49, 50, 51, 52, 53, 54, 55, 56, 57]⟩ : ByteArray).extract ((ji7) : Int).toNat ((wrap64 ((ji7) + 1)) : Int).toNat)) ++ ((⟨#[48, 49, 50, 51, 52, 53, 54, 55, 56, 57]⟩ : ByteArray).extract ((ji12) : Int).toNat ((wrap64 ((ji12) + 1)) : Int).toNat)) ++ ((⟨#[48, 49, 50, 51, 52, 53, 54, 55, 56, 57]⟩ : ByteArray).extract ((ji17) : Int).toNat ((wrap64 ((ji17) + 1)) : Int).toNat))] from rfl) (Reps.one (show Kd.M Kd.string _ _ _ (⟨#[77, 97, 114]⟩ : ByteArray) [.string (⟨#[77, 97, 114]⟩ : ByteArray)] from rfl) (Reps.one (show Kd.M Kd.string _ _ _ (⟨#[83, 117, 110, 62, 61, 56]⟩ : ByteArray) [.string (⟨#[83, 117, 110, 62, 61, 56]⟩ : ByteArray)] from rfl) (Reps.one (show Kd.M Kd.string _ _ _ (⟨#[51, 115]⟩ : ByteArray) [.string (⟨#[51, 115]⟩ : ByteArray)] from rfl) (Reps.one (show Kd.M Kd.string _ _ _ (⟨#[120]⟩ : ByteArray) [.string (⟨#[120]⟩ : ByteArray)] from rfl) (Reps.none _ _)))))))))); intro v616 w39 ho40 hb hg_ hnew_; clear hg_ hnew_; (first | rw [← Ny615.out] at ho40 | (simp only [Int.reduceToNat] at ho40; rw [← Ny615.out] at ho40)); have n0_ := As.mk (Kd.R_lower ho40 (bZ (by repeat (first | (with_reducible first | exact HB.out | apply bA | apply bN | apply bD) | exact HB.out)))); have n1_ := As.mk (bT (by repeat (first | (with_reducible first | exact HB.out | apply bA | apply bN | apply bD) | exact HB.out)) hb); clear HB; have HO617 := n0_; have HB := n1_; clear n0_ n1_; clear hb ho40; obtain ⟨Ao42, co42, eo42⟩ := Kd.R_slice HO617.out; subst eo42; have q41 : ((ji22) : Int) ≤ ((y615.length : Int) : Int) := of_decide_eq_true (by first | (with_reducible assumption) | assumption); obtain ⟨i041, hi041, _, hsz41, _⟩ := info_parts info9; have hroom41 : y615.length ≤ co42 := (Kd.R_reads' HO617.out).2.1; have hC41 : Kd.C Kd.string _ Ao42 y615.length y615 := (Kd.R_reads' HO617.out).2.2; have hcut41 := cut_to (P := Tryz.prog) 32 9 .i64 Tryz.underlying32 hi041 Ao42 y615.length co42 (ji22) (of_decide_eq_true (by first | (with_reducible assumption) | assumption)) q41 hroom41; have hr41 := Kd.C_take (m := ((ji22) : Int).toNat) hC41 (by omega); have hy41 : y618.length = ((ji22) : Int).toNat := (by rw [Ny618.out, List.length_take]; omega); rw [← Ny618.out] at hr41; rw [← hy41] at hcut41; have HR621 := As.mk hr41; have HC621 := As.mk (show y618.length ≤ co42 from by omega); clear hr41 hC41 hroom41 hi041 hsz41; have KY41 := As.mk hy41; clear hy41; have KL41 := As.mk (show ((ji22) : Int).toNat ≤ y615.length from by omega); replace q41 := eq_true q41))
                   repeat (go_quiet (first | fail); go_upto_if 79 with (first | ((with_reducible refine gD (N := 57) rfl ?_); refine Kd.R_lit Kd.string _ 9 ?hg (N := 57) ?hd (xs := ([(⟨#[50, 58, 48, 48]⟩ : ByteArray), (⟨#[45]⟩ : ByteArray), (⟨#[69, 69, 84]⟩ : ByteArray), ((((⟨#[48, 49, 50, 51, 52, 53, 54, 55, 56, 57]⟩ : ByteArray).extract ((ji3) : Int).toNat ((wrap64 ((ji3) + 1)) : Int).toNat) ++ ((⟨#[48, 49, 50, 51, 52, 53, 54, 55, 56, 57]⟩ : ByteArray).extract ((ji7) : Int).toNat ((wrap64 ((ji7) + 1)) : Int).toNat)) ++ ((⟨#[48, 49, 50, 51, 52, 53, 54, 55, 56, 57]⟩ : ByteArray).extract ((ji12) : Int).toNat ((wrap64 ((ji12) + 1)) : Int).toNat)) ++ ((⟨#[48, 49, 50, 51, 52, 53, 54, 55, 56, 57]⟩ : ByteArray).extract ((ji17) : Int).toNat ((wrap64 ((ji17) + 1)) : Int).toNat), (⟨#[77, 97, 114]⟩ : ByteArray), (⟨#[83, 117, 110, 62, 61, 56]⟩ : ByteArray), (⟨#[51, 115]⟩ : ByteArray), (⟨#[120]⟩ : ByteArray)] : List ByteArray)) (inner := [.string (⟨#[50, 58, 48, 48]⟩ : ByteArray), .string (⟨#[45]⟩ : ByteArray), .string (⟨#[69, 69, 84]⟩ : ByteArray), .string (((((⟨#[48, 49, 50, 51, 52, 53, 54, 55, 56, 57]⟩ : ByteArray).extract ((ji3) : Int).toNat ((wrap64 ((ji3) + 1)) : Int).toNat) ++ ((⟨#[48, 49, 50, 51, 52, 53, 54, 55, 56, 57]⟩ : ByteArray).extract ((ji7) : Int).toNat ((wrap64 ((ji7) + 1)) : Int).toNat)) ++ ((⟨#[48, 49, 50, 51, 52, 53, 54, 55, 56, 57]⟩ : ByteArray).extract ((ji12) : Int).toNat ((wrap64 ((ji12) + 1)) : Int).toNat)) ++ ((⟨#[48, 49, 50, 51, 52, 53, 54, 55, 56, 57]⟩ : ByteArray).extract ((ji17) : Int).toNat ((wrap64 ((ji17) + 1)) : Int).toNat)), .string (⟨#[77, 97, 114]⟩ : ByteArray), .string (⟨#[83, 117, 110, 62, 61, 56]⟩ : ByteArray), .string (⟨#[51, 115]⟩ : ByteArray), .string (⟨#[120]⟩ : ByteArray)]) (ok := fun _ => True) (okp := fun _ => True) ?hr ?hp (fun _ hk => hk) trivial (Below.refl _ _) (Nat.le_refl _) (by simp) ?_; (case hd => rfl); (case hg => rfl); (case hr => first | (go_simp; done) | (go_simp; rfl)); (case hp => exact (Reps.one (show Kd.M Kd.string _ _ _ (⟨#[50, 58, 48, 48]⟩ : ByteArray) [.string (⟨#[50, 58, 48, 48]⟩ : ByteArray)] from rfl) (Reps.one (show Kd.M Kd.string _ _ _ (⟨#[45]⟩ : ByteArray) [.string (⟨#[45]⟩ : ByteArray)] from rfl) (Reps.one (show Kd.M Kd.string _ _ _ (⟨#[69, 69, 84]⟩ : ByteArray) [.string (⟨#[69, 69, 84]⟩ : ByteArray)] from rfl) (Reps.one (show Kd.M Kd.string _ _ _ (((((⟨#[48, 49, 50, 51, 52, 53, 54, 55, 56, 57]⟩ : ByteArray).extract ((ji3) : Int).toNat ((wrap64 ((ji3) + 1)) : Int).toNat) ++ ((⟨#[48, 49, 50, 51, 52, 53, 54, 55, 56, 57]⟩ : ByteArray).extract ((ji7) : Int).toNat ((wrap64 ((ji7) + 1)) : Int).toNat)) ++ ((⟨#[48, 49, 50, 51, 52, 53, 54, 55, 56, 57]⟩ : ByteArray).extract ((ji12) : Int).toNat ((wrap64 ((ji12) + 1)) : Int).toNat)) ++ ((⟨#[48, 49, 50, 51, 52, 53, 54, 55, 56, 57]⟩ : ByteArray).extract ((ji17) : Int).toNat ((wrap64 ((ji17) + 1)) : Int).toNat)) [.string (((((⟨#[48, 49, 50, 51, 52, 53, 54, 55, 56, 57]⟩ : ByteArray).extract ((ji3) : Int).toNat ((wrap64 ((ji3) + 1)) : Int).toNat) ++ ((⟨#[48, 49, 50, 51, 52, 53, 54, 55, 56, 57]⟩ : ByteArray).extract ((ji7) : Int).toNat ((wrap64 ((ji7) + 1)) : Int).toNat)) ++ ((⟨#[48, 49, 50, 51, 52, 53, 54, 55, 56, 57]⟩ : ByteArray).extract ((ji12) : Int).toNat ((wrap64 ((ji12) + 1)) : Int).toNat)) ++ ((⟨#[48, 49, 50, 51, 52, 53, 54, 55, 56, 57]⟩ : ByteArray).extract ((ji17) : Int).toNat ((wrap64 ((ji17) + 1)) : Int).toNat))] from rfl) (Reps.one (show Kd.M Kd.string _ _ _ (⟨#[77, 97, 114]⟩ : ByteArray) [.string (⟨#[77, 97, 114]⟩ : ByteArray)] from rfl) (Reps.one (show Kd.M Kd.string _ _ _ (⟨#[83, 117, 110, 62, 61, 56]⟩ : ByteArray) [.string (⟨#[83, 117, 110, 62, 61, 56]⟩ : ByteArray)] from rfl) (Reps.one (show Kd.M Kd.string _ _ _ (⟨#[51, 115]⟩ : ByteArray) [.string (⟨#[51, 115]⟩ : ByteArray)] from rfl) (Reps.one (show Kd.M Kd.string _ _ _ (⟨#[120]⟩ : ByteArray) [.string (⟨#[120]⟩ : ByteArray)] from rfl) (Reps.none _ _)))))))))); intro v616 w39 ho40 hb hg_ hnew_; clear hg_ hnew_; (first | rw [← Ny615.out] at ho40 | (simp only [Int.reduceToNat] at ho40; rw [← Ny615.out] at ho40)); have n0_ := As.mk (Kd.R_lower ho40 (bZ (by repeat (first | (with_reducible first | exact HB.out | apply bA | apply bN | apply bD) | exact HB.out)))); have n1_ := As.mk (bT (by repeat (first | (with_reducible first | exact HB.out | apply bA | apply bN | apply bD) | exact HB.out)) hb); clear HB; have HO617 := n0_; have HB := n1_; clear n0_ n1_; clear hb ho40; obtain ⟨Ao42, co42, eo42⟩ := Kd.R_slice HO617.out; subst eo42; have q41 : ((ji22) : Int) ≤ ((y615.length : Int) : Int) := of_decide_eq_true (by first | (with_reducible assumption) | assumption); obtain ⟨i041, hi041, _, hsz41, _⟩ := info_parts info9; have hroom41 : y615.length ≤ co42 := (Kd.R_reads' HO617.out).2.1; have hC41 : Kd.C Kd.string _ Ao42 y615.length y615 := (Kd.R_reads' HO617.out).2.2; have hcut41 := cut_to (P := Tryz.prog) 32 9 .i64 Tryz.underlying32 hi041 Ao42 y615.length co42 (ji22) (of_decide_eq_true (by first | (with_reducible assumption) | assumption)) q41 hroom41; have hr41 := Kd.C_take (m := ((ji22) : Int).toNat) hC41 (by omega); have hy41 : y618.length = ((ji22) : Int).toNat := (by rw [Ny618.out, List.length_take]; omega); rw [← Ny618.out] at hr41; rw [← hy41] at hcut41; have HR621 := As.mk hr41; have HC621 := As.mk (show y618.length ≤ co42 from by omega); clear hr41 hC41 hroom41 hi041 hsz41; have KY41 := As.mk hy41; clear hy41; have KL41 := As.mk (show ((ji22) : Int).toNat ≤ y615.length from by omega); replace q41 := eq_true q41) | (go_at_call 26; (with_reducible refine (zone_Era.calls k _ _ y618 t622 t623 t624 t625 t626 t627 t628 t629 t630 t631 t632 t633 t634 t635 _ ?side1 ?side2 ?side3 A25.out).mono ?_); (case side1 => exact GW.on HG.out (by repeat (first | (with_reducible first | exact HB.out | apply bA | apply bN | apply bD) | exact HB.out))); (case side2 => repeat (first | exact (by repeat (first | (with_reducible exact HR621.out) | (with_reducible refine Kd.C_alloc ?_ _) | (with_reducible refine Kd.C_drewN ?_ _) | (with_reducible refine Kd.C_drew ?_) | exact HR621.out)) | (with_reducible refine Kd.C_alloc ?_ _) | (with_reducible refine Kd.C_drewN ?_ _) | (with_reducible refine Kd.C_drew ?_))); (case side3 => exact HC621.out); rintro e w43 ⟨rfl, hb⟩; have n0_ := As.mk (Kd.R_below (by (with_reducible repeat (first | apply Kd.R_alloc | apply Kd.R_drewN | apply Kd.R_drew)); exact HO617.out) hb); have n1_ := As.mk (Kd.C_below (by repeat (first | (with_reducible exact HR621.out) | (with_reducible refine Kd.C_alloc ?_ _) | (with_reducible refine Kd.C_drewN ?_ _) | (with_reducible refine Kd.C_drew ?_) | exact HR621.out)) hb); have n2_ := As.mk (bT (by repeat (first | (with_reducible first | exact HB.out | apply bA | apply bN | apply bD) | exact HB.out)) hb); clear HO617; clear HR621; clear HB; have HO617 := n0_; have HR621 := n1_; have HB := n2_; clear n0_ n1_ n2_; (try clear hb); (try clear hb2); (try clear hk); (try clear hi)) | ((with_reducible refine gD (N := 8) rfl ?_); refine xE ?hg (N := 8) ?hd (cs := #[.int .i64 0, .int .i64 0, .int .i64 0, .string (⟨#[]⟩ : ByteArray), .string (⟨#[]⟩ : ByteArray), .bool false, .int .i64 0, .int .i64 0, .int .i64 0, .int .i64 0, .int .i64 0, .int .i64 0, .int .i64 0]) (t := 45) ?hr ?_; (case hd => rfl); (case hg => rfl); (case hr => first | (go_simp; done) | (go_simp; rfl)); intro gb636 hg w44 hbox hb; have n0_ := As.mk (Kd.R_below (by (with_reducible repeat (first | apply Kd.R_alloc | apply Kd.R_drewN | apply Kd.R_drew)); exact HO617.out) hb); have n1_ := As.mk (Kd.C_below (by repeat (first | (with_reducible exact HR621.out) | (with_reducible refine Kd.C_alloc ?_ _) | (with_reducible refine Kd.C_drewN ?_ _) | (with_reducible refine Kd.C_drew ?_) | exact HR621.out)) hb); have n2_ := As.mk (bT (by repeat (first | (with_reducible first | exact HB.out | apply bA | apply bN | apply bD) | exact HB.out)) hb); have n3_ := As.mk (hbox); have n4_ := As.mk ((by rw [hg]; exact (bZ (by repeat (first | (with_reducible first | exact HB.out | apply bA | apply bN | apply bD) | exact HB.out))) : w.heap.size ≤ gb636)); have n5_ := As.mk ((by rw [hg]; exact (bZ (by repeat (first | (with_reducible first | exact HB.out | apply bA | apply bN | apply bD) | exact HB.out))) : w.heap.size ≤ gb636)); clear HO617; clear HR621; clear HB; have HO617 := n0_; have HR621 := n1_; have HB := n2_; have BK636 := n3_; have GW636 := n4_; have GE636 := n5_; clear n0_ n1_ n2_ n3_ n4_ n5_; clear hb hbox hg; obtain ⟨hcz45_0, hcz45_1, hcz45_2, hcz45_3, hcz45_4, hcz45_5, hcz45_6, hcz45_7, hcz45_8, hcz45_9, hcz45_10, hcz45_11, hcz45_12, hfz45_0, hfz45_1, hfz45_2, hfz45_3, hfz45_4, hfz45_5, hfz45_6, hfz45_7, hfz45_8, hfz45_9, hfz45_10, hfz45_11, hfz45_12⟩ := cl13 BK636.out) | ((with_reducible refine gD (N := 10) rfl ?_); refine xE ?hg (N := 10) ?hd (cs := #[.int .i64 0, .int .i64 0, .int .i64 0, .string (⟨#[]⟩ : ByteArray), .string (⟨#[]⟩ : ByteArray), .bool false, .int .i64 0, .int .i64 0, .int .i64 0, .int .i64 0, .int .i64 0, .int .i64 0, .int .i64 0]) (t := 45) ?hr ?_; (case hd => rfl); (case hg => rfl); (case hr => first | (go_simp; done) | (go_simp; rfl)); intro gb638 hg w46 hbox hb; have n0_ := As.mk True.intro; have n1_ := As.mk (kB (g := gb636) (o := .cells #[.int .i64 t622, .int .i64 t623, .int .i64 t624, .string t625, .string t626, .bool t627, .int .i64 t628, .int .i64 t629, .int .i64 t630, .int .i64 t631, .int .i64 t632, .int .i64 t633, .int .i64 t634] 45 (0, 0)) (by (with_reducible repeat (first | refine kN ?_ _ | refine kD ?_ | refine kA ?_ _)); refine blk_put (cs := #[.int .i64 t622, .int .i64 t623, .int .i64 t624, .string t625, .string t626, .bool t627, .int .i64 t628, .int .i64 t629, .int .i64 t630, .int .i64 t631, .int .i64 t632, .int .i64 t633, .int .i64 0]) ?_ 12 _ rfl; (with_reducible repeat (first | refine kN ?_ _ | refine kD ?_ | refine kA ?_ _)); refine blk_put (cs := #[.int .i64 t622, .int .i64 t623, .int .i64 t624, .string t625, .string t626, .bool t627, .int .i64 t628, .int .i64 t629, .int .i64 t630, .int .i64 t631, .int .i64 t632, .int .i64 0, .int .i64 0]) ?_ 11 _ rfl; (with_reducible repeat (first | refine kN ?_ _ | refine kD ?_ | refine kA ?_ _)); refine blk_put (cs := #[.int .i64 t622, .int .i64 t623, .int .i64 t624, .string t625, .string t626, .bool t627, .int .i64 t628, .int .i64 t629, .int .i64 t630, .int .i64 t631, .int .i64 0, .int .i64 0, .int .i64 0]) ?_ 10 _ rfl; (with_reducible repeat (first | refine kN ?_ _ | refine kD ?_ | refine kA ?_ _)); refine blk_put (cs := #[.int .i64 t622, .int .i64 t623, .int .i64 t624, .string t625, .string t626, .bool t627, .int .i64 t628, .int .i64 t629, .int .i64 t630, .int .i64 0, .int .i64 0, .int .i64 0, .int .i64 0]) ?_ 9 _ rfl; (with_reducible repeat (first | refine kN ?_ _ | refine kD ?_ | refine kA ?_ _)); refine blk_put (cs := #[.int .i64 t622, .int .i64 t623, .int .i64 t624, .string t625, .string t626, .bool t627, .int .i64 t628, .int .i64 t629, .int .i64 0, .int .i64 0, .int .i64 0, .int .i64 0, .int .i64 0]) ?_ 8 _ rfl; (with_reducible repeat (first | refine kN ?_ _ | refine kD ?_ | refine kA ?_ _)); refine blk_put (cs := #[.int .i64 t622, .int .i64 t623, .int .i64 t624, .string t625, .string t626, .bool t627, .int .i64 t628, .int .i64 0, .int .i64 0, .int .i64 0, .int .i64 0, .int .i64 0, .int .i64 0]) ?_ 7 _ rfl; (with_reducible repeat (first | refine kN ?_ _ | refine kD ?_ | refine kA ?_ _)); refine blk_put (cs := #[.int .i64 t622, .int .i64 t623, .int .i64 t624, .string t625, .string t626, .bool t627, .int .i64 0, .int .i64 0, .int .i64 0, .int .i64 0, .int .i64 0, .int .i64 0, .int .i64 0]) ?_ 6 _ rfl; (with_reducible repeat (first | refine kN ?_ _ | refine kD ?_ | refine kA ?_ _)); refine blk_put (cs := #[.int .i64 t622, .int .i64 t623, .int .i64 t624, .string t625, .string t626, .bool false, .int .i64 0, .int .i64 0, .int .i64 0, .int .i64 0, .int .i64 0, .int .i64 0, .int .i64 0]) ?_ 5 _ rfl; (with_reducible repeat (first | refine kN ?_ _ | refine kD ?_ | refine kA ?_ _)); refine blk_put (cs := #[.int .i64 t622, .int .i64 t623, .int .i64 t624, .string t625, .string (⟨#[]⟩ : ByteArray), .bool false, .int .i64 0, .int .i64 0, .int .i64 0, .int .i64 0, .int .i64 0, .int .i64 0, .int .i64 0]) ?_ 4 _ rfl; (with_reducible repeat (first | refine kN ?_ _ | refine kD ?_ | refine kA ?_ _)); refine blk_put (cs := #[.int .i64 t622, .int .i64 t623, .int .i64 t624, .string (⟨#[]⟩ : ByteArray), .string (⟨#[]⟩ : ByteArray), .bool false, .int .i64 0, .int .i64 0, .int .i64 0, .int .i64 0, .int .i64 0, .int .i64 0, .int .i64 0]) ?_ 3 _ rfl; (with_reducible repeat (first | refine kN ?_ _ | refine kD ?_ | refine kA ?_ _)); refine blk_put (cs := #[.int .i64 t622, .int .i64 t623, .int .i64 0, .string (⟨#[]⟩ : ByteArray), .string (⟨#[]⟩ : ByteArray), .bool false, .int .i64 0, .int .i64 0, .int .i64 0, .int .i64 0, .int .i64 0, .int .i64 0, .int .i64 0]) ?_ 2 _ rfl; (with_reducible repeat (first | refine kN ?_ _ | refine kD ?_ | refine kA ?_ _)); refine blk_put (cs := #[.int .i64 t622, .int .i64 0, .int .i64 0, .string (⟨#[]⟩ : ByteArray), .string (⟨#[]⟩ : ByteArray), .bool false, .int .i64 0, .int .i64 0, .int .i64 0, .int .i64 0, .int .i64 0, .int .i64 0, .int .i64 0]) ?_ 1 _ rfl; (with_reducible repeat (first | refine kN ?_ _ | refine kD ?_ | refine kA ?_ _)); refine blk_put (cs := #[.int .i64 0, .int .i64 0, .int .i64 0, .string (⟨#[]⟩ : ByteArray), .string (⟨#[]⟩ : ByteArray), .bool false, .int .i64 0, .int .i64 0, .int .i64 0, .int .i64 0, .int .i64 0, .int .i64 0, .int .i64 0]) ?_ 0 _ rfl; (with_reducible repeat (first | refine kN ?_ _ | refine kD ?_ | refine kA ?_ _)); exact BK636.out) hb); have n2_ := As.mk (bT (by repeat (first | (with_reducible first | exact HB.out | apply bA | apply bN | apply bD | refine bS ?_ GE636.out) | exact HB.out)) hb); have n3_ := As.mk (hbox); have n4_ := As.mk ((by rw [hg]; exact (bZ (by repeat (first | (with_reducible first | exact HB.out | apply bA | apply bN | apply bD | refine bS ?_ GE636.out) | exact HB.out))) : w.heap.size ≤ gb638)); have n5_ := As.mk ((by rw [hg]; exact (bZ (by repeat (first | (with_reducible first | exact HB.out | apply bA | apply bN | apply bD | refine bS ?_ GE636.out) | exact HB.out))) : w.heap.size ≤ gb638)); have n6_ := As.mk ((by rw [hg]; exact Nat.ne_of_lt (blk_lt (g := gb636) (o := .cells #[.int .i64 t622, .int .i64 t623, .int .i64 t624, .string t625, .string t626, .bool t627, .int .i64 t628, .int .i64 t629, .int .i64 t630, .int .i64 t631, .int .i64 t632, .int .i64 t633, .int .i64 t634] 45 (0, 0)) (by (with_reducible repeat (first | refine kN ?_ _ | refine kD ?_ | refine kA ?_ _)); refine blk_put (cs := #[.int .i64 t622, .int .i64 t623, .int .i64 t624, .string t625, .string t626, .bool t627, .int .i64 t628, .int .i64 t629, .int .i64 t630, .int .i64 t631, .int .i64 t632, .int .i64 t633, .int .i64 0]) ?_ 12 _ rfl; (with_reducible repeat (first | refine kN ?_ _ | refine kD ?_ | refine kA ?_ _)); refine blk_put (cs := #[.int .i64 t622, .int .i64 t623, .int .i64 t624, .string t625, .string t626, .bool t627, .int .i64 t628, .int .i64 t629, .int .i64 t630, .int .i64 t631, .int .i64 t632, .int .i64 0, .int .i64 0]) ?_ 11 _ rfl; (with_reducible repeat (first | refine kN ?_ _ | refine kD ?_ | refine kA ?_ _)); refine blk_put (cs := #[.int .i64 t622, .int .i64 t623, .int .i64 t624, .string t625, .string t626, .bool t627, .int .i64 t628, .int .i64 t629, .int .i64 t630, .int .i64 t631, .int .i64 0, .int .i64 0, .int .i64 0]) ?_ 10 _ rfl; (with_reducible repeat (first | refine kN ?_ _ | refine kD ?_ | refine kA ?_ _)); refine blk_put (cs := #[.int .i64 t622, .int .i64 t623, .int .i64 t624, .string t625, .string t626, .bool t627, .int .i64 t628, .int .i64 t629, .int .i64 t630, .int .i64 0, .int .i64 0, .int .i64 0, .int .i64 0]) ?_ 9 _ rfl; (with_reducible repeat (first | refine kN ?_ _ | refine kD ?_ | refine kA ?_ _)); refine blk_put (cs := #[.int .i64 t622, .int .i64 t623, .int .i64 t624, .string t625, .string t626, .bool t627, .int .i64 t628, .int .i64 t629, .int .i64 0, .int .i64 0, .int .i64 0, .int .i64 0, .int .i64 0]) ?_ 8 _ rfl; (with_reducible repeat (first | refine kN ?_ _ | refine kD ?_ | refine kA ?_ _)); refine blk_put (cs := #[.int .i64 t622, .int .i64 t623, .int .i64 t624, .string t625, .string t626, .bool t627, .int .i64 t628, .int .i64 0, .int .i64 0, .int .i64 0, .int .i64 0, .int .i64 0, .int .i64 0]) ?_ 7 _ rfl; (with_reducible repeat (first | refine kN ?_ _ | refine kD ?_ | refine kA ?_ _)); refine blk_put (cs := #[.int .i64 t622, .int .i64 t623, .int .i64 t624, .string t625, .string t626, .bool t627, .int .i64 0, .int .i64 0, .int .i64 0, .int .i64 0, .int .i64 0, .int .i64 0, .int .i64 0]) ?_ 6 _ rfl; (with_reducible repeat (first | refine kN ?_ _ | refine kD ?_ | refine kA ?_ _)); refine blk_put (cs := #[.int .i64 t622, .int .i64 t623, .int .i64 t624, .string t625, .string t626, .bool false, .int .i64 0, .int .i64 0, .int .i64 0, .int .i64 0, .int .i64 0, .int .i64 0, .int .i64 0]) ?_ 5 _ rfl; (with_reducible repeat (first | refine kN ?_ _ | refine kD ?_ | refine kA ?_ _)); refine blk_put (cs := #[.int .i64 t622, .int .i64 t623, .int .i64 t624, .string t625, .string (⟨#[]⟩ : ByteArray), .bool false, .int .i64 0, .int .i64 0, .int .i64 0, .int .i64 0, .int .i64 0, .int .i64 0, .int .i64 0]) ?_ 4 _ rfl; (with_reducible repeat (first | refine kN ?_ _ | refine kD ?_ | refine kA ?_ _)); refine blk_put (cs := #[.int .i64 t622, .int .i64 t623, .int .i64 t624, .string (⟨#[]⟩ : ByteArray), .string (⟨#[]⟩ : ByteArray), .bool false, .int .i64 0, .int .i64 0, .int .i64 0, .int .i64 0, .int .i64 0, .int .i64 0, .int .i64 0]) ?_ 3 _ rfl; (with_reducible repeat (first | refine kN ?_ _ | refine kD ?_ | refine kA ?_ _)); refine blk_put (cs := #[.int .i64 t622, .int .i64 t623, .int .i64 0, .string (⟨#[]⟩ : ByteArray), .string (⟨#[]⟩ : ByteArray), .bool false, .int .i64 0, .int .i64 0, .int .i64 0, .int .i64 0, .int .i64 0, .int .i64 0, .int .i64 0]) ?_ 2 _ rfl; (with_reducible repeat (first | refine kN ?_ _ | refine kD ?_ | refine kA ?_ _)); refine blk_put (cs := #[.int .i64 t622, .int .i64 0, .int .i64 0, .string (⟨#[]⟩ : ByteArray), .string (⟨#[]⟩ : ByteArray), .bool false, .int .i64 0, .int .i64 0, .int .i64 0, .int .i64 0, .int .i64 0, .int .i64 0, .int .i64 0]) ?_ 1 _ rfl; (with_reducible repeat (first | refine kN ?_ _ | refine kD ?_ | refine kA ?_ _)); refine blk_put (cs := #[.int .i64 0, .int .i64 0, .int .i64 0, .string (⟨#[]⟩ : ByteArray), .string (⟨#[]⟩ : ByteArray), .bool false, .int .i64 0, .int .i64 0, .int .i64 0, .int .i64 0, .int .i64 0, .int .i64 0, .int .i64 0]) ?_ 0 _ rfl; (with_reducible repeat (first | refine kN ?_ _ | refine kD ?_ | refine kA ?_ _)); exact BK636.out)) : gb636 ≠ gb638)); have n7_ := As.mk ((by rw [hg]; exact Nat.ne_of_gt (blk_lt (g := gb636) (o := .cells #[.int .i64 t622, .int .i64 t623, .int .i64 t624, .string t625, .string t626, .bool t627, .int .i64 t628, .int .i64 t629, .int .i64 t630, .int .i64 t631, .int .i64 t632, .int .i64 t633, .int .i64 t634] 45 (0, 0)) (by (with_reducible repeat (first | refine kN ?_ _ | refine kD ?_ | refine kA ?_ _)); refine blk_put (cs := #[.int .i64 t622, .int .i64 t623, .int .i64 t624, .string t625, .string t626, .bool t627, .int .i64 t628, .int .i64 t629, .int .i64 t630, .int .i64 t631, .int .i64 t632, .int .i64 t633, .int .i64 0]) ?_ 12 _ rfl; (with_reducible repeat (first | refine kN ?_ _ | refine kD ?_ | refine kA ?_ _)); refine blk_put (cs := #[.int .i64 t622, .int .i64 t623, .int .i64 t624, .string t625, .string t626, .bool t627, .int .i64 t628, .int .i64 t629, .int .i64 t630, .int .i64 t631, .int .i64 t632, .int .i64 0, .int .i64 0]) ?_ 11 _ rfl; (with_reducible repeat (first | refine kN ?_ _ | refine kD ?_ | refine kA ?_ _)); refine blk_put (cs := #[.int .i64 t622, .int .i64 t623, .int .i64 t624, .string t625, .string t626, .bool t627, .int .i64 t628, .int .i64 t629, .int .i64 t630, .int .i64 t631, .int .i64 0, .int .i64 0, .int .i64 0]) ?_ 10 _ rfl; (with_reducible repeat (first | refine kN ?_ _ | refine kD ?_ | refine kA ?_ _)); refine blk_put (cs := #[.int .i64 t622, .int .i64 t623, .int .i64 t624, .string t625, .string t626, .bool t627, .int .i64 t628, .int .i64 t629, .int .i64 t630, .int .i64 0, .int .i64 0, .int .i64 0, .int .i64 0]) ?_ 9 _ rfl; (with_reducible repeat (first | refine kN ?_ _ | refine kD ?_ | refine kA ?_ _)); refine blk_put (cs := #[.int .i64 t622, .int .i64 t623, .int .i64 t624, .string t625, .string t626, .bool t627, .int .i64 t628, .int .i64 t629, .int .i64 0, .int .i64 0, .int .i64 0, .int .i64 0, .int .i64 0]) ?_ 8 _ rfl; (with_reducible repeat (first | refine kN ?_ _ | refine kD ?_ | refine kA ?_ _)); refine blk_put (cs := #[.int .i64 t622, .int .i64 t623, .int .i64 t624, .string t625, .string t626, .bool t627, .int .i64 t628, .int .i64 0, .int .i64 0, .int .i64 0, .int .i64 0, .int .i64 0, .int .i64 0]) ?_ 7 _ rfl; (with_reducible repeat (first | refine kN ?_ _ | refine kD ?_ | refine kA ?_ _)); refine blk_put (cs := #[.int .i64 t622, .int .i64 t623, .int .i64 t624, .string t625, .string t626, .bool t627, .int .i64 0, .int .i64 0, .int .i64 0, .int .i64 0, .int .i64 0, .int .i64 0, .int .i64 0]) ?_ 6 _ rfl; (with_reducible repeat (first | refine kN ?_ _ | refine kD ?_ | refine kA ?_ _)); refine blk_put (cs := #[.int .i64 t622, .int .i64 t623, .int .i64 t624, .string t625, .string t626, .bool false, .int .i64 0, .int .i64 0, .int .i64 0, .int .i64 0, .int .i64 0, .int .i64 0, .int .i64 0]) ?_ 5 _ rfl; (with_reducible repeat (first | refine kN ?_ _ | refine kD ?_ | refine kA ?_ _)); refine blk_put (cs := #[.int .i64 t622, .int .i64 t623, .int .i64 t624, .string t625, .string (⟨#[]⟩ : ByteArray), .bool false, .int .i64 0, .int .i64 0, .int .i64 0, .int .i64 0, .int .i64 0, .int .i64 0, .int .i64 0]) ?_ 4 _ rfl; (with_reducible repeat (first | refine kN ?_ _ | refine kD ?_ | refine kA ?_ _)); refine blk_put (cs := #[.int .i64 t622, .int .i64 t623, .int .i64 t624, .string (⟨#[]⟩ : ByteArray), .string (⟨#[]⟩ : ByteArray), .bool false, .int .i64 0, .int .i64 0, .int .i64 0, .int .i64 0, .int .i64 0, .int .i64 0, .int .i64 0]) ?_ 3 _ rfl; (with_reducible repeat (first | refine kN ?_ _ | refine kD ?_ | refine kA ?_ _)); refine blk_put (cs := #[.int .i64 t622, .int .i64 t623, .int .i64 0, .string (⟨#[]⟩ : ByteArray), .string (⟨#[]⟩ : ByteArray), .bool false, .int .i64 0, .int .i64 0, .int .i64 0, .int .i64 0, .int .i64 0, .int .i64 0, .int .i64 0]) ?_ 2 _ rfl; (with_reducible repeat (first | refine kN ?_ _ | refine kD ?_ | refine kA ?_ _)); refine blk_put (cs := #[.int .i64 t622, .int .i64 0, .int .i64 0, .string (⟨#[]⟩ : ByteArray), .string (⟨#[]⟩ : ByteArray), .bool false, .int .i64 0, .int .i64 0, .int .i64 0, .int .i64 0, .int .i64 0, .int .i64 0, .int .i64 0]) ?_ 1 _ rfl; (with_reducible repeat (first | refine kN ?_ _ | refine kD ?_ | refine kA ?_ _)); refine blk_put (cs := #[.int .i64 0, .int .i64 0, .int .i64 0, .string (⟨#[]⟩ : ByteArray), .string (⟨#[]⟩ : ByteArray), .bool false, .int .i64 0, .int .i64 0, .int .i64 0, .int .i64 0, .int .i64 0, .int .i64 0, .int .i64 0]) ?_ 0 _ rfl; (with_reducible repeat (first | refine kN ?_ _ | refine kD ?_ | refine kA ?_ _)); exact BK636.out)) : gb638 ≠ gb636)); clear HO617; clear BK636; clear HB; have HO617 := n0_; have BK636 := n1_; have HB := n2_; have BK638 := n3_; have GW638 := n4_; have GE638 := n5_; have NB636_638 := n6_; have NB638_636 := n7_; clear n0_ n1_ n2_ n3_ n4_ n5_ n6_ n7_; clear hb hbox hg; have hnb47 := NB638_636.out; have hnc47 := NB636_638.out; obtain ⟨hcz48_0, hcz48_1, hcz48_2, hcz48_3, hcz48_4, hcz48_5, hcz48_6, hcz48_7, hcz48_8, hcz48_9, hcz48_10, hcz48_11, hcz48_12, hfz48_0, hfz48_1, hfz48_2, hfz48_3, hfz48_4, hfz48_5, hfz48_6, hfz48_7, hfz48_8, hfz48_9, hfz48_10, hfz48_11, hfz48_12⟩ := cl13 BK638.out)))
                   (try simp only [Act.put, List.setIfInBounds_toArray, List.set_cons_zero, List.set_cons_succ])
                   go_cut [] (fun wc => ∃ (kq : Nat) (x639005_37 : Bool) (x639006_37 : Int) (x639007_37 : Int) (x639008_37 : Int) (x639009_37 : Int) (x639010_37 : Int) (x639011_37 : Int) (x639012_37 : Int), As (solsticelaw10_ZoneLeft.j0 kq ji22 t635 t622 t623 t624 t625 t626 t627 t628 t629 t630 t631 t632 t633 t634 7200 1 0 (⟨#[]⟩ : ByteArray) (⟨#[69, 69, 84]⟩ : ByteArray) x639005_37 x639006_37 x639007_37 x639008_37 x639009_37 x639010_37 x639011_37 x639012_37 = some r) ∧ As (kq ≤ k) ∧ As (wc.heap[gb636]? = some (.cells #[.int .i64 t622, .int .i64 t623, .int .i64 t624, .string t625, .string t626, .bool t627, .int .i64 t628, .int .i64 t629, .int .i64 t630, .int .i64 t631, .int .i64 t632, .int .i64 t633, .int .i64 t634] 45 (0, 0))) ∧ As (wc.heap[gb638]? = some (.cells #[.int .i64 7200, .int .i64 1, .int .i64 0, .string (⟨#[]⟩ : ByteArray), .string (⟨#[69, 69, 84]⟩ : ByteArray), .bool x639005_37, .int .i64 x639006_37, .int .i64 x639007_37, .int .i64 x639008_37, .int .i64 x639009_37, .int .i64 x639010_37, .int .i64 x639011_37, .int .i64 x639012_37] 45 (0, 0))) ∧ As (Below w.heap.size w wc))
                   case first =>
                    have H := HC38.out
                    clear HC38
                    by_cases c49 : (ji22) > 3
                    ·rw [if_pos c49] at H
                     have c49b0 : decide (3 < (ji22)) = true := decide_eq_true c49
                     clear c49
                     (first | rw [c49b0] | (simp only [i64_w, i32_w]; rw [c49b0]) | skip)
                     have H' := As.mk H
                     clear H
                     have hnb50 := NB638_636.out
                     have hnc50 := NB636_638.out
                     obtain ⟨hcz51_0, hcz51_1, hcz51_2, hcz51_3, hcz51_4, hcz51_5, hcz51_6, hcz51_7, hcz51_8, hcz51_9, hcz51_10, hcz51_11, hcz51_12, hfz51_0, hfz51_1, hfz51_2, hfz51_3, hfz51_4, hfz51_5, hfz51_6, hfz51_7, hfz51_8, hfz51_9, hfz51_10, hfz51_11, hfz51_12⟩ := cl13 BK638.out
                     go_wp2
                     repeat (go_quiet (fail); try go_wp2)
                     go_meet
                     case rel => exact ⟨_, (true), (wrap64 (1 + (wrap64 (Int.tmod (IntKind.u64.wrap (a0)) 9999)))), (1), (1), (0), (1), (0), (1), H', ⟨by first | omega | exact Nat.le_refl _⟩, ⟨by (with_reducible repeat (first | refine kN ?_ _ | refine kD ?_ | refine kA ?_ _)); refine blk_far ?_ NB636_638.out _; (with_reducible repeat (first | refine kN ?_ _ | refine kD ?_ | refine kA ?_ _)); refine blk_far ?_ NB636_638.out _; (with_reducible repeat (first | refine kN ?_ _ | refine kD ?_ | refine kA ?_ _)); refine blk_far ?_ NB636_638.out _; (with_reducible repeat (first | refine kN ?_ _ | refine kD ?_ | refine kA ?_ _)); refine blk_far ?_ NB636_638.out _; (with_reducible repeat (first | refine kN ?_ _ | refine kD ?_ | refine kA ?_ _)); refine blk_far ?_ NB636_638.out _; (with_reducible repeat (first | refine kN ?_ _ | refine kD ?_ | refine kA ?_ _)); refine blk_far ?_ NB636_638.out _; (with_reducible repeat (first | refine kN ?_ _ | refine kD ?_ | refine kA ?_ _)); refine blk_far ?_ NB636_638.out _; (with_reducible repeat (first | refine kN ?_ _ | refine kD ?_ | refine kA ?_ _)); refine blk_far ?_ NB636_638.out _; (with_reducible repeat (first | refine kN ?_ _ | refine kD ?_ | refine kA ?_ _)); refine blk_far ?_ NB636_638.out _; (with_reducible repeat (first | refine kN ?_ _ | refine kD ?_ | refine kA ?_ _)); refine blk_far ?_ NB636_638.out _; (with_reducible repeat (first | refine kN ?_ _ | refine kD ?_ | refine kA ?_ _)); refine blk_far ?_ NB636_638.out _; (with_reducible repeat (first | refine kN ?_ _ | refine kD ?_ | refine kA ?_ _)); refine blk_far ?_ NB636_638.out _; (with_reducible repeat (first | refine kN ?_ _ | refine kD ?_ | refine kA ?_ _)); refine blk_far ?_ NB636_638.out _; (with_reducible repeat (first | refine kN ?_ _ | refine kD ?_ | refine kA ?_ _)); refine blk_far ?_ NB636_638.out _; (with_reducible repeat (first | refine kN ?_ _ | refine kD ?_ | refine kA ?_ _)); refine blk_far ?_ NB636_638.out _; (with_reducible repeat (first | refine kN ?_ _ | refine kD ?_ | refine kA ?_ _)); refine blk_far ?_ NB636_638.out _; (with_reducible repeat (first | refine kN ?_ _ | refine kD ?_ | refine kA ?_ _)); refine blk_far ?_ NB636_638.out _; (with_reducible repeat (first | refine kN ?_ _ | refine kD ?_ | refine kA ?_ _)); refine blk_far ?_ NB636_638.out _; (with_reducible repeat (first | refine kN ?_ _ | refine kD ?_ | refine kA ?_ _)); refine blk_far ?_ NB636_638.out _; (with_reducible repeat (first | refine kN ?_ _ | refine kD ?_ | refine kA ?_ _)); refine blk_far ?_ NB636_638.out _; (with_reducible repeat (first | refine kN ?_ _ | refine kD ?_ | refine kA ?_ _)); refine blk_far ?_ NB636_638.out _; (with_reducible repeat (first | refine kN ?_ _ | refine kD ?_ | refine kA ?_ _)); exact BK636.out⟩, ⟨by (with_reducible repeat (first | refine kN ?_ _ | refine kD ?_ | refine kA ?_ _)); refine blk_put (cs := #[.int .i64 7200, .int .i64 1, .int .i64 0, .string (⟨#[]⟩ : ByteArray), .string (⟨#[69, 69, 84]⟩ : ByteArray), .bool true, .int .i64 (wrap64 (1 + (wrap64 (Int.tmod (IntKind.u64.wrap (a0)) 9999)))), .int .i64 1, .int .i64 1, .int .i64 0, .int .i64 1, .int .i64 0, .int .i64 0]) ?_ 12 _ rfl; (with_reducible repeat (first | refine kN ?_ _ | refine kD ?_ | refine kA ?_ _)); refine blk_put (cs := #[.int .i64 7200, .int .i64 1, .int .i64 0, .string (⟨#[]⟩ : ByteArray), .string (⟨#[69, 69, 84]⟩ : ByteArray), .bool true, .int .i64 (wrap64 (1 + (wrap64 (Int.tmod (IntKind.u64.wrap (a0)) 9999)))), .int .i64 1, .int .i64 1, .int .i64 0, .int .i64 1, .int .i64 0, .int .i64 0]) ?_ 11 _ rfl; (with_reducible repeat (first | refine kN ?_ _ | refine kD ?_ | refine kA ?_ _)); refine blk_put (cs := #[.int .i64 7200, .int .i64 1, .int .i64 0, .string (⟨#[]⟩ : ByteArray), .string (⟨#[69, 69, 84]⟩ : ByteArray), .bool true, .int .i64 (wrap64 (1 + (wrap64 (Int.tmod (IntKind.u64.wrap (a0)) 9999)))), .int .i64 1, .int .i64 1, .int .i64 0, .int .i64 0, .int .i64 0, .int .i64 0]) ?_ 10 _ rfl; (with_reducible repeat (first | refine kN ?_ _ | refine kD ?_ | refine kA ?_ _)); refine blk_put (cs := #[.int .i64 7200, .int .i64 1, .int .i64 0, .string (⟨#[]⟩ : ByteArray), .string (⟨#[69, 69, 84]⟩ : ByteArray), .bool true, .int .i64 (wrap64 (1 + (wrap64 (Int.tmod (IntKind.u64.wrap (a0)) 9999)))), .int .i64 1, .int .i64 1, .int .i64 0, .int .i64 0, .int .i64 0, .int .i64 0]) ?_ 9 _ rfl; (with_reducible repeat (first | refine kN ?_ _ | refine kD ?_ | refine kA ?_ _)); refine blk_put (cs := #[.int .i64 7200, .int .i64 1, .int .i64 0, .string (⟨#[]⟩ : ByteArray), .string (⟨#[69, 69, 84]⟩ : ByteArray), .bool true, .int .i64 (wrap64 (1 + (wrap64 (Int.tmod (IntKind.u64.wrap (a0)) 9999)))), .int .i64 1, .int .i64 0, .int .i64 0, .int .i64 0, .int .i64 0, .int .i64 0]) ?_ 8 _ rfl; (with_reducible repeat (first | refine kN ?_ _ | refine kD ?_ | refine kA ?_ _)); refine blk_put (cs := #[.int .i64 7200, .int .i64 1, .int .i64 0, .string (⟨#[]⟩ : ByteArray), .string (⟨#[69, 69, 84]⟩ : ByteArray), .bool true, .int .i64 (wrap64 (1 + (wrap64 (Int.tmod (IntKind.u64.wrap (a0)) 9999)))), .int .i64 0, .int .i64 0, .int .i64 0, .int .i64 0, .int .i64 0, .int .i64 0]) ?_ 7 _ rfl; (with_reducible repeat (first | refine kN ?_ _ | refine kD ?_ | refine kA ?_ _)); refine blk_put (cs := #[.int .i64 7200, .int .i64 1, .int .i64 0, .string (⟨#[]⟩ : ByteArray), .string (⟨#[69, 69, 84]⟩ : ByteArray), .bool true, .int .i64 0, .int .i64 0, .int .i64 0, .int .i64 0, .int .i64 0, .int .i64 0, .int .i64 0]) ?_ 6 _ rfl; (with_reducible repeat (first | refine kN ?_ _ | refine kD ?_ | refine kA ?_ _)); refine blk_put (cs := #[.int .i64 7200, .int .i64 1, .int .i64 0, .string (⟨#[]⟩ : ByteArray), .string (⟨#[69, 69, 84]⟩ : ByteArray), .bool false, .int .i64 0, .int .i64 0, .int .i64 0, .int .i64 0, .int .i64 0, .int .i64 0, .int .i64 0]) ?_ 5 _ rfl; (with_reducible repeat (first | refine kN ?_ _ | refine kD ?_ | refine kA ?_ _)); refine blk_put (cs := #[.int .i64 7200, .int .i64 1, .int .i64 0, .string (⟨#[]⟩ : ByteArray), .string (⟨#[69, 69, 84]⟩ : ByteArray), .bool false, .int .i64 0, .int .i64 0, .int .i64 0, .int .i64 0, .int .i64 0, .int .i64 0, .int .i64 0]) ?_ 12 _ rfl; (with_reducible repeat (first | refine kN ?_ _ | refine kD ?_ | refine kA ?_ _)); refine blk_put (cs := #[.int .i64 7200, .int .i64 1, .int .i64 0, .string (⟨#[]⟩ : ByteArray), .string (⟨#[69, 69, 84]⟩ : ByteArray), .bool false, .int .i64 0, .int .i64 0, .int .i64 0, .int .i64 0, .int .i64 0, .int .i64 0, .int .i64 0]) ?_ 11 _ rfl; (with_reducible repeat (first | refine kN ?_ _ | refine kD ?_ | refine kA ?_ _)); refine blk_put (cs := #[.int .i64 7200, .int .i64 1, .int .i64 0, .string (⟨#[]⟩ : ByteArray), .string (⟨#[69, 69, 84]⟩ : ByteArray), .bool false, .int .i64 0, .int .i64 0, .int .i64 0, .int .i64 0, .int .i64 0, .int .i64 0, .int .i64 0]) ?_ 10 _ rfl; (with_reducible repeat (first | refine kN ?_ _ | refine kD ?_ | refine kA ?_ _)); refine blk_put (cs := #[.int .i64 7200, .int .i64 1, .int .i64 0, .string (⟨#[]⟩ : ByteArray), .string (⟨#[69, 69, 84]⟩ : ByteArray), .bool false, .int .i64 0, .int .i64 0, .int .i64 0, .int .i64 0, .int .i64 0, .int .i64 0, .int .i64 0]) ?_ 9 _ rfl; (with_reducible repeat (first | refine kN ?_ _ | refine kD ?_ | refine kA ?_ _)); refine blk_put (cs := #[.int .i64 7200, .int .i64 1, .int .i64 0, .string (⟨#[]⟩ : ByteArray), .string (⟨#[69, 69, 84]⟩ : ByteArray), .bool false, .int .i64 0, .int .i64 0, .int .i64 0, .int .i64 0, .int .i64 0, .int .i64 0, .int .i64 0]) ?_ 8 _ rfl; (with_reducible repeat (first | refine kN ?_ _ | refine kD ?_ | refine kA ?_ _)); refine blk_put (cs := #[.int .i64 7200, .int .i64 1, .int .i64 0, .string (⟨#[]⟩ : ByteArray), .string (⟨#[69, 69, 84]⟩ : ByteArray), .bool false, .int .i64 0, .int .i64 0, .int .i64 0, .int .i64 0, .int .i64 0, .int .i64 0, .int .i64 0]) ?_ 7 _ rfl; (with_reducible repeat (first | refine kN ?_ _ | refine kD ?_ | refine kA ?_ _)); refine blk_put (cs := #[.int .i64 7200, .int .i64 1, .int .i64 0, .string (⟨#[]⟩ : ByteArray), .string (⟨#[69, 69, 84]⟩ : ByteArray), .bool false, .int .i64 0, .int .i64 0, .int .i64 0, .int .i64 0, .int .i64 0, .int .i64 0, .int .i64 0]) ?_ 6 _ rfl; (with_reducible repeat (first | refine kN ?_ _ | refine kD ?_ | refine kA ?_ _)); refine blk_put (cs := #[.int .i64 7200, .int .i64 1, .int .i64 0, .string (⟨#[]⟩ : ByteArray), .string (⟨#[69, 69, 84]⟩ : ByteArray), .bool false, .int .i64 0, .int .i64 0, .int .i64 0, .int .i64 0, .int .i64 0, .int .i64 0, .int .i64 0]) ?_ 5 _ rfl; (with_reducible repeat (first | refine kN ?_ _ | refine kD ?_ | refine kA ?_ _)); refine blk_put (cs := #[.int .i64 7200, .int .i64 1, .int .i64 0, .string (⟨#[]⟩ : ByteArray), .string (⟨#[]⟩ : ByteArray), .bool false, .int .i64 0, .int .i64 0, .int .i64 0, .int .i64 0, .int .i64 0, .int .i64 0, .int .i64 0]) ?_ 4 _ rfl; (with_reducible repeat (first | refine kN ?_ _ | refine kD ?_ | refine kA ?_ _)); refine blk_put (cs := #[.int .i64 7200, .int .i64 1, .int .i64 0, .string (⟨#[]⟩ : ByteArray), .string (⟨#[]⟩ : ByteArray), .bool false, .int .i64 0, .int .i64 0, .int .i64 0, .int .i64 0, .int .i64 0, .int .i64 0, .int .i64 0]) ?_ 3 _ rfl; (with_reducible repeat (first | refine kN ?_ _ | refine kD ?_ | refine kA ?_ _)); refine blk_put (cs := #[.int .i64 7200, .int .i64 1, .int .i64 0, .string (⟨#[]⟩ : ByteArray), .string (⟨#[]⟩ : ByteArray), .bool false, .int .i64 0, .int .i64 0, .int .i64 0, .int .i64 0, .int .i64 0, .int .i64 0, .int .i64 0]) ?_ 2 _ rfl; (with_reducible repeat (first | refine kN ?_ _ | refine kD ?_ | refine kA ?_ _)); refine blk_put (cs := #[.int .i64 7200, .int .i64 0, .int .i64 0, .string (⟨#[]⟩ : ByteArray), .string (⟨#[]⟩ : ByteArray), .bool false, .int .i64 0, .int .i64 0, .int .i64 0, .int .i64 0, .int .i64 0, .int .i64 0, .int .i64 0]) ?_ 1 _ rfl; (with_reducible repeat (first | refine kN ?_ _ | refine kD ?_ | refine kA ?_ _)); refine blk_put (cs := #[.int .i64 0, .int .i64 0, .int .i64 0, .string (⟨#[]⟩ : ByteArray), .string (⟨#[]⟩ : ByteArray), .bool false, .int .i64 0, .int .i64 0, .int .i64 0, .int .i64 0, .int .i64 0, .int .i64 0, .int .i64 0]) ?_ 0 _ rfl; (with_reducible repeat (first | refine kN ?_ _ | refine kD ?_ | refine kA ?_ _)); exact BK638.out⟩, ⟨by repeat (first | (with_reducible first | exact HB.out | apply bA | apply bN | apply bD | refine bS ?_ GE636.out | refine bS ?_ GE638.out) | exact HB.out)⟩⟩
                    ·rw [if_neg c49] at H
                     have c49b0 : decide (3 < (ji22)) = false := decide_eq_false c49
                     clear c49
                     (first | rw [c49b0] | (simp only [i64_w, i32_w]; rw [c49b0]) | skip)
                     have H' := As.mk H
                     clear H
                     go_wp2
                     repeat (go_quiet (fail); try go_wp2)
                     go_meet
                     case rel => exact ⟨_, (false), (0), (0), (0), (0), (0), (0), (0), H', ⟨by first | omega | exact Nat.le_refl _⟩, ⟨by (with_reducible repeat (first | refine kN ?_ _ | refine kD ?_ | refine kA ?_ _)); refine blk_far ?_ NB636_638.out _; (with_reducible repeat (first | refine kN ?_ _ | refine kD ?_ | refine kA ?_ _)); refine blk_far ?_ NB636_638.out _; (with_reducible repeat (first | refine kN ?_ _ | refine kD ?_ | refine kA ?_ _)); refine blk_far ?_ NB636_638.out _; (with_reducible repeat (first | refine kN ?_ _ | refine kD ?_ | refine kA ?_ _)); refine blk_far ?_ NB636_638.out _; (with_reducible repeat (first | refine kN ?_ _ | refine kD ?_ | refine kA ?_ _)); refine blk_far ?_ NB636_638.out _; (with_reducible repeat (first | refine kN ?_ _ | refine kD ?_ | refine kA ?_ _)); refine blk_far ?_ NB636_638.out _; (with_reducible repeat (first | refine kN ?_ _ | refine kD ?_ | refine kA ?_ _)); refine blk_far ?_ NB636_638.out _; (with_reducible repeat (first | refine kN ?_ _ | refine kD ?_ | refine kA ?_ _)); refine blk_far ?_ NB636_638.out _; (with_reducible repeat (first | refine kN ?_ _ | refine kD ?_ | refine kA ?_ _)); refine blk_far ?_ NB636_638.out _; (with_reducible repeat (first | refine kN ?_ _ | refine kD ?_ | refine kA ?_ _)); refine blk_far ?_ NB636_638.out _; (with_reducible repeat (first | refine kN ?_ _ | refine kD ?_ | refine kA ?_ _)); refine blk_far ?_ NB636_638.out _; (with_reducible repeat (first | refine kN ?_ _ | refine kD ?_ | refine kA ?_ _)); refine blk_far ?_ NB636_638.out _; (with_reducible repeat (first | refine kN ?_ _ | refine kD ?_ | refine kA ?_ _)); refine blk_far ?_ NB636_638.out _; (with_reducible repeat (first | refine kN ?_ _ | refine kD ?_ | refine kA ?_ _)); exact BK636.out⟩, ⟨by (with_reducible repeat (first | refine kN ?_ _ | refine kD ?_ | refine kA ?_ _)); refine blk_put (cs := #[.int .i64 7200, .int .i64 1, .int .i64 0, .string (⟨#[]⟩ : ByteArray), .string (⟨#[69, 69, 84]⟩ : ByteArray), .bool false, .int .i64 0, .int .i64 0, .int .i64 0, .int .i64 0, .int .i64 0, .int .i64 0, .int .i64 0]) ?_ 12 _ rfl; (with_reducible repeat (first | refine kN ?_ _ | refine kD ?_ | refine kA ?_ _)); refine blk_put (cs := #[.int .i64 7200, .int .i64 1, .int .i64 0, .string (⟨#[]⟩ : ByteArray), .string (⟨#[69, 69, 84]⟩ : ByteArray), .bool false, .int .i64 0, .int .i64 0, .int .i64 0, .int .i64 0, .int .i64 0, .int .i64 0, .int .i64 0]) ?_ 11 _ rfl; (with_reducible repeat (first | refine kN ?_ _ | refine kD ?_ | refine kA ?_ _)); refine blk_put (cs := #[.int .i64 7200, .int .i64 1, .int .i64 0, .string (⟨#[]⟩ : ByteArray), .string (⟨#[69, 69, 84]⟩ : ByteArray), .bool false, .int .i64 0, .int .i64 0, .int .i64 0, .int .i64 0, .int .i64 0, .int .i64 0, .int .i64 0]) ?_ 10 _ rfl; (with_reducible repeat (first | refine kN ?_ _ | refine kD ?_ | refine kA ?_ _)); refine blk_put (cs := #[.int .i64 7200, .int .i64 1, .int .i64 0, .string (⟨#[]⟩ : ByteArray), .string (⟨#[69, 69, 84]⟩ : ByteArray), .bool false, .int .i64 0, .int .i64 0, .int .i64 0, .int .i64 0, .int .i64 0, .int .i64 0, .int .i64 0]) ?_ 9 _ rfl; (with_reducible repeat (first | refine kN ?_ _ | refine kD ?_ | refine kA ?_ _)); refine blk_put (cs := #[.int .i64 7200, .int .i64 1, .int .i64 0, .string (⟨#[]⟩ : ByteArray), .string (⟨#[69, 69, 84]⟩ : ByteArray), .bool false, .int .i64 0, .int .i64 0, .int .i64 0, .int .i64 0, .int .i64 0, .int .i64 0, .int .i64 0]) ?_ 8 _ rfl; (with_reducible repeat (first | refine kN ?_ _ | refine kD ?_ | refine kA ?_ _)); refine blk_put (cs := #[.int .i64 7200, .int .i64 1, .int .i64 0, .string (⟨#[]⟩ : ByteArray), .string (⟨#[69, 69, 84]⟩ : ByteArray), .bool false, .int .i64 0, .int .i64 0, .int .i64 0, .int .i64 0, .int .i64 0, .int .i64 0, .int .i64 0]) ?_ 7 _ rfl; (with_reducible repeat (first | refine kN ?_ _ | refine kD ?_ | refine kA ?_ _)); refine blk_put (cs := #[.int .i64 7200, .int .i64 1, .int .i64 0, .string (⟨#[]⟩ : ByteArray), .string (⟨#[69, 69, 84]⟩ : ByteArray), .bool false, .int .i64 0, .int .i64 0, .int .i64 0, .int .i64 0, .int .i64 0, .int .i64 0, .int .i64 0]) ?_ 6 _ rfl; (with_reducible repeat (first | refine kN ?_ _ | refine kD ?_ | refine kA ?_ _)); refine blk_put (cs := #[.int .i64 7200, .int .i64 1, .int .i64 0, .string (⟨#[]⟩ : ByteArray), .string (⟨#[69, 69, 84]⟩ : ByteArray), .bool false, .int .i64 0, .int .i64 0, .int .i64 0, .int .i64 0, .int .i64 0, .int .i64 0, .int .i64 0]) ?_ 5 _ rfl; (with_reducible repeat (first | refine kN ?_ _ | refine kD ?_ | refine kA ?_ _)); refine blk_put (cs := #[.int .i64 7200, .int .i64 1, .int .i64 0, .string (⟨#[]⟩ : ByteArray), .string (⟨#[]⟩ : ByteArray), .bool false, .int .i64 0, .int .i64 0, .int .i64 0, .int .i64 0, .int .i64 0, .int .i64 0, .int .i64 0]) ?_ 4 _ rfl; (with_reducible repeat (first | refine kN ?_ _ | refine kD ?_ | refine kA ?_ _)); refine blk_put (cs := #[.int .i64 7200, .int .i64 1, .int .i64 0, .string (⟨#[]⟩ : ByteArray), .string (⟨#[]⟩ : ByteArray), .bool false, .int .i64 0, .int .i64 0, .int .i64 0, .int .i64 0, .int .i64 0, .int .i64 0, .int .i64 0]) ?_ 3 _ rfl; (with_reducible repeat (first | refine kN ?_ _ | refine kD ?_ | refine kA ?_ _)); refine blk_put (cs := #[.int .i64 7200, .int .i64 1, .int .i64 0, .string (⟨#[]⟩ : ByteArray), .string (⟨#[]⟩ : ByteArray), .bool false, .int .i64 0, .int .i64 0, .int .i64 0, .int .i64 0, .int .i64 0, .int .i64 0, .int .i64 0]) ?_ 2 _ rfl; (with_reducible repeat (first | refine kN ?_ _ | refine kD ?_ | refine kA ?_ _)); refine blk_put (cs := #[.int .i64 7200, .int .i64 0, .int .i64 0, .string (⟨#[]⟩ : ByteArray), .string (⟨#[]⟩ : ByteArray), .bool false, .int .i64 0, .int .i64 0, .int .i64 0, .int .i64 0, .int .i64 0, .int .i64 0, .int .i64 0]) ?_ 1 _ rfl; (with_reducible repeat (first | refine kN ?_ _ | refine kD ?_ | refine kA ?_ _)); refine blk_put (cs := #[.int .i64 0, .int .i64 0, .int .i64 0, .string (⟨#[]⟩ : ByteArray), .string (⟨#[]⟩ : ByteArray), .bool false, .int .i64 0, .int .i64 0, .int .i64 0, .int .i64 0, .int .i64 0, .int .i64 0, .int .i64 0]) ?_ 0 _ rfl; (with_reducible repeat (first | refine kN ?_ _ | refine kD ?_ | refine kA ?_ _)); exact BK638.out⟩, ⟨by repeat (first | (with_reducible first | exact HB.out | apply bA | apply bN | apply bD | refine bS ?_ GE636.out | refine bS ?_ GE638.out) | exact HB.out)⟩⟩
                   case rest =>
                    clear HC38
                    try clear c1
                    try clear c2
                    try clear p2
                    try clear q3
                    try clear c4
                    try clear c4b0
                    try clear c4b1
                    try clear q4
                    try clear c5
                    try clear c5b0
                    try clear c5b1
                    try clear c6
                    try clear c6b0
                    try clear c6b1
                    try clear p6
                    try clear c7
                    try clear c8
                    try clear c8b0
                    try clear c8b1
                    try clear c9
                    try clear c9b0
                    try clear c9b1
                    try clear c10
                    try clear c10b0
                    try clear c10b1
                    try clear c11
                    try clear c11b0
                    try clear c11b1
                    try clear c11b2
                    try clear c13
                    try clear c13b0
                    try clear c13b1
                    try clear c14
                    try clear c14b0
                    try clear c14b1
                    try clear c15
                    try clear c15b0
                    try clear c15b1
                    try clear c16
                    try clear c16b0
                    try clear c16b1
                    try clear c16b2
                    try clear c18
                    try clear c18b0
                    try clear c18b1
                    try clear c19
                    try clear c19b0
                    try clear c19b1
                    try clear c20
                    try clear c20b0
                    try clear c20b1
                    try clear c21
                    try clear c21b0
                    try clear c21b1
                    try clear c21b2
                    try clear c23
                    try clear c23b0
                    try clear c23b1
                    try clear c24
                    try clear c24b0
                    try clear c24b1
                    try clear c26
                    try clear c26b0
                    try clear c26b1
                    try clear c27
                    try clear c27b0
                    try clear c27b1
                    try clear c28
                    try clear c28b0
                    try clear c28b1
                    try clear c28b2
                    try clear q32
                    try clear q41
                    try clear c47
                    try clear c49
                    try clear c49b0
                    try clear c50
                    try clear hcz36_0
                    try clear hcz36_1
                    try clear hcz36_10
                    try clear hcz36_11
                    try clear hcz36_12
                    try clear hcz36_2
                    try clear hcz36_3
                    try clear hcz36_4
                    try clear hcz36_5
                    try clear hcz36_6
                    try clear hcz36_7
                    try clear hcz36_8
                    try clear hcz36_9
                    try clear hcz45_0
                    try clear hcz45_1
                    try clear hcz45_10
                    try clear hcz45_11
                    try clear hcz45_12
                    try clear hcz45_2
                    try clear hcz45_3
                    try clear hcz45_4
                    try clear hcz45_5
                    try clear hcz45_6
                    try clear hcz45_7
                    try clear hcz45_8
                    try clear hcz45_9
                    try clear hcz48_0
                    try clear hcz48_1
                    try clear hcz48_10
                    try clear hcz48_11
                    try clear hcz48_12
                    try clear hcz48_2
                    try clear hcz48_3
                    try clear hcz48_4
                    try clear hcz48_5
                    try clear hcz48_6
                    try clear hcz48_7
                    try clear hcz48_8
                    try clear hcz48_9
                    try clear hcz51_0
                    try clear hcz51_1
                    try clear hcz51_10
                    try clear hcz51_11
                    try clear hcz51_12
                    try clear hcz51_2
                    try clear hcz51_3
                    try clear hcz51_4
                    try clear hcz51_5
                    try clear hcz51_6
                    try clear hcz51_7
                    try clear hcz51_8
                    try clear hcz51_9
                    try clear hfz36_0
                    try clear hfz36_1
                    try clear hfz36_10
                    try clear hfz36_11
                    try clear hfz36_12
                    try clear hfz36_2
                    try clear hfz36_3
                    try clear hfz36_4
                    try clear hfz36_5
                    try clear hfz36_6
                    try clear hfz36_7
                    try clear hfz36_8
                    try clear hfz36_9
                    try clear hfz45_0
                    try clear hfz45_1
                    try clear hfz45_10
                    try clear hfz45_11
                    try clear hfz45_12
                    try clear hfz45_2
                    try clear hfz45_3
                    try clear hfz45_4
                    try clear hfz45_5
                    try clear hfz45_6
                    try clear hfz45_7
                    try clear hfz45_8
                    try clear hfz45_9
                    try clear hfz48_0
                    try clear hfz48_1
                    try clear hfz48_10
                    try clear hfz48_11
                    try clear hfz48_12
                    try clear hfz48_2
                    try clear hfz48_3
                    try clear hfz48_4
                    try clear hfz48_5
                    try clear hfz48_6
                    try clear hfz48_7
                    try clear hfz48_8
                    try clear hfz48_9
                    try clear hfz51_0
                    try clear hfz51_1
                    try clear hfz51_10
                    try clear hfz51_11
                    try clear hfz51_12
                    try clear hfz51_2
                    try clear hfz51_3
                    try clear hfz51_4
                    try clear hfz51_5
                    try clear hfz51_6
                    try clear hfz51_7
                    try clear hfz51_8
                    try clear hfz51_9
                    try clear q32
                    try clear q41
                    obtain ⟨kq, x639005_37, x639006_37, x639007_37, x639008_37, x639009_37, x639010_37, x639011_37, x639012_37, HA, HJ37, BK636, BK638, HB⟩ := hcut
                    cases kq with
                    | zero => exact absurd HA.out (by simp [solsticelaw10_ZoneLeft.j0])
                    | succ kj37 =>
                     have H := HA.out
                     clear HA
                     simp only [solsticelaw10_ZoneLeft.j0] at H
                     have HC52 := As.mk H
                     clear H
                     go_upto_if 89 with (fail)
                     repeat (go_quiet (fail); go_upto_if 89 with (fail))
                     go_cut [] (fun wc => ∃ (kq : Nat) (x639007_51 : Int), As (solsticelaw10_ZoneLeft.j1 kq ji22 t635 t622 t623 t624 t625 t626 t627 t628 t629 t630 t631 t632 t633 t634 7200 1 0 (⟨#[]⟩ : ByteArray) (⟨#[69, 69, 84]⟩ : ByteArray) x639005_37 x639006_37 x639007_51 x639008_37 x639009_37 x639010_37 x639011_37 x639012_37 = some r) ∧ As (kq ≤ kj37) ∧ As (wc.heap[gb636]? = some (.cells #[.int .i64 t622, .int .i64 t623, .int .i64 t624, .string t625, .string t626, .bool t627, .int .i64 t628, .int .i64 t629, .int .i64 t630, .int .i64 t631, .int .i64 t632, .int .i64 t633, .int .i64 t634] 45 (0, 0))) ∧ As (wc.heap[gb638]? = some (.cells #[.int .i64 7200, .int .i64 1, .int .i64 0, .string (⟨#[]⟩ : ByteArray), .string (⟨#[69, 69, 84]⟩ : ByteArray), .bool x639005_37, .int .i64 x639006_37, .int .i64 x639007_51, .int .i64 x639008_37, .int .i64 x639009_37, .int .i64 x639010_37, .int .i64 x639011_37, .int .i64 x639012_37] 45 (0, 0))) ∧ As (Below w.heap.size w wc))
                     case first =>
                      have H := HC52.out
                      clear HC52
                      by_cases c53 : ji22 > 4
                      ·rw [if_pos c53] at H
                       have c53b0 : decide (4 < ji22) = true := decide_eq_true c53
                       clear c53
                       (first | rw [c53b0] | (simp only [i64_w, i32_w]; rw [c53b0]) | skip)
                       have H' := As.mk H
                       clear H
                       have hnb54 := NB638_636.out
                       have hnc54 := NB636_638.out
                       obtain ⟨hcz55_0, hcz55_1, hcz55_2, hcz55_3, hcz55_4, hcz55_5, hcz55_6, hcz55_7, hcz55_8, hcz55_9, hcz55_10, hcz55_11, hcz55_12, hfz55_0, hfz55_1, hfz55_2, hfz55_3, hfz55_4, hfz55_5, hfz55_6, hfz55_7, hfz55_8, hfz55_9, hfz55_10, hfz55_11, hfz55_12⟩ := cl13 BK638.out
                       go_wp2
                       repeat (go_quiet (fail); try go_wp2)
                       go_meet
                       case rel => exact ⟨_, (3), H', ⟨by have := HJ37.out; first | omega | exact Nat.le_refl _⟩, ⟨by (with_reducible repeat (first | refine kN ?_ _ | refine kD ?_ | refine kA ?_ _)); refine blk_far ?_ NB636_638.out _; (with_reducible repeat (first | refine kN ?_ _ | refine kD ?_ | refine kA ?_ _)); exact BK636.out⟩, ⟨by (with_reducible repeat (first | refine kN ?_ _ | refine kD ?_ | refine kA ?_ _)); refine blk_put (cs := #[.int .i64 7200, .int .i64 1, .int .i64 0, .string (⟨#[]⟩ : ByteArray), .string (⟨#[69, 69, 84]⟩ : ByteArray), .bool x639005_37, .int .i64 x639006_37, .int .i64 x639007_37, .int .i64 x639008_37, .int .i64 x639009_37, .int .i64 x639010_37, .int .i64 x639011_37, .int .i64 x639012_37]) ?_ 7 _ rfl; (with_reducible repeat (first | refine kN ?_ _ | refine kD ?_ | refine kA ?_ _)); exact BK638.out⟩, ⟨by repeat (first | (with_reducible first | exact HB.out | apply bA | apply bN | apply bD | refine bS ?_ GE636.out | refine bS ?_ GE638.out) | exact HB.out)⟩⟩
                      ·rw [if_neg c53] at H
                       have c53b0 : decide (4 < ji22) = false := decide_eq_false c53
                       clear c53
                       (first | rw [c53b0] | (simp only [i64_w, i32_w]; rw [c53b0]) | skip)
                       have H' := As.mk H
                       clear H
                       go_wp2
                       repeat (go_quiet (fail); try go_wp2)
                       go_meet
                       case rel => exact ⟨_, (x639007_37), H', ⟨by have := HJ37.out; first | omega | exact Nat.le_refl _⟩, ⟨by (with_reducible repeat (first | refine kN ?_ _ | refine kD ?_ | refine kA ?_ _)); exact BK636.out⟩, ⟨by (with_reducible repeat (first | refine kN ?_ _ | refine kD ?_ | refine kA ?_ _)); exact BK638.out⟩, ⟨by repeat (first | (with_reducible first | exact HB.out | apply bA | apply bN | apply bD | refine bS ?_ GE636.out | refine bS ?_ GE638.out) | exact HB.out)⟩⟩
                     case rest =>
                      clear HC52
                      try clear c1
                      try clear c2
                      try clear p2
                      try clear q3
                      try clear c4
                      try clear c4b0
                      try clear c4b1
                      try clear q4
                      try clear c5
                      try clear c5b0
                      try clear c5b1
                      try clear c6
                      try clear c6b0
                      try clear c6b1
                      try clear p6
                      try clear c7
                      try clear c8
                      try clear c8b0
                      try clear c8b1
                      try clear c9
                      try clear c9b0
                      try clear c9b1
                      try clear c10
                      try clear c10b0
                      try clear c10b1
                      try clear c11
                      try clear c11b0
                      try clear c11b1
                      try clear c11b2
                      try clear c13
                      try clear c13b0
                      try clear c13b1
                      try clear c14
                      try clear c14b0
                      try clear c14b1
                      try clear c15
                      try clear c15b0
                      try clear c15b1
                      try clear c16
                      try clear c16b0
                      try clear c16b1
                      try clear c16b2
                      try clear c18
                      try clear c18b0
                      try clear c18b1
                      try clear c19
                      try clear c19b0
                      try clear c19b1
                      try clear c20
                      try clear c20b0
                      try clear c20b1
                      try clear c21
                      try clear c21b0
                      try clear c21b1
                      try clear c21b2
                      try clear c23
                      try clear c23b0
                      try clear c23b1
                      try clear c24
                      try clear c24b0
                      try clear c24b1
                      try clear c26
                      try clear c26b0
                      try clear c26b1
                      try clear c27
                      try clear c27b0
                      try clear c27b1
                      try clear c28
                      try clear c28b0
                      try clear c28b1
                      try clear c28b2
                      try clear q32
                      try clear q41
                      try clear c47
                      try clear c49
                      try clear c49b0
                      try clear c50
                      try clear c53
                      try clear c53b0
                      try clear c54
                      try clear hcz36_0
                      try clear hcz36_1
                      try clear hcz36_10
                      try clear hcz36_11
                      try clear hcz36_12
                      try clear hcz36_2
                      try clear hcz36_3
                      try clear hcz36_4
                      try clear hcz36_5
                      try clear hcz36_6
                      try clear hcz36_7
                      try clear hcz36_8
                      try clear hcz36_9
                      try clear hcz45_0
                      try clear hcz45_1
                      try clear hcz45_10
                      try clear hcz45_11
                      try clear hcz45_12
                      try clear hcz45_2
                      try clear hcz45_3
                      try clear hcz45_4
                      try clear hcz45_5
                      try clear hcz45_6
                      try clear hcz45_7
                      try clear hcz45_8
                      try clear hcz45_9
                      try clear hcz48_0
                      try clear hcz48_1
                      try clear hcz48_10
                      try clear hcz48_11
                      try clear hcz48_12
                      try clear hcz48_2
                      try clear hcz48_3
                      try clear hcz48_4
                      try clear hcz48_5
                      try clear hcz48_6
                      try clear hcz48_7
                      try clear hcz48_8
                      try clear hcz48_9
                      try clear hcz51_0
                      try clear hcz51_1
                      try clear hcz51_10
                      try clear hcz51_11
                      try clear hcz51_12
                      try clear hcz51_2
                      try clear hcz51_3
                      try clear hcz51_4
                      try clear hcz51_5
                      try clear hcz51_6
                      try clear hcz51_7
                      try clear hcz51_8
                      try clear hcz51_9
                      try clear hcz55_0
                      try clear hcz55_1
                      try clear hcz55_10
                      try clear hcz55_11
                      try clear hcz55_12
                      try clear hcz55_2
                      try clear hcz55_3
                      try clear hcz55_4
                      try clear hcz55_5
                      try clear hcz55_6
                      try clear hcz55_7
                      try clear hcz55_8
                      try clear hcz55_9
                      try clear hfz36_0
                      try clear hfz36_1
                      try clear hfz36_10
                      try clear hfz36_11
                      try clear hfz36_12
                      try clear hfz36_2
                      try clear hfz36_3
                      try clear hfz36_4
                      try clear hfz36_5
                      try clear hfz36_6
                      try clear hfz36_7
                      try clear hfz36_8
                      try clear hfz36_9
                      try clear hfz45_0
                      try clear hfz45_1
                      try clear hfz45_10
                      try clear hfz45_11
                      try clear hfz45_12
                      try clear hfz45_2
                      try clear hfz45_3
                      try clear hfz45_4
                      try clear hfz45_5
                      try clear hfz45_6
                      try clear hfz45_7
                      try clear hfz45_8
                      try clear hfz45_9
                      try clear hfz48_0
                      try clear hfz48_1
                      try clear hfz48_10
                      try clear hfz48_11
                      try clear hfz48_12
                      try clear hfz48_2
                      try clear hfz48_3
                      try clear hfz48_4
                      try clear hfz48_5
                      try clear hfz48_6
                      try clear hfz48_7
                      try clear hfz48_8
                      try clear hfz48_9
                      try clear hfz51_0
                      try clear hfz51_1
                      try clear hfz51_10
                      try clear hfz51_11
                      try clear hfz51_12
                      try clear hfz51_2
                      try clear hfz51_3
                      try clear hfz51_4
                      try clear hfz51_5
                      try clear hfz51_6
                      try clear hfz51_7
                      try clear hfz51_8
                      try clear hfz51_9
                      try clear hfz55_0
                      try clear hfz55_1
                      try clear hfz55_10
                      try clear hfz55_11
                      try clear hfz55_12
                      try clear hfz55_2
                      try clear hfz55_3
                      try clear hfz55_4
                      try clear hfz55_5
                      try clear hfz55_6
                      try clear hfz55_7
                      try clear hfz55_8
                      try clear hfz55_9
                      try clear p2
                      try clear p6
                      try clear q3
                      try clear q32
                      try clear q4
                      try clear q41
                      obtain ⟨kq, x639007_51, HA, HJ51, BK636, BK638, HB⟩ := hcut
                      cases kq with
                      | zero => exact absurd HA.out (by simp [solsticelaw10_ZoneLeft.j1])
                      | succ kj51 =>
                       have H := HA.out
                       clear HA
                       simp only [solsticelaw10_ZoneLeft.j1] at H
                       by_cases c56 : ji22 > 5
                       ·rw [if_pos c56] at H
                        have c56b0 : decide (5 < ji22) = true := decide_eq_true c56
                        clear c56
                        by_cases c57 : ji22 > 6
                        ·rw [if_pos c57] at H
                         have c57b0 : decide (6 < ji22) = true := decide_eq_true c57
                         clear c57
                         by_cases c58 : t635 = 0
                         ·rw [if_pos c58] at H
                          have c58b0 : (t635 == 0) = true := beq_iff_eq.mpr c58
                          have c58b1 : (t635 != 0) = false := bne_eq_false_iff_eq.mpr c58
                          clear c58
                          by_cases c59 : (t622 == 7200 && (t623 == 1 && (t624 == 0 && (t625.toList == (⟨#[]⟩ : ByteArray).toList && (t626.toList == (⟨#[69, 69, 84]⟩ : ByteArray).toList && (t627 == x639005_37 && (t628 == x639006_37 && (t629 == x639007_51 && ((t630 == 3 && (t631 == 0 && (t632 == 8))) && ((t633 == 10800 && (t634 == 2)))))))))))) = true
                          ·rw [if_pos c59] at H
                           have c59b0 : (t622 == 7200 && (t623 == 1 && (t624 == 0 && (t625.toList == (⟨#[]⟩ : ByteArray).toList && (t626.toList == (⟨#[69, 69, 84]⟩ : ByteArray).toList && (t627 == x639005_37 && (t628 == x639006_37 && (t629 == x639007_51 && ((t630 == 3 && (t631 == 0 && (t632 == 8))) && ((t633 == 10800 && (t634 == 2)))))))))))) = true := c59
                           (try (have c59b1 : decide (t622 = 7200 && (t623 == 1 && (t624 == 0 && (t625.toList == (⟨#[]⟩ : ByteArray).toList && (t626.toList == (⟨#[69, 69, 84]⟩ : ByteArray).toList && (t627 == x639005_37 && (t628 == x639006_37 && (t629 == x639007_51 && ((t630 == 3 && (t631 == 0 && (t632 == 8))) && ((t633 == 10800 && (t634 == 2)))))))))))) = true := by simpa using c59))
                           (try (have c59b2 : (t622 == 7200 && (t623 == 1 && (t624 == 0 && (t625.toList == (⟨#[]⟩ : ByteArray).toList && (t626.toList == (⟨#[69, 69, 84]⟩ : ByteArray).toList && (t627 == x639005_37 && (t628 == x639006_37 && (t629 == x639007_51 && ((t630 == 3 && (t631 == 0 && (t632 == 8))) && ((t633 == 10800 && (t634 == 2)))))))))))) = true := by simpa using c59))
                           clear c59
                           replace H := Option.bind_eq_some_iff.mp H
                           obtain ⟨t639, A600, H⟩ := H
                           (try dsimp only at H)
                           have A60 := As.mk A600
                           clear A600
                           obtain rfl := Option.some.inj H
                           have hnb61 := NB638_636.out
                           have hnc61 := NB636_638.out
                           obtain ⟨hcz62_0, hcz62_1, hcz62_2, hcz62_3, hcz62_4, hcz62_5, hcz62_6, hcz62_7, hcz62_8, hcz62_9, hcz62_10, hcz62_11, hcz62_12, hfz62_0, hfz62_1, hfz62_2, hfz62_3, hfz62_4, hfz62_5, hfz62_6, hfz62_7, hfz62_8, hfz62_9, hfz62_10, hfz62_11, hfz62_12⟩ := cl13 BK638.out
                           go_wp2_with (first | ((with_reducible refine gS (t := 25) (p := 98) rfl ?_); (try (rw [drewN_self wc]; generalize hq_ : World.drewN wc _ = wc; have n0_ := As.mk (blk_at hq_ BK636.out); have n1_ := As.mk (blk_at hq_ BK638.out); have n2_ := As.mk (below_at hq_ HB.out); clear hq_ BK636 BK638 HB; have BK636 := n0_; have BK638 := n1_; have HB := n2_; clear n0_ n1_ n2_)); refine store_event (t := 25) (p := 98) (v := ?vo_w63) (w1 := (((((wc.setCell ⟨gb638, 8, none⟩ (.int .i64 3)).setCell ⟨gb638, 9, none⟩ (.int .i64 0)).setCell ⟨gb638, 10, none⟩ (.int .i64 8)).setCell ⟨gb638, 11, none⟩ (.int .i64 10800)).setCell ⟨gb638, 12, none⟩ (.int .i64 2))) ?hg ?ho ?hn ?hr ?_; (case ho => rfl); (case hg => rfl); (case hn => rfl); (case hr => first | (go_simp; done) | (go_simp; rfl)); intro w63 hw; have n0_ : As (w63.heap[gb636]? = some (.cells #[.int .i64 t622, .int .i64 t623, .int .i64 t624, .string t625, .string t626, .bool t627, .int .i64 t628, .int .i64 t629, .int .i64 t630, .int .i64 t631, .int .i64 t632, .int .i64 t633, .int .i64 t634] 45 (0, 0))) := ⟨(by rw [hw]; exact (by (with_reducible repeat (first | refine kN ?_ _ | refine kD ?_ | refine kA ?_ _)); refine blk_far ?_ NB636_638.out _; (with_reducible repeat (first | refine kN ?_ _ | refine kD ?_ | refine kA ?_ _)); refine blk_far ?_ NB636_638.out _; (with_reducible repeat (first | refine kN ?_ _ | refine kD ?_ | refine kA ?_ _)); refine blk_far ?_ NB636_638.out _; (with_reducible repeat (first | refine kN ?_ _ | refine kD ?_ | refine kA ?_ _)); refine blk_far ?_ NB636_638.out _; (with_reducible repeat (first | refine kN ?_ _ | refine kD ?_ | refine kA ?_ _)); refine blk_far ?_ NB636_638.out _; (with_reducible repeat (first | refine kN ?_ _ | refine kD ?_ | refine kA ?_ _)); exact BK636.out))⟩; have n1_ : As (w63.heap[gb638]? = some (.cells #[.int .i64 7200, .int .i64 1, .int .i64 0, .string (⟨#[]⟩ : ByteArray), .string (⟨#[69, 69, 84]⟩ : ByteArray), .bool x639005_37, .int .i64 x639006_37, .int .i64 x639007_51, .int .i64 3, .int .i64 0, .int .i64 8, .int .i64 10800, .int .i64 2] 45 (0, 0))) := ⟨(by rw [hw]; exact (by (with_reducible repeat (first | refine kN ?_ _ | refine kD ?_ | refine kA ?_ _)); refine blk_put (cs := #[.int .i64 7200, .int .i64 1, .int .i64 0, .string (⟨#[]⟩ : ByteArray), .string (⟨#[69, 69, 84]⟩ : ByteArray), .bool x639005_37, .int .i64 x639006_37, .int .i64 x639007_51, .int .i64 3, .int .i64 0, .int .i64 8, .int .i64 10800, .int .i64 x639012_37]) ?_ 12 _ rfl; (with_reducible repeat (first | refine kN ?_ _ | refine kD ?_ | refine kA ?_ _)); refine blk_put (cs := #[.int .i64 7200, .int .i64 1, .int .i64 0, .string (⟨#[]⟩ : ByteArray), .string (⟨#[69, 69, 84]⟩ : ByteArray), .bool x639005_37, .int .i64 x639006_37, .int .i64 x639007_51, .int .i64 3, .int .i64 0, .int .i64 8, .int .i64 x639011_37, .int .i64 x639012_37]) ?_ 11 _ rfl; (with_reducible repeat (first | refine kN ?_ _ | refine kD ?_ | refine kA ?_ _)); refine blk_put (cs := #[.int .i64 7200, .int .i64 1, .int .i64 0, .string (⟨#[]⟩ : ByteArray), .string (⟨#[69, 69, 84]⟩ : ByteArray), .bool x639005_37, .int .i64 x639006_37, .int .i64 x639007_51, .int .i64 3, .int .i64 0, .int .i64 x639010_37, .int .i64 x639011_37, .int .i64 x639012_37]) ?_ 10 _ rfl; (with_reducible repeat (first | refine kN ?_ _ | refine kD ?_ | refine kA ?_ _)); refine blk_put (cs := #[.int .i64 7200, .int .i64 1, .int .i64 0, .string (⟨#[]⟩ : ByteArray), .string (⟨#[69, 69, 84]⟩ : ByteArray), .bool x639005_37, .int .i64 x639006_37, .int .i64 x639007_51, .int .i64 3, .int .i64 x639009_37, .int .i64 x639010_37, .int .i64 x639011_37, .int .i64 x639012_37]) ?_ 9 _ rfl; (with_reducible repeat (first | refine kN ?_ _ | refine kD ?_ | refine kA ?_ _)); refine blk_put (cs := #[.int .i64 7200, .int .i64 1, .int .i64 0, .string (⟨#[]⟩ : ByteArray), .string (⟨#[69, 69, 84]⟩ : ByteArray), .bool x639005_37, .int .i64 x639006_37, .int .i64 x639007_51, .int .i64 x639008_37, .int .i64 x639009_37, .int .i64 x639010_37, .int .i64 x639011_37, .int .i64 x639012_37]) ?_ 8 _ rfl; (with_reducible repeat (first | refine kN ?_ _ | refine kD ?_ | refine kA ?_ _)); exact BK638.out))⟩; have n2_ : As (Below w.heap.size w w63) := ⟨(by rw [hw]; exact (by repeat (first | (with_reducible first | exact HB.out | apply bA | apply bN | apply bD | refine bS ?_ GE636.out | refine bS ?_ GE638.out) | exact HB.out)))⟩; clear hw; clear BK636; clear BK638; clear HB; have BK636 := n0_; have BK638 := n1_; have HB := n2_; clear n0_ n1_ n2_; obtain ⟨hcz64_0, hcz64_1, hcz64_2, hcz64_3, hcz64_4, hcz64_5, hcz64_6, hcz64_7, hcz64_8, hcz64_9, hcz64_10, hcz64_11, hcz64_12, hfz64_0, hfz64_1, hfz64_2, hfz64_3, hfz64_4, hfz64_5, hfz64_6, hfz64_7, hfz64_8, hfz64_9, hfz64_10, hfz64_11, hfz64_12⟩ := cl13 BK636.out; obtain ⟨hcz65_0, hcz65_1, hcz65_2, hcz65_3, hcz65_4, hcz65_5, hcz65_6, hcz65_7, hcz65_8, hcz65_9, hcz65_10, hcz65_11, hcz65_12, hfz65_0, hfz65_1, hfz65_2, hfz65_3, hfz65_4, hfz65_5, hfz65_6, hfz65_7, hfz65_8, hfz65_9, hfz65_10, hfz65_11, hfz65_12⟩ := cl13 BK638.out) | (go_at_call 25; (with_reducible refine (solsticelaw10_wakes.calls kj51  t639 _ ?side1 A60.out).mono ?_); (case side1 => exact GW.on HG.out (by repeat (first | (with_reducible first | exact HB.out | apply bA | apply bN | apply bD | refine bS ?_ GE636.out | refine bS ?_ GE638.out) | exact HB.out))); rintro e w66 ⟨rfl, hb⟩; have n0_ := As.mk True.intro; have n1_ := As.mk True.intro; have n2_ := As.mk (bT (by repeat (first | (with_reducible first | exact HB.out | apply bA | apply bN | apply bD | refine bS ?_ GE636.out | refine bS ?_ GE638.out) | exact HB.out)) hb); clear BK636; clear BK638; clear HB; have BK636 := n0_; have BK638 := n1_; have HB := n2_; clear n0_ n1_ n2_; (try clear hb); (try clear hb2); (try clear hk); (try clear hi)))
                           repeat (go_quiet (first | ((with_reducible refine gS (t := 25) (p := 98) rfl ?_); (try (rw [drewN_self wc]; generalize hq_ : World.drewN wc _ = wc; have n0_ := As.mk (blk_at hq_ BK636.out); have n1_ := As.mk (blk_at hq_ BK638.out); have n2_ := As.mk (below_at hq_ HB.out); clear hq_ BK636 BK638 HB; have BK636 := n0_; have BK638 := n1_; have HB := n2_; clear n0_ n1_ n2_)); refine store_event (t := 25) (p := 98) (v := ?vo_w63) (w1 := (((((wc.setCell ⟨gb638, 8, none⟩ (.int .i64 3)).setCell ⟨gb638, 9, none⟩ (.int .i64 0)).setCell ⟨gb638, 10, none⟩ (.int .i64 8)).setCell ⟨gb638, 11, none⟩ (.int .i64 10800)).setCell ⟨gb638, 12, none⟩ (.int .i64 2))) ?hg ?ho ?hn ?hr ?_; (case ho => rfl); (case hg => rfl); (case hn => rfl); (case hr => first | (go_simp; done) | (go_simp; rfl)); intro w63 hw; have n0_ : As (w63.heap[gb636]? = some (.cells #[.int .i64 t622, .int .i64 t623, .int .i64 t624, .string t625, .string t626, .bool t627, .int .i64 t628, .int .i64 t629, .int .i64 t630, .int .i64 t631, .int .i64 t632, .int .i64 t633, .int .i64 t634] 45 (0, 0))) := ⟨(by rw [hw]; exact (by (with_reducible repeat (first | refine kN ?_ _ | refine kD ?_ | refine kA ?_ _)); refine blk_far ?_ NB636_638.out _; (with_reducible repeat (first | refine kN ?_ _ | refine kD ?_ | refine kA ?_ _)); refine blk_far ?_ NB636_638.out _; (with_reducible repeat (first | refine kN ?_ _ | refine kD ?_ | refine kA ?_ _)); refine blk_far ?_ NB636_638.out _; (with_reducible repeat (first | refine kN ?_ _ | refine kD ?_ | refine kA ?_ _)); refine blk_far ?_ NB636_638.out _; (with_reducible repeat (first | refine kN ?_ _ | refine kD ?_ | refine kA ?_ _)); refine blk_far ?_ NB636_638.out _; (with_reducible repeat (first | refine kN ?_ _ | refine kD ?_ | refine kA ?_ _)); exact BK636.out))⟩; have n1_ : As (w63.heap[gb638]? = some (.cells #[.int .i64 7200, .int .i64 1, .int .i64 0, .string (⟨#[]⟩ : ByteArray), .string (⟨#[69, 69, 84]⟩ : ByteArray), .bool x639005_37, .int .i64 x639006_37, .int .i64 x639007_51, .int .i64 3, .int .i64 0, .int .i64 8, .int .i64 10800, .int .i64 2] 45 (0, 0))) := ⟨(by rw [hw]; exact (by (with_reducible repeat (first | refine kN ?_ _ | refine kD ?_ | refine kA ?_ _)); refine blk_put (cs := #[.int .i64 7200, .int .i64 1, .int .i64 0, .string (⟨#[]⟩ : ByteArray), .string (⟨#[69, 69, 84]⟩ : ByteArray), .bool x639005_37, .int .i64 x639006_37, .int .i64 x639007_51, .int .i64 3, .int .i64 0, .int .i64 8, .int .i64 10800, .int .i64 x639012_37]) ?_ 12 _ rfl; (with_reducible repeat (first | refine kN ?_ _ | refine kD ?_ | refine kA ?_ _)); refine blk_put (cs := #[.int .i64 7200, .int .i64 1, .int .i64 0, .string (⟨#[]⟩ : ByteArray), .string (⟨#[69, 69, 84]⟩ : ByteArray), .bool x639005_37, .int .i64 x639006_37, .int .i64 x639007_51, .int .i64 3, .int .i64 0, .int .i64 8, .int .i64 x639011_37, .int .i64 x639012_37]) ?_ 11 _ rfl; (with_reducible repeat (first | refine kN ?_ _ | refine kD ?_ | refine kA ?_ _)); refine blk_put (cs := #[.int .i64 7200, .int .i64 1, .int .i64 0, .string (⟨#[]⟩ : ByteArray), .string (⟨#[69, 69, 84]⟩ : ByteArray), .bool x639005_37, .int .i64 x639006_37, .int .i64 x639007_51, .int .i64 3, .int .i64 0, .int .i64 x639010_37, .int .i64 x639011_37, .int .i64 x639012_37]) ?_ 10 _ rfl; (with_reducible repeat (first | refine kN ?_ _ | refine kD ?_ | refine kA ?_ _)); refine blk_put (cs := #[.int .i64 7200, .int .i64 1, .int .i64 0, .string (⟨#[]⟩ : ByteArray), .string (⟨#[69, 69, 84]⟩ : ByteArray), .bool x639005_37, .int .i64 x639006_37, .int .i64 x639007_51, .int .i64 3, .int .i64 x639009_37, .int .i64 x639010_37, .int .i64 x639011_37, .int .i64 x639012_37]) ?_ 9 _ rfl; (with_reducible repeat (first | refine kN ?_ _ | refine kD ?_ | refine kA ?_ _)); refine blk_put (cs := #[.int .i64 7200, .int .i64 1, .int .i64 0, .string (⟨#[]⟩ : ByteArray), .string (⟨#[69, 69, 84]⟩ : ByteArray), .bool x639005_37, .int .i64 x639006_37, .int .i64 x639007_51, .int .i64 x639008_37, .int .i64 x639009_37, .int .i64 x639010_37, .int .i64 x639011_37, .int .i64 x639012_37]) ?_ 8 _ rfl; (with_reducible repeat (first | refine kN ?_ _ | refine kD ?_ | refine kA ?_ _)); exact BK638.out))⟩; have n2_ : As (Below w.heap.size w w63) := ⟨(by rw [hw]; exact (by repeat (first | (with_reducible first | exact HB.out | apply bA | apply bN | apply bD | refine bS ?_ GE636.out | refine bS ?_ GE638.out) | exact HB.out)))⟩; clear hw; clear BK636; clear BK638; clear HB; have BK636 := n0_; have BK638 := n1_; have HB := n2_; clear n0_ n1_ n2_; obtain ⟨hcz64_0, hcz64_1, hcz64_2, hcz64_3, hcz64_4, hcz64_5, hcz64_6, hcz64_7, hcz64_8, hcz64_9, hcz64_10, hcz64_11, hcz64_12, hfz64_0, hfz64_1, hfz64_2, hfz64_3, hfz64_4, hfz64_5, hfz64_6, hfz64_7, hfz64_8, hfz64_9, hfz64_10, hfz64_11, hfz64_12⟩ := cl13 BK636.out; obtain ⟨hcz65_0, hcz65_1, hcz65_2, hcz65_3, hcz65_4, hcz65_5, hcz65_6, hcz65_7, hcz65_8, hcz65_9, hcz65_10, hcz65_11, hcz65_12, hfz65_0, hfz65_1, hfz65_2, hfz65_3, hfz65_4, hfz65_5, hfz65_6, hfz65_7, hfz65_8, hfz65_9, hfz65_10, hfz65_11, hfz65_12⟩ := cl13 BK638.out) | (go_at_call 25; (with_reducible refine (solsticelaw10_wakes.calls kj51  t639 _ ?side1 A60.out).mono ?_); (case side1 => exact GW.on HG.out (by repeat (first | (with_reducible first | exact HB.out | apply bA | apply bN | apply bD | refine bS ?_ GE636.out | refine bS ?_ GE638.out) | exact HB.out))); rintro e w66 ⟨rfl, hb⟩; have n0_ := As.mk True.intro; have n1_ := As.mk True.intro; have n2_ := As.mk (bT (by repeat (first | (with_reducible first | exact HB.out | apply bA | apply bN | apply bD | refine bS ?_ GE636.out | refine bS ?_ GE638.out) | exact HB.out)) hb); clear BK636; clear BK638; clear HB; have BK636 := n0_; have BK638 := n1_; have HB := n2_; clear n0_ n1_ n2_; (try clear hb); (try clear hb2); (try clear hk); (try clear hi))); try go_wp2_with (first | ((with_reducible refine gS (t := 25) (p := 98) rfl ?_); (try (rw [drewN_self wc]; generalize hq_ : World.drewN wc _ = wc; have n0_ := As.mk (blk_at hq_ BK636.out); have n1_ := As.mk (blk_at hq_ BK638.out); have n2_ := As.mk (below_at hq_ HB.out); clear hq_ BK636 BK638 HB; have BK636 := n0_; have BK638 := n1_; have HB := n2_; clear n0_ n1_ n2_)); refine store_event (t := 25) (p := 98) (v := ?vo_w63) (w1 := (((((wc.setCell ⟨gb638, 8, none⟩ (.int .i64 3)).setCell ⟨gb638, 9, none⟩ (.int .i64 0)).setCell ⟨gb638, 10, none⟩ (.int .i64 8)).setCell ⟨gb638, 11, none⟩ (.int .i64 10800)).setCell ⟨gb638, 12, none⟩ (.int .i64 2))) ?hg ?ho ?hn ?hr ?_; (case ho => rfl); (case hg => rfl); (case hn => rfl); (case hr => first | (go_simp; done) | (go_simp; rfl)); intro w63 hw; have n0_ : As (w63.heap[gb636]? = some (.cells #[.int .i64 t622, .int .i64 t623, .int .i64 t624, .string t625, .string t626, .bool t627, .int .i64 t628, .int .i64 t629, .int .i64 t630, .int .i64 t631, .int .i64 t632, .int .i64 t633, .int .i64 t634] 45 (0, 0))) := ⟨(by rw [hw]; exact (by (with_reducible repeat (first | refine kN ?_ _ | refine kD ?_ | refine kA ?_ _)); refine blk_far ?_ NB636_638.out _; (with_reducible repeat (first | refine kN ?_ _ | refine kD ?_ | refine kA ?_ _)); refine blk_far ?_ NB636_638.out _; (with_reducible repeat (first | refine kN ?_ _ | refine kD ?_ | refine kA ?_ _)); refine blk_far ?_ NB636_638.out _; (with_reducible repeat (first | refine kN ?_ _ | refine kD ?_ | refine kA ?_ _)); refine blk_far ?_ NB636_638.out _; (with_reducible repeat (first | refine kN ?_ _ | refine kD ?_ | refine kA ?_ _)); refine blk_far ?_ NB636_638.out _; (with_reducible repeat (first | refine kN ?_ _ | refine kD ?_ | refine kA ?_ _)); exact BK636.out))⟩; have n1_ : As (w63.heap[gb638]? = some (.cells #[.int .i64 7200, .int .i64 1, .int .i64 0, .string (⟨#[]⟩ : ByteArray), .string (⟨#[69, 69, 84]⟩ : ByteArray), .bool x639005_37, .int .i64 x639006_37, .int .i64 x639007_51, .int .i64 3, .int .i64 0, .int .i64 8, .int .i64 10800, .int .i64 2] 45 (0, 0))) := ⟨(by rw [hw]; exact (by (with_reducible repeat (first | refine kN ?_ _ | refine kD ?_ | refine kA ?_ _)); refine blk_put (cs := #[.int .i64 7200, .int .i64 1, .int .i64 0, .string (⟨#[]⟩ : ByteArray), .string (⟨#[69, 69, 84]⟩ : ByteArray), .bool x639005_37, .int .i64 x639006_37, .int .i64 x639007_51, .int .i64 3, .int .i64 0, .int .i64 8, .int .i64 10800, .int .i64 x639012_37]) ?_ 12 _ rfl; (with_reducible repeat (first | refine kN ?_ _ | refine kD ?_ | refine kA ?_ _)); refine blk_put (cs := #[.int .i64 7200, .int .i64 1, .int .i64 0, .string (⟨#[]⟩ : ByteArray), .string (⟨#[69, 69, 84]⟩ : ByteArray), .bool x639005_37, .int .i64 x639006_37, .int .i64 x639007_51, .int .i64 3, .int .i64 0, .int .i64 8, .int .i64 x639011_37, .int .i64 x639012_37]) ?_ 11 _ rfl; (with_reducible repeat (first | refine kN ?_ _ | refine kD ?_ | refine kA ?_ _)); refine blk_put (cs := #[.int .i64 7200, .int .i64 1, .int .i64 0, .string (⟨#[]⟩ : ByteArray), .string (⟨#[69, 69, 84]⟩ : ByteArray), .bool x639005_37, .int .i64 x639006_37, .int .i64 x639007_51, .int .i64 3, .int .i64 0, .int .i64 x639010_37, .int .i64 x639011_37, .int .i64 x639012_37]) ?_ 10 _ rfl; (with_reducible repeat (first | refine kN ?_ _ | refine kD ?_ | refine kA ?_ _)); refine blk_put (cs := #[.int .i64 7200, .int .i64 1, .int .i64 0, .string (⟨#[]⟩ : ByteArray), .string (⟨#[69, 69, 84]⟩ : ByteArray), .bool x639005_37, .int .i64 x639006_37, .int .i64 x639007_51, .int .i64 3, .int .i64 x639009_37, .int .i64 x639010_37, .int .i64 x639011_37, .int .i64 x639012_37]) ?_ 9 _ rfl; (with_reducible repeat (first | refine kN ?_ _ | refine kD ?_ | refine kA ?_ _)); refine blk_put (cs := #[.int .i64 7200, .int .i64 1, .int .i64 0, .string (⟨#[]⟩ : ByteArray), .string (⟨#[69, 69, 84]⟩ : ByteArray), .bool x639005_37, .int .i64 x639006_37, .int .i64 x639007_51, .int .i64 x639008_37, .int .i64 x639009_37, .int .i64 x639010_37, .int .i64 x639011_37, .int .i64 x639012_37]) ?_ 8 _ rfl; (with_reducible repeat (first | refine kN ?_ _ | refine kD ?_ | refine kA ?_ _)); exact BK638.out))⟩; have n2_ : As (Below w.heap.size w w63) := ⟨(by rw [hw]; exact (by repeat (first | (with_reducible first | exact HB.out | apply bA | apply bN | apply bD | refine bS ?_ GE636.out | refine bS ?_ GE638.out) | exact HB.out)))⟩; clear hw; clear BK636; clear BK638; clear HB; have BK636 := n0_; have BK638 := n1_; have HB := n2_; clear n0_ n1_ n2_; obtain ⟨hcz64_0, hcz64_1, hcz64_2, hcz64_3, hcz64_4, hcz64_5, hcz64_6, hcz64_7, hcz64_8, hcz64_9, hcz64_10, hcz64_11, hcz64_12, hfz64_0, hfz64_1, hfz64_2, hfz64_3, hfz64_4, hfz64_5, hfz64_6, hfz64_7, hfz64_8, hfz64_9, hfz64_10, hfz64_11, hfz64_12⟩ := cl13 BK636.out; obtain ⟨hcz65_0, hcz65_1, hcz65_2, hcz65_3, hcz65_4, hcz65_5, hcz65_6, hcz65_7, hcz65_8, hcz65_9, hcz65_10, hcz65_11, hcz65_12, hfz65_0, hfz65_1, hfz65_2, hfz65_3, hfz65_4, hfz65_5, hfz65_6, hfz65_7, hfz65_8, hfz65_9, hfz65_10, hfz65_11, hfz65_12⟩ := cl13 BK638.out) | (go_at_call 25; (with_reducible refine (solsticelaw10_wakes.calls kj51  t639 _ ?side1 A60.out).mono ?_); (case side1 => exact GW.on HG.out (by repeat (first | (with_reducible first | exact HB.out | apply bA | apply bN | apply bD | refine bS ?_ GE636.out | refine bS ?_ GE638.out) | exact HB.out))); rintro e w66 ⟨rfl, hb⟩; have n0_ := As.mk True.intro; have n1_ := As.mk True.intro; have n2_ := As.mk (bT (by repeat (first | (with_reducible first | exact HB.out | apply bA | apply bN | apply bD | refine bS ?_ GE636.out | refine bS ?_ GE638.out) | exact HB.out)) hb); clear BK636; clear BK638; clear HB; have BK636 := n0_; have BK638 := n1_; have HB := n2_; clear n0_ n1_ n2_; (try clear hb); (try clear hb2); (try clear hk); (try clear hi))))
                           go_ret
                           exact ⟨by first | rfl | (simp [eN, eS] <;> rfl) | (simp only [← hji3, ← hji7, ← hji12, ← hji17, ← hji22]; first | rfl | (simp [eN, eS] <;> rfl)) | (simp [*, eN, eS] <;> rfl), by repeat (first | (with_reducible first | exact HB.out | apply bA | apply bN | apply bD | refine bS ?_ GE636.out | refine bS ?_ GE638.out) | exact HB.out)⟩
                           all_goals (exfalso; apply ‹¬ (t622 = _ ∧ _)›; simpa using c59b0)
                          ·rw [if_neg c59] at H
                           exact absurd H (by simp)
                         ·rw [if_neg c58] at H
                          exact absurd H (by simp)
                        ·rw [if_neg c57] at H
                         have c57b0 : decide (6 < ji22) = false := decide_eq_false c57
                         clear c57
                         by_cases c67 : t635 = 0
                         ·rw [if_pos c67] at H
                          have c67b0 : (t635 == 0) = true := beq_iff_eq.mpr c67
                          have c67b1 : (t635 != 0) = false := bne_eq_false_iff_eq.mpr c67
                          clear c67
                          by_cases c68 : (t622 == 7200 && (t623 == 1 && (t624 == 0 && (t625.toList == (⟨#[]⟩ : ByteArray).toList && (t626.toList == (⟨#[69, 69, 84]⟩ : ByteArray).toList && (t627 == x639005_37 && (t628 == x639006_37 && (t629 == x639007_51 && ((t630 == 3 && (t631 == 0 && (t632 == 8))) && ((t633 == x639011_37 && (t634 == x639012_37)))))))))))) = true
                          ·rw [if_pos c68] at H
                           have c68b0 : (t622 == 7200 && (t623 == 1 && (t624 == 0 && (t625.toList == (⟨#[]⟩ : ByteArray).toList && (t626.toList == (⟨#[69, 69, 84]⟩ : ByteArray).toList && (t627 == x639005_37 && (t628 == x639006_37 && (t629 == x639007_51 && ((t630 == 3 && (t631 == 0 && (t632 == 8))) && ((t633 == x639011_37 && (t634 == x639012_37)))))))))))) = true := c68
                           (try (have c68b1 : decide (t622 = 7200 && (t623 == 1 && (t624 == 0 && (t625.toList == (⟨#[]⟩ : ByteArray).toList && (t626.toList == (⟨#[69, 69, 84]⟩ : ByteArray).toList && (t627 == x639005_37 && (t628 == x639006_37 && (t629 == x639007_51 && ((t630 == 3 && (t631 == 0 && (t632 == 8))) && ((t633 == x639011_37 && (t634 == x639012_37)))))))))))) = true := by simpa using c68))
                           (try (have c68b2 : (t622 == 7200 && (t623 == 1 && (t624 == 0 && (t625.toList == (⟨#[]⟩ : ByteArray).toList && (t626.toList == (⟨#[69, 69, 84]⟩ : ByteArray).toList && (t627 == x639005_37 && (t628 == x639006_37 && (t629 == x639007_51 && ((t630 == 3 && (t631 == 0 && (t632 == 8))) && ((t633 == x639011_37 && (t634 == x639012_37)))))))))))) = true := by simpa using c68))
                           clear c68
                           replace H := Option.bind_eq_some_iff.mp H
                           obtain ⟨t640, A690, H⟩ := H
                           (try dsimp only at H)
                           have A69 := As.mk A690
                           clear A690
                           obtain rfl := Option.some.inj H
                           have hnb70 := NB638_636.out
                           have hnc70 := NB636_638.out
                           obtain ⟨hcz71_0, hcz71_1, hcz71_2, hcz71_3, hcz71_4, hcz71_5, hcz71_6, hcz71_7, hcz71_8, hcz71_9, hcz71_10, hcz71_11, hcz71_12, hfz71_0, hfz71_1, hfz71_2, hfz71_3, hfz71_4, hfz71_5, hfz71_6, hfz71_7, hfz71_8, hfz71_9, hfz71_10, hfz71_11, hfz71_12⟩ := cl13 BK638.out
                           obtain ⟨hcz72_0, hcz72_1, hcz72_2, hcz72_3, hcz72_4, hcz72_5, hcz72_6, hcz72_7, hcz72_8, hcz72_9, hcz72_10, hcz72_11, hcz72_12, hfz72_0, hfz72_1, hfz72_2, hfz72_3, hfz72_4, hfz72_5, hfz72_6, hfz72_7, hfz72_8, hfz72_9, hfz72_10, hfz72_11, hfz72_12⟩ := cl13 BK636.out
                           go_wp2_with (first | (go_at_call 25; (with_reducible refine (solsticelaw10_wakes.calls kj51  t640 _ ?side1 A69.out).mono ?_); (case side1 => exact GW.on HG.out (by repeat (first | (with_reducible first | exact HB.out | apply bA | apply bN | apply bD | refine bS ?_ GE636.out | refine bS ?_ GE638.out) | exact HB.out))); rintro e w73 ⟨rfl, hb⟩; have n0_ := As.mk True.intro; have n1_ := As.mk True.intro; have n2_ := As.mk (bT (by repeat (first | (with_reducible first | exact HB.out | apply bA | apply bN | apply bD | refine bS ?_ GE636.out | refine bS ?_ GE638.out) | exact HB.out)) hb); clear BK636; clear BK638; clear HB; have BK636 := n0_; have BK638 := n1_; have HB := n2_; clear n0_ n1_ n2_; (try clear hb); (try clear hb2); (try clear hk); (try clear hi)))
                           repeat (go_quiet (first | (go_at_call 25; (with_reducible refine (solsticelaw10_wakes.calls kj51  t640 _ ?side1 A69.out).mono ?_); (case side1 => exact GW.on HG.out (by repeat (first | (with_reducible first | exact HB.out | apply bA | apply bN | apply bD | refine bS ?_ GE636.out | refine bS ?_ GE638.out) | exact HB.out))); rintro e w73 ⟨rfl, hb⟩; have n0_ := As.mk True.intro; have n1_ := As.mk True.intro; have n2_ := As.mk (bT (by repeat (first | (with_reducible first | exact HB.out | apply bA | apply bN | apply bD | refine bS ?_ GE636.out | refine bS ?_ GE638.out) | exact HB.out)) hb); clear BK636; clear BK638; clear HB; have BK636 := n0_; have BK638 := n1_; have HB := n2_; clear n0_ n1_ n2_; (try clear hb); (try clear hb2); (try clear hk); (try clear hi))); try go_wp2_with (first | (go_at_call 25; (with_reducible refine (solsticelaw10_wakes.calls kj51  t640 _ ?side1 A69.out).mono ?_); (case side1 => exact GW.on HG.out (by repeat (first | (with_reducible first | exact HB.out | apply bA | apply bN | apply bD | refine bS ?_ GE636.out | refine bS ?_ GE638.out) | exact HB.out))); rintro e w73 ⟨rfl, hb⟩; have n0_ := As.mk True.intro; have n1_ := As.mk True.intro; have n2_ := As.mk (bT (by repeat (first | (with_reducible first | exact HB.out | apply bA | apply bN | apply bD | refine bS ?_ GE636.out | refine bS ?_ GE638.out) | exact HB.out)) hb); clear BK636; clear BK638; clear HB; have BK636 := n0_; have BK638 := n1_; have HB := n2_; clear n0_ n1_ n2_; (try clear hb); (try clear hb2); (try clear hk); (try clear hi))))
                           go_ret
                           exact ⟨by first | rfl | (simp [eN, eS] <;> rfl) | (simp only [← hji3, ← hji7, ← hji12, ← hji17, ← hji22]; first | rfl | (simp [eN, eS] <;> rfl)) | (simp [*, eN, eS] <;> rfl), by repeat (first | (with_reducible first | exact HB.out | apply bA | apply bN | apply bD | refine bS ?_ GE636.out | refine bS ?_ GE638.out) | exact HB.out)⟩
                           all_goals (exfalso; apply ‹¬ (t622 = _ ∧ _)›; simpa using c68b0)
                          ·rw [if_neg c68] at H
                           exact absurd H (by simp)
                         ·rw [if_neg c67] at H
                          exact absurd H (by simp)
                       ·rw [if_neg c56] at H
                        have c56b0 : decide (5 < ji22) = false := decide_eq_false c56
                        clear c56
                        by_cases c74 : ji22 > 6
                        ·rw [if_pos c74] at H
                         have c74b0 : decide (6 < ji22) = true := decide_eq_true c74
                         clear c74
                         by_cases c75 : t635 = 0
                         ·rw [if_pos c75] at H
                          have c75b0 : (t635 == 0) = true := beq_iff_eq.mpr c75
                          have c75b1 : (t635 != 0) = false := bne_eq_false_iff_eq.mpr c75
                          clear c75
                          by_cases c76 : (t622 == 7200 && (t623 == 1 && (t624 == 0 && (t625.toList == (⟨#[]⟩ : ByteArray).toList && (t626.toList == (⟨#[69, 69, 84]⟩ : ByteArray).toList && (t627 == x639005_37 && (t628 == x639006_37 && (t629 == x639007_51 && ((t630 == x639008_37 && (t631 == x639009_37 && (t632 == x639010_37))) && ((t633 == 10800 && (t634 == 2)))))))))))) = true
                          ·rw [if_pos c76] at H
                           have c76b0 : (t622 == 7200 && (t623 == 1 && (t624 == 0 && (t625.toList == (⟨#[]⟩ : ByteArray).toList && (t626.toList == (⟨#[69, 69, 84]⟩ : ByteArray).toList && (t627 == x639005_37 && (t628 == x639006_37 && (t629 == x639007_51 && ((t630 == x639008_37 && (t631 == x639009_37 && (t632 == x639010_37))) && ((t633 == 10800 && (t634 == 2)))))))))))) = true := c76
                           (try (have c76b1 : decide (t622 = 7200 && (t623 == 1 && (t624 == 0 && (t625.toList == (⟨#[]⟩ : ByteArray).toList && (t626.toList == (⟨#[69, 69, 84]⟩ : ByteArray).toList && (t627 == x639005_37 && (t628 == x639006_37 && (t629 == x639007_51 && ((t630 == x639008_37 && (t631 == x639009_37 && (t632 == x639010_37))) && ((t633 == 10800 && (t634 == 2)))))))))))) = true := by simpa using c76))
                           (try (have c76b2 : (t622 == 7200 && (t623 == 1 && (t624 == 0 && (t625.toList == (⟨#[]⟩ : ByteArray).toList && (t626.toList == (⟨#[69, 69, 84]⟩ : ByteArray).toList && (t627 == x639005_37 && (t628 == x639006_37 && (t629 == x639007_51 && ((t630 == x639008_37 && (t631 == x639009_37 && (t632 == x639010_37))) && ((t633 == 10800 && (t634 == 2)))))))))))) = true := by simpa using c76))
                           clear c76
                           replace H := Option.bind_eq_some_iff.mp H
                           obtain ⟨t641, A770, H⟩ := H
                           (try dsimp only at H)
                           have A77 := As.mk A770
                           clear A770
                           obtain rfl := Option.some.inj H
                           have hnb78 := NB638_636.out
                           have hnc78 := NB636_638.out
                           obtain ⟨hcz79_0, hcz79_1, hcz79_2, hcz79_3, hcz79_4, hcz79_5, hcz79_6, hcz79_7, hcz79_8, hcz79_9, hcz79_10, hcz79_11, hcz79_12, hfz79_0, hfz79_1, hfz79_2, hfz79_3, hfz79_4, hfz79_5, hfz79_6, hfz79_7, hfz79_8, hfz79_9, hfz79_10, hfz79_11, hfz79_12⟩ := cl13 BK638.out
                           obtain ⟨hcz80_0, hcz80_1, hcz80_2, hcz80_3, hcz80_4, hcz80_5, hcz80_6, hcz80_7, hcz80_8, hcz80_9, hcz80_10, hcz80_11, hcz80_12, hfz80_0, hfz80_1, hfz80_2, hfz80_3, hfz80_4, hfz80_5, hfz80_6, hfz80_7, hfz80_8, hfz80_9, hfz80_10, hfz80_11, hfz80_12⟩ := cl13 BK636.out
                           go_wp2_with (first | (go_at_call 25; (with_reducible refine (solsticelaw10_wakes.calls kj51  t641 _ ?side1 A77.out).mono ?_); (case side1 => exact GW.on HG.out (by repeat (first | (with_reducible first | exact HB.out | apply bA | apply bN | apply bD | refine bS ?_ GE636.out | refine bS ?_ GE638.out) | exact HB.out))); rintro e w81 ⟨rfl, hb⟩; have n0_ := As.mk True.intro; have n1_ := As.mk True.intro; have n2_ := As.mk (bT (by repeat (first | (with_reducible first | exact HB.out | apply bA | apply bN | apply bD | refine bS ?_ GE636.out | refine bS ?_ GE638.out) | exact HB.out)) hb); clear BK636; clear BK638; clear HB; have BK636 := n0_; have BK638 := n1_; have HB := n2_; clear n0_ n1_ n2_; (try clear hb); (try clear hb2); (try clear hk); (try clear hi)))
                           repeat (go_quiet (first | (go_at_call 25; (with_reducible refine (solsticelaw10_wakes.calls kj51  t641 _ ?side1 A77.out).mono ?_); (case side1 => exact GW.on HG.out (by repeat (first | (with_reducible first | exact HB.out | apply bA | apply bN | apply bD | refine bS ?_ GE636.out | refine bS ?_ GE638.out) | exact HB.out))); rintro e w81 ⟨rfl, hb⟩; have n0_ := As.mk True.intro; have n1_ := As.mk True.intro; have n2_ := As.mk (bT (by repeat (first | (with_reducible first | exact HB.out | apply bA | apply bN | apply bD | refine bS ?_ GE636.out | refine bS ?_ GE638.out) | exact HB.out)) hb); clear BK636; clear BK638; clear HB; have BK636 := n0_; have BK638 := n1_; have HB := n2_; clear n0_ n1_ n2_; (try clear hb); (try clear hb2); (try clear hk); (try clear hi))); try go_wp2_with (first | (go_at_call 25; (with_reducible refine (solsticelaw10_wakes.calls kj51  t641 _ ?side1 A77.out).mono ?_); (case side1 => exact GW.on HG.out (by repeat (first | (with_reducible first | exact HB.out | apply bA | apply bN | apply bD | refine bS ?_ GE636.out | refine bS ?_ GE638.out) | exact HB.out))); rintro e w81 ⟨rfl, hb⟩; have n0_ := As.mk True.intro; have n1_ := As.mk True.intro; have n2_ := As.mk (bT (by repeat (first | (with_reducible first | exact HB.out | apply bA | apply bN | apply bD | refine bS ?_ GE636.out | refine bS ?_ GE638.out) | exact HB.out)) hb); clear BK636; clear BK638; clear HB; have BK636 := n0_; have BK638 := n1_; have HB := n2_; clear n0_ n1_ n2_; (try clear hb); (try clear hb2); (try clear hk); (try clear hi))))
                           go_ret
                           exact ⟨by first | rfl | (simp [eN, eS] <;> rfl) | (simp only [← hji3, ← hji7, ← hji12, ← hji17, ← hji22]; first | rfl | (simp [eN, eS] <;> rfl)) | (simp [*, eN, eS] <;> rfl), by repeat (first | (with_reducible first | exact HB.out | apply bA | apply bN | apply bD | refine bS ?_ GE636.out | refine bS ?_ GE638.out) | exact HB.out)⟩
                           all_goals (exfalso; apply ‹¬ (t622 = _ ∧ _)›; simpa using c76b0)
                          ·rw [if_neg c76] at H
                           exact absurd H (by simp)
                         ·rw [if_neg c75] at H
                          exact absurd H (by simp)
                        ·rw [if_neg c74] at H
                         have c74b0 : decide (6 < ji22) = false := decide_eq_false c74
                         clear c74
                         by_cases c82 : t635 = 0
                         ·rw [if_pos c82] at H
                          have c82b0 : (t635 == 0) = true := beq_iff_eq.mpr c82
                          have c82b1 : (t635 != 0) = false := bne_eq_false_iff_eq.mpr c82
                          clear c82
                          by_cases c83 : (t622 == 7200 && (t623 == 1 && (t624 == 0 && (t625.toList == (⟨#[]⟩ : ByteArray).toList && (t626.toList == (⟨#[69, 69, 84]⟩ : ByteArray).toList && (t627 == x639005_37 && (t628 == x639006_37 && (t629 == x639007_51 && ((t630 == x639008_37 && (t631 == x639009_37 && (t632 == x639010_37))) && ((t633 == x639011_37 && (t634 == x639012_37)))))))))))) = true
                          ·rw [if_pos c83] at H
                           have c83b0 : (t622 == 7200 && (t623 == 1 && (t624 == 0 && (t625.toList == (⟨#[]⟩ : ByteArray).toList && (t626.toList == (⟨#[69, 69, 84]⟩ : ByteArray).toList && (t627 == x639005_37 && (t628 == x639006_37 && (t629 == x639007_51 && ((t630 == x639008_37 && (t631 == x639009_37 && (t632 == x639010_37))) && ((t633 == x639011_37 && (t634 == x639012_37)))))))))))) = true := c83
                           (try (have c83b1 : decide (t622 = 7200 && (t623 == 1 && (t624 == 0 && (t625.toList == (⟨#[]⟩ : ByteArray).toList && (t626.toList == (⟨#[69, 69, 84]⟩ : ByteArray).toList && (t627 == x639005_37 && (t628 == x639006_37 && (t629 == x639007_51 && ((t630 == x639008_37 && (t631 == x639009_37 && (t632 == x639010_37))) && ((t633 == x639011_37 && (t634 == x639012_37)))))))))))) = true := by simpa using c83))
                           (try (have c83b2 : (t622 == 7200 && (t623 == 1 && (t624 == 0 && (t625.toList == (⟨#[]⟩ : ByteArray).toList && (t626.toList == (⟨#[69, 69, 84]⟩ : ByteArray).toList && (t627 == x639005_37 && (t628 == x639006_37 && (t629 == x639007_51 && ((t630 == x639008_37 && (t631 == x639009_37 && (t632 == x639010_37))) && ((t633 == x639011_37 && (t634 == x639012_37)))))))))))) = true := by simpa using c83))
                           clear c83
                           replace H := Option.bind_eq_some_iff.mp H
                           obtain ⟨t642, A840, H⟩ := H
                           (try dsimp only at H)
                           have A84 := As.mk A840
                           clear A840
                           obtain rfl := Option.some.inj H
                           have hnb85 := NB636_638.out
                           have hnc85 := NB638_636.out
                           obtain ⟨hcz86_0, hcz86_1, hcz86_2, hcz86_3, hcz86_4, hcz86_5, hcz86_6, hcz86_7, hcz86_8, hcz86_9, hcz86_10, hcz86_11, hcz86_12, hfz86_0, hfz86_1, hfz86_2, hfz86_3, hfz86_4, hfz86_5, hfz86_6, hfz86_7, hfz86_8, hfz86_9, hfz86_10, hfz86_11, hfz86_12⟩ := cl13 BK636.out
                           obtain ⟨hcz87_0, hcz87_1, hcz87_2, hcz87_3, hcz87_4, hcz87_5, hcz87_6, hcz87_7, hcz87_8, hcz87_9, hcz87_10, hcz87_11, hcz87_12, hfz87_0, hfz87_1, hfz87_2, hfz87_3, hfz87_4, hfz87_5, hfz87_6, hfz87_7, hfz87_8, hfz87_9, hfz87_10, hfz87_11, hfz87_12⟩ := cl13 BK638.out
                           go_wp2_with (first | (go_at_call 25; (with_reducible refine (solsticelaw10_wakes.calls kj51  t642 _ ?side1 A84.out).mono ?_); (case side1 => exact GW.on HG.out (by repeat (first | (with_reducible first | exact HB.out | apply bA | apply bN | apply bD | refine bS ?_ GE636.out | refine bS ?_ GE638.out) | exact HB.out))); rintro e w88 ⟨rfl, hb⟩; have n0_ := As.mk True.intro; have n1_ := As.mk True.intro; have n2_ := As.mk (bT (by repeat (first | (with_reducible first | exact HB.out | apply bA | apply bN | apply bD | refine bS ?_ GE636.out | refine bS ?_ GE638.out) | exact HB.out)) hb); clear BK636; clear BK638; clear HB; have BK636 := n0_; have BK638 := n1_; have HB := n2_; clear n0_ n1_ n2_; (try clear hb); (try clear hb2); (try clear hk); (try clear hi)))
                           repeat (go_quiet (first | (go_at_call 25; (with_reducible refine (solsticelaw10_wakes.calls kj51  t642 _ ?side1 A84.out).mono ?_); (case side1 => exact GW.on HG.out (by repeat (first | (with_reducible first | exact HB.out | apply bA | apply bN | apply bD | refine bS ?_ GE636.out | refine bS ?_ GE638.out) | exact HB.out))); rintro e w88 ⟨rfl, hb⟩; have n0_ := As.mk True.intro; have n1_ := As.mk True.intro; have n2_ := As.mk (bT (by repeat (first | (with_reducible first | exact HB.out | apply bA | apply bN | apply bD | refine bS ?_ GE636.out | refine bS ?_ GE638.out) | exact HB.out)) hb); clear BK636; clear BK638; clear HB; have BK636 := n0_; have BK638 := n1_; have HB := n2_; clear n0_ n1_ n2_; (try clear hb); (try clear hb2); (try clear hk); (try clear hi))); try go_wp2_with (first | (go_at_call 25; (with_reducible refine (solsticelaw10_wakes.calls kj51  t642 _ ?side1 A84.out).mono ?_); (case side1 => exact GW.on HG.out (by repeat (first | (with_reducible first | exact HB.out | apply bA | apply bN | apply bD | refine bS ?_ GE636.out | refine bS ?_ GE638.out) | exact HB.out))); rintro e w88 ⟨rfl, hb⟩; have n0_ := As.mk True.intro; have n1_ := As.mk True.intro; have n2_ := As.mk (bT (by repeat (first | (with_reducible first | exact HB.out | apply bA | apply bN | apply bD | refine bS ?_ GE636.out | refine bS ?_ GE638.out) | exact HB.out)) hb); clear BK636; clear BK638; clear HB; have BK636 := n0_; have BK638 := n1_; have HB := n2_; clear n0_ n1_ n2_; (try clear hb); (try clear hb2); (try clear hk); (try clear hi))))
                           go_ret
                           exact ⟨by first | rfl | (simp [eN, eS] <;> rfl) | (simp only [← hji3, ← hji7, ← hji12, ← hji17, ← hji22]; first | rfl | (simp [eN, eS] <;> rfl)) | (simp [*, eN, eS] <;> rfl), by repeat (first | (with_reducible first | exact HB.out | apply bA | apply bN | apply bD | refine bS ?_ GE636.out | refine bS ?_ GE638.out) | exact HB.out)⟩
                           all_goals (exfalso; apply ‹¬ (t622 = _ ∧ _)›; simpa using c83b0)
                          ·rw [if_neg c83] at H
                           exact absurd H (by simp)
                         ·rw [if_neg c82] at H
                          exact absurd H (by simp)
                 ·rw [if_neg c24] at H
                  exact absurd H (by simp)
                ·rw [if_neg c23] at H
                 exact absurd H (by simp)
               ·rw [if_neg c21] at H
                exact absurd H (by simp)
              ·rw [if_neg c20] at H
               exact absurd H (by simp)
             ·rw [if_neg c19] at H
              exact absurd H (by simp)
            ·rw [if_neg c18] at H
             exact absurd H (by simp)
           ·rw [if_neg c16] at H
            exact absurd H (by simp)
          ·rw [if_neg c15] at H
           exact absurd H (by simp)
         ·rw [if_neg c14] at H
          exact absurd H (by simp)
        ·rw [if_neg c13] at H
         exact absurd H (by simp)
       ·rw [if_neg c11] at H
        exact absurd H (by simp)
      ·rw [if_neg c10] at H
       exact absurd H (by simp)
     ·rw [if_neg c9] at H
      exact absurd H (by simp)
    ·rw [if_neg c8] at H
     exact absurd H (by simp)
   ·rw [if_neg c6] at H
    exact absurd H (by simp)
  ·rw [if_neg c5] at H
   exact absurd H (by simp)
 ·rw [if_neg c4] at H
  exact absurd H (by simp)
end Go.Proofs.YtfhemdnjoedioaaGreatDoor.X
end
section
namespace Go.Proofs.YtfhemdnjoedioaaGreatDoor.X
open Go.RowKit Go.Proofs.YtfhemdnjoedioaaGreatDoorW.PrintWords Go.Proofs.YtfhemdnjoedioaaGreatDoorW.PrintLast Go.Proofs.YtfhemdnjoedioaaGreatDoorW.PrintMore
set_option linter.unusedVariables false
set_option linter.unusedSimpArgs false
theorem wrap_idd {x : Int} (h0 : -9223372036854775808 ≤ x) (h1 : x < 9223372036854775808) : wrap64 x = x := by unfold wrap64; omega
def isDg (b : UInt8) : Bool := decide (48 ≤ b.toNat) && decide (b.toNat ≤ 57)
theorem isDg_iff {b : UInt8} : isDg b = true ↔ 48 ≤ b.toNat ∧ b.toNat ≤ 57 := by unfold isDg; simp
def valL : List UInt8 → Nat → Nat
  | [], a => a
  | b :: l, a => valL l (10 * a + (b.toNat - 48))
theorem valL_append (l m : List UInt8) (a : Nat) : valL (l ++ m) a = valL m (valL l a) := by
  induction l generalizing a with
  | nil => rfl
  | cons b l ih => exact ih _
theorem valL_lt (l : List UInt8) (hd : ∀ b ∈ l, isDg b = true) (a : Nat) : valL l a < (a + 1) * 10 ^ l.length := by
  induction l generalizing a with
  | nil => simp [valL]
  | cons b l ih =>
    have hb := isDg_iff.mp (hd b (List.mem_cons_self ..))
    have h := ih (fun c hc => hd c (List.mem_cons_of_mem _ hc)) (10 * a + (b.toNat - 48))
    rw [List.length_cons, Nat.pow_succ]
    show valL l (10 * a + (b.toNat - 48)) < _
    refine Nat.lt_of_lt_of_le h ?_
    rw [show (a + 1) * (10 ^ l.length * 10) = (10 * (a + 1)) * 10 ^ l.length by rw [Nat.mul_comm (10 ^ l.length) 10, ← Nat.mul_assoc, Nat.mul_comm (a + 1) 10]]
    exact Nat.mul_le_mul_right _ (by omega)
theorem bt_list (l : List UInt8) (i : Nat) (h : i < l.length) : bt ⟨l.toArray⟩ (i : Int) = (l[i].toNat : Int) := by
  unfold bt
  have hi : ((i : Int)).toNat < (⟨l.toArray⟩ : ByteArray).size := by
    show ((i : Int)).toNat < l.toArray.size
    simpa using h
  rw [dif_pos hi]
  rfl
theorem size_list (l : List UInt8) : (⟨l.toArray⟩ : ByteArray).size = l.length := by
  show l.toArray.size = _
  simp
theorem parse_loop (l : List UInt8) (hd : ∀ b ∈ l, isDg b = true) (hl : l.length ≤ 18) (d : Nat) : ∀ (i k : Nat), i ≤ l.length → d = l.length - i → d < k →
    num_Parse.l0 k ⟨l.toArray⟩ ((valL (l.take i) 0 : Nat) : Int) (l.length : Int) (i : Int) = some (((valL l 0 : Nat) : Int), true) := by
  induction d with
  | zero =>
    intro i k hi he hk
    obtain ⟨k, rfl⟩ : ∃ m, k = m + 1 := ⟨k - 1, by omega⟩
    simp only [num_Parse.l0]
    rw [if_neg (by omega), List.take_of_length_le (by omega)]
  | succ d ih =>
    intro i k hi he hk
    obtain ⟨k, rfl⟩ : ∃ m, k = m + 1 := ⟨k - 1, by omega⟩
    have hlt : i < l.length := by omega
    have hb := isDg_iff.mp (hd l[i] (List.getElem_mem hlt))
    have hv := valL_lt (l.take i) (fun b hb => hd b (List.mem_of_mem_take hb)) 0
    rw [List.length_take, Nat.min_eq_left (by omega)] at hv
    have hp : 10 ^ i ≤ 10 ^ 17 := Nat.pow_le_pow_right (by decide) (by omega)
    have hp' : (10 : Nat) ^ 17 = 100000000000000000 := by decide
    have hv' : valL (l.take i) 0 < 100000000000000000 := by omega
    simp only [num_Parse.l0]
    rw [if_pos (by omega), if_pos (by omega), if_pos (by rw [size_list]; omega), bt_list l i hlt, if_neg (by omega), if_neg (by omega)]
    have e : wrap64 (wrap64 (10 * ((valL (l.take i) 0 : Nat) : Int)) + ((l[i].toNat : Int) - 48) % 256) = ((valL (l.take (i + 1)) 0 : Nat) : Int) := by
      rw [List.take_succ_eq_append_getElem hlt, valL_append]
      show _ = ((10 * valL (l.take i) 0 + (l[i].toNat - 48) : Nat) : Int)
      rw [wrap_idd (x := 10 * ((valL (l.take i) 0 : Nat) : Int)) (by omega) (by omega), wrap_idd (by omega) (by omega)]
      omega
    rw [e, wrap_idd (x := (i : Int) + 1) (by omega) (by omega)]
    exact ih (i + 1) k (by omega) (by omega) (by omega)
theorem parse_digits (l : List UInt8) (hd : ∀ b ∈ l, isDg b = true) (h1 : 1 ≤ l.length) (hl : l.length ≤ 18) (k : Nat) (hk : 20 ≤ k) : num_Parse.f k ⟨l.toArray⟩ = some (((valL l 0 : Nat) : Int), true) := by
  obtain ⟨k, rfl⟩ : ∃ m, k = m + 1 := ⟨k - 1, by omega⟩
  unfold num_Parse.f
  rw [if_neg (by rw [size_list]; omega)]
  simp only [num_Parse.j0]
  rw [if_neg (by rw [size_list]; simp; omega), size_list]
  exact parse_loop l hd hl l.length 0 k (by omega) (by omega) (by omega)
abbrev B (l : List UInt8) : ByteArray := ⟨l.toArray⟩
theorem B_append (l m : List UInt8) : B l ++ B m = B (l ++ m) := by apply ByteArray.ext; rw [ByteArray.data_append]; simp [B]
theorem B_size (l : List UInt8) : (B l).size = l.length := size_list l
def two (m : Nat) : List UInt8 := [UInt8.ofNat (48 + m / 10), UInt8.ofNat (48 + m % 10)]
theorem all_at {p : Nat → Bool} {n : Nat} (h : ((List.range n).all p) = true) (m : Nat) (hm : m < n) : p m = true := List.all_eq_true.mp h m (List.mem_range.mpr hm)
def parts (n : Nat) : List ByteArray := B (Lib.decDigits (n / 3600)) :: ((if n % 3600 = 0 then [] else [B (two (n % 3600 / 60))]) ++ (if n % 60 = 0 then [] else [B (two (n % 60))]))
def onB (k w d : Int) : Bool := (k == 1 && (decide (1 ≤ d) && decide (d ≤ 31)) && w == 0) || (k == 2 && d == 0 && (decide (0 ≤ w) && decide (w ≤ 6))) || ((k == 3 || k == 4) && (decide (1 ≤ d) && decide (d ≤ 31)) && (decide (0 ≤ w) && decide (w ≤ 6)))
def atB (s k : Int) : Bool := (decide (-345600 ≤ s) && decide (s ≤ 345600)) && (decide (1 ≤ k) && decide (k ≤ 3))
theorem weekday_eq (c : Int) : week_weekday.f c = some (decide (0 ≤ c) && decide (c ≤ 6)) := by
  unfold week_weekday.f
  by_cases h : c ≥ 0
  · rw [if_pos h, decide_eq_true h, Bool.true_and]
    congr 1
    exact decide_eq_decide.mpr (by omega)
  · rw [if_neg h, decide_eq_false h, Bool.false_and]
theorem wcheck_eq (a b c : Int) (k : Nat) (hk : 3 ≤ k) : week_Check.f k a b c = some (if onB a b c = true then 0 else 8) := by
  obtain ⟨k, rfl⟩ : ∃ m, k = m + 2 := ⟨k - 2, by omega⟩
  have key : ∀ x3 : Bool, x3 = (decide (1 ≤ c) && decide (c ≤ 31)) → week_Check.j0 (k + 2) x3 a b c = some (if onB a b c = true then 0 else 8) := by
    intro x3 hx
    subst hx
    simp only [week_Check.j0, week_Check.j1]
    rw [weekday_eq]
    simp only [Option.bind_some]
    unfold onB
    by_cases h1 : a = 1
    · subst h1
      rw [if_pos rfl]
      by_cases h2 : (decide (1 ≤ c) && decide (c ≤ 31)) = true
      · rw [if_pos h2, h2]
        by_cases h3 : b = 0
        · rw [if_pos h3, h3]; rfl
        · rw [if_neg h3]; simp [h3]
      · rw [if_neg h2, Bool.eq_false_iff.mpr h2]; rfl
    · rw [if_neg h1]
      by_cases h2 : a = 2
      · subst h2
        rw [if_pos rfl]
        by_cases h3 : c = 0
        · rw [if_pos h3, h3]; simp; split <;> rfl
        · rw [if_neg h3]; simp [h3]
      · rw [if_neg h2]
        by_cases h3 : a = 3
        · subst h3
          rw [if_pos rfl]
          cases (decide (1 ≤ c) && decide (c ≤ 31))
          · simp
          · simp; split <;> rfl
        · rw [if_neg h3]
          by_cases h4 : a = 4
          · subst h4
            cases (decide (1 ≤ c) && decide (c ≤ 31))
            · simp
            · simp; split <;> rfl
          · simp [h1, h2, h3, h4]
  unfold week_Check.f
  by_cases h : c ≥ 1
  · rw [if_pos h]; exact key _ (by rw [decide_eq_true h, Bool.true_and])
  · rw [if_neg h]; exact key _ (by rw [decide_eq_false h, Bool.false_and])
theorem acheck_eq (a b : Int) : atform_Check.f a b = some (if atB a b = true then 0 else 9) := by
  unfold atform_Check.f atform_in.f atform_right.f atB
  rw [show wrap64 (-345600) = -345600 by kernel_rfl]
  by_cases h : a ≥ -345600
  · rw [if_pos h, Option.bind_some, decide_eq_true h, Bool.true_and]
    by_cases h2 : a ≤ 345600
    · rw [decide_eq_true h2, if_pos rfl, Bool.true_and]
      by_cases h3 : b = 1
      · subst h3; rfl
      · rw [if_neg h3]
        by_cases h4 : b = 2
        · subst h4; rfl
        · rw [if_neg h4, Option.bind_some]
          by_cases h5 : b = 3
          · subst h5; rfl
          · have e : (decide (1 ≤ b) && decide (b ≤ 3)) = false := by
              rw [Bool.eq_false_iff]; intro h'; simp at h'; omega
            rw [e]; simp [h5]
    · rw [decide_eq_false h2]; rfl
  · rw [if_neg h, Option.bind_some, decide_eq_false h]; rfl
def W1 : List ByteArray := [⟨#[82, 117, 108, 101]⟩, ⟨#[90, 111, 110, 101]⟩, ⟨#[76, 105, 110, 107]⟩]
def W2 : List ByteArray := [⟨#[74, 97, 110, 117, 97, 114, 121]⟩, ⟨#[70, 101, 98, 114, 117, 97, 114, 121]⟩, ⟨#[77, 97, 114, 99, 104]⟩, ⟨#[65, 112, 114, 105, 108]⟩, ⟨#[77, 97, 121]⟩, ⟨#[74, 117, 110, 101]⟩, ⟨#[74, 117, 108, 121]⟩, ⟨#[65, 117, 103, 117, 115, 116]⟩, ⟨#[83, 101, 112, 116, 101, 109, 98, 101, 114]⟩, ⟨#[79, 99, 116, 111, 98, 101, 114]⟩, ⟨#[78, 111, 118, 101, 109, 98, 101, 114]⟩, ⟨#[68, 101, 99, 101, 109, 98, 101, 114]⟩]
end Go.Proofs.YtfhemdnjoedioaaGreatDoor.X
end
section
namespace Go.Proofs.YtfhemdnjoedioaaGreatDoor.X
open Go.RowKit Go.Proofs.YtfhemdnjoedioaaGreatDoorW.PrintWords Go.Proofs.YtfhemdnjoedioaaGreatDoorW.PrintLast Go.Proofs.YtfhemdnjoedioaaGreatDoorW.PrintMore
attribute [local go_sem] max2_int min2_int max_two min_two max_three min_three max_four min_four
set_option linter.unusedVariables false
set_option linter.unusedSimpArgs false
def IsS27 (w0 W : World) (g : Nat) (f0 : ByteArray) (f1 : Int) (f2 : Int) (f3 : Int) (f4 : Int) (f5 : Int) (f6 : Int) (f7 : Int) (f8 : Int) (f9 : Int) (f10 : ByteArray) : Prop := W.heap[g]? = some (.cells #[.string f0, .int .i64 f1, .int .i64 f2, .int .i64 f3, .int .i64 f4, .int .i64 f5, .int .i64 f6, .int .i64 f7, .int .i64 f8, .int .i64 f9, .string f10] 27 (0, 0)) ∧ w0.heap.size ≤ g
theorem IsS27.grown {w0 W : World} {g : Nat} {f0 : ByteArray} {f1 : Int} {f2 : Int} {f3 : Int} {f4 : Int} {f5 : Int} {f6 : Int} {f7 : Int} {f8 : Int} {f9 : Int} {f10 : ByteArray} {W1 : World} {row : Option Nat} (h : IsS27 w0 W g f0 f1 f2 f3 f4 f5 f6 f7 f8 f9 f10) (hw : W.grownBy W1 row) (hne : some g ≠ row) : IsS27 w0 W1 g f0 f1 f2 f3 f4 f5 f6 f7 f8 f9 f10 := by
 obtain ⟨hb, hg⟩ := h
 exact ⟨blk_grown hb hw hne, hg⟩
theorem IsS27.kept {w0 W : World} {g : Nat} {f0 : ByteArray} {f1 : Int} {f2 : Int} {f3 : Int} {f4 : Int} {f5 : Int} {f6 : Int} {f7 : Int} {f8 : Int} {f9 : Int} {f10 : ByteArray} {W1 : World} {S : Nat → Prop} (h : IsS27 w0 W g f0 f1 f2 f3 f4 f5 f6 f7 f8 f9 f10) (hk : Kept W W1 S) (hne : ¬ S g) : IsS27 w0 W1 g f0 f1 f2 f3 f4 f5 f6 f7 f8 f9 f10 := by
 obtain ⟨hb, hg⟩ := h
 exact ⟨blk_kept hb hk hne, hg⟩
theorem IsS27.below {w0 W : World} {g : Nat} {f0 : ByteArray} {f1 : Int} {f2 : Int} {f3 : Int} {f4 : Int} {f5 : Int} {f6 : Int} {f7 : Int} {f8 : Int} {f9 : Int} {f10 : ByteArray} {W1 : World} (h : IsS27 w0 W g f0 f1 f2 f3 f4 f5 f6 f7 f8 f9 f10) (hw : Below W.heap.size W W1) : IsS27 w0 W1 g f0 f1 f2 f3 f4 f5 f6 f7 f8 f9 f10 := h.grown (grown_of_below hw none) (by simp)
theorem IsS27.alloc {w0 W : World} {g : Nat} {f0 : ByteArray} {f1 : Int} {f2 : Int} {f3 : Int} {f4 : Int} {f5 : Int} {f6 : Int} {f7 : Int} {f8 : Int} {f9 : Int} {f10 : ByteArray} (h : IsS27 w0 W g f0 f1 f2 f3 f4 f5 f6 f7 f8 f9 f10) (o : Obj) : IsS27 w0 (W.alloc o) g f0 f1 f2 f3 f4 f5 f6 f7 f8 f9 f10 := h.below (below_alloc (Below.refl _ _) o)
theorem IsS27.drewN {w0 W : World} {g : Nat} {f0 : ByteArray} {f1 : Int} {f2 : Int} {f3 : Int} {f4 : Int} {f5 : Int} {f6 : Int} {f7 : Int} {f8 : Int} {f9 : Int} {f10 : ByteArray} (h : IsS27 w0 W g f0 f1 f2 f3 f4 f5 f6 f7 f8 f9 f10) (m : Nat) : IsS27 w0 (W.drewN m) g f0 f1 f2 f3 f4 f5 f6 f7 f8 f9 f10 := h
theorem IsS27.drew {w0 W : World} {g : Nat} {f0 : ByteArray} {f1 : Int} {f2 : Int} {f3 : Int} {f4 : Int} {f5 : Int} {f6 : Int} {f7 : Int} {f8 : Int} {f9 : Int} {f10 : ByteArray} (h : IsS27 w0 W g f0 f1 f2 f3 f4 f5 f6 f7 f8 f9 f10) : IsS27 w0 W.drew g f0 f1 f2 f3 f4 f5 f6 f7 f8 f9 f10 := h
theorem IsS27.at_ {w0 W : World} {g : Nat} {f0 : ByteArray} {f1 : Int} {f2 : Int} {f3 : Int} {f4 : Int} {f5 : Int} {f6 : Int} {f7 : Int} {f8 : Int} {f9 : Int} {f10 : ByteArray} {w' : World} {m : Nat} (hq : W.drewN m = w') (h : IsS27 w0 W g f0 f1 f2 f3 f4 f5 f6 f7 f8 f9 f10) : IsS27 w0 w' g f0 f1 f2 f3 f4 f5 f6 f7 f8 f9 f10 := by subst hq; exact IsS27.drewN h m
theorem IsS27.apart {w0 W : World} {g : Nat} {f0 : ByteArray} {f1 : Int} {f2 : Int} {f3 : Int} {f4 : Int} {f5 : Int} {f6 : Int} {f7 : Int} {f8 : Int} {f9 : Int} {f10 : ByteArray} {α : Type} {d : Kd α} {e : Nat} {base : Nat} {ok : Nat → Prop} {v : Value} {xs : List α} (h : IsS27 w0 W g f0 f1 f2 f3 f4 f5 f6 f7 f8 f9 f10) (ho : d.R e W base ok v xs) (ht : ∀ q, q ∈ e :: d.E → q ≠ 27) : d.R e W base (fun k => ok k ∧ k ≠ g) v xs := by
 obtain ⟨hb, hg⟩ := h
 exact Kd.R_types ho hb ht
theorem IsS27.own_ne {w0 W : World} {g : Nat} {f0 : ByteArray} {f1 : Int} {f2 : Int} {f3 : Int} {f4 : Int} {f5 : Int} {f6 : Int} {f7 : Int} {f8 : Int} {f9 : Int} {f10 : ByteArray} {α : Type} {d : Kd α} {e : Nat} {base : Nat} {ok : Nat → Prop} {v : Value} {xs : List α} (h : IsS27 w0 W g f0 f1 f2 f3 f4 f5 f6 f7 f8 f9 f10) (ho : d.R e W base ok v xs) (ht : e ≠ 27) : some g ≠ v.ownBlock := by
 obtain ⟨hb, hg⟩ := h
 exact Kd.R_ne ho hb ht
theorem IsS27.ge {w0 W : World} {g : Nat} {f0 : ByteArray} {f1 : Int} {f2 : Int} {f3 : Int} {f4 : Int} {f5 : Int} {f6 : Int} {f7 : Int} {f8 : Int} {f9 : Int} {f10 : ByteArray} (h : IsS27 w0 W g f0 f1 f2 f3 f4 f5 f6 f7 f8 f9 f10) : w0.heap.size ≤ g := by
 obtain ⟨hb, hg⟩ := h
 exact hg
theorem IsS27.set_0 {w0 W : World} {g : Nat} {f0 : ByteArray} {f1 : Int} {f2 : Int} {f3 : Int} {f4 : Int} {f5 : Int} {f6 : Int} {f7 : Int} {f8 : Int} {f9 : Int} {f10 : ByteArray} (h : IsS27 w0 W g f0 f1 f2 f3 f4 f5 f6 f7 f8 f9 f10) (x : ByteArray) : IsS27 w0 (W.setCell ⟨g, 0, none⟩ (.string x)) g x f1 f2 f3 f4 f5 f6 f7 f8 f9 f10 := by
 obtain ⟨hb, hg⟩ := h
 exact ⟨by simpa using blk_set hb 0 (.string x), hg⟩
theorem IsS27.set_1 {w0 W : World} {g : Nat} {f0 : ByteArray} {f1 : Int} {f2 : Int} {f3 : Int} {f4 : Int} {f5 : Int} {f6 : Int} {f7 : Int} {f8 : Int} {f9 : Int} {f10 : ByteArray} (h : IsS27 w0 W g f0 f1 f2 f3 f4 f5 f6 f7 f8 f9 f10) (x : Int) : IsS27 w0 (W.setCell ⟨g, 1, none⟩ (.int .i64 x)) g f0 x f2 f3 f4 f5 f6 f7 f8 f9 f10 := by
 obtain ⟨hb, hg⟩ := h
 exact ⟨by simpa using blk_set hb 1 (.int .i64 x), hg⟩
theorem IsS27.set_2 {w0 W : World} {g : Nat} {f0 : ByteArray} {f1 : Int} {f2 : Int} {f3 : Int} {f4 : Int} {f5 : Int} {f6 : Int} {f7 : Int} {f8 : Int} {f9 : Int} {f10 : ByteArray} (h : IsS27 w0 W g f0 f1 f2 f3 f4 f5 f6 f7 f8 f9 f10) (x : Int) : IsS27 w0 (W.setCell ⟨g, 2, none⟩ (.int .i64 x)) g f0 f1 x f3 f4 f5 f6 f7 f8 f9 f10 := by
 obtain ⟨hb, hg⟩ := h
 exact ⟨by simpa using blk_set hb 2 (.int .i64 x), hg⟩
theorem IsS27.set_3 {w0 W : World} {g : Nat} {f0 : ByteArray} {f1 : Int} {f2 : Int} {f3 : Int} {f4 : Int} {f5 : Int} {f6 : Int} {f7 : Int} {f8 : Int} {f9 : Int} {f10 : ByteArray} (h : IsS27 w0 W g f0 f1 f2 f3 f4 f5 f6 f7 f8 f9 f10) (x : Int) : IsS27 w0 (W.setCell ⟨g, 3, none⟩ (.int .i64 x)) g f0 f1 f2 x f4 f5 f6 f7 f8 f9 f10 := by
 obtain ⟨hb, hg⟩ := h
 exact ⟨by simpa using blk_set hb 3 (.int .i64 x), hg⟩
theorem IsS27.set_4 {w0 W : World} {g : Nat} {f0 : ByteArray} {f1 : Int} {f2 : Int} {f3 : Int} {f4 : Int} {f5 : Int} {f6 : Int} {f7 : Int} {f8 : Int} {f9 : Int} {f10 : ByteArray} (h : IsS27 w0 W g f0 f1 f2 f3 f4 f5 f6 f7 f8 f9 f10) (x : Int) : IsS27 w0 (W.setCell ⟨g, 4, none⟩ (.int .i64 x)) g f0 f1 f2 f3 x f5 f6 f7 f8 f9 f10 := by
 obtain ⟨hb, hg⟩ := h
 exact ⟨by simpa using blk_set hb 4 (.int .i64 x), hg⟩
theorem IsS27.set_5 {w0 W : World} {g : Nat} {f0 : ByteArray} {f1 : Int} {f2 : Int} {f3 : Int} {f4 : Int} {f5 : Int} {f6 : Int} {f7 : Int} {f8 : Int} {f9 : Int} {f10 : ByteArray} (h : IsS27 w0 W g f0 f1 f2 f3 f4 f5 f6 f7 f8 f9 f10) (x : Int) : IsS27 w0 (W.setCell ⟨g, 5, none⟩ (.int .i64 x)) g f0 f1 f2 f3 f4 x f6 f7 f8 f9 f10 := by
 obtain ⟨hb, hg⟩ := h
 exact ⟨by simpa using blk_set hb 5 (.int .i64 x), hg⟩
theorem IsS27.set_6 {w0 W : World} {g : Nat} {f0 : ByteArray} {f1 : Int} {f2 : Int} {f3 : Int} {f4 : Int} {f5 : Int} {f6 : Int} {f7 : Int} {f8 : Int} {f9 : Int} {f10 : ByteArray} (h : IsS27 w0 W g f0 f1 f2 f3 f4 f5 f6 f7 f8 f9 f10) (x : Int) : IsS27 w0 (W.setCell ⟨g, 6, none⟩ (.int .i64 x)) g f0 f1 f2 f3 f4 f5 x f7 f8 f9 f10 := by
 obtain ⟨hb, hg⟩ := h
 exact ⟨by simpa using blk_set hb 6 (.int .i64 x), hg⟩
theorem IsS27.set_7 {w0 W : World} {g : Nat} {f0 : ByteArray} {f1 : Int} {f2 : Int} {f3 : Int} {f4 : Int} {f5 : Int} {f6 : Int} {f7 : Int} {f8 : Int} {f9 : Int} {f10 : ByteArray} (h : IsS27 w0 W g f0 f1 f2 f3 f4 f5 f6 f7 f8 f9 f10) (x : Int) : IsS27 w0 (W.setCell ⟨g, 7, none⟩ (.int .i64 x)) g f0 f1 f2 f3 f4 f5 f6 x f8 f9 f10 := by
 obtain ⟨hb, hg⟩ := h
 exact ⟨by simpa using blk_set hb 7 (.int .i64 x), hg⟩
theorem IsS27.set_8 {w0 W : World} {g : Nat} {f0 : ByteArray} {f1 : Int} {f2 : Int} {f3 : Int} {f4 : Int} {f5 : Int} {f6 : Int} {f7 : Int} {f8 : Int} {f9 : Int} {f10 : ByteArray} (h : IsS27 w0 W g f0 f1 f2 f3 f4 f5 f6 f7 f8 f9 f10) (x : Int) : IsS27 w0 (W.setCell ⟨g, 8, none⟩ (.int .i64 x)) g f0 f1 f2 f3 f4 f5 f6 f7 x f9 f10 := by
 obtain ⟨hb, hg⟩ := h
 exact ⟨by simpa using blk_set hb 8 (.int .i64 x), hg⟩
theorem IsS27.set_9 {w0 W : World} {g : Nat} {f0 : ByteArray} {f1 : Int} {f2 : Int} {f3 : Int} {f4 : Int} {f5 : Int} {f6 : Int} {f7 : Int} {f8 : Int} {f9 : Int} {f10 : ByteArray} (h : IsS27 w0 W g f0 f1 f2 f3 f4 f5 f6 f7 f8 f9 f10) (x : Int) : IsS27 w0 (W.setCell ⟨g, 9, none⟩ (.int .i64 x)) g f0 f1 f2 f3 f4 f5 f6 f7 f8 x f10 := by
 obtain ⟨hb, hg⟩ := h
 exact ⟨by simpa using blk_set hb 9 (.int .i64 x), hg⟩
theorem IsS27.set_10 {w0 W : World} {g : Nat} {f0 : ByteArray} {f1 : Int} {f2 : Int} {f3 : Int} {f4 : Int} {f5 : Int} {f6 : Int} {f7 : Int} {f8 : Int} {f9 : Int} {f10 : ByteArray} (h : IsS27 w0 W g f0 f1 f2 f3 f4 f5 f6 f7 f8 f9 f10) (x : ByteArray) : IsS27 w0 (W.setCell ⟨g, 10, none⟩ (.string x)) g f0 f1 f2 f3 f4 f5 f6 f7 f8 f9 x := by
 obtain ⟨hb, hg⟩ := h
 exact ⟨by simpa using blk_set hb 10 (.string x), hg⟩
theorem IsS27.new (w0 W : World) (f0 : ByteArray) (f1 : Int) (f2 : Int) (f3 : Int) (f4 : Int) (f5 : Int) (f6 : Int) (f7 : Int) (f8 : Int) (f9 : Int) (f10 : ByteArray) (hB : Below w0.heap.size w0 W) : IsS27 w0 (W.alloc (.cells #[.string f0, .int .i64 f1, .int .i64 f2, .int .i64 f3, .int .i64 f4, .int .i64 f5, .int .i64 f6, .int .i64 f7, .int .i64 f8, .int .i64 f9, .string f10] 27)) W.heap.size f0 f1 f2 f3 f4 f5 f6 f7 f8 f9 f10 := ⟨by simpa using heap_alloc_new W _, hB.size⟩
end Go.Proofs.YtfhemdnjoedioaaGreatDoor.X
end
section
namespace Go.Proofs.YtfhemdnjoedioaaGreatDoor.X
open Go.RowKit Go.Proofs.YtfhemdnjoedioaaGreatDoorW.PrintWords Go.Proofs.YtfhemdnjoedioaaGreatDoorW.PrintLast Go.Proofs.YtfhemdnjoedioaaGreatDoorW.PrintMore
set_option linter.unusedVariables false
set_option linter.unusedSimpArgs false
theorem umod9 (x n : Int) (h0 : 0 < n) (h1 : n < 100000) : 0 ≤ Int.tmod (IntKind.u64.wrap x) n ∧ Int.tmod (IntKind.u64.wrap x) n < n := by
  have hu : 0 ≤ IntKind.u64.wrap x := by
    simp [IntKind.wrap, IntKind.signed, IntKind.bits]
    omega
  rw [Int.tmod_eq_emod_of_nonneg hu]
  exact ⟨Int.emod_nonneg _ (by omega), Int.emod_lt_of_pos _ h0⟩
theorem wakes10b (k : Nat) (h : 700 ≤ k) : solsticelaw10_wakes.f k = some true := at_rounds (g := solsticelaw10_wakes.f) (solsticelaw10_wakes.mono) h (by kernel_rfl)
theorem long_some (y : Int) : ∃ b, civil_Long.f y = some b := by
  unfold civil_Long.f
  split
  · split
    · exact ⟨_, rfl⟩
    · exact ⟨_, rfl⟩
  · exact ⟨_, rfl⟩
theorem clen_fin : ((List.range 12).all fun m => decide (0 ≤ rd [31, 28, 31, 30, 31, 30, 31, 31, 30, 31, 30, 31] (m : Int)) && decide (rd [31, 28, 31, 30, 31, 30, 31, 31, 30, 31, 30, 31] (m : Int) ≤ 31)) = true := by decide +kernel
theorem clen_some (y m : Int) (k : Nat) (hk : 3 ≤ k) : ∃ r, civil_Len.f k y m = some r ∧ 0 ≤ r ∧ r ≤ 31 ∧ (1 ≤ r → 1 ≤ m ∧ m ≤ 12) := by
  obtain ⟨k, rfl⟩ : ∃ q, k = q + 1 := ⟨k - 1, by omega⟩
  unfold civil_Len.f
  simp only [civil_Len.j0]
  by_cases h1 : m < 1
  · exact ⟨0, by rw [if_pos h1]; rfl, by omega, by omega, by omega⟩
  · rw [if_neg h1]
    by_cases h2 : m > 12
    · exact ⟨0, by rw [decide_eq_true h2, if_pos rfl], by omega, by omega, by omega⟩
    · rw [decide_eq_false h2, if_neg (by decide)]
      have hw : wrap64 (m - 1) = m - 1 := wrap_idd (by omega) (by omega)
      have hr := all_at clen_fin (m - 1).toNat (by omega)
      rw [Int.toNat_of_nonneg (by omega)] at hr
      simp only [Bool.and_eq_true, decide_eq_true_eq] at hr
      have tail : ((some (([31, 28, 31, 30, 31, 30, 31, 31, 30, 31, 30, 31] : List Int) : List Int)).bind fun y118 => (if 0 ≤ (wrap64 (m - 1)) then (if (wrap64 (m - 1)) < (y118.length : Int) then (some (rd y118 (wrap64 (m - 1)))) else (none)) else (none))) = some (rd [31, 28, 31, 30, 31, 30, 31, 31, 30, 31, 30, 31] (m - 1)) := by
        rw [Option.bind_some, hw, if_pos (by omega), if_pos (by show m - 1 < 12; omega)]
      by_cases h3 : m = 2
      · rw [if_pos h3]
        obtain ⟨b, hb⟩ := long_some y
        rw [hb, Option.bind_some]
        cases b with
        | true => exact ⟨29, by rw [if_pos rfl], by omega, by omega, by omega⟩
        | false => exact ⟨_, by rw [if_neg (by decide)]; exact tail, hr.1, hr.2, by omega⟩
      · exact ⟨_, by rw [if_neg h3]; exact tail, hr.1, hr.2, by omega⟩
theorem num_loop (y m d : Int) (hm : m ≤ 12) (n : Nat) : ∀ (i : Int) (x : Int) (k : Nat), 1 ≤ i → i ≤ 13 → (n : Int) = 13 - i → n + 5 < k → ∃ r, civil_Number.l0 k x i y m d = some (r, 0) := by
  induction n with
  | zero =>
    intro i x k h0 h1 hn hk
    obtain ⟨k, rfl⟩ : ∃ q, k = q + 1 := ⟨k - 1, by omega⟩
    simp only [civil_Number.l0]
    exact ⟨x, by rw [if_neg (by omega)]⟩
  | succ n ih =>
    intro i x k h0 h1 hn hk
    obtain ⟨k, rfl⟩ : ∃ q, k = q + 1 := ⟨k - 1, by omega⟩
    simp only [civil_Number.l0]
    by_cases h : i < m
    · obtain ⟨r, hr, _⟩ := clen_some y i k (by omega)
      rw [if_pos h, hr, Option.bind_some, wrap_idd (x := i + 1) (by omega) (by omega)]
      exact ih (i + 1) _ k (by omega) (by omega) (by omega) (by omega)
    · exact ⟨x, by rw [if_neg h]⟩
theorem short_eq (n : Int) : zone_short.f n = some (decide (-86400 < n) && decide (n < 86400)) := by
  unfold zone_short.f
  by_cases h : n > (-86400)
  · rw [if_pos h, decide_eq_true (show -86400 < n from h), Bool.true_and]
  · rw [if_neg h, decide_eq_false (show ¬ -86400 < n from h), Bool.false_and]
theorem ten_fin : ((List.range 10).all fun i => decide ((⟨#[48, 49, 50, 51, 52, 53, 54, 55, 56, 57]⟩ : ByteArray).extract i (i + 1) = B [UInt8.ofNat (48 + i)])) = true := by decide +kernel
theorem ten_at (i : Int) (h0 : 0 ≤ i) (h1 : i ≤ 9) : (⟨#[48, 49, 50, 51, 52, 53, 54, 55, 56, 57]⟩ : ByteArray).extract i.toNat (wrap64 (i + 1)).toNat = B [UInt8.ofNat (48 + i.toNat)] := by
  have := of_decide_eq_true (all_at ten_fin i.toNat (by omega))
  rw [wrap_idd (by omega) (by omega), show (i + 1).toNat = i.toNat + 1 by omega]
  exact this
def four (Y : Nat) : List UInt8 := [UInt8.ofNat (48 + Y / 1000), UInt8.ofNat (48 + Y / 100 % 10), UInt8.ofNat (48 + Y / 10 % 10), UInt8.ofNat (48 + Y % 10)]
theorem ofNat_dg (d : Nat) (h : d ≤ 9) : (UInt8.ofNat (48 + d)).toNat = 48 + d := by simp; omega
theorem four_parse (Y : Nat) (h : Y ≤ 9999) (k : Nat) (hk : 20 ≤ k) : num_Parse.f k (B (four Y)) = some ((Y : Int), true) := by
  have d0 := ofNat_dg (Y / 1000) (by omega)
  have d1 := ofNat_dg (Y / 100 % 10) (by omega)
  have d2 := ofNat_dg (Y / 10 % 10) (by omega)
  have d3 := ofNat_dg (Y % 10) (by omega)
  have hd : ∀ b ∈ four Y, isDg b = true := by
    intro b hb
    unfold four at hb
    simp only [List.mem_cons, List.not_mem_nil, or_false] at hb
    rw [isDg_iff]
    rcases hb with rfl | rfl | rfl | rfl
    · rw [d0]; omega
    · rw [d1]; omega
    · rw [d2]; omega
    · rw [d3]; omega
  have hv : valL (four Y) 0 = Y := by
    unfold four
    simp only [valL]
    rw [d0, d1, d2, d3]
    omega
  have := parse_digits (four Y) hd (by unfold four; simp) (by unfold four; simp) k hk
  rw [hv] at this
  exact this
theorem len_1_3 (y m : Int) (h : m = 1 ∨ m = 3) (k : Nat) (hk : 3 ≤ k) : civil_Len.f k y m = some 31 := by
  obtain ⟨k, rfl⟩ : ∃ q, k = q + 1 := ⟨k - 1, by omega⟩
  unfold civil_Len.f
  rcases h with rfl | rfl
  · rw [if_neg (by decide), show decide ((1 : Int) > 12) = false by decide]
    simp only [civil_Len.j0, Bool.false_eq_true, if_false]
    rw [if_neg (by decide)]
    kernel_rfl
  · rw [if_neg (by decide), show decide ((3 : Int) > 12) = false by decide]
    simp only [civil_Len.j0, Bool.false_eq_true, if_false]
    rw [if_neg (by decide)]
    kernel_rfl
theorem number_ok (y m d : Int) (h0 : 1 ≤ y) (h1 : y ≤ 9999) (h : m = 1 ∨ m = 3) (hd : 1 ≤ d) (hd' : d ≤ 31) (k : Nat) (hk : 30 ≤ k) : ∃ x, civil_Number.f k y m d = some (x, 0) := by
  unfold civil_Number.f civil_right.f
  rw [if_pos (by omega), if_pos (by omega), if_pos (by omega), len_1_3 y m h k (by omega), Option.bind_some, Option.bind_some, decide_eq_true hd', if_pos rfl]
  have ha : ∃ a, civil_ahead.f y = some a := by unfold civil_ahead.f; split; exact ⟨_, rfl⟩; exact ⟨_, rfl⟩
  obtain ⟨a, ha⟩ := ha
  rw [ha, Option.bind_some]
  exact num_loop y m d (by omega) 12 1 _ k (by omega) (by omega) (by omega) (by omega)
theorem resolve_ok (y m a b c : Int) (h0 : 1 ≤ y) (h1 : y ≤ 9999) (h : m = 1 ∨ m = 3) (ho : onB a b c = true) (ha : a = 1 ∨ a = 3) (hc : 1 ≤ c ∧ c ≤ 31) (k : Nat) (hk : 60 ≤ k) : ∃ x, week_Resolve.f k y m a b c = some (x, 0) := by
  obtain ⟨k, rfl⟩ : ∃ q, k = q + 2 := ⟨k - 2, by omega⟩
  obtain ⟨x, hx⟩ := number_ok y m c h0 h1 h hc.1 hc.2 k (by omega)
  unfold week_Resolve.f
  rw [wcheck_eq a b c (k + 2) (by omega), ho, Option.bind_some, if_pos (show (if true = true then (0 : Int) else 8) = 0 from rfl), if_neg (by omega), decide_eq_false (by omega)]
  simp only [week_Resolve.j0, week_Resolve.j1, Bool.false_eq_true, if_false, week_upon.f, civil_Weekday.f, Option.bind_some]
  rw [if_neg (by omega), hx, Option.bind_some, if_pos rfl]
  rcases ha with rfl | rfl
  · exact ⟨_, by rw [if_neg (by decide), if_neg (by decide), if_neg (by decide)]⟩
  · exact ⟨_, by rw [if_pos rfl]⟩
def EET : ByteArray := ⟨#[69, 69, 84]⟩
theorem right_y (y m a b c s ak : Int) (h0 : 1 ≤ y) (h1 : y ≤ 9999) (h : m = 1 ∨ m = 3) (ho : onB a b c = true) (ha : a = 1 ∨ a = 3) (hc : 1 ≤ c ∧ c ≤ 31) (hs : atB s ak = true) (k : Nat) (hk : 1200 ≤ k) :
    zone_right.f k 7200 1 0 ⟨#[]⟩ EET true y m a b c s ak = some true := by
  obtain ⟨x, hx⟩ := resolve_ok y m a b c h0 h1 h ho ha hc k (by omega)
  have hf : zone_Format.f k EET = some true := at_rounds (g := fun q => zone_Format.f q EET) (fun q => zone_Format.mono _ q) (show 60 ≤ k by omega) (by decide +kernel)
  unfold zone_right.f
  rw [short_eq, Option.bind_some, if_pos (by decide)]
  have hsv : zone_saving.f k 7200 1 0 ⟨#[]⟩ EET true y m a b c s ak = some true := by
    unfold zone_saving.f
    rw [if_pos rfl, if_pos rfl]
    decide +kernel
  have hu : zone_until.f k 7200 1 0 ⟨#[]⟩ EET true y m a b c s ak = some true := by
    unfold zone_until.f
    rw [if_pos rfl, hx, Option.bind_some, if_pos rfl, acheck_eq, hs]
    rfl
  rw [hsv, Option.bind_some, if_pos rfl, hf, Option.bind_some, if_pos rfl, hu]
  rfl
def Lx (n : Nat) (Y : Nat) : List ByteArray := ([⟨#[50, 58, 48, 48]⟩, ⟨#[45]⟩, EET, B (four Y), ⟨#[77, 97, 114]⟩, ⟨#[83, 117, 110, 62, 61, 56]⟩, ⟨#[51, 115]⟩, ⟨#[120]⟩] : List ByteArray).take n
theorem two_h (q : Nat) (hq : 60 ≤ q) : clock_Parse.f q ⟨#[50, 58, 48, 48]⟩ = some (7200, 0) := at_rounds (g := fun q => clock_Parse.f q ⟨#[50, 58, 48, 48]⟩) (fun q => clock_Parse.mono _ q) hq (by decide +kernel)
theorem mar (q : Nat) (hq : 60 ≤ q) : words_Month.f q ⟨#[77, 97, 114]⟩ = some (3, 0) := at_rounds (g := fun q => words_Month.f q ⟨#[77, 97, 114]⟩) (fun q => words_Month.mono _ q) hq (by decide +kernel)
theorem sun8 (q : Nat) (hq : 60 ≤ q) : onform_Parse.f q ⟨#[83, 117, 110, 62, 61, 56]⟩ = some (3, 0, 8, 0) := at_rounds (g := fun q => onform_Parse.f q ⟨#[83, 117, 110, 62, 61, 56]⟩) (fun q => onform_Parse.mono _ q) hq (by decide +kernel)
theorem three_s (q : Nat) (hq : 60 ≤ q) : atform_Parse.f q ⟨#[51, 115]⟩ = some (10800, 2, 0) := at_rounds (g := fun q => atform_Parse.f q ⟨#[51, 115]⟩) (fun q => atform_Parse.mono _ q) hq (by decide +kernel)
theorem era_end (Y n : Nat) (hn : 4 ≤ n ∧ n ≤ 7) (h0 : 1 ≤ Y) (h1 : Y ≤ 9999) (m a b c s ak : Int) (hm : m = 1 ∨ m = 3) (ho : onB a b c = true) (ha : a = 1 ∨ a = 3) (hc : 1 ≤ c ∧ c ≤ 31) (hs : atB s ak = true)
    (he : zone_ends.f 1297 7200 1 0 ⟨#[]⟩ EET false 0 0 0 0 0 0 0 ((Lx n Y).drop 3) = some (0, 7200, 1, 0, ⟨#[]⟩, EET, true, (Y : Int), m, a, b, c, s, ak)) :
    zone_Era.f 1300 (Lx n Y) = some (7200, 1, 0, ⟨#[]⟩, EET, true, (Y : Int), m, a, b, c, s, ak, 0) := by
  have hl : ((Lx n Y).length : Int) = n := by
    unfold Lx
    rw [List.length_take]
    simp
    omega
  have r0 : rdOf ByteArray.empty (Lx n Y) 0 = ⟨#[50, 58, 48, 48]⟩ ∧ rdOf ByteArray.empty (Lx n Y) 1 = ⟨#[45]⟩ ∧ rdOf ByteArray.empty (Lx n Y) 2 = EET := by
    obtain ⟨n, rfl⟩ : ∃ p, n = p + 3 := ⟨n - 3, by omega⟩
    exact ⟨rfl, rfl, rfl⟩
  unfold zone_Era.f
  rw [hl, if_neg (by omega), decide_eq_false (by omega)]
  simp only [zone_Era.j0, Bool.false_eq_true, if_false]
  rw [hl, if_pos (by omega), r0.1, two_h 1299 (by decide), Option.bind_some, if_pos rfl, if_pos (by omega), if_pos (by omega), r0.2.1, r0.2.2, if_pos (by decide +kernel)]
  simp only [zone_Era.j1, zone_Era.j2, if_true]
  rw [hl, if_pos (by omega), if_pos (by omega), he, Option.bind_some, if_pos rfl, right_y (Y : Int) m a b c s ak (by omega) (by omega) hm ho ha hc hs 1297 (by decide), Option.bind_some, if_pos rfl]
theorem ends_4 (Y : Nat) (h1 : Y ≤ 9999) : zone_ends.f 1297 7200 1 0 ⟨#[]⟩ EET false 0 0 0 0 0 0 0 ((Lx 4 Y).drop 3) = some (0, 7200, 1, 0, ⟨#[]⟩, EET, true, (Y : Int), 1, 1, 0, 1, 0, 1) := by
  show zone_ends.f 1297 7200 1 0 ⟨#[]⟩ EET false 0 0 0 0 0 0 0 [B (four Y)] = _
  unfold zone_ends.f
  rw [if_pos (by show (0 : Int) < 1; decide), show rdOf ByteArray.empty [B (four Y)] 0 = B (four Y) from rfl, four_parse Y h1 1297 (by decide), Option.bind_some, if_pos rfl, if_neg (by show ¬ (1 : Int) > 1; decide)]
  simp only [zone_ends.j0, zone_ends.j1, if_true]
  rw [show decide ((([B (four Y)] : List ByteArray).length : Int) > 2) = false from by show decide ((1 : Int) > 2) = false; decide, if_neg (by decide), if_neg (by show ¬ (1 : Int) > 3; decide)]
theorem ends_5 (Y : Nat) (h1 : Y ≤ 9999) : zone_ends.f 1297 7200 1 0 ⟨#[]⟩ EET false 0 0 0 0 0 0 0 ((Lx 5 Y).drop 3) = some (0, 7200, 1, 0, ⟨#[]⟩, EET, true, (Y : Int), 3, 1, 0, 1, 0, 1) := by
  show zone_ends.f 1297 7200 1 0 ⟨#[]⟩ EET false 0 0 0 0 0 0 0 [B (four Y), ⟨#[77, 97, 114]⟩] = _
  unfold zone_ends.f
  rw [if_pos (by show (0 : Int) < 2; decide), show rdOf ByteArray.empty [B (four Y), ⟨#[77, 97, 114]⟩] 0 = B (four Y) from rfl, four_parse Y h1 1297 (by decide), Option.bind_some, if_pos rfl, if_pos (by show (2 : Int) > 1; decide), if_pos (by show (1 : Int) < 2; decide),
    show rdOf ByteArray.empty [B (four Y), ⟨#[77, 97, 114]⟩] 1 = ⟨#[77, 97, 114]⟩ from rfl, mar 1297 (by decide), Option.bind_some]
  simp only [zone_ends.j0, zone_ends.j1, if_true]
  rw [show decide ((([B (four Y), ⟨#[77, 97, 114]⟩] : List ByteArray).length : Int) > 2) = false from by show decide ((2 : Int) > 2) = false; decide, if_neg (by decide), if_neg (by show ¬ (2 : Int) > 3; decide)]
theorem ends_6 (Y : Nat) (h1 : Y ≤ 9999) : zone_ends.f 1297 7200 1 0 ⟨#[]⟩ EET false 0 0 0 0 0 0 0 ((Lx 6 Y).drop 3) = some (0, 7200, 1, 0, ⟨#[]⟩, EET, true, (Y : Int), 3, 3, 0, 8, 0, 1) := by
  show zone_ends.f 1297 7200 1 0 ⟨#[]⟩ EET false 0 0 0 0 0 0 0 [B (four Y), ⟨#[77, 97, 114]⟩, ⟨#[83, 117, 110, 62, 61, 56]⟩] = _
  unfold zone_ends.f
  rw [if_pos (by show (0 : Int) < 3; decide), show rdOf ByteArray.empty [B (four Y), ⟨#[77, 97, 114]⟩, ⟨#[83, 117, 110, 62, 61, 56]⟩] 0 = B (four Y) from rfl, four_parse Y h1 1297 (by decide), Option.bind_some, if_pos rfl, if_pos (by show (3 : Int) > 1; decide), if_pos (by show (1 : Int) < 3; decide),
    show rdOf ByteArray.empty [B (four Y), ⟨#[77, 97, 114]⟩, ⟨#[83, 117, 110, 62, 61, 56]⟩] 1 = ⟨#[77, 97, 114]⟩ from rfl, mar 1297 (by decide), Option.bind_some]
  simp only [zone_ends.j0, zone_ends.j1, if_true]
  rw [show decide ((([B (four Y), ⟨#[77, 97, 114]⟩, ⟨#[83, 117, 110, 62, 61, 56]⟩] : List ByteArray).length : Int) > 2) = true from by show decide ((3 : Int) > 2) = true; decide, if_pos rfl, if_pos (by show (2 : Int) < 3; decide),
    show rdOf ByteArray.empty [B (four Y), ⟨#[77, 97, 114]⟩, ⟨#[83, 117, 110, 62, 61, 56]⟩] 2 = ⟨#[83, 117, 110, 62, 61, 56]⟩ from rfl, sun8 1295 (by decide), Option.bind_some, if_pos rfl, if_neg (by show ¬ (3 : Int) > 3; decide)]
theorem ends_7 (Y : Nat) (h1 : Y ≤ 9999) : zone_ends.f 1297 7200 1 0 ⟨#[]⟩ EET false 0 0 0 0 0 0 0 ((Lx 7 Y).drop 3) = some (0, 7200, 1, 0, ⟨#[]⟩, EET, true, (Y : Int), 3, 3, 0, 8, 10800, 2) := by
  show zone_ends.f 1297 7200 1 0 ⟨#[]⟩ EET false 0 0 0 0 0 0 0 [B (four Y), ⟨#[77, 97, 114]⟩, ⟨#[83, 117, 110, 62, 61, 56]⟩, ⟨#[51, 115]⟩] = _
  unfold zone_ends.f
  rw [if_pos (by show (0 : Int) < 4; decide), show rdOf ByteArray.empty [B (four Y), ⟨#[77, 97, 114]⟩, ⟨#[83, 117, 110, 62, 61, 56]⟩, ⟨#[51, 115]⟩] 0 = B (four Y) from rfl, four_parse Y h1 1297 (by decide), Option.bind_some, if_pos rfl, if_pos (by show (4 : Int) > 1; decide), if_pos (by show (1 : Int) < 4; decide),
    show rdOf ByteArray.empty [B (four Y), ⟨#[77, 97, 114]⟩, ⟨#[83, 117, 110, 62, 61, 56]⟩, ⟨#[51, 115]⟩] 1 = ⟨#[77, 97, 114]⟩ from rfl, mar 1297 (by decide), Option.bind_some]
  simp only [zone_ends.j0, zone_ends.j1, if_true]
  rw [show decide ((([B (four Y), ⟨#[77, 97, 114]⟩, ⟨#[83, 117, 110, 62, 61, 56]⟩, ⟨#[51, 115]⟩] : List ByteArray).length : Int) > 2) = true from by show decide ((4 : Int) > 2) = true; decide, if_pos rfl, if_pos (by show (2 : Int) < 4; decide),
    show rdOf ByteArray.empty [B (four Y), ⟨#[77, 97, 114]⟩, ⟨#[83, 117, 110, 62, 61, 56]⟩, ⟨#[51, 115]⟩] 2 = ⟨#[83, 117, 110, 62, 61, 56]⟩ from rfl, sun8 1295 (by decide), Option.bind_some, if_pos rfl, if_pos (by show (4 : Int) > 3; decide), if_pos (by show (3 : Int) < 4; decide),
    show rdOf ByteArray.empty [B (four Y), ⟨#[77, 97, 114]⟩, ⟨#[83, 117, 110, 62, 61, 56]⟩, ⟨#[51, 115]⟩] 3 = ⟨#[51, 115]⟩ from rfl, three_s 1295 (by decide), Option.bind_some]
theorem era_3 (Y : Nat) : zone_Era.f 1300 (Lx 3 Y) = some (7200, 1, 0, ⟨#[]⟩, EET, false, 0, 0, 0, 0, 0, 0, 0, 0) := by
  show zone_Era.f 1300 [⟨#[50, 58, 48, 48]⟩, ⟨#[45]⟩, EET] = _
  exact at_rounds (g := fun q => zone_Era.f q [⟨#[50, 58, 48, 48]⟩, ⟨#[45]⟩, EET]) (fun q => zone_Era.mono _ q) (show 100 ≤ 1300 by decide) (by kernel_rfl)
theorem era_8 (Y : Nat) : zone_Era.f 1300 (Lx 8 Y) = some (0, 0, 0, ⟨#[]⟩, ⟨#[]⟩, false, 0, 0, 0, 0, 0, 0, 0, 6) := by
  unfold zone_Era.f
  rw [if_neg (by show ¬ (8 : Int) < 3; decide), show decide (((Lx 8 Y).length : Int) > 7) = true from by show decide ((8 : Int) > 7) = true; decide]
  simp only [zone_Era.j0, if_true]
theorem wk (k : Nat) (h : 700 ≤ k) : ((solsticelaw10_wakes.f k).bind fun t => some t) = some true := by rw [wakes10b k h]; rfl
theorem yr_e0 (Y : Nat) (hY1 : Y ≤ 9999) : wrap64 (Int.tdiv (Y : Int) 1000) = ((Y / 1000 : Nat) : Int) := by rw [Int.tdiv_eq_ediv_of_nonneg (by omega), wrap_idd (by omega) (by omega)]; omega
theorem yr_e1 (Y : Nat) (hY1 : Y ≤ 9999) : Int.tmod (wrap64 (Int.tdiv (Y : Int) 100)) 10 = ((Y / 100 % 10 : Nat) : Int) := by rw [Int.tdiv_eq_ediv_of_nonneg (by omega), wrap_idd (by omega) (by omega), Int.tmod_eq_emod_of_nonneg (by omega)]; omega
theorem yr_e2 (Y : Nat) (hY1 : Y ≤ 9999) : Int.tmod (wrap64 (Int.tdiv (Y : Int) 10)) 10 = ((Y / 10 % 10 : Nat) : Int) := by rw [Int.tdiv_eq_ediv_of_nonneg (by omega), wrap_idd (by omega) (by omega), Int.tmod_eq_emod_of_nonneg (by omega)]; omega
theorem yr_e3 (Y : Nat) (hY1 : Y ≤ 9999) : Int.tmod (Y : Int) 10 = ((Y % 10 : Nat) : Int) := by rw [Int.tmod_eq_emod_of_nonneg (by omega)]; omega
theorem dg_t (d : Nat) (h : d ≤ 9) : (⟨#[48, 49, 50, 51, 52, 53, 54, 55, 56, 57]⟩ : ByteArray).extract ((d : Nat) : Int).toNat (wrap64 (((d : Nat) : Int) + 1)).toNat = B [UInt8.ofNat (48 + d)] := ten_at _ (by omega) (by omega)
theorem dg_w (d : Nat) (h : d ≤ 9) : wrap64 (((d : Nat) : Int) + 1) = ((d : Nat) : Int) + 1 := wrap_idd (by omega) (by omega)
theorem yr_q0 (Y : Nat) (hY1 : Y ≤ 9999) : Y / 1000 ≤ 9 := by omega
theorem yr_q1 (Y : Nat) : Y / 100 % 10 ≤ 9 := by omega
theorem yr_q2 (Y : Nat) : Y / 10 % 10 ≤ 9 := by omega
theorem yr_q3 (Y : Nat) : Y % 10 ≤ 9 := by omega
theorem six_of (v : Int) (h0 : 0 ≤ v) (h1 : v < 6) : v = 0 ∨ v = 1 ∨ v = 2 ∨ v = 3 ∨ v = 4 ∨ v = 5 := by omega
theorem dg_p0 : ∀ d : Nat, (0 : Int) ≤ (d : Int) := fun d => Int.natCast_nonneg d
theorem dg_p1 : ∀ d : Nat, (d : Int) ≤ (d : Int) + 1 := fun d => by omega
theorem dg_p2 : ∀ d : Nat, d ≤ 9 → (d : Int) + 1 ≤ 10 := fun d h => by omega
theorem dg_z1 : ∀ x y : UInt8, (B [x]).size + (B [y]).size ≤ 9223372036854775807 := fun x y => by rw [B_size, B_size]; simp only [List.length_cons, List.length_nil, List.length_append]; omega
theorem dg_z2 : ∀ x y z : UInt8, (B [x] ++ B [y]).size + (B [z]).size ≤ 9223372036854775807 := fun x y z => by rw [B_append, B_size, B_size]; simp only [List.length_cons, List.length_nil, List.length_append]; omega
theorem dg_z3 : ∀ x y z u : UInt8, ((B [x] ++ B [y]) ++ B [z]).size + (B [u]).size ≤ 9223372036854775807 := fun x y z u => by rw [B_append, B_append, B_size, B_size]; simp only [List.length_cons, List.length_nil, List.length_append]; omega
theorem pure_ZoneLeft (a0 a1 : Int) : ∃ k, solsticelaw10_ZoneLeft.f k a0 a1 = some true := by
  refine ⟨1300, ?_⟩
  obtain ⟨u0, u1⟩ := umod9 a0 9999 (by decide) (by decide)
  obtain ⟨v0, v1⟩ := umod9 a1 6 (by decide) (by decide)
  unfold solsticelaw10_ZoneLeft.f
  generalize Int.tmod (IntKind.u64.wrap a0) 9999 = u at *
  generalize Int.tmod (IntKind.u64.wrap a1) 6 = v at *
  rw [wrap_idd (x := u) (by omega) (by omega), wrap_idd (x := v) (by omega) (by omega), wrap_idd (x := 1 + u) (by omega) (by omega), wrap_idd (x := 3 + v) (by omega) (by omega)]
  obtain ⟨Y, hY⟩ : ∃ Y : Nat, 1 + u = (Y : Int) := ⟨(1 + u).toNat, by omega⟩
  have hY0 : 1 ≤ Y := by omega
  have hY1 : Y ≤ 9999 := by omega
  have v3 : 0 ≤ 3 + v := by omega
  have v8 : 3 + v ≤ 8 := by omega
  have q0 := yr_q0 Y hY1
  have q1 := yr_q1 Y
  have q2 := yr_q2 Y
  have q3 := yr_q3 Y
  rw [hY, yr_e0 Y hY1, yr_e1 Y hY1, yr_e2 Y hY1, yr_e3 Y hY1]
  rw [dg_t _ q0, dg_t _ q1, dg_t _ q2, dg_t _ q3, dg_w _ q0, dg_w _ q1, dg_w _ q2, dg_w _ q3]
  have f4 : ((B [UInt8.ofNat (48 + Y / 1000)] ++ B [UInt8.ofNat (48 + Y / 100 % 10)]) ++ B [UInt8.ofNat (48 + Y / 10 % 10)]) ++ B [UInt8.ofNat (48 + Y % 10)] = B (four Y) := by rw [B_append, B_append, B_append]; rfl
  rw [f4, if_pos (dg_p0 _), if_pos (dg_p1 _), if_pos (dg_p2 _ q0), if_pos (dg_p0 _), if_pos (dg_p1 _), if_pos (dg_p2 _ q1), if_pos (dg_z1 _ _)]
  rw [if_pos (dg_p0 _), if_pos (dg_p1 _), if_pos (dg_p2 _ q2), if_pos (dg_z2 _ _ _), if_pos (dg_p0 _), if_pos (dg_p1 _), if_pos (dg_p2 _ q3), if_pos (dg_z3 _ _ _ _), Option.bind_some]
  rw [if_pos v3, if_pos (by show 3 + v ≤ 8; exact v8)]
  have hEET : (EET.toList == EET.toList) = true := by simp
  rcases six_of v v0 v1 with rfl | rfl | rfl | rfl | rfl | rfl
  · show ((zone_Era.f 1300 (Lx 3 Y)).bind _) = _
    rw [era_3 Y, Option.bind_some, if_neg (by decide), if_neg (by decide)]
    simp only [solsticelaw10_ZoneLeft.j0, solsticelaw10_ZoneLeft.j1]
    rw [if_neg (by decide), if_neg (by decide), if_neg (by decide), if_pos trivial, if_pos (by simp [EET]), wk 1298 (by decide)]
  · show ((zone_Era.f 1300 (Lx 4 Y)).bind _) = _
    rw [era_end Y 4 (by decide) hY0 hY1 1 1 0 1 0 1 (Or.inl rfl) (by decide) (Or.inl rfl) (by decide) (by decide) (ends_4 Y hY1), Option.bind_some, if_neg (by decide), if_pos (by decide)]
    simp only [solsticelaw10_ZoneLeft.j0, solsticelaw10_ZoneLeft.j1]
    rw [if_neg (by decide), if_neg (by decide), if_neg (by decide), if_pos trivial, if_pos (by simp [EET]), wk 1298 (by decide)]
  · show ((zone_Era.f 1300 (Lx 5 Y)).bind _) = _
    rw [era_end Y 5 (by decide) hY0 hY1 3 1 0 1 0 1 (Or.inr rfl) (by decide) (Or.inl rfl) (by decide) (by decide) (ends_5 Y hY1), Option.bind_some, if_neg (by decide), if_pos (by decide)]
    simp only [solsticelaw10_ZoneLeft.j0, solsticelaw10_ZoneLeft.j1]
    rw [if_pos (by decide), if_neg (by decide), if_neg (by decide), if_pos trivial, if_pos (by simp [EET]), wk 1298 (by decide)]
  · show ((zone_Era.f 1300 (Lx 6 Y)).bind _) = _
    rw [era_end Y 6 (by decide) hY0 hY1 3 3 0 8 0 1 (Or.inr rfl) (by decide) (Or.inr rfl) (by decide) (by decide) (ends_6 Y hY1), Option.bind_some, if_neg (by decide), if_pos (by decide)]
    simp only [solsticelaw10_ZoneLeft.j0, solsticelaw10_ZoneLeft.j1]
    rw [if_pos (by decide), if_pos (by decide), if_neg (by decide), if_pos trivial, if_pos (by simp [EET]), wk 1298 (by decide)]
  · show ((zone_Era.f 1300 (Lx 7 Y)).bind _) = _
    rw [era_end Y 7 (by decide) hY0 hY1 3 3 0 8 10800 2 (Or.inr rfl) (by decide) (Or.inr rfl) (by decide) (by decide) (ends_7 Y hY1), Option.bind_some, if_neg (by decide), if_pos (by decide)]
    simp only [solsticelaw10_ZoneLeft.j0, solsticelaw10_ZoneLeft.j1]
    rw [if_pos (by decide), if_pos (by decide), if_pos (by decide), if_pos trivial, if_pos (by simp [EET]), wk 1298 (by decide)]
  · show ((zone_Era.f 1300 (Lx 8 Y)).bind _) = _
    rw [era_8 Y, Option.bind_some, if_pos (by decide), if_pos rfl, if_pos (by decide +kernel), wk 1300 (by decide)]
end Go.Proofs.YtfhemdnjoedioaaGreatDoor.X
end
