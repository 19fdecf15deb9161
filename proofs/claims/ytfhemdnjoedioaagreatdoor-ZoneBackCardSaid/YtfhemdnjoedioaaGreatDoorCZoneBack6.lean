import Derived.Below
import Derived.Deep.Draws
import Derived.Deep.AppendLies
import Derived.Maps.AppendAt
import Derived.OwnWalk
import Derived.Laws.BytesArg
import Derived.Laws.MakeOwn
import Derived.Laws.OwnMore
import Derived.Deep.OwnRows
import Derived.Tactics
import Derived.Lib.ConvBytes
import Derived.Laws.Slices
import Derived.WalkKit
import Derived.KernelRfl
import Derived.RowKit3
import Derived.Deep.LoopGhost
import Derived.Deep.QuietTactic
import Derived.BigQuiet
import Derived.WideLaws
import Derived.Deep.DeepCutAuto
import Derived.Deep.CutBlock
import Derived.Deep.RegionHeld3
import Derived.Laws.Rows
import Derived.Lib.AppendStr
import Derived.ArgAppend
import Derived.Laws.IdiomCopy
import Derived.RowKit
import Derived.OrdersHeld
import Derived.Laws.BitsLemmas
import Derived.Laws.StructEq
import Derived.Test.YtfhemdnjoedioaaGreatDoorProg
import Derived.Lib.AppendIntMem
import Derived.Shelf.Strings.Fields
import Derived.Lib.ItoaNum
import Derived.Shelf.Strings.Builder1
import Derived.Shelf.Strings.Builder2
import Derived.Shelf.Strings.OnBuilder
import Derived.Shelf.Small.Bits
import Derived.Shelf.Small.Strs
import Derived.Shelf.Strings.BuilderF
import Derived.Shelf.Strconv.Itoa0
import Derived.Shelf.Strconv.Itoa1
import Derived.Shelf.LaysM
import Derived.Shelf.Strconv.Itoa2
import Derived.Shelf.Strconv.Itoa3
import Derived.Shelf.Strings.Search1
import Derived.Shelf.Strings.Search2
import Derived.Shelf.Strings.Search3
import Derived.Shelf.Strings.Cut
import Derived.Shelf.Strings.Count
import Derived.Shelf.Strings.Shaped
import Derived.Shelf.Sort.Plain
import Derived.Shelf.Strings.Prefix
import Derived.Shelf.Strings.Split
import Derived.Shelf.Strings.Fold
import Derived.Shelf.Unicode.Latin
import Derived.Shelf.Bits.Mul64
import Derived.Shelf.Strings.Repeat
import Derived.Shelf.Unicode.DecodeSlow
import Derived.Shelf.Unicode.DecodeAny
import Derived.Shelf.Unicode.Is16White
import Derived.Shelf.Unicode.IsSpaceAny
import Derived.Shelf.Unicode.CaseLookup
import Derived.Shelf.Unicode.CaseConvert
import Derived.Shelf.Unicode.Is16Any
import Derived.Shelf.Unicode.Is32Any
import Derived.Shelf.Unicode.ExclAny
import Derived.Shelf.Slices.CompactS
import Derived.Shelf.Slices.Cells
import Derived.Shelf.Slices.In.SortNone
import Derived.Outline
import Derived.Lib.SplitLaws
import Derived.Test.YtfhemdnjoedioaaGreatDoorCZoneBack5
section
namespace Go.Proofs.YtfhemdnjoedioaaGreatDoor.X
open Go.RowKit Go.Proofs.YtfhemdnjoedioaaGreatDoorW.PrintWords Go.Proofs.YtfhemdnjoedioaaGreatDoorW.PrintLast Go.Proofs.YtfhemdnjoedioaaGreatDoorW.PrintMore
attribute [local go_sem] max2_int min2_int max_two min_two max_three min_three max_four min_four
set_option linter.unusedVariables false
set_option linter.unusedSimpArgs false
def solsticelaw10_wakes.f (k : Nat)  : Option (Bool) := (fields_Split.f (⟨#[49, 58, 48, 48, 32, 69, 85, 32, 67, 69, 37, 115, 84, 32, 49, 57, 57, 54, 32, 79, 99, 116, 32, 108, 97, 115, 116, 83, 117, 110, 32, 50, 115]⟩ : ByteArray)).bind fun bt559 => ((zone_Era.f k bt559.1).bind fun bt563 => ((zone_Text.f k bt563.1 bt563.2.1 bt563.2.2.1 bt563.2.2.2.1 bt563.2.2.2.2.1 bt563.2.2.2.2.2.1 bt563.2.2.2.2.2.2.1 bt563.2.2.2.2.2.2.2.1 bt563.2.2.2.2.2.2.2.2.1 bt563.2.2.2.2.2.2.2.2.2.1 bt563.2.2.2.2.2.2.2.2.2.2.1 bt563.2.2.2.2.2.2.2.2.2.2.2.1 bt563.2.2.2.2.2.2.2.2.2.2.2.2.1).bind fun bt578 => (if bt559.2 = 0 then (if bt563.2.2.2.2.2.2.2.2.2.2.2.2.2 = 0 then (if bt578.2 = 0 then (if bt563.2.1 = 3 then (if bt563.2.2.2.1.toList = ([69, 85] : List UInt8) then (if bt563.2.2.2.2.2.1 = true then (if bt563.2.2.2.2.2.2.1 = 1996 then (if bt578.1.toList = ([49, 32, 69, 85, 32, 67, 69, 37, 115, 84, 32, 49, 57, 57, 54, 32, 79, 99, 116, 32, 108, 97, 115, 116, 83, 117, 110, 32, 50, 115] : List UInt8) then ((zone_Format.f k (⟨#[65, 47, 66]⟩ : ByteArray)).bind fun t580 => (if t580 = true then ((zone_Format.f k (⟨#[37, 120]⟩ : ByteArray)).bind fun t581 => (if t581 = true then (none) else ((zone_Check.f k (⟨#[]⟩ : ByteArray) ([] : List (S45))).bind fun t582 => (some (t582 == 11))))) else (none))) else (none)) else (none)) else (none)) else (none)) else (none)) else (none)) else (none)) else (none))))
theorem solsticelaw10_wakes.mono : ∀ k, LeO (solsticelaw10_wakes.f k ) (solsticelaw10_wakes.f (k + 1) ) := by
 intro  k
 unfold solsticelaw10_wakes.f
 repeat' first
   | (with_reducible exact zone_Check.mono _ _ _)
   | (with_reducible exact zone_Era.mono _ _)
   | (with_reducible exact zone_Format.mono _ _)
   | (with_reducible exact zone_Text.mono _ _ _ _ _ _ _ _ _ _ _ _ _ _)
   | (with_reducible exact LeO.refl _)
   | (with_reducible exact LeO.none _)
   | (with_reducible refine LeO.ite ?_ ?_)
   | (with_reducible refine LeO.bind ?_ (fun _ => ?_))
   | exact zone_Check.mono _ _ _
   | exact zone_Era.mono _ _
   | exact zone_Format.mono _ _
   | exact zone_Text.mono _ _ _ _ _ _ _ _ _ _ _ _ _ _
   | exact LeO.none _
   | refine LeO.ite ?_ ?_
   | refine LeO.bind ?_ (fun _ => ?_)
set_option maxHeartbeats 8000000 in
set_option maxRecDepth 100000 in
theorem solsticelaw10_wakes.calls (k : Nat)  (r : Bool) (w : World) (hG : GW w) (h : solsticelaw10_wakes.f k  = some r) :
  Calls Tryz.prog 25 #[] w fun e w' => e = .returned (.bool r) ∧ Below w.heap.size w w' := by
 have hu45 := Tryz.underlying45
 have hu54 := Tryz.underlying54
 have HG := As.mk hG
 clear hG
 have HB := As.mk (Below.refl w.heap.size w)
 have H : ((fields_Split.f (⟨#[49, 58, 48, 48, 32, 69, 85, 32, 67, 69, 37, 115, 84, 32, 49, 57, 57, 54, 32, 79, 99, 116, 32, 108, 97, 115, 116, 83, 117, 110, 32, 50, 115]⟩ : ByteArray)).bind fun bt559 => ((zone_Era.f k bt559.1).bind fun bt563 => ((zone_Text.f k bt563.1 bt563.2.1 bt563.2.2.1 bt563.2.2.2.1 bt563.2.2.2.2.1 bt563.2.2.2.2.2.1 bt563.2.2.2.2.2.2.1 bt563.2.2.2.2.2.2.2.1 bt563.2.2.2.2.2.2.2.2.1 bt563.2.2.2.2.2.2.2.2.2.1 bt563.2.2.2.2.2.2.2.2.2.2.1 bt563.2.2.2.2.2.2.2.2.2.2.2.1 bt563.2.2.2.2.2.2.2.2.2.2.2.2.1).bind fun bt578 => (if bt559.2 = 0 then (if bt563.2.2.2.2.2.2.2.2.2.2.2.2.2 = 0 then (if bt578.2 = 0 then (if bt563.2.1 = 3 then (if bt563.2.2.2.1.toList = ([69, 85] : List UInt8) then (if bt563.2.2.2.2.2.1 = true then (if bt563.2.2.2.2.2.2.1 = 1996 then (if bt578.1.toList = ([49, 32, 69, 85, 32, 67, 69, 37, 115, 84, 32, 49, 57, 57, 54, 32, 79, 99, 116, 32, 108, 97, 115, 116, 83, 117, 110, 32, 50, 115] : List UInt8) then ((zone_Format.f k (⟨#[65, 47, 66]⟩ : ByteArray)).bind fun t580 => (if t580 = true then ((zone_Format.f k (⟨#[37, 120]⟩ : ByteArray)).bind fun t581 => (if t581 = true then (none) else ((zone_Check.f k (⟨#[]⟩ : ByteArray) ([] : List (S45))).bind fun t582 => (some (t582 == 11))))) else (none))) else (none)) else (none)) else (none)) else (none)) else (none)) else (none)) else (none)) else (none))))) = some r := h
 clear h
 replace H := Option.bind_eq_some_iff.mp H
 obtain ⟨⟨t559, t560⟩, A10, H⟩ := H
 (try dsimp only at H)
 have A1 := As.mk A10
 clear A10
 replace H := Option.bind_eq_some_iff.mp H
 obtain ⟨⟨t563, t564, t565, t566, t567, t568, t569, t570, t571, t572, t573, t574, t575, t576⟩, A20, H⟩ := H
 (try dsimp only at H)
 have A2 := As.mk A20
 clear A20
 replace H := Option.bind_eq_some_iff.mp H
 obtain ⟨⟨t578, t579⟩, A30, H⟩ := H
 (try dsimp only at H)
 have A3 := As.mk A30
 clear A30
 by_cases c4 : t560 = 0
 ·rw [if_pos c4] at H
  have c4b0 : (t560 == 0) = true := beq_iff_eq.mpr c4
  have c4b1 : (t560 != 0) = false := bne_eq_false_iff_eq.mpr c4
  clear c4
  by_cases c5 : t576 = 0
  ·rw [if_pos c5] at H
   have c5b0 : (t576 == 0) = true := beq_iff_eq.mpr c5
   have c5b1 : (t576 != 0) = false := bne_eq_false_iff_eq.mpr c5
   clear c5
   by_cases c6 : t579 = 0
   ·rw [if_pos c6] at H
    have c6b0 : (t579 == 0) = true := beq_iff_eq.mpr c6
    have c6b1 : (t579 != 0) = false := bne_eq_false_iff_eq.mpr c6
    clear c6
    by_cases c7 : t564 = 3
    ·rw [if_pos c7] at H
     have c7b0 : (t564 == 3) = true := beq_iff_eq.mpr c7
     have c7b1 : (t564 != 3) = false := bne_eq_false_iff_eq.mpr c7
     clear c7
     by_cases c8 : t566.toList = ([69, 85] : List UInt8)
     ·rw [if_pos c8] at H
      have c8b0 : (t566.toList == ([69, 85] : List UInt8)) = true := beq_iff_eq.mpr c8
      have c8b1 : (t566.toList != ([69, 85] : List UInt8)) = false := bne_eq_false_iff_eq.mpr c8
      clear c8
      by_cases c9 : t568 = true
      ·subst c9
       have H1 : (if t569 = 1996 then (if t578.toList = ([49, 32, 69, 85, 32, 67, 69, 37, 115, 84, 32, 49, 57, 57, 54, 32, 79, 99, 116, 32, 108, 97, 115, 116, 83, 117, 110, 32, 50, 115] : List UInt8) then ((zone_Format.f k (⟨#[65, 47, 66]⟩ : ByteArray)).bind fun t580 => (if t580 = true then ((zone_Format.f k (⟨#[37, 120]⟩ : ByteArray)).bind fun t581 => (if t581 = true then (none) else ((zone_Check.f k (⟨#[]⟩ : ByteArray) ([] : List (S45))).bind fun t582 => (some (t582 == 11))))) else (none))) else (none)) else (none)) = some r := by rw [if_pos rfl] at H; exact H
       clear H
       have H := H1
       clear H1
       by_cases c10 : t569 = 1996
       ·rw [if_pos c10] at H
        have c10b0 : (t569 == 1996) = true := beq_iff_eq.mpr c10
        have c10b1 : (t569 != 1996) = false := bne_eq_false_iff_eq.mpr c10
        clear c10
        by_cases c11 : t578.toList = ([49, 32, 69, 85, 32, 67, 69, 37, 115, 84, 32, 49, 57, 57, 54, 32, 79, 99, 116, 32, 108, 97, 115, 116, 83, 117, 110, 32, 50, 115] : List UInt8)
        ·rw [if_pos c11] at H
         have c11b0 : (t578.toList == ([49, 32, 69, 85, 32, 67, 69, 37, 115, 84, 32, 49, 57, 57, 54, 32, 79, 99, 116, 32, 108, 97, 115, 116, 83, 117, 110, 32, 50, 115] : List UInt8)) = true := beq_iff_eq.mpr c11
         have c11b1 : (t578.toList != ([49, 32, 69, 85, 32, 67, 69, 37, 115, 84, 32, 49, 57, 57, 54, 32, 79, 99, 116, 32, 108, 97, 115, 116, 83, 117, 110, 32, 50, 115] : List UInt8)) = false := bne_eq_false_iff_eq.mpr c11
         clear c11
         replace H := Option.bind_eq_some_iff.mp H
         obtain ⟨t580, A120, H⟩ := H
         (try dsimp only at H)
         have A12 := As.mk A120
         clear A120
         by_cases c13 : t580 = true
         ·subst c13
          have H1 : ((zone_Format.f k (⟨#[37, 120]⟩ : ByteArray)).bind fun t581 => (if t581 = true then (none) else ((zone_Check.f k (⟨#[]⟩ : ByteArray) ([] : List (S45))).bind fun t582 => (some (t582 == 11))))) = some r := by rw [if_pos rfl] at H; exact H
          clear H
          have H := H1
          clear H1
          replace H := Option.bind_eq_some_iff.mp H
          obtain ⟨t581, A140, H⟩ := H
          (try dsimp only at H)
          have A14 := As.mk A140
          clear A140
          by_cases c15 : t581 = true
          ·subst c15
           have H1 : (none) = some r := by rw [if_pos rfl] at H; exact H
           clear H
           have H := H1
           clear H1
           exact absurd H (by simp)
          ·replace c15 := Bool.eq_false_iff.mpr c15
           subst c15
           have H1 : ((zone_Check.f k (⟨#[]⟩ : ByteArray) ([] : List (S45))).bind fun t582 => (some (t582 == 11))) = some r := by rw [if_neg (show ¬ (false = true) by decide)] at H; exact H
           clear H
           have H := H1
           clear H1
           replace H := Option.bind_eq_some_iff.mp H
           obtain ⟨t582, A160, H⟩ := H
           (try dsimp only at H)
           have A16 := As.mk A160
           clear A160
           obtain rfl := Option.some.inj H
           go_enter Tryz.func25, Tryz.ntmps25
           go_wp2_with (first | ((with_reducible refine gC (f := 18) rfl ?_); refine goesL_ (some 8) rfl rfl Tryz.func18 (by kernel_rfl) rfl #[.string (⟨#[49, 58, 48, 48, 32, 69, 85, 32, 67, 69, 37, 115, 84, 32, 49, 57, 57, 54, 32, 79, 99, 116, 32, 108, 97, 115, 116, 83, 117, 110, 32, 50, 115]⟩ : ByteArray)] rfl (by (try simp only [List.map_toArray, List.map_cons, List.map_nil]); first | done | rfl | (simp only [List.length_drop, List.length_take]; rfl)) ?_; (with_reducible refine (fields_Split.calls (⟨#[49, 58, 48, 48, 32, 69, 85, 32, 67, 69, 37, 115, 84, 32, 49, 57, 57, 54, 32, 79, 99, 116, 32, 108, 97, 115, 116, 83, 117, 110, 32, 50, 115]⟩ : ByteArray) t559 t560 _ A1.out).mono ?_); rintro e w17 ⟨v561, rfl, ho0, hb⟩; refine ⟨_, rfl, ?_⟩; have n0_ := As.mk (Kd.R_lower ho0 (bZ (by repeat (first | (with_reducible first | exact HB.out | apply bA | apply bN | apply bD) | exact HB.out)))); have n1_ := As.mk (bT (by repeat (first | (with_reducible first | exact HB.out | apply bA | apply bN | apply bD) | exact HB.out)) hb); clear HB; have HO562 := n0_; have HB := n1_; clear n0_ n1_; (try clear hb); (try clear hb2); (try clear hk); (try clear hi); (try clear ho0); obtain ⟨Ao18, co18, eo18⟩ := Kd.R_slice HO562.out; subst eo18) | ((with_reducible refine gC (f := 26) rfl ?_); refine goesL_ (some 13) rfl rfl Tryz.func26 (by kernel_rfl) rfl #[.slice Ao18 t559.length co18] rfl (by (try simp only [List.map_toArray, List.map_cons, List.map_nil]); first | done | rfl | (simp only [List.length_drop, List.length_take]; rfl)) ?_; (with_reducible refine (zone_Era.calls k _ _ t559 t563 t564 t565 t566 t567 true t569 t570 t571 t572 t573 t574 t575 t576 _ ?side1 ?side2 ?side3 A2.out).mono ?_); (case side1 => exact GW.on HG.out (by repeat (first | (with_reducible first | exact HB.out | apply bA | apply bN | apply bD) | exact HB.out))); (case side2 => repeat (first | exact (Kd.R_reads' HO562.out).2.2 | (with_reducible refine Kd.C_alloc ?_ _) | (with_reducible refine Kd.C_drewN ?_ _) | (with_reducible refine Kd.C_drew ?_))); (case side3 => exact (Kd.R_reads' HO562.out).2.1); rintro e w19 ⟨rfl, hb⟩; refine ⟨_, rfl, ?_⟩; have n0_ := As.mk (Kd.R_below (by (with_reducible repeat (first | apply Kd.R_alloc | apply Kd.R_drewN | apply Kd.R_drew)); exact HO562.out) hb); have n1_ := As.mk (bT (by repeat (first | (with_reducible first | exact HB.out | apply bA | apply bN | apply bD) | exact HB.out)) hb); clear HO562; clear HB; have HO562 := n0_; have HB := n1_; clear n0_ n1_; (try clear hb); (try clear hb2); (try clear hk); (try clear hi)) | ((with_reducible refine gD (N := 3) rfl ?_); refine xE ?hg (N := 3) ?hd (cs := #[.int .i64 0, .int .i64 0, .int .i64 0, .string (⟨#[]⟩ : ByteArray), .string (⟨#[]⟩ : ByteArray), .bool false, .int .i64 0, .int .i64 0, .int .i64 0, .int .i64 0, .int .i64 0, .int .i64 0, .int .i64 0]) (t := 45) ?hr ?_; (case hd => rfl); (case hg => rfl); (case hr => first | (go_simp; done) | (go_simp; rfl)); intro gb577 hg w20 hbox hb; have n0_ := As.mk (Kd.R_below (by (with_reducible repeat (first | apply Kd.R_alloc | apply Kd.R_drewN | apply Kd.R_drew)); exact HO562.out) hb); have n1_ := As.mk (bT (by repeat (first | (with_reducible first | exact HB.out | apply bA | apply bN | apply bD) | exact HB.out)) hb); have n2_ := As.mk (hbox); have n3_ := As.mk ((by rw [hg]; exact (bZ (by repeat (first | (with_reducible first | exact HB.out | apply bA | apply bN | apply bD) | exact HB.out))) : w.heap.size ≤ gb577)); have n4_ := As.mk ((by rw [hg]; exact (bZ (by repeat (first | (with_reducible first | exact HB.out | apply bA | apply bN | apply bD) | exact HB.out))) : w.heap.size ≤ gb577)); clear HO562; clear HB; have HO562 := n0_; have HB := n1_; have BK577 := n2_; have GW577 := n3_; have GE577 := n4_; clear n0_ n1_ n2_ n3_ n4_; clear hb hbox hg; obtain ⟨hcz21_0, hcz21_1, hcz21_2, hcz21_3, hcz21_4, hcz21_5, hcz21_6, hcz21_7, hcz21_8, hcz21_9, hcz21_10, hcz21_11, hcz21_12, hfz21_0, hfz21_1, hfz21_2, hfz21_3, hfz21_4, hfz21_5, hfz21_6, hfz21_7, hfz21_8, hfz21_9, hfz21_10, hfz21_11, hfz21_12⟩ := cl13 BK577.out) | ((with_reducible refine gS (t := 45) (p := 3) rfl ?_); refine store_event (t := 45) (p := 3) (v := ?vo_w22) (w1 := (((((((((((((w20.setCell ⟨gb577, 0, none⟩ (.int .i64 t563)).setCell ⟨gb577, 1, none⟩ (.int .i64 t564)).setCell ⟨gb577, 2, none⟩ (.int .i64 t565)).setCell ⟨gb577, 3, none⟩ (.string t566)).setCell ⟨gb577, 4, none⟩ (.string t567)).setCell ⟨gb577, 5, none⟩ (.bool true)).setCell ⟨gb577, 6, none⟩ (.int .i64 t569)).setCell ⟨gb577, 7, none⟩ (.int .i64 t570)).setCell ⟨gb577, 8, none⟩ (.int .i64 t571)).setCell ⟨gb577, 9, none⟩ (.int .i64 t572)).setCell ⟨gb577, 10, none⟩ (.int .i64 t573)).setCell ⟨gb577, 11, none⟩ (.int .i64 t574)).setCell ⟨gb577, 12, none⟩ (.int .i64 t575))) ?hg ?ho ?hn ?hr ?_; (case ho => rfl); (case hg => rfl); (case hn => rfl); (case hr => first | (go_simp; done) | (go_simp; rfl)); intro w22 hw; have n0_ : As (Kd.R Kd.string 9 w22 w.heap.size (fun _ => True) (.slice Ao18 t559.length co18) t559) := ⟨(by rw [hw]; exact (by (with_reducible repeat (first | apply Kd.R_alloc | apply Kd.R_drewN | apply Kd.R_drew)); exact Kd.R_mono (Kd.R_far (p := ⟨gb577, 12, none⟩) (Kd.R_far (p := ⟨gb577, 11, none⟩) (Kd.R_far (p := ⟨gb577, 10, none⟩) (Kd.R_far (p := ⟨gb577, 9, none⟩) (Kd.R_far (p := ⟨gb577, 8, none⟩) (Kd.R_far (p := ⟨gb577, 7, none⟩) (Kd.R_far (p := ⟨gb577, 6, none⟩) (Kd.R_far (p := ⟨gb577, 5, none⟩) (Kd.R_far (p := ⟨gb577, 4, none⟩) (Kd.R_far (p := ⟨gb577, 3, none⟩) (Kd.R_far (p := ⟨gb577, 2, none⟩) (Kd.R_far (p := ⟨gb577, 1, none⟩) (Kd.R_far (p := ⟨gb577, 0, none⟩) (Kd.R_types HO562.out BK577.out (by decide)) (fun _ hk => hk.2) (.int .i64 t563)) (fun _ hk => hk.2) (.int .i64 t564)) (fun _ hk => hk.2) (.int .i64 t565)) (fun _ hk => hk.2) (.string t566)) (fun _ hk => hk.2) (.string t567)) (fun _ hk => hk.2) (.bool true)) (fun _ hk => hk.2) (.int .i64 t569)) (fun _ hk => hk.2) (.int .i64 t570)) (fun _ hk => hk.2) (.int .i64 t571)) (fun _ hk => hk.2) (.int .i64 t572)) (fun _ hk => hk.2) (.int .i64 t573)) (fun _ hk => hk.2) (.int .i64 t574)) (fun _ hk => hk.2) (.int .i64 t575)) (fun _ hk => trivial)))⟩; have n1_ : As (w22.heap[gb577]? = some (.cells #[.int .i64 t563, .int .i64 t564, .int .i64 t565, .string t566, .string t567, .bool true, .int .i64 t569, .int .i64 t570, .int .i64 t571, .int .i64 t572, .int .i64 t573, .int .i64 t574, .int .i64 t575] 45 (0, 0))) := ⟨(by rw [hw]; exact (by (with_reducible repeat (first | refine kN ?_ _ | refine kD ?_ | refine kA ?_ _)); refine blk_put (cs := #[.int .i64 t563, .int .i64 t564, .int .i64 t565, .string t566, .string t567, .bool true, .int .i64 t569, .int .i64 t570, .int .i64 t571, .int .i64 t572, .int .i64 t573, .int .i64 t574, .int .i64 0]) ?_ 12 _ rfl; (with_reducible repeat (first | refine kN ?_ _ | refine kD ?_ | refine kA ?_ _)); refine blk_put (cs := #[.int .i64 t563, .int .i64 t564, .int .i64 t565, .string t566, .string t567, .bool true, .int .i64 t569, .int .i64 t570, .int .i64 t571, .int .i64 t572, .int .i64 t573, .int .i64 0, .int .i64 0]) ?_ 11 _ rfl; (with_reducible repeat (first | refine kN ?_ _ | refine kD ?_ | refine kA ?_ _)); refine blk_put (cs := #[.int .i64 t563, .int .i64 t564, .int .i64 t565, .string t566, .string t567, .bool true, .int .i64 t569, .int .i64 t570, .int .i64 t571, .int .i64 t572, .int .i64 0, .int .i64 0, .int .i64 0]) ?_ 10 _ rfl; (with_reducible repeat (first | refine kN ?_ _ | refine kD ?_ | refine kA ?_ _)); refine blk_put (cs := #[.int .i64 t563, .int .i64 t564, .int .i64 t565, .string t566, .string t567, .bool true, .int .i64 t569, .int .i64 t570, .int .i64 t571, .int .i64 0, .int .i64 0, .int .i64 0, .int .i64 0]) ?_ 9 _ rfl; (with_reducible repeat (first | refine kN ?_ _ | refine kD ?_ | refine kA ?_ _)); refine blk_put (cs := #[.int .i64 t563, .int .i64 t564, .int .i64 t565, .string t566, .string t567, .bool true, .int .i64 t569, .int .i64 t570, .int .i64 0, .int .i64 0, .int .i64 0, .int .i64 0, .int .i64 0]) ?_ 8 _ rfl; (with_reducible repeat (first | refine kN ?_ _ | refine kD ?_ | refine kA ?_ _)); refine blk_put (cs := #[.int .i64 t563, .int .i64 t564, .int .i64 t565, .string t566, .string t567, .bool true, .int .i64 t569, .int .i64 0, .int .i64 0, .int .i64 0, .int .i64 0, .int .i64 0, .int .i64 0]) ?_ 7 _ rfl; (with_reducible repeat (first | refine kN ?_ _ | refine kD ?_ | refine kA ?_ _)); refine blk_put (cs := #[.int .i64 t563, .int .i64 t564, .int .i64 t565, .string t566, .string t567, .bool true, .int .i64 0, .int .i64 0, .int .i64 0, .int .i64 0, .int .i64 0, .int .i64 0, .int .i64 0]) ?_ 6 _ rfl; (with_reducible repeat (first | refine kN ?_ _ | refine kD ?_ | refine kA ?_ _)); refine blk_put (cs := #[.int .i64 t563, .int .i64 t564, .int .i64 t565, .string t566, .string t567, .bool false, .int .i64 0, .int .i64 0, .int .i64 0, .int .i64 0, .int .i64 0, .int .i64 0, .int .i64 0]) ?_ 5 _ rfl; (with_reducible repeat (first | refine kN ?_ _ | refine kD ?_ | refine kA ?_ _)); refine blk_put (cs := #[.int .i64 t563, .int .i64 t564, .int .i64 t565, .string t566, .string (⟨#[]⟩ : ByteArray), .bool false, .int .i64 0, .int .i64 0, .int .i64 0, .int .i64 0, .int .i64 0, .int .i64 0, .int .i64 0]) ?_ 4 _ rfl; (with_reducible repeat (first | refine kN ?_ _ | refine kD ?_ | refine kA ?_ _)); refine blk_put (cs := #[.int .i64 t563, .int .i64 t564, .int .i64 t565, .string (⟨#[]⟩ : ByteArray), .string (⟨#[]⟩ : ByteArray), .bool false, .int .i64 0, .int .i64 0, .int .i64 0, .int .i64 0, .int .i64 0, .int .i64 0, .int .i64 0]) ?_ 3 _ rfl; (with_reducible repeat (first | refine kN ?_ _ | refine kD ?_ | refine kA ?_ _)); refine blk_put (cs := #[.int .i64 t563, .int .i64 t564, .int .i64 0, .string (⟨#[]⟩ : ByteArray), .string (⟨#[]⟩ : ByteArray), .bool false, .int .i64 0, .int .i64 0, .int .i64 0, .int .i64 0, .int .i64 0, .int .i64 0, .int .i64 0]) ?_ 2 _ rfl; (with_reducible repeat (first | refine kN ?_ _ | refine kD ?_ | refine kA ?_ _)); refine blk_put (cs := #[.int .i64 t563, .int .i64 0, .int .i64 0, .string (⟨#[]⟩ : ByteArray), .string (⟨#[]⟩ : ByteArray), .bool false, .int .i64 0, .int .i64 0, .int .i64 0, .int .i64 0, .int .i64 0, .int .i64 0, .int .i64 0]) ?_ 1 _ rfl; (with_reducible repeat (first | refine kN ?_ _ | refine kD ?_ | refine kA ?_ _)); refine blk_put (cs := #[.int .i64 0, .int .i64 0, .int .i64 0, .string (⟨#[]⟩ : ByteArray), .string (⟨#[]⟩ : ByteArray), .bool false, .int .i64 0, .int .i64 0, .int .i64 0, .int .i64 0, .int .i64 0, .int .i64 0, .int .i64 0]) ?_ 0 _ rfl; (with_reducible repeat (first | refine kN ?_ _ | refine kD ?_ | refine kA ?_ _)); exact BK577.out))⟩; have n2_ : As (Below w.heap.size w w22) := ⟨(by rw [hw]; exact (by repeat (first | (with_reducible first | exact HB.out | apply bA | apply bN | apply bD | refine bS ?_ GE577.out) | exact HB.out)))⟩; clear hw; clear HO562; clear BK577; clear HB; have HO562 := n0_; have BK577 := n1_; have HB := n2_; clear n0_ n1_ n2_; obtain ⟨hcz23_0, hcz23_1, hcz23_2, hcz23_3, hcz23_4, hcz23_5, hcz23_6, hcz23_7, hcz23_8, hcz23_9, hcz23_10, hcz23_11, hcz23_12, hfz23_0, hfz23_1, hfz23_2, hfz23_3, hfz23_4, hfz23_5, hfz23_6, hfz23_7, hfz23_8, hfz23_9, hfz23_10, hfz23_11, hfz23_12⟩ := cl13 BK577.out) | ((with_reducible refine gC (f := 24) rfl ?_); refine goesL_ (some 18) rfl rfl Tryz.func24 (by kernel_rfl) rfl #[.agg #[.int .i64 t563, .int .i64 t564, .int .i64 t565, .string t566, .string t567, .bool true, .int .i64 t569, .int .i64 t570, .int .i64 t571, .int .i64 t572, .int .i64 t573, .int .i64 t574, .int .i64 t575]] rfl (by (try simp only [List.map_toArray, List.map_cons, List.map_nil]); first | done | rfl | (simp only [List.length_drop, List.length_take]; rfl)) ?_; (with_reducible refine (zone_Text.calls k t563 t564 t565 t566 t567 true t569 t570 t571 t572 t573 t574 t575 t578 t579 _ ?side1 A3.out).mono ?_); (case side1 => exact GW.on HG.out (by repeat (first | (with_reducible first | exact HB.out | apply bA | apply bN | apply bD | refine bS ?_ GE577.out) | exact HB.out))); rintro e w24 ⟨rfl, hb⟩; refine ⟨_, rfl, ?_⟩; have n0_ := As.mk (Kd.R_below (by (with_reducible repeat (first | apply Kd.R_alloc | apply Kd.R_drewN | apply Kd.R_drew)); exact HO562.out) hb); have n1_ := As.mk (kB (g := gb577) (o := .cells #[.int .i64 t563, .int .i64 t564, .int .i64 t565, .string t566, .string t567, .bool true, .int .i64 t569, .int .i64 t570, .int .i64 t571, .int .i64 t572, .int .i64 t573, .int .i64 t574, .int .i64 t575] 45 (0, 0)) (by (with_reducible repeat (first | refine kN ?_ _ | refine kD ?_ | refine kA ?_ _)); exact BK577.out) hb); have n2_ := As.mk (bT (by repeat (first | (with_reducible first | exact HB.out | apply bA | apply bN | apply bD | refine bS ?_ GE577.out) | exact HB.out)) hb); clear HO562; clear BK577; clear HB; have HO562 := n0_; have BK577 := n1_; have HB := n2_; clear n0_ n1_ n2_; (try clear hb); (try clear hb2); (try clear hk); (try clear hi); obtain ⟨hcz25_0, hcz25_1, hcz25_2, hcz25_3, hcz25_4, hcz25_5, hcz25_6, hcz25_7, hcz25_8, hcz25_9, hcz25_10, hcz25_11, hcz25_12, hfz25_0, hfz25_1, hfz25_2, hfz25_3, hfz25_4, hfz25_5, hfz25_6, hfz25_7, hfz25_8, hfz25_9, hfz25_10, hfz25_11, hfz25_12⟩ := cl13 BK577.out) | (go_at_call 30; (with_reducible refine (zone_Format.calls k (⟨#[65, 47, 66]⟩ : ByteArray) true _ A12.out).mono ?_); rintro e w' ⟨rfl, ⟨nd, rfl⟩⟩) | (go_at_call 30; (with_reducible refine (zone_Format.calls k (⟨#[37, 120]⟩ : ByteArray) false _ A14.out).mono ?_); rintro e w' ⟨rfl, ⟨nd, rfl⟩⟩) | (go_at_call 29; (refine (zone_Check.calls k (⟨#[]⟩ : ByteArray) _ _ ([] : List (S45)) t582 _ ?side1 ?side2 A16.out).mono ?_); (case side1 => exact Kd.C_nil _ _); (case side2 => exact Nat.le_refl _); rintro e w26 ⟨rfl, hb⟩; have n0_ := As.mk (Kd.R_below (by (with_reducible repeat (first | apply Kd.R_alloc | apply Kd.R_drewN | apply Kd.R_drew)); exact HO562.out) hb); have n1_ := As.mk (kB (g := gb577) (o := .cells #[.int .i64 t563, .int .i64 t564, .int .i64 t565, .string t566, .string t567, .bool true, .int .i64 t569, .int .i64 t570, .int .i64 t571, .int .i64 t572, .int .i64 t573, .int .i64 t574, .int .i64 t575] 45 (0, 0)) (by (with_reducible repeat (first | refine kN ?_ _ | refine kD ?_ | refine kA ?_ _)); exact BK577.out) hb); have n2_ := As.mk (bT (by repeat (first | (with_reducible first | exact HB.out | apply bA | apply bN | apply bD | refine bS ?_ GE577.out) | exact HB.out)) hb); clear HO562; clear BK577; clear HB; have HO562 := n0_; have BK577 := n1_; have HB := n2_; clear n0_ n1_ n2_; (try clear hb); (try clear hb2); (try clear hk); (try clear hi)))
           go_ret
           exact ⟨by first | rfl | (simp [eN, eS] <;> rfl) | (simp [*, eN, eS] <;> rfl), by repeat (first | (with_reducible first | exact HB.out | apply bA | apply bN | apply bD | refine bS ?_ GE577.out) | exact HB.out)⟩
         ·replace c13 := Bool.eq_false_iff.mpr c13
          subst c13
          have H1 : (none) = some r := by rw [if_neg (show ¬ (false = true) by decide)] at H; exact H
          clear H
          have H := H1
          clear H1
          exact absurd H (by simp)
        ·rw [if_neg c11] at H
         exact absurd H (by simp)
       ·rw [if_neg c10] at H
        exact absurd H (by simp)
      ·replace c9 := Bool.eq_false_iff.mpr c9
       subst c9
       have H1 : (none) = some r := by rw [if_neg (show ¬ (false = true) by decide)] at H; exact H
       clear H
       have H := H1
       clear H1
       exact absurd H (by simp)
     ·rw [if_neg c8] at H
      exact absurd H (by simp)
    ·rw [if_neg c7] at H
     exact absurd H (by simp)
   ·rw [if_neg c6] at H
    exact absurd H (by simp)
  ·rw [if_neg c5] at H
   exact absurd H (by simp)
 ·rw [if_neg c4] at H
  exact absurd H (by simp)
end Go.Proofs.YtfhemdnjoedioaaGreatDoor.X
end
section
namespace Go.Proofs.YtfhemdnjoedioaaGreatDoor.X
open Go.RowKit Go.Proofs.YtfhemdnjoedioaaGreatDoorW.PrintWords Go.Proofs.YtfhemdnjoedioaaGreatDoorW.PrintLast Go.Proofs.YtfhemdnjoedioaaGreatDoorW.PrintMore
attribute [local go_sem] max2_int min2_int max_two min_two max_three min_three max_four min_four
set_option linter.unusedVariables false
set_option linter.unusedSimpArgs false
attribute [local go_sem high] eqA45
mutual
def solsticelaw10_ZoneBack.j0 : Nat → Bool → Int → Int → Int → ByteArray → ByteArray → Bool → Int → Int → Int → Int → Int → Int → Int → Int → Int → Int → ByteArray → ByteArray → Bool → Int → Int → Int → Int → Int → Int → Int → Option (Bool)
 | 0, _, _, _, _, _, _, _, _, _, _, _, _, _, _, _, _, _, _, _, _, _, _, _, _, _, _, _ => none
 | k + 1, x18, x584000, x584001, x584002, x584003, x584004, x584005, x584006, x584007, x584008, x584009, x584010, x584011, x584012, x585000, x585001, x585002, x585003, x585004, x585005, x585006, x585007, x585008, x585009, x585010, x585011, x585012 => if x18 = true then (some true) else ((zone_Text.f k x584000 x584001 x584002 x584003 x584004 x584005 x584006 x584007 x584008 x584009 x584010 x584011 x584012).bind fun bt587 => ((zone_Text.f k x585000 x585001 x585002 x585003 x585004 x585005 x585006 x585007 x585008 x585009 x585010 x585011 x585012).bind fun bt589 => (if bt587.2 = 0 then (solsticelaw10_ZoneBack.j1 k bt587.1 bt587.2 bt589.1 bt589.2 (bt589.2 != 0) x584000 x584001 x584002 x584003 x584004 x584005 x584006 x584007 x584008 x584009 x584010 x584011 x584012 x585000 x585001 x585002 x585003 x585004 x585005 x585006 x585007 x585008 x585009 x585010 x585011 x585012) else (solsticelaw10_ZoneBack.j1 k bt587.1 bt587.2 bt589.1 bt589.2 true x584000 x584001 x584002 x584003 x584004 x584005 x584006 x584007 x584008 x584009 x584010 x584011 x584012 x585000 x585001 x585002 x585003 x585004 x585005 x585006 x585007 x585008 x585009 x585010 x585011 x585012))))
def solsticelaw10_ZoneBack.j1 : Nat → ByteArray → Int → ByteArray → Int → Bool → Int → Int → Int → ByteArray → ByteArray → Bool → Int → Int → Int → Int → Int → Int → Int → Int → Int → Int → ByteArray → ByteArray → Bool → Int → Int → Int → Int → Int → Int → Int → Option (Bool)
 | 0, _, _, _, _, _, _, _, _, _, _, _, _, _, _, _, _, _, _, _, _, _, _, _, _, _, _, _, _, _, _, _ => none
 | k + 1, x5, x6, x7, x8, x34, x584000, x584001, x584002, x584003, x584004, x584005, x584006, x584007, x584008, x584009, x584010, x584011, x584012, x585000, x585001, x585002, x585003, x585004, x585005, x585006, x585007, x585008, x585009, x585010, x585011, x585012 => if x34 = true then (if x6 = 0 then (if x8 = 0 then ((solsticelaw10_wakes.f k).bind fun t591 => (some t591)) else (if x7.toList = ([] : List UInt8) then ((solsticelaw10_wakes.f k).bind fun t592 => (some t592)) else (none))) else (if x5.toList = ([] : List UInt8) then (if x8 = 0 then ((solsticelaw10_wakes.f k).bind fun t593 => (some t593)) else (if x7.toList = ([] : List UInt8) then ((solsticelaw10_wakes.f k).bind fun t594 => (some t594)) else (none))) else (none))) else ((fields_Split.f x5).bind fun bt595 => ((zone_Era.f k bt595.1).bind fun bt599 => (if bt595.2 = 0 then (if bt599.2.2.2.2.2.2.2.2.2.2.2.2.2 = 0 then (if (bt599.1 == x584000 && (bt599.2.1 == x584001 && (bt599.2.2.1 == x584002 && (bt599.2.2.2.1.toList == x584003.toList && (bt599.2.2.2.2.1.toList == x584004.toList && (bt599.2.2.2.2.2.1 == x584005 && (bt599.2.2.2.2.2.2.1 == x584006 && (bt599.2.2.2.2.2.2.2.1 == x584007 && ((bt599.2.2.2.2.2.2.2.2.1 == x584008 && (bt599.2.2.2.2.2.2.2.2.2.1 == x584009 && (bt599.2.2.2.2.2.2.2.2.2.2.1 == x584010))) && ((bt599.2.2.2.2.2.2.2.2.2.2.2.1 == x584011 && (bt599.2.2.2.2.2.2.2.2.2.2.2.2.1 == x584012)))))))))))) = true then (if ((x5.toList == x7.toList) == (x584000 == x585000 && (x584001 == x585001 && (x584002 == x585002 && (x584003.toList == x585003.toList && (x584004.toList == x585004.toList && (x584005 == x585005 && (x584006 == x585006 && (x584007 == x585007 && ((x584008 == x585008 && (x584009 == x585009 && (x584010 == x585010))) && ((x584011 == x585011 && (x584012 == x585012))))))))))))) = true then ((solsticelaw10_wakes.f k).bind fun t614 => (some t614)) else (none)) else (none)) else (none)) else (none))))
end
def solsticelaw10_ZoneBack.f (k : Nat) (a0_0 : Int) (a0_1 : Int) (a0_2 : Int) (a0_3 : ByteArray) (a0_4 : ByteArray) (a0_5 : Bool) (a0_6 : Int) (a0_7 : Int) (a0_8 : Int) (a0_9 : Int) (a0_10 : Int) (a0_11 : Int) (a0_12 : Int) (a1_0 : Int) (a1_1 : Int) (a1_2 : Int) (a1_3 : ByteArray) (a1_4 : ByteArray) (a1_5 : Bool) (a1_6 : Int) (a1_7 : Int) (a1_8 : Int) (a1_9 : Int) (a1_10 : Int) (a1_11 : Int) (a1_12 : Int) : Option (Bool) := (solsticelaw10_HeavyEra.f a0_0 a0_1 a0_2 a0_3 a0_4 a0_5 a0_6 a0_7 a0_8 a0_9 a0_10 a0_11 a0_12).bind fun t585 => (if t585 = true then (solsticelaw10_ZoneBack.j0 k true a0_0 a0_1 a0_2 a0_3 a0_4 a0_5 a0_6 a0_7 a0_8 a0_9 a0_10 a0_11 a0_12 a1_0 a1_1 a1_2 a1_3 a1_4 a1_5 a1_6 a1_7 a1_8 a1_9 a1_10 a1_11 a1_12) else ((solsticelaw10_HeavyEra.f a1_0 a1_1 a1_2 a1_3 a1_4 a1_5 a1_6 a1_7 a1_8 a1_9 a1_10 a1_11 a1_12).bind fun t586 => (solsticelaw10_ZoneBack.j0 k t586 a0_0 a0_1 a0_2 a0_3 a0_4 a0_5 a0_6 a0_7 a0_8 a0_9 a0_10 a0_11 a0_12 a1_0 a1_1 a1_2 a1_3 a1_4 a1_5 a1_6 a1_7 a1_8 a1_9 a1_10 a1_11 a1_12)))
set_option maxHeartbeats 8000000 in
set_option maxRecDepth 100000 in
theorem solsticelaw10_ZoneBack.calls (k : Nat) (a0_0 : Int) (a0_1 : Int) (a0_2 : Int) (a0_3 : ByteArray) (a0_4 : ByteArray) (a0_5 : Bool) (a0_6 : Int) (a0_7 : Int) (a0_8 : Int) (a0_9 : Int) (a0_10 : Int) (a0_11 : Int) (a0_12 : Int) (a1_0 : Int) (a1_1 : Int) (a1_2 : Int) (a1_3 : ByteArray) (a1_4 : ByteArray) (a1_5 : Bool) (a1_6 : Int) (a1_7 : Int) (a1_8 : Int) (a1_9 : Int) (a1_10 : Int) (a1_11 : Int) (a1_12 : Int) (r : Bool) (w : World) (hG : GW w) (h : solsticelaw10_ZoneBack.f k a0_0 a0_1 a0_2 a0_3 a0_4 a0_5 a0_6 a0_7 a0_8 a0_9 a0_10 a0_11 a0_12 a1_0 a1_1 a1_2 a1_3 a1_4 a1_5 a1_6 a1_7 a1_8 a1_9 a1_10 a1_11 a1_12 = some r) :
  Calls Tryz.prog 6 #[.agg #[.int .i64 a0_0, .int .i64 a0_1, .int .i64 a0_2, .string a0_3, .string a0_4, .bool a0_5, .int .i64 a0_6, .int .i64 a0_7, .int .i64 a0_8, .int .i64 a0_9, .int .i64 a0_10, .int .i64 a0_11, .int .i64 a0_12], .agg #[.int .i64 a1_0, .int .i64 a1_1, .int .i64 a1_2, .string a1_3, .string a1_4, .bool a1_5, .int .i64 a1_6, .int .i64 a1_7, .int .i64 a1_8, .int .i64 a1_9, .int .i64 a1_10, .int .i64 a1_11, .int .i64 a1_12]] w fun e w' => e = .returned (.bool r) ∧ Below w.heap.size w w' := by
 have hu45 := Tryz.underlying45
 have HG := As.mk hG
 clear hG
 have HB := As.mk (Below.refl w.heap.size w)
 have H : ((solsticelaw10_HeavyEra.f a0_0 a0_1 a0_2 a0_3 a0_4 a0_5 a0_6 a0_7 a0_8 a0_9 a0_10 a0_11 a0_12).bind fun t585 => (if t585 = true then (solsticelaw10_ZoneBack.j0 k true a0_0 a0_1 a0_2 a0_3 a0_4 a0_5 a0_6 a0_7 a0_8 a0_9 a0_10 a0_11 a0_12 a1_0 a1_1 a1_2 a1_3 a1_4 a1_5 a1_6 a1_7 a1_8 a1_9 a1_10 a1_11 a1_12) else ((solsticelaw10_HeavyEra.f a1_0 a1_1 a1_2 a1_3 a1_4 a1_5 a1_6 a1_7 a1_8 a1_9 a1_10 a1_11 a1_12).bind fun t586 => (solsticelaw10_ZoneBack.j0 k t586 a0_0 a0_1 a0_2 a0_3 a0_4 a0_5 a0_6 a0_7 a0_8 a0_9 a0_10 a0_11 a0_12 a1_0 a1_1 a1_2 a1_3 a1_4 a1_5 a1_6 a1_7 a1_8 a1_9 a1_10 a1_11 a1_12)))) = some r := h
 clear h
 have HC3 := As.mk H
 clear H
 go_enter Tryz.func6, Tryz.ntmps6
 go_upto_region 1 with (first | ((with_reducible refine gD (N := 2) rfl ?_); refine xE ?hg (N := 2) ?hd (cs := #[.int .i64 a0_0, .int .i64 a0_1, .int .i64 a0_2, .string a0_3, .string a0_4, .bool a0_5, .int .i64 a0_6, .int .i64 a0_7, .int .i64 a0_8, .int .i64 a0_9, .int .i64 a0_10, .int .i64 a0_11, .int .i64 a0_12]) (t := 45) ?hr ?_; (case hd => rfl); (case hg => rfl); (case hr => first | (go_simp; done) | (go_simp; rfl)); intro gb583 hg w4 hbox hb; have n0_ := As.mk (bT (by repeat (first | (with_reducible first | exact HB.out | apply bA | apply bN | apply bD) | exact HB.out)) hb); have n1_ := As.mk (hbox); have n2_ := As.mk ((by rw [hg]; exact (bZ (by repeat (first | (with_reducible first | exact HB.out | apply bA | apply bN | apply bD) | exact HB.out))) : w.heap.size ≤ gb583)); have n3_ := As.mk ((by rw [hg]; exact (bZ (by repeat (first | (with_reducible first | exact HB.out | apply bA | apply bN | apply bD) | exact HB.out))) : w.heap.size ≤ gb583)); clear HB; have HB := n0_; have BK583 := n1_; have GW583 := n2_; have GE583 := n3_; clear n0_ n1_ n2_ n3_; clear hb hbox hg) | ((with_reducible refine gD (N := 3) rfl ?_); refine xE ?hg (N := 3) ?hd (cs := #[.int .i64 a1_0, .int .i64 a1_1, .int .i64 a1_2, .string a1_3, .string a1_4, .bool a1_5, .int .i64 a1_6, .int .i64 a1_7, .int .i64 a1_8, .int .i64 a1_9, .int .i64 a1_10, .int .i64 a1_11, .int .i64 a1_12]) (t := 45) ?hr ?_; (case hd => rfl); (case hg => rfl); (case hr => first | (go_simp; done) | (go_simp; rfl)); intro gb584 hg w5 hbox hb; have n0_ := As.mk (kB (g := gb583) (o := .cells #[.int .i64 a0_0, .int .i64 a0_1, .int .i64 a0_2, .string a0_3, .string a0_4, .bool a0_5, .int .i64 a0_6, .int .i64 a0_7, .int .i64 a0_8, .int .i64 a0_9, .int .i64 a0_10, .int .i64 a0_11, .int .i64 a0_12] 45 (0, 0)) (by (with_reducible repeat (first | refine kN ?_ _ | refine kD ?_ | refine kA ?_ _)); exact BK583.out) hb); have n1_ := As.mk (bT (by repeat (first | (with_reducible first | exact HB.out | apply bA | apply bN | apply bD | refine bS ?_ GE583.out) | exact HB.out)) hb); have n2_ := As.mk (hbox); have n3_ := As.mk ((by rw [hg]; exact (bZ (by repeat (first | (with_reducible first | exact HB.out | apply bA | apply bN | apply bD | refine bS ?_ GE583.out) | exact HB.out))) : w.heap.size ≤ gb584)); have n4_ := As.mk ((by rw [hg]; exact (bZ (by repeat (first | (with_reducible first | exact HB.out | apply bA | apply bN | apply bD | refine bS ?_ GE583.out) | exact HB.out))) : w.heap.size ≤ gb584)); have n5_ := As.mk ((by rw [hg]; exact Nat.ne_of_lt (blk_lt (g := gb583) (o := .cells #[.int .i64 a0_0, .int .i64 a0_1, .int .i64 a0_2, .string a0_3, .string a0_4, .bool a0_5, .int .i64 a0_6, .int .i64 a0_7, .int .i64 a0_8, .int .i64 a0_9, .int .i64 a0_10, .int .i64 a0_11, .int .i64 a0_12] 45 (0, 0)) (by (with_reducible repeat (first | refine kN ?_ _ | refine kD ?_ | refine kA ?_ _)); exact BK583.out)) : gb583 ≠ gb584)); have n6_ := As.mk ((by rw [hg]; exact Nat.ne_of_gt (blk_lt (g := gb583) (o := .cells #[.int .i64 a0_0, .int .i64 a0_1, .int .i64 a0_2, .string a0_3, .string a0_4, .bool a0_5, .int .i64 a0_6, .int .i64 a0_7, .int .i64 a0_8, .int .i64 a0_9, .int .i64 a0_10, .int .i64 a0_11, .int .i64 a0_12] 45 (0, 0)) (by (with_reducible repeat (first | refine kN ?_ _ | refine kD ?_ | refine kA ?_ _)); exact BK583.out)) : gb584 ≠ gb583)); clear BK583; clear HB; have BK583 := n0_; have HB := n1_; have BK584 := n2_; have GW584 := n3_; have GE584 := n4_; have NB583_584 := n5_; have NB584_583 := n6_; clear n0_ n1_ n2_ n3_ n4_ n5_ n6_; clear hb hbox hg))
 (try simp only [Act.put, List.setIfInBounds_toArray, List.set_cons_zero, List.set_cons_succ])
 go_cut [18] (fun v18 wc => ∃ (kq : Nat) (x18_2 : Bool), v18 = .bool x18_2 ∧ As (solsticelaw10_ZoneBack.j0 kq x18_2 a0_0 a0_1 a0_2 a0_3 a0_4 a0_5 a0_6 a0_7 a0_8 a0_9 a0_10 a0_11 a0_12 a1_0 a1_1 a1_2 a1_3 a1_4 a1_5 a1_6 a1_7 a1_8 a1_9 a1_10 a1_11 a1_12 = some r) ∧ As (kq ≤ k) ∧ As (wc.heap[gb583]? = some (.cells #[.int .i64 a0_0, .int .i64 a0_1, .int .i64 a0_2, .string a0_3, .string a0_4, .bool a0_5, .int .i64 a0_6, .int .i64 a0_7, .int .i64 a0_8, .int .i64 a0_9, .int .i64 a0_10, .int .i64 a0_11, .int .i64 a0_12] 45 (0, 0))) ∧ As (wc.heap[gb584]? = some (.cells #[.int .i64 a1_0, .int .i64 a1_1, .int .i64 a1_2, .string a1_3, .string a1_4, .bool a1_5, .int .i64 a1_6, .int .i64 a1_7, .int .i64 a1_8, .int .i64 a1_9, .int .i64 a1_10, .int .i64 a1_11, .int .i64 a1_12] 45 (0, 0))) ∧ As (Below w.heap.size w wc))
 case first =>
  have H := HC3.out
  clear HC3
  replace H := Option.bind_eq_some_iff.mp H
  obtain ⟨t585, A60, H⟩ := H
  (try dsimp only at H)
  have A6 := As.mk A60
  clear A60
  by_cases c7 : t585 = true
  ·subst c7
   have H1 : (solsticelaw10_ZoneBack.j0 k true a0_0 a0_1 a0_2 a0_3 a0_4 a0_5 a0_6 a0_7 a0_8 a0_9 a0_10 a0_11 a0_12 a1_0 a1_1 a1_2 a1_3 a1_4 a1_5 a1_6 a1_7 a1_8 a1_9 a1_10 a1_11 a1_12) = some r := by rw [if_pos rfl] at H; exact H
   clear H
   have H := H1
   clear H1
   have H' := As.mk H
   clear H
   have hnb8 := NB583_584.out
   have hnc8 := NB584_583.out
   obtain ⟨hcz9_0, hcz9_1, hcz9_2, hcz9_3, hcz9_4, hcz9_5, hcz9_6, hcz9_7, hcz9_8, hcz9_9, hcz9_10, hcz9_11, hcz9_12, hfz9_0, hfz9_1, hfz9_2, hfz9_3, hfz9_4, hfz9_5, hfz9_6, hfz9_7, hfz9_8, hfz9_9, hfz9_10, hfz9_11, hfz9_12⟩ := cl13 BK583.out
   go_wp2_with (first | ((with_reducible refine gC (f := 23) rfl ?_); refine goesL_ (some 14) rfl rfl Tryz.func23 (by kernel_rfl) rfl #[.agg #[.int .i64 a0_0, .int .i64 a0_1, .int .i64 a0_2, .string a0_3, .string a0_4, .bool a0_5, .int .i64 a0_6, .int .i64 a0_7, .int .i64 a0_8, .int .i64 a0_9, .int .i64 a0_10, .int .i64 a0_11, .int .i64 a0_12]] rfl (by (try simp only [List.map_toArray, List.map_cons, List.map_nil]); first | done | rfl | (simp only [List.length_drop, List.length_take]; rfl)) ?_; (with_reducible refine (solsticelaw10_HeavyEra.calls a0_0 a0_1 a0_2 a0_3 a0_4 a0_5 a0_6 a0_7 a0_8 a0_9 a0_10 a0_11 a0_12 true _ A6.out).mono ?_); rintro e w10 ⟨rfl, hb⟩; refine ⟨_, rfl, ?_⟩; have n0_ := As.mk (kB (g := gb583) (o := .cells #[.int .i64 a0_0, .int .i64 a0_1, .int .i64 a0_2, .string a0_3, .string a0_4, .bool a0_5, .int .i64 a0_6, .int .i64 a0_7, .int .i64 a0_8, .int .i64 a0_9, .int .i64 a0_10, .int .i64 a0_11, .int .i64 a0_12] 45 (0, 0)) (by (with_reducible repeat (first | refine kN ?_ _ | refine kD ?_ | refine kA ?_ _)); exact BK583.out) hb); have n1_ := As.mk (kB (g := gb584) (o := .cells #[.int .i64 a1_0, .int .i64 a1_1, .int .i64 a1_2, .string a1_3, .string a1_4, .bool a1_5, .int .i64 a1_6, .int .i64 a1_7, .int .i64 a1_8, .int .i64 a1_9, .int .i64 a1_10, .int .i64 a1_11, .int .i64 a1_12] 45 (0, 0)) (by (with_reducible repeat (first | refine kN ?_ _ | refine kD ?_ | refine kA ?_ _)); exact BK584.out) hb); have n2_ := As.mk (bT (by repeat (first | (with_reducible first | exact HB.out | apply bA | apply bN | apply bD | refine bS ?_ GE583.out | refine bS ?_ GE584.out) | exact HB.out)) hb); clear BK583; clear BK584; clear HB; have BK583 := n0_; have BK584 := n1_; have HB := n2_; clear n0_ n1_ n2_; (try clear hb); (try clear hb2); (try clear hk); (try clear hi)))
   go_meet
   case rel => exact ⟨_, (true), (by first | rfl | (simp; done) | (simp [*]; done)), H', ⟨by first | omega | exact Nat.le_refl _⟩, ⟨by (with_reducible repeat (first | refine kN ?_ _ | refine kD ?_ | refine kA ?_ _)); exact BK583.out⟩, ⟨by (with_reducible repeat (first | refine kN ?_ _ | refine kD ?_ | refine kA ?_ _)); exact BK584.out⟩, ⟨by repeat (first | (with_reducible first | exact HB.out | apply bA | apply bN | apply bD | refine bS ?_ GE583.out | refine bS ?_ GE584.out) | exact HB.out)⟩⟩
  ·replace c7 := Bool.eq_false_iff.mpr c7
   subst c7
   have H1 : ((solsticelaw10_HeavyEra.f a1_0 a1_1 a1_2 a1_3 a1_4 a1_5 a1_6 a1_7 a1_8 a1_9 a1_10 a1_11 a1_12).bind fun t586 => (solsticelaw10_ZoneBack.j0 k t586 a0_0 a0_1 a0_2 a0_3 a0_4 a0_5 a0_6 a0_7 a0_8 a0_9 a0_10 a0_11 a0_12 a1_0 a1_1 a1_2 a1_3 a1_4 a1_5 a1_6 a1_7 a1_8 a1_9 a1_10 a1_11 a1_12)) = some r := by rw [if_neg (show ¬ (false = true) by decide)] at H; exact H
   clear H
   have H := H1
   clear H1
   replace H := Option.bind_eq_some_iff.mp H
   obtain ⟨t586, A110, H⟩ := H
   (try dsimp only at H)
   have A11 := As.mk A110
   clear A110
   have H' := As.mk H
   clear H
   have hnb12 := NB583_584.out
   have hnc12 := NB584_583.out
   obtain ⟨hcz13_0, hcz13_1, hcz13_2, hcz13_3, hcz13_4, hcz13_5, hcz13_6, hcz13_7, hcz13_8, hcz13_9, hcz13_10, hcz13_11, hcz13_12, hfz13_0, hfz13_1, hfz13_2, hfz13_3, hfz13_4, hfz13_5, hfz13_6, hfz13_7, hfz13_8, hfz13_9, hfz13_10, hfz13_11, hfz13_12⟩ := cl13 BK583.out
   go_wp2_with (first | ((with_reducible refine gC (f := 23) rfl ?_); refine goesL_ (some 14) rfl rfl Tryz.func23 (by kernel_rfl) rfl #[.agg #[.int .i64 a0_0, .int .i64 a0_1, .int .i64 a0_2, .string a0_3, .string a0_4, .bool a0_5, .int .i64 a0_6, .int .i64 a0_7, .int .i64 a0_8, .int .i64 a0_9, .int .i64 a0_10, .int .i64 a0_11, .int .i64 a0_12]] rfl (by (try simp only [List.map_toArray, List.map_cons, List.map_nil]); first | done | rfl | (simp only [List.length_drop, List.length_take]; rfl)) ?_; (with_reducible refine (solsticelaw10_HeavyEra.calls a0_0 a0_1 a0_2 a0_3 a0_4 a0_5 a0_6 a0_7 a0_8 a0_9 a0_10 a0_11 a0_12 false _ A6.out).mono ?_); rintro e w14 ⟨rfl, hb⟩; refine ⟨_, rfl, ?_⟩; have n0_ := As.mk (kB (g := gb583) (o := .cells #[.int .i64 a0_0, .int .i64 a0_1, .int .i64 a0_2, .string a0_3, .string a0_4, .bool a0_5, .int .i64 a0_6, .int .i64 a0_7, .int .i64 a0_8, .int .i64 a0_9, .int .i64 a0_10, .int .i64 a0_11, .int .i64 a0_12] 45 (0, 0)) (by (with_reducible repeat (first | refine kN ?_ _ | refine kD ?_ | refine kA ?_ _)); exact BK583.out) hb); have n1_ := As.mk (kB (g := gb584) (o := .cells #[.int .i64 a1_0, .int .i64 a1_1, .int .i64 a1_2, .string a1_3, .string a1_4, .bool a1_5, .int .i64 a1_6, .int .i64 a1_7, .int .i64 a1_8, .int .i64 a1_9, .int .i64 a1_10, .int .i64 a1_11, .int .i64 a1_12] 45 (0, 0)) (by (with_reducible repeat (first | refine kN ?_ _ | refine kD ?_ | refine kA ?_ _)); exact BK584.out) hb); have n2_ := As.mk (bT (by repeat (first | (with_reducible first | exact HB.out | apply bA | apply bN | apply bD | refine bS ?_ GE583.out | refine bS ?_ GE584.out) | exact HB.out)) hb); clear BK583; clear BK584; clear HB; have BK583 := n0_; have BK584 := n1_; have HB := n2_; clear n0_ n1_ n2_; (try clear hb); (try clear hb2); (try clear hk); (try clear hi); obtain ⟨hcz15_0, hcz15_1, hcz15_2, hcz15_3, hcz15_4, hcz15_5, hcz15_6, hcz15_7, hcz15_8, hcz15_9, hcz15_10, hcz15_11, hcz15_12, hfz15_0, hfz15_1, hfz15_2, hfz15_3, hfz15_4, hfz15_5, hfz15_6, hfz15_7, hfz15_8, hfz15_9, hfz15_10, hfz15_11, hfz15_12⟩ := cl13 BK584.out) | (go_at_call 23; (with_reducible refine (solsticelaw10_HeavyEra.calls a1_0 a1_1 a1_2 a1_3 a1_4 a1_5 a1_6 a1_7 a1_8 a1_9 a1_10 a1_11 a1_12 t586 _ A11.out).mono ?_); rintro e w16 ⟨rfl, hb⟩; have n0_ := As.mk (kB (g := gb583) (o := .cells #[.int .i64 a0_0, .int .i64 a0_1, .int .i64 a0_2, .string a0_3, .string a0_4, .bool a0_5, .int .i64 a0_6, .int .i64 a0_7, .int .i64 a0_8, .int .i64 a0_9, .int .i64 a0_10, .int .i64 a0_11, .int .i64 a0_12] 45 (0, 0)) (by (with_reducible repeat (first | refine kN ?_ _ | refine kD ?_ | refine kA ?_ _)); exact BK583.out) hb); have n1_ := As.mk (kB (g := gb584) (o := .cells #[.int .i64 a1_0, .int .i64 a1_1, .int .i64 a1_2, .string a1_3, .string a1_4, .bool a1_5, .int .i64 a1_6, .int .i64 a1_7, .int .i64 a1_8, .int .i64 a1_9, .int .i64 a1_10, .int .i64 a1_11, .int .i64 a1_12] 45 (0, 0)) (by (with_reducible repeat (first | refine kN ?_ _ | refine kD ?_ | refine kA ?_ _)); exact BK584.out) hb); have n2_ := As.mk (bT (by repeat (first | (with_reducible first | exact HB.out | apply bA | apply bN | apply bD | refine bS ?_ GE583.out | refine bS ?_ GE584.out) | exact HB.out)) hb); clear BK583; clear BK584; clear HB; have BK583 := n0_; have BK584 := n1_; have HB := n2_; clear n0_ n1_ n2_; (try clear hb); (try clear hb2); (try clear hk); (try clear hi)))
   go_meet
   case rel => exact ⟨_, (t586), (by first | rfl | (simp; done) | (simp [*]; done)), H', ⟨by first | omega | exact Nat.le_refl _⟩, ⟨by (with_reducible repeat (first | refine kN ?_ _ | refine kD ?_ | refine kA ?_ _)); exact BK583.out⟩, ⟨by (with_reducible repeat (first | refine kN ?_ _ | refine kD ?_ | refine kA ?_ _)); exact BK584.out⟩, ⟨by repeat (first | (with_reducible first | exact HB.out | apply bA | apply bN | apply bD | refine bS ?_ GE583.out | refine bS ?_ GE584.out) | exact HB.out)⟩⟩
 case rest =>
  clear HC3
  try clear c1
  try clear c2
  try clear p2
  try clear c6
  try clear c7
  try clear c8
  try clear c12
  try clear hcz13_0
  try clear hcz13_1
  try clear hcz13_10
  try clear hcz13_11
  try clear hcz13_12
  try clear hcz13_2
  try clear hcz13_3
  try clear hcz13_4
  try clear hcz13_5
  try clear hcz13_6
  try clear hcz13_7
  try clear hcz13_8
  try clear hcz13_9
  try clear hcz15_0
  try clear hcz15_1
  try clear hcz15_10
  try clear hcz15_11
  try clear hcz15_12
  try clear hcz15_2
  try clear hcz15_3
  try clear hcz15_4
  try clear hcz15_5
  try clear hcz15_6
  try clear hcz15_7
  try clear hcz15_8
  try clear hcz15_9
  try clear hcz9_0
  try clear hcz9_1
  try clear hcz9_10
  try clear hcz9_11
  try clear hcz9_12
  try clear hcz9_2
  try clear hcz9_3
  try clear hcz9_4
  try clear hcz9_5
  try clear hcz9_6
  try clear hcz9_7
  try clear hcz9_8
  try clear hcz9_9
  try clear hfz13_0
  try clear hfz13_1
  try clear hfz13_10
  try clear hfz13_11
  try clear hfz13_12
  try clear hfz13_2
  try clear hfz13_3
  try clear hfz13_4
  try clear hfz13_5
  try clear hfz13_6
  try clear hfz13_7
  try clear hfz13_8
  try clear hfz13_9
  try clear hfz15_0
  try clear hfz15_1
  try clear hfz15_10
  try clear hfz15_11
  try clear hfz15_12
  try clear hfz15_2
  try clear hfz15_3
  try clear hfz15_4
  try clear hfz15_5
  try clear hfz15_6
  try clear hfz15_7
  try clear hfz15_8
  try clear hfz15_9
  try clear hfz9_0
  try clear hfz9_1
  try clear hfz9_10
  try clear hfz9_11
  try clear hfz9_12
  try clear hfz9_2
  try clear hfz9_3
  try clear hfz9_4
  try clear hfz9_5
  try clear hfz9_6
  try clear hfz9_7
  try clear hfz9_8
  try clear hfz9_9
  obtain ⟨kq, x18_2, rfl, HA, HJ2, BK583, BK584, HB⟩ := hcut
  cases kq with
  | zero => exact absurd HA.out (by simp [solsticelaw10_ZoneBack.j0])
  | succ kj2 =>
   have H := HA.out
   clear HA
   simp only [solsticelaw10_ZoneBack.j0] at H
   by_cases c17 : x18_2 = true
   ·subst c17
    have H1 : (some true) = some r := by rw [if_pos rfl] at H; exact H
    clear H
    have H := H1
    clear H1
    obtain rfl := Option.some.inj H
    go_wp2
    go_ret
    exact ⟨by first | rfl | (simp [eN, eS] <;> rfl) | (simp [*, eN, eS] <;> rfl), by repeat (first | (with_reducible first | exact HB.out | apply bA | apply bN | apply bD | refine bS ?_ GE583.out | refine bS ?_ GE584.out) | exact HB.out)⟩
   ·replace c17 := Bool.eq_false_iff.mpr c17
    subst c17
    have H1 : ((zone_Text.f kj2 a0_0 a0_1 a0_2 a0_3 a0_4 a0_5 a0_6 a0_7 a0_8 a0_9 a0_10 a0_11 a0_12).bind fun bt587 => ((zone_Text.f kj2 a1_0 a1_1 a1_2 a1_3 a1_4 a1_5 a1_6 a1_7 a1_8 a1_9 a1_10 a1_11 a1_12).bind fun bt589 => (if bt587.2 = 0 then (solsticelaw10_ZoneBack.j1 kj2 bt587.1 bt587.2 bt589.1 bt589.2 (bt589.2 != 0) a0_0 a0_1 a0_2 a0_3 a0_4 a0_5 a0_6 a0_7 a0_8 a0_9 a0_10 a0_11 a0_12 a1_0 a1_1 a1_2 a1_3 a1_4 a1_5 a1_6 a1_7 a1_8 a1_9 a1_10 a1_11 a1_12) else (solsticelaw10_ZoneBack.j1 kj2 bt587.1 bt587.2 bt589.1 bt589.2 true a0_0 a0_1 a0_2 a0_3 a0_4 a0_5 a0_6 a0_7 a0_8 a0_9 a0_10 a0_11 a0_12 a1_0 a1_1 a1_2 a1_3 a1_4 a1_5 a1_6 a1_7 a1_8 a1_9 a1_10 a1_11 a1_12)))) = some r := by rw [if_neg (show ¬ (false = true) by decide)] at H; exact H
    clear H
    have H := H1
    clear H1
    replace H := Option.bind_eq_some_iff.mp H
    obtain ⟨⟨t587, t588⟩, A180, H⟩ := H
    (try dsimp only at H)
    have A18 := As.mk A180
    clear A180
    replace H := Option.bind_eq_some_iff.mp H
    obtain ⟨⟨t589, t590⟩, A190, H⟩ := H
    (try dsimp only at H)
    have A19 := As.mk A190
    clear A190
    have HC20 := As.mk H
    clear H
    have hnb21 := NB583_584.out
    have hnc21 := NB584_583.out
    obtain ⟨hcz22_0, hcz22_1, hcz22_2, hcz22_3, hcz22_4, hcz22_5, hcz22_6, hcz22_7, hcz22_8, hcz22_9, hcz22_10, hcz22_11, hcz22_12, hfz22_0, hfz22_1, hfz22_2, hfz22_3, hfz22_4, hfz22_5, hfz22_6, hfz22_7, hfz22_8, hfz22_9, hfz22_10, hfz22_11, hfz22_12⟩ := cl13 BK583.out
    go_upto_region 5 with (first | ((with_reducible refine gC (f := 24) rfl ?_); refine goesL_ (some 21) rfl rfl Tryz.func24 (by kernel_rfl) rfl #[.agg #[.int .i64 a0_0, .int .i64 a0_1, .int .i64 a0_2, .string a0_3, .string a0_4, .bool a0_5, .int .i64 a0_6, .int .i64 a0_7, .int .i64 a0_8, .int .i64 a0_9, .int .i64 a0_10, .int .i64 a0_11, .int .i64 a0_12]] rfl (by (try simp only [List.map_toArray, List.map_cons, List.map_nil]); first | done | rfl | (simp only [List.length_drop, List.length_take]; rfl)) ?_; (with_reducible refine (zone_Text.calls kj2 a0_0 a0_1 a0_2 a0_3 a0_4 a0_5 a0_6 a0_7 a0_8 a0_9 a0_10 a0_11 a0_12 t587 t588 _ ?side1 A18.out).mono ?_); (case side1 => exact GW.on HG.out (by repeat (first | (with_reducible first | exact HB.out | apply bA | apply bN | apply bD | refine bS ?_ GE583.out | refine bS ?_ GE584.out) | exact HB.out))); rintro e w23 ⟨rfl, hb⟩; refine ⟨_, rfl, ?_⟩; have n0_ := As.mk (kB (g := gb583) (o := .cells #[.int .i64 a0_0, .int .i64 a0_1, .int .i64 a0_2, .string a0_3, .string a0_4, .bool a0_5, .int .i64 a0_6, .int .i64 a0_7, .int .i64 a0_8, .int .i64 a0_9, .int .i64 a0_10, .int .i64 a0_11, .int .i64 a0_12] 45 (0, 0)) (by (with_reducible repeat (first | refine kN ?_ _ | refine kD ?_ | refine kA ?_ _)); exact BK583.out) hb); have n1_ := As.mk (kB (g := gb584) (o := .cells #[.int .i64 a1_0, .int .i64 a1_1, .int .i64 a1_2, .string a1_3, .string a1_4, .bool a1_5, .int .i64 a1_6, .int .i64 a1_7, .int .i64 a1_8, .int .i64 a1_9, .int .i64 a1_10, .int .i64 a1_11, .int .i64 a1_12] 45 (0, 0)) (by (with_reducible repeat (first | refine kN ?_ _ | refine kD ?_ | refine kA ?_ _)); exact BK584.out) hb); have n2_ := As.mk (bT (by repeat (first | (with_reducible first | exact HB.out | apply bA | apply bN | apply bD | refine bS ?_ GE583.out | refine bS ?_ GE584.out) | exact HB.out)) hb); clear BK583; clear BK584; clear HB; have BK583 := n0_; have BK584 := n1_; have HB := n2_; clear n0_ n1_ n2_; (try clear hb); (try clear hb2); (try clear hk); (try clear hi); obtain ⟨hcz24_0, hcz24_1, hcz24_2, hcz24_3, hcz24_4, hcz24_5, hcz24_6, hcz24_7, hcz24_8, hcz24_9, hcz24_10, hcz24_11, hcz24_12, hfz24_0, hfz24_1, hfz24_2, hfz24_3, hfz24_4, hfz24_5, hfz24_6, hfz24_7, hfz24_8, hfz24_9, hfz24_10, hfz24_11, hfz24_12⟩ := cl13 BK584.out) | ((with_reducible refine gC (f := 24) rfl ?_); refine goesL_ (some 26) rfl rfl Tryz.func24 (by kernel_rfl) rfl #[.agg #[.int .i64 a1_0, .int .i64 a1_1, .int .i64 a1_2, .string a1_3, .string a1_4, .bool a1_5, .int .i64 a1_6, .int .i64 a1_7, .int .i64 a1_8, .int .i64 a1_9, .int .i64 a1_10, .int .i64 a1_11, .int .i64 a1_12]] rfl (by (try simp only [List.map_toArray, List.map_cons, List.map_nil]); first | done | rfl | (simp only [List.length_drop, List.length_take]; rfl)) ?_; (with_reducible refine (zone_Text.calls kj2 a1_0 a1_1 a1_2 a1_3 a1_4 a1_5 a1_6 a1_7 a1_8 a1_9 a1_10 a1_11 a1_12 t589 t590 _ ?side1 A19.out).mono ?_); (case side1 => exact GW.on HG.out (by repeat (first | (with_reducible first | exact HB.out | apply bA | apply bN | apply bD | refine bS ?_ GE583.out | refine bS ?_ GE584.out) | exact HB.out))); rintro e w25 ⟨rfl, hb⟩; refine ⟨_, rfl, ?_⟩; have n0_ := As.mk (kB (g := gb583) (o := .cells #[.int .i64 a0_0, .int .i64 a0_1, .int .i64 a0_2, .string a0_3, .string a0_4, .bool a0_5, .int .i64 a0_6, .int .i64 a0_7, .int .i64 a0_8, .int .i64 a0_9, .int .i64 a0_10, .int .i64 a0_11, .int .i64 a0_12] 45 (0, 0)) (by (with_reducible repeat (first | refine kN ?_ _ | refine kD ?_ | refine kA ?_ _)); exact BK583.out) hb); have n1_ := As.mk (kB (g := gb584) (o := .cells #[.int .i64 a1_0, .int .i64 a1_1, .int .i64 a1_2, .string a1_3, .string a1_4, .bool a1_5, .int .i64 a1_6, .int .i64 a1_7, .int .i64 a1_8, .int .i64 a1_9, .int .i64 a1_10, .int .i64 a1_11, .int .i64 a1_12] 45 (0, 0)) (by (with_reducible repeat (first | refine kN ?_ _ | refine kD ?_ | refine kA ?_ _)); exact BK584.out) hb); have n2_ := As.mk (bT (by repeat (first | (with_reducible first | exact HB.out | apply bA | apply bN | apply bD | refine bS ?_ GE583.out | refine bS ?_ GE584.out) | exact HB.out)) hb); clear BK583; clear BK584; clear HB; have BK583 := n0_; have BK584 := n1_; have HB := n2_; clear n0_ n1_ n2_; (try clear hb); (try clear hb2); (try clear hk); (try clear hi)))
    (try simp only [Act.put, List.setIfInBounds_toArray, List.set_cons_zero, List.set_cons_succ])
    go_cut [34] (fun v34 wc => ∃ (kq : Nat) (x34_19 : Bool), v34 = .bool x34_19 ∧ As (solsticelaw10_ZoneBack.j1 kq t587 t588 t589 t590 x34_19 a0_0 a0_1 a0_2 a0_3 a0_4 a0_5 a0_6 a0_7 a0_8 a0_9 a0_10 a0_11 a0_12 a1_0 a1_1 a1_2 a1_3 a1_4 a1_5 a1_6 a1_7 a1_8 a1_9 a1_10 a1_11 a1_12 = some r) ∧ As (kq ≤ kj2) ∧ As (wc.heap[gb583]? = some (.cells #[.int .i64 a0_0, .int .i64 a0_1, .int .i64 a0_2, .string a0_3, .string a0_4, .bool a0_5, .int .i64 a0_6, .int .i64 a0_7, .int .i64 a0_8, .int .i64 a0_9, .int .i64 a0_10, .int .i64 a0_11, .int .i64 a0_12] 45 (0, 0))) ∧ As (wc.heap[gb584]? = some (.cells #[.int .i64 a1_0, .int .i64 a1_1, .int .i64 a1_2, .string a1_3, .string a1_4, .bool a1_5, .int .i64 a1_6, .int .i64 a1_7, .int .i64 a1_8, .int .i64 a1_9, .int .i64 a1_10, .int .i64 a1_11, .int .i64 a1_12] 45 (0, 0))) ∧ As (Below w.heap.size w wc))
    case first =>
     have H := HC20.out
     clear HC20
     by_cases c26 : t588 = 0
     ·rw [if_pos c26] at H
      have c26b0 : (t588 == 0) = true := beq_iff_eq.mpr c26
      have c26b1 : (t588 != 0) = false := bne_eq_false_iff_eq.mpr c26
      clear c26
      (first | rw [c26b0] | (simp only [i64_w, i32_w]; rw [c26b0]) | skip)
      have H' := As.mk H
      clear H
      go_wp2
      go_meet
      case rel => exact ⟨_, ((t590 != 0)), (by first | rfl | (simp; done) | (simp [*]; done)), H', ⟨by have := HJ2.out; first | omega | exact Nat.le_refl _⟩, ⟨by (with_reducible repeat (first | refine kN ?_ _ | refine kD ?_ | refine kA ?_ _)); exact BK583.out⟩, ⟨by (with_reducible repeat (first | refine kN ?_ _ | refine kD ?_ | refine kA ?_ _)); exact BK584.out⟩, ⟨by repeat (first | (with_reducible first | exact HB.out | apply bA | apply bN | apply bD | refine bS ?_ GE583.out | refine bS ?_ GE584.out) | exact HB.out)⟩⟩
     ·rw [if_neg c26] at H
      have c26b0 : (t588 == 0) = false := beq_eq_false_iff_ne.mpr c26
      have c26b1 : (t588 != 0) = true := bne_iff_ne.mpr c26
      (first | rw [c26b0] | (simp only [i64_w, i32_w]; rw [c26b0]) | skip)
      have H' := As.mk H
      clear H
      go_wp2
      go_meet
      case rel => exact ⟨_, (true), (by first | rfl | (simp; done) | (simp [*]; done)), H', ⟨by have := HJ2.out; first | omega | exact Nat.le_refl _⟩, ⟨by (with_reducible repeat (first | refine kN ?_ _ | refine kD ?_ | refine kA ?_ _)); exact BK583.out⟩, ⟨by (with_reducible repeat (first | refine kN ?_ _ | refine kD ?_ | refine kA ?_ _)); exact BK584.out⟩, ⟨by repeat (first | (with_reducible first | exact HB.out | apply bA | apply bN | apply bD | refine bS ?_ GE583.out | refine bS ?_ GE584.out) | exact HB.out)⟩⟩
    case rest =>
     clear HC20
     try clear c1
     try clear c2
     try clear p2
     try clear c6
     try clear c7
     try clear c8
     try clear c12
     try clear c17
     try clear c21
     try clear c23
     try clear c24
     try clear c26
     try clear c26b0
     try clear c26b1
     try clear hcz13_0
     try clear hcz13_1
     try clear hcz13_10
     try clear hcz13_11
     try clear hcz13_12
     try clear hcz13_2
     try clear hcz13_3
     try clear hcz13_4
     try clear hcz13_5
     try clear hcz13_6
     try clear hcz13_7
     try clear hcz13_8
     try clear hcz13_9
     try clear hcz15_0
     try clear hcz15_1
     try clear hcz15_10
     try clear hcz15_11
     try clear hcz15_12
     try clear hcz15_2
     try clear hcz15_3
     try clear hcz15_4
     try clear hcz15_5
     try clear hcz15_6
     try clear hcz15_7
     try clear hcz15_8
     try clear hcz15_9
     try clear hcz22_0
     try clear hcz22_1
     try clear hcz22_10
     try clear hcz22_11
     try clear hcz22_12
     try clear hcz22_2
     try clear hcz22_3
     try clear hcz22_4
     try clear hcz22_5
     try clear hcz22_6
     try clear hcz22_7
     try clear hcz22_8
     try clear hcz22_9
     try clear hcz24_0
     try clear hcz24_1
     try clear hcz24_10
     try clear hcz24_11
     try clear hcz24_12
     try clear hcz24_2
     try clear hcz24_3
     try clear hcz24_4
     try clear hcz24_5
     try clear hcz24_6
     try clear hcz24_7
     try clear hcz24_8
     try clear hcz24_9
     try clear hcz9_0
     try clear hcz9_1
     try clear hcz9_10
     try clear hcz9_11
     try clear hcz9_12
     try clear hcz9_2
     try clear hcz9_3
     try clear hcz9_4
     try clear hcz9_5
     try clear hcz9_6
     try clear hcz9_7
     try clear hcz9_8
     try clear hcz9_9
     try clear hfz13_0
     try clear hfz13_1
     try clear hfz13_10
     try clear hfz13_11
     try clear hfz13_12
     try clear hfz13_2
     try clear hfz13_3
     try clear hfz13_4
     try clear hfz13_5
     try clear hfz13_6
     try clear hfz13_7
     try clear hfz13_8
     try clear hfz13_9
     try clear hfz15_0
     try clear hfz15_1
     try clear hfz15_10
     try clear hfz15_11
     try clear hfz15_12
     try clear hfz15_2
     try clear hfz15_3
     try clear hfz15_4
     try clear hfz15_5
     try clear hfz15_6
     try clear hfz15_7
     try clear hfz15_8
     try clear hfz15_9
     try clear hfz22_0
     try clear hfz22_1
     try clear hfz22_10
     try clear hfz22_11
     try clear hfz22_12
     try clear hfz22_2
     try clear hfz22_3
     try clear hfz22_4
     try clear hfz22_5
     try clear hfz22_6
     try clear hfz22_7
     try clear hfz22_8
     try clear hfz22_9
     try clear hfz24_0
     try clear hfz24_1
     try clear hfz24_10
     try clear hfz24_11
     try clear hfz24_12
     try clear hfz24_2
     try clear hfz24_3
     try clear hfz24_4
     try clear hfz24_5
     try clear hfz24_6
     try clear hfz24_7
     try clear hfz24_8
     try clear hfz24_9
     try clear hfz9_0
     try clear hfz9_1
     try clear hfz9_10
     try clear hfz9_11
     try clear hfz9_12
     try clear hfz9_2
     try clear hfz9_3
     try clear hfz9_4
     try clear hfz9_5
     try clear hfz9_6
     try clear hfz9_7
     try clear hfz9_8
     try clear hfz9_9
     try clear p2
     obtain ⟨kq, x34_19, rfl, HA, HJ19, BK583, BK584, HB⟩ := hcut
     cases kq with
     | zero => exact absurd HA.out (by simp [solsticelaw10_ZoneBack.j1])
     | succ kj19 =>
      have H := HA.out
      clear HA
      simp only [solsticelaw10_ZoneBack.j1] at H
      by_cases c27 : x34_19 = true
      ·subst c27
       have H1 : (if t588 = 0 then (if t590 = 0 then ((solsticelaw10_wakes.f kj19).bind fun t591 => (some t591)) else (if t589.toList = ([] : List UInt8) then ((solsticelaw10_wakes.f kj19).bind fun t592 => (some t592)) else (none))) else (if t587.toList = ([] : List UInt8) then (if t590 = 0 then ((solsticelaw10_wakes.f kj19).bind fun t593 => (some t593)) else (if t589.toList = ([] : List UInt8) then ((solsticelaw10_wakes.f kj19).bind fun t594 => (some t594)) else (none))) else (none))) = some r := by rw [if_pos rfl] at H; exact H
       clear H
       have H := H1
       clear H1
       by_cases c28 : t588 = 0
       ·rw [if_pos c28] at H
        have c28b0 : (t588 == 0) = true := beq_iff_eq.mpr c28
        have c28b1 : (t588 != 0) = false := bne_eq_false_iff_eq.mpr c28
        clear c28
        by_cases c29 : t590 = 0
        ·rw [if_pos c29] at H
         have c29b0 : (t590 == 0) = true := beq_iff_eq.mpr c29
         have c29b1 : (t590 != 0) = false := bne_eq_false_iff_eq.mpr c29
         clear c29
         replace H := Option.bind_eq_some_iff.mp H
         obtain ⟨t591, A300, H⟩ := H
         (try dsimp only at H)
         have A30 := As.mk A300
         clear A300
         obtain rfl := Option.some.inj H
         go_wp2_with (first | (go_at_call 25; (with_reducible refine (solsticelaw10_wakes.calls kj19  t591 _ ?side1 A30.out).mono ?_); (case side1 => exact GW.on HG.out (by repeat (first | (with_reducible first | exact HB.out | apply bA | apply bN | apply bD | refine bS ?_ GE583.out | refine bS ?_ GE584.out) | exact HB.out))); rintro e w31 ⟨rfl, hb⟩; have n0_ := As.mk (kB (g := gb583) (o := .cells #[.int .i64 a0_0, .int .i64 a0_1, .int .i64 a0_2, .string a0_3, .string a0_4, .bool a0_5, .int .i64 a0_6, .int .i64 a0_7, .int .i64 a0_8, .int .i64 a0_9, .int .i64 a0_10, .int .i64 a0_11, .int .i64 a0_12] 45 (0, 0)) (by (with_reducible repeat (first | refine kN ?_ _ | refine kD ?_ | refine kA ?_ _)); exact BK583.out) hb); have n1_ := As.mk (kB (g := gb584) (o := .cells #[.int .i64 a1_0, .int .i64 a1_1, .int .i64 a1_2, .string a1_3, .string a1_4, .bool a1_5, .int .i64 a1_6, .int .i64 a1_7, .int .i64 a1_8, .int .i64 a1_9, .int .i64 a1_10, .int .i64 a1_11, .int .i64 a1_12] 45 (0, 0)) (by (with_reducible repeat (first | refine kN ?_ _ | refine kD ?_ | refine kA ?_ _)); exact BK584.out) hb); have n2_ := As.mk (bT (by repeat (first | (with_reducible first | exact HB.out | apply bA | apply bN | apply bD | refine bS ?_ GE583.out | refine bS ?_ GE584.out) | exact HB.out)) hb); clear BK583; clear BK584; clear HB; have BK583 := n0_; have BK584 := n1_; have HB := n2_; clear n0_ n1_ n2_; (try clear hb); (try clear hb2); (try clear hk); (try clear hi)))
         go_ret
         exact ⟨by first | rfl | (simp [eN, eS] <;> rfl) | (simp [*, eN, eS] <;> rfl), by repeat (first | (with_reducible first | exact HB.out | apply bA | apply bN | apply bD | refine bS ?_ GE583.out | refine bS ?_ GE584.out) | exact HB.out)⟩
        ·rw [if_neg c29] at H
         have c29b0 : (t590 == 0) = false := beq_eq_false_iff_ne.mpr c29
         have c29b1 : (t590 != 0) = true := bne_iff_ne.mpr c29
         by_cases c32 : t589.toList = ([] : List UInt8)
         ·rw [if_pos c32] at H
          have c32b0 : (t589.toList == ([] : List UInt8)) = true := beq_iff_eq.mpr c32
          have c32b1 : (t589.toList != ([] : List UInt8)) = false := bne_eq_false_iff_eq.mpr c32
          clear c32
          replace H := Option.bind_eq_some_iff.mp H
          obtain ⟨t592, A330, H⟩ := H
          (try dsimp only at H)
          have A33 := As.mk A330
          clear A330
          obtain rfl := Option.some.inj H
          go_wp2_with (first | (go_at_call 25; (with_reducible refine (solsticelaw10_wakes.calls kj19  t592 _ ?side1 A33.out).mono ?_); (case side1 => exact GW.on HG.out (by repeat (first | (with_reducible first | exact HB.out | apply bA | apply bN | apply bD | refine bS ?_ GE583.out | refine bS ?_ GE584.out) | exact HB.out))); rintro e w34 ⟨rfl, hb⟩; have n0_ := As.mk (kB (g := gb583) (o := .cells #[.int .i64 a0_0, .int .i64 a0_1, .int .i64 a0_2, .string a0_3, .string a0_4, .bool a0_5, .int .i64 a0_6, .int .i64 a0_7, .int .i64 a0_8, .int .i64 a0_9, .int .i64 a0_10, .int .i64 a0_11, .int .i64 a0_12] 45 (0, 0)) (by (with_reducible repeat (first | refine kN ?_ _ | refine kD ?_ | refine kA ?_ _)); exact BK583.out) hb); have n1_ := As.mk (kB (g := gb584) (o := .cells #[.int .i64 a1_0, .int .i64 a1_1, .int .i64 a1_2, .string a1_3, .string a1_4, .bool a1_5, .int .i64 a1_6, .int .i64 a1_7, .int .i64 a1_8, .int .i64 a1_9, .int .i64 a1_10, .int .i64 a1_11, .int .i64 a1_12] 45 (0, 0)) (by (with_reducible repeat (first | refine kN ?_ _ | refine kD ?_ | refine kA ?_ _)); exact BK584.out) hb); have n2_ := As.mk (bT (by repeat (first | (with_reducible first | exact HB.out | apply bA | apply bN | apply bD | refine bS ?_ GE583.out | refine bS ?_ GE584.out) | exact HB.out)) hb); clear BK583; clear BK584; clear HB; have BK583 := n0_; have BK584 := n1_; have HB := n2_; clear n0_ n1_ n2_; (try clear hb); (try clear hb2); (try clear hk); (try clear hi)))
          go_ret
          exact ⟨by first | rfl | (simp [eN, eS] <;> rfl) | (simp [*, eN, eS] <;> rfl), by repeat (first | (with_reducible first | exact HB.out | apply bA | apply bN | apply bD | refine bS ?_ GE583.out | refine bS ?_ GE584.out) | exact HB.out)⟩
         ·rw [if_neg c32] at H
          exact absurd H (by simp)
       ·rw [if_neg c28] at H
        have c28b0 : (t588 == 0) = false := beq_eq_false_iff_ne.mpr c28
        have c28b1 : (t588 != 0) = true := bne_iff_ne.mpr c28
        by_cases c35 : t587.toList = ([] : List UInt8)
        ·rw [if_pos c35] at H
         have c35b0 : (t587.toList == ([] : List UInt8)) = true := beq_iff_eq.mpr c35
         have c35b1 : (t587.toList != ([] : List UInt8)) = false := bne_eq_false_iff_eq.mpr c35
         clear c35
         by_cases c36 : t590 = 0
         ·rw [if_pos c36] at H
          have c36b0 : (t590 == 0) = true := beq_iff_eq.mpr c36
          have c36b1 : (t590 != 0) = false := bne_eq_false_iff_eq.mpr c36
          clear c36
          replace H := Option.bind_eq_some_iff.mp H
          obtain ⟨t593, A370, H⟩ := H
          (try dsimp only at H)
          have A37 := As.mk A370
          clear A370
          obtain rfl := Option.some.inj H
          go_wp2_with (first | (go_at_call 25; (with_reducible refine (solsticelaw10_wakes.calls kj19  t593 _ ?side1 A37.out).mono ?_); (case side1 => exact GW.on HG.out (by repeat (first | (with_reducible first | exact HB.out | apply bA | apply bN | apply bD | refine bS ?_ GE583.out | refine bS ?_ GE584.out) | exact HB.out))); rintro e w38 ⟨rfl, hb⟩; have n0_ := As.mk (kB (g := gb583) (o := .cells #[.int .i64 a0_0, .int .i64 a0_1, .int .i64 a0_2, .string a0_3, .string a0_4, .bool a0_5, .int .i64 a0_6, .int .i64 a0_7, .int .i64 a0_8, .int .i64 a0_9, .int .i64 a0_10, .int .i64 a0_11, .int .i64 a0_12] 45 (0, 0)) (by (with_reducible repeat (first | refine kN ?_ _ | refine kD ?_ | refine kA ?_ _)); exact BK583.out) hb); have n1_ := As.mk (kB (g := gb584) (o := .cells #[.int .i64 a1_0, .int .i64 a1_1, .int .i64 a1_2, .string a1_3, .string a1_4, .bool a1_5, .int .i64 a1_6, .int .i64 a1_7, .int .i64 a1_8, .int .i64 a1_9, .int .i64 a1_10, .int .i64 a1_11, .int .i64 a1_12] 45 (0, 0)) (by (with_reducible repeat (first | refine kN ?_ _ | refine kD ?_ | refine kA ?_ _)); exact BK584.out) hb); have n2_ := As.mk (bT (by repeat (first | (with_reducible first | exact HB.out | apply bA | apply bN | apply bD | refine bS ?_ GE583.out | refine bS ?_ GE584.out) | exact HB.out)) hb); clear BK583; clear BK584; clear HB; have BK583 := n0_; have BK584 := n1_; have HB := n2_; clear n0_ n1_ n2_; (try clear hb); (try clear hb2); (try clear hk); (try clear hi)))
          go_ret
          exact ⟨by first | rfl | (simp [eN, eS] <;> rfl) | (simp [*, eN, eS] <;> rfl), by repeat (first | (with_reducible first | exact HB.out | apply bA | apply bN | apply bD | refine bS ?_ GE583.out | refine bS ?_ GE584.out) | exact HB.out)⟩
         ·rw [if_neg c36] at H
          have c36b0 : (t590 == 0) = false := beq_eq_false_iff_ne.mpr c36
          have c36b1 : (t590 != 0) = true := bne_iff_ne.mpr c36
          by_cases c39 : t589.toList = ([] : List UInt8)
          ·rw [if_pos c39] at H
           have c39b0 : (t589.toList == ([] : List UInt8)) = true := beq_iff_eq.mpr c39
           have c39b1 : (t589.toList != ([] : List UInt8)) = false := bne_eq_false_iff_eq.mpr c39
           clear c39
           replace H := Option.bind_eq_some_iff.mp H
           obtain ⟨t594, A400, H⟩ := H
           (try dsimp only at H)
           have A40 := As.mk A400
           clear A400
           obtain rfl := Option.some.inj H
           go_wp2_with (first | (go_at_call 25; (with_reducible refine (solsticelaw10_wakes.calls kj19  t594 _ ?side1 A40.out).mono ?_); (case side1 => exact GW.on HG.out (by repeat (first | (with_reducible first | exact HB.out | apply bA | apply bN | apply bD | refine bS ?_ GE583.out | refine bS ?_ GE584.out) | exact HB.out))); rintro e w41 ⟨rfl, hb⟩; have n0_ := As.mk (kB (g := gb583) (o := .cells #[.int .i64 a0_0, .int .i64 a0_1, .int .i64 a0_2, .string a0_3, .string a0_4, .bool a0_5, .int .i64 a0_6, .int .i64 a0_7, .int .i64 a0_8, .int .i64 a0_9, .int .i64 a0_10, .int .i64 a0_11, .int .i64 a0_12] 45 (0, 0)) (by (with_reducible repeat (first | refine kN ?_ _ | refine kD ?_ | refine kA ?_ _)); exact BK583.out) hb); have n1_ := As.mk (kB (g := gb584) (o := .cells #[.int .i64 a1_0, .int .i64 a1_1, .int .i64 a1_2, .string a1_3, .string a1_4, .bool a1_5, .int .i64 a1_6, .int .i64 a1_7, .int .i64 a1_8, .int .i64 a1_9, .int .i64 a1_10, .int .i64 a1_11, .int .i64 a1_12] 45 (0, 0)) (by (with_reducible repeat (first | refine kN ?_ _ | refine kD ?_ | refine kA ?_ _)); exact BK584.out) hb); have n2_ := As.mk (bT (by repeat (first | (with_reducible first | exact HB.out | apply bA | apply bN | apply bD | refine bS ?_ GE583.out | refine bS ?_ GE584.out) | exact HB.out)) hb); clear BK583; clear BK584; clear HB; have BK583 := n0_; have BK584 := n1_; have HB := n2_; clear n0_ n1_ n2_; (try clear hb); (try clear hb2); (try clear hk); (try clear hi)))
           go_ret
           exact ⟨by first | rfl | (simp [eN, eS] <;> rfl) | (simp [*, eN, eS] <;> rfl), by repeat (first | (with_reducible first | exact HB.out | apply bA | apply bN | apply bD | refine bS ?_ GE583.out | refine bS ?_ GE584.out) | exact HB.out)⟩
          ·rw [if_neg c39] at H
           exact absurd H (by simp)
        ·rw [if_neg c35] at H
         exact absurd H (by simp)
      ·replace c27 := Bool.eq_false_iff.mpr c27
       subst c27
       have H1 : ((fields_Split.f t587).bind fun bt595 => ((zone_Era.f kj19 bt595.1).bind fun bt599 => (if bt595.2 = 0 then (if bt599.2.2.2.2.2.2.2.2.2.2.2.2.2 = 0 then (if (bt599.1 == a0_0 && (bt599.2.1 == a0_1 && (bt599.2.2.1 == a0_2 && (bt599.2.2.2.1.toList == a0_3.toList && (bt599.2.2.2.2.1.toList == a0_4.toList && (bt599.2.2.2.2.2.1 == a0_5 && (bt599.2.2.2.2.2.2.1 == a0_6 && (bt599.2.2.2.2.2.2.2.1 == a0_7 && ((bt599.2.2.2.2.2.2.2.2.1 == a0_8 && (bt599.2.2.2.2.2.2.2.2.2.1 == a0_9 && (bt599.2.2.2.2.2.2.2.2.2.2.1 == a0_10))) && ((bt599.2.2.2.2.2.2.2.2.2.2.2.1 == a0_11 && (bt599.2.2.2.2.2.2.2.2.2.2.2.2.1 == a0_12)))))))))))) = true then (if ((t587.toList == t589.toList) == (a0_0 == a1_0 && (a0_1 == a1_1 && (a0_2 == a1_2 && (a0_3.toList == a1_3.toList && (a0_4.toList == a1_4.toList && (a0_5 == a1_5 && (a0_6 == a1_6 && (a0_7 == a1_7 && ((a0_8 == a1_8 && (a0_9 == a1_9 && (a0_10 == a1_10))) && ((a0_11 == a1_11 && (a0_12 == a1_12))))))))))))) = true then ((solsticelaw10_wakes.f kj19).bind fun t614 => (some t614)) else (none)) else (none)) else (none)) else (none)))) = some r := by rw [if_neg (show ¬ (false = true) by decide)] at H; exact H
       clear H
       have H := H1
       clear H1
       replace H := Option.bind_eq_some_iff.mp H
       obtain ⟨⟨t595, t596⟩, A420, H⟩ := H
       (try dsimp only at H)
       have A42 := As.mk A420
       clear A420
       replace H := Option.bind_eq_some_iff.mp H
       obtain ⟨⟨t599, t600, t601, t602, t603, t604, t605, t606, t607, t608, t609, t610, t611, t612⟩, A430, H⟩ := H
       (try dsimp only at H)
       have A43 := As.mk A430
       clear A430
       by_cases c44 : t596 = 0
       ·rw [if_pos c44] at H
        have c44b0 : (t596 == 0) = true := beq_iff_eq.mpr c44
        have c44b1 : (t596 != 0) = false := bne_eq_false_iff_eq.mpr c44
        clear c44
        by_cases c45 : t612 = 0
        ·rw [if_pos c45] at H
         have c45b0 : (t612 == 0) = true := beq_iff_eq.mpr c45
         have c45b1 : (t612 != 0) = false := bne_eq_false_iff_eq.mpr c45
         clear c45
         by_cases c46 : (t599 == a0_0 && (t600 == a0_1 && (t601 == a0_2 && (t602.toList == a0_3.toList && (t603.toList == a0_4.toList && (t604 == a0_5 && (t605 == a0_6 && (t606 == a0_7 && ((t607 == a0_8 && (t608 == a0_9 && (t609 == a0_10))) && ((t610 == a0_11 && (t611 == a0_12)))))))))))) = true
         ·rw [if_pos c46] at H
          have c46b0 : (t599 == a0_0 && (t600 == a0_1 && (t601 == a0_2 && (t602.toList == a0_3.toList && (t603.toList == a0_4.toList && (t604 == a0_5 && (t605 == a0_6 && (t606 == a0_7 && ((t607 == a0_8 && (t608 == a0_9 && (t609 == a0_10))) && ((t610 == a0_11 && (t611 == a0_12)))))))))))) = true := c46
          (try (have c46b1 : decide (t599 = a0_0 && (t600 == a0_1 && (t601 == a0_2 && (t602.toList == a0_3.toList && (t603.toList == a0_4.toList && (t604 == a0_5 && (t605 == a0_6 && (t606 == a0_7 && ((t607 == a0_8 && (t608 == a0_9 && (t609 == a0_10))) && ((t610 == a0_11 && (t611 == a0_12)))))))))))) = true := by simpa using c46))
          (try (have c46b2 : (t599 == a0_0 && (t600 == a0_1 && (t601 == a0_2 && (t602.toList == a0_3.toList && (t603.toList == a0_4.toList && (t604 == a0_5 && (t605 == a0_6 && (t606 == a0_7 && ((t607 == a0_8 && (t608 == a0_9 && (t609 == a0_10))) && ((t610 == a0_11 && (t611 == a0_12)))))))))))) = true := by simpa using c46))
          clear c46
          by_cases c47 : ((t587.toList == t589.toList) == (a0_0 == a1_0 && (a0_1 == a1_1 && (a0_2 == a1_2 && (a0_3.toList == a1_3.toList && (a0_4.toList == a1_4.toList && (a0_5 == a1_5 && (a0_6 == a1_6 && (a0_7 == a1_7 && ((a0_8 == a1_8 && (a0_9 == a1_9 && (a0_10 == a1_10))) && ((a0_11 == a1_11 && (a0_12 == a1_12))))))))))))) = true
          ·rw [if_pos c47] at H
           have c47b0 : ((t587.toList == t589.toList) == (a0_0 == a1_0 && (a0_1 == a1_1 && (a0_2 == a1_2 && (a0_3.toList == a1_3.toList && (a0_4.toList == a1_4.toList && (a0_5 == a1_5 && (a0_6 == a1_6 && (a0_7 == a1_7 && ((a0_8 == a1_8 && (a0_9 == a1_9 && (a0_10 == a1_10))) && ((a0_11 == a1_11 && (a0_12 == a1_12))))))))))))) = true := c47
           (try (have c47b1 : decide ((t587.toList == t589.toList) = (a0_0 == a1_0 && (a0_1 == a1_1 && (a0_2 == a1_2 && (a0_3.toList == a1_3.toList && (a0_4.toList == a1_4.toList && (a0_5 == a1_5 && (a0_6 == a1_6 && (a0_7 == a1_7 && ((a0_8 == a1_8 && (a0_9 == a1_9 && (a0_10 == a1_10))) && ((a0_11 == a1_11 && (a0_12 == a1_12))))))))))))) = true := by simpa using c47))
           (try (have c47b2 : ((t587.toList == t589.toList) == (a0_0 == a1_0 && (a0_1 == a1_1 && (a0_2 == a1_2 && (a0_3.toList == a1_3.toList && (a0_4.toList == a1_4.toList && (a0_5 == a1_5 && (a0_6 == a1_6 && (a0_7 == a1_7 && ((a0_8 == a1_8 && (a0_9 == a1_9 && (a0_10 == a1_10))) && ((a0_11 == a1_11 && (a0_12 == a1_12))))))))))))) = true := by simpa using c47))
           clear c47
           replace H := Option.bind_eq_some_iff.mp H
           obtain ⟨t614, A480, H⟩ := H
           (try dsimp only at H)
           have A48 := As.mk A480
           clear A480
           obtain rfl := Option.some.inj H
           go_wp2_with (first | ((with_reducible refine gC (f := 18) rfl ?_); refine goesL_ (some 54) rfl rfl Tryz.func18 (by kernel_rfl) rfl #[.string t587] rfl (by (try simp only [List.map_toArray, List.map_cons, List.map_nil]); first | done | rfl | (simp only [List.length_drop, List.length_take]; rfl)) ?_; (with_reducible refine (fields_Split.calls t587 t595 t596 _ A42.out).mono ?_); rintro e w49 ⟨v597, rfl, ho0, hb⟩; refine ⟨_, rfl, ?_⟩; have n0_ := As.mk (Kd.R_lower ho0 (bZ (by repeat (first | (with_reducible first | exact HB.out | apply bA | apply bN | apply bD | refine bS ?_ GE583.out | refine bS ?_ GE584.out) | exact HB.out)))); have n1_ := As.mk (kB (g := gb583) (o := .cells #[.int .i64 a0_0, .int .i64 a0_1, .int .i64 a0_2, .string a0_3, .string a0_4, .bool a0_5, .int .i64 a0_6, .int .i64 a0_7, .int .i64 a0_8, .int .i64 a0_9, .int .i64 a0_10, .int .i64 a0_11, .int .i64 a0_12] 45 (0, 0)) (by (with_reducible repeat (first | refine kN ?_ _ | refine kD ?_ | refine kA ?_ _)); exact BK583.out) hb); have n2_ := As.mk (kB (g := gb584) (o := .cells #[.int .i64 a1_0, .int .i64 a1_1, .int .i64 a1_2, .string a1_3, .string a1_4, .bool a1_5, .int .i64 a1_6, .int .i64 a1_7, .int .i64 a1_8, .int .i64 a1_9, .int .i64 a1_10, .int .i64 a1_11, .int .i64 a1_12] 45 (0, 0)) (by (with_reducible repeat (first | refine kN ?_ _ | refine kD ?_ | refine kA ?_ _)); exact BK584.out) hb); have n3_ := As.mk (bT (by repeat (first | (with_reducible first | exact HB.out | apply bA | apply bN | apply bD | refine bS ?_ GE583.out | refine bS ?_ GE584.out) | exact HB.out)) hb); clear BK583; clear BK584; clear HB; have HO598 := n0_; have BK583 := n1_; have BK584 := n2_; have HB := n3_; clear n0_ n1_ n2_ n3_; (try clear hb); (try clear hb2); (try clear hk); (try clear hi); (try clear ho0); obtain ⟨Ao50, co50, eo50⟩ := Kd.R_slice HO598.out; subst eo50) | ((with_reducible refine gC (f := 26) rfl ?_); refine goesL_ (some 59) rfl rfl Tryz.func26 (by kernel_rfl) rfl #[.slice Ao50 t595.length co50] rfl (by (try simp only [List.map_toArray, List.map_cons, List.map_nil]); first | done | rfl | (simp only [List.length_drop, List.length_take]; rfl)) ?_; (with_reducible refine (zone_Era.calls kj19 _ _ t595 t599 t600 t601 t602 t603 t604 t605 t606 t607 t608 t609 t610 t611 t612 _ ?side1 ?side2 ?side3 A43.out).mono ?_); (case side1 => exact GW.on HG.out (by repeat (first | (with_reducible first | exact HB.out | apply bA | apply bN | apply bD | refine bS ?_ GE583.out | refine bS ?_ GE584.out) | exact HB.out))); (case side2 => repeat (first | exact (Kd.R_reads' HO598.out).2.2 | (with_reducible refine Kd.C_alloc ?_ _) | (with_reducible refine Kd.C_drewN ?_ _) | (with_reducible refine Kd.C_drew ?_))); (case side3 => exact (Kd.R_reads' HO598.out).2.1); rintro e w51 ⟨rfl, hb⟩; refine ⟨_, rfl, ?_⟩; have n0_ := As.mk (Kd.R_below (by (with_reducible repeat (first | apply Kd.R_alloc | apply Kd.R_drewN | apply Kd.R_drew)); exact HO598.out) hb); have n1_ := As.mk (kB (g := gb583) (o := .cells #[.int .i64 a0_0, .int .i64 a0_1, .int .i64 a0_2, .string a0_3, .string a0_4, .bool a0_5, .int .i64 a0_6, .int .i64 a0_7, .int .i64 a0_8, .int .i64 a0_9, .int .i64 a0_10, .int .i64 a0_11, .int .i64 a0_12] 45 (0, 0)) (by (with_reducible repeat (first | refine kN ?_ _ | refine kD ?_ | refine kA ?_ _)); exact BK583.out) hb); have n2_ := As.mk (kB (g := gb584) (o := .cells #[.int .i64 a1_0, .int .i64 a1_1, .int .i64 a1_2, .string a1_3, .string a1_4, .bool a1_5, .int .i64 a1_6, .int .i64 a1_7, .int .i64 a1_8, .int .i64 a1_9, .int .i64 a1_10, .int .i64 a1_11, .int .i64 a1_12] 45 (0, 0)) (by (with_reducible repeat (first | refine kN ?_ _ | refine kD ?_ | refine kA ?_ _)); exact BK584.out) hb); have n3_ := As.mk (bT (by repeat (first | (with_reducible first | exact HB.out | apply bA | apply bN | apply bD | refine bS ?_ GE583.out | refine bS ?_ GE584.out) | exact HB.out)) hb); clear HO598; clear BK583; clear BK584; clear HB; have HO598 := n0_; have BK583 := n1_; have BK584 := n2_; have HB := n3_; clear n0_ n1_ n2_ n3_; (try clear hb); (try clear hb2); (try clear hk); (try clear hi)) | ((with_reducible refine gD (N := 11) rfl ?_); refine xE ?hg (N := 11) ?hd (cs := #[.int .i64 0, .int .i64 0, .int .i64 0, .string (⟨#[]⟩ : ByteArray), .string (⟨#[]⟩ : ByteArray), .bool false, .int .i64 0, .int .i64 0, .int .i64 0, .int .i64 0, .int .i64 0, .int .i64 0, .int .i64 0]) (t := 45) ?hr ?_; (case hd => rfl); (case hg => rfl); (case hr => first | (go_simp; done) | (go_simp; rfl)); intro gb613 hg w52 hbox hb; have n0_ := As.mk (Kd.R_below (by (with_reducible repeat (first | apply Kd.R_alloc | apply Kd.R_drewN | apply Kd.R_drew)); exact HO598.out) hb); have n1_ := As.mk (kB (g := gb583) (o := .cells #[.int .i64 a0_0, .int .i64 a0_1, .int .i64 a0_2, .string a0_3, .string a0_4, .bool a0_5, .int .i64 a0_6, .int .i64 a0_7, .int .i64 a0_8, .int .i64 a0_9, .int .i64 a0_10, .int .i64 a0_11, .int .i64 a0_12] 45 (0, 0)) (by (with_reducible repeat (first | refine kN ?_ _ | refine kD ?_ | refine kA ?_ _)); exact BK583.out) hb); have n2_ := As.mk (kB (g := gb584) (o := .cells #[.int .i64 a1_0, .int .i64 a1_1, .int .i64 a1_2, .string a1_3, .string a1_4, .bool a1_5, .int .i64 a1_6, .int .i64 a1_7, .int .i64 a1_8, .int .i64 a1_9, .int .i64 a1_10, .int .i64 a1_11, .int .i64 a1_12] 45 (0, 0)) (by (with_reducible repeat (first | refine kN ?_ _ | refine kD ?_ | refine kA ?_ _)); exact BK584.out) hb); have n3_ := As.mk (bT (by repeat (first | (with_reducible first | exact HB.out | apply bA | apply bN | apply bD | refine bS ?_ GE583.out | refine bS ?_ GE584.out) | exact HB.out)) hb); have n4_ := As.mk (hbox); have n5_ := As.mk ((by rw [hg]; exact (bZ (by repeat (first | (with_reducible first | exact HB.out | apply bA | apply bN | apply bD | refine bS ?_ GE583.out | refine bS ?_ GE584.out) | exact HB.out))) : w.heap.size ≤ gb613)); have n6_ := As.mk ((by rw [hg]; exact (bZ (by repeat (first | (with_reducible first | exact HB.out | apply bA | apply bN | apply bD | refine bS ?_ GE583.out | refine bS ?_ GE584.out) | exact HB.out))) : w.heap.size ≤ gb613)); have n7_ := As.mk ((by rw [hg]; exact Nat.ne_of_lt (blk_lt (g := gb583) (o := .cells #[.int .i64 a0_0, .int .i64 a0_1, .int .i64 a0_2, .string a0_3, .string a0_4, .bool a0_5, .int .i64 a0_6, .int .i64 a0_7, .int .i64 a0_8, .int .i64 a0_9, .int .i64 a0_10, .int .i64 a0_11, .int .i64 a0_12] 45 (0, 0)) (by (with_reducible repeat (first | refine kN ?_ _ | refine kD ?_ | refine kA ?_ _)); exact BK583.out)) : gb583 ≠ gb613)); have n8_ := As.mk ((by rw [hg]; exact Nat.ne_of_gt (blk_lt (g := gb583) (o := .cells #[.int .i64 a0_0, .int .i64 a0_1, .int .i64 a0_2, .string a0_3, .string a0_4, .bool a0_5, .int .i64 a0_6, .int .i64 a0_7, .int .i64 a0_8, .int .i64 a0_9, .int .i64 a0_10, .int .i64 a0_11, .int .i64 a0_12] 45 (0, 0)) (by (with_reducible repeat (first | refine kN ?_ _ | refine kD ?_ | refine kA ?_ _)); exact BK583.out)) : gb613 ≠ gb583)); have n9_ := As.mk ((by rw [hg]; exact Nat.ne_of_lt (blk_lt (g := gb584) (o := .cells #[.int .i64 a1_0, .int .i64 a1_1, .int .i64 a1_2, .string a1_3, .string a1_4, .bool a1_5, .int .i64 a1_6, .int .i64 a1_7, .int .i64 a1_8, .int .i64 a1_9, .int .i64 a1_10, .int .i64 a1_11, .int .i64 a1_12] 45 (0, 0)) (by (with_reducible repeat (first | refine kN ?_ _ | refine kD ?_ | refine kA ?_ _)); exact BK584.out)) : gb584 ≠ gb613)); have n10_ := As.mk ((by rw [hg]; exact Nat.ne_of_gt (blk_lt (g := gb584) (o := .cells #[.int .i64 a1_0, .int .i64 a1_1, .int .i64 a1_2, .string a1_3, .string a1_4, .bool a1_5, .int .i64 a1_6, .int .i64 a1_7, .int .i64 a1_8, .int .i64 a1_9, .int .i64 a1_10, .int .i64 a1_11, .int .i64 a1_12] 45 (0, 0)) (by (with_reducible repeat (first | refine kN ?_ _ | refine kD ?_ | refine kA ?_ _)); exact BK584.out)) : gb613 ≠ gb584)); clear HO598; clear BK583; clear BK584; clear HB; have HO598 := n0_; have BK583 := n1_; have BK584 := n2_; have HB := n3_; have BK613 := n4_; have GW613 := n5_; have GE613 := n6_; have NB583_613 := n7_; have NB613_583 := n8_; have NB584_613 := n9_; have NB613_584 := n10_; clear n0_ n1_ n2_ n3_ n4_ n5_ n6_ n7_ n8_ n9_ n10_; clear hb hbox hg; have hnb53 := NB613_583.out; have hnc53 := NB583_613.out; have hnb54 := NB613_584.out; have hnc54 := NB584_613.out; obtain ⟨hcz55_0, hcz55_1, hcz55_2, hcz55_3, hcz55_4, hcz55_5, hcz55_6, hcz55_7, hcz55_8, hcz55_9, hcz55_10, hcz55_11, hcz55_12, hfz55_0, hfz55_1, hfz55_2, hfz55_3, hfz55_4, hfz55_5, hfz55_6, hfz55_7, hfz55_8, hfz55_9, hfz55_10, hfz55_11, hfz55_12⟩ := cl13 BK613.out) | ((with_reducible refine gS (t := 45) (p := 11) rfl ?_); refine store_event (t := 45) (p := 11) (v := ?vo_w56) (w1 := (((((((((((((w52.setCell ⟨gb613, 0, none⟩ (.int .i64 t599)).setCell ⟨gb613, 1, none⟩ (.int .i64 t600)).setCell ⟨gb613, 2, none⟩ (.int .i64 t601)).setCell ⟨gb613, 3, none⟩ (.string t602)).setCell ⟨gb613, 4, none⟩ (.string t603)).setCell ⟨gb613, 5, none⟩ (.bool t604)).setCell ⟨gb613, 6, none⟩ (.int .i64 t605)).setCell ⟨gb613, 7, none⟩ (.int .i64 t606)).setCell ⟨gb613, 8, none⟩ (.int .i64 t607)).setCell ⟨gb613, 9, none⟩ (.int .i64 t608)).setCell ⟨gb613, 10, none⟩ (.int .i64 t609)).setCell ⟨gb613, 11, none⟩ (.int .i64 t610)).setCell ⟨gb613, 12, none⟩ (.int .i64 t611))) ?hg ?ho ?hn ?hr ?_; (case ho => rfl); (case hg => rfl); (case hn => rfl); (case hr => first | (go_simp; done) | (go_simp; rfl)); intro w56 hw; have n0_ : As (Kd.R Kd.string 9 w56 w.heap.size (fun _ => True) (.slice Ao50 t595.length co50) t595) := ⟨(by rw [hw]; exact (by (with_reducible repeat (first | apply Kd.R_alloc | apply Kd.R_drewN | apply Kd.R_drew)); exact Kd.R_mono (Kd.R_far (p := ⟨gb613, 12, none⟩) (Kd.R_far (p := ⟨gb613, 11, none⟩) (Kd.R_far (p := ⟨gb613, 10, none⟩) (Kd.R_far (p := ⟨gb613, 9, none⟩) (Kd.R_far (p := ⟨gb613, 8, none⟩) (Kd.R_far (p := ⟨gb613, 7, none⟩) (Kd.R_far (p := ⟨gb613, 6, none⟩) (Kd.R_far (p := ⟨gb613, 5, none⟩) (Kd.R_far (p := ⟨gb613, 4, none⟩) (Kd.R_far (p := ⟨gb613, 3, none⟩) (Kd.R_far (p := ⟨gb613, 2, none⟩) (Kd.R_far (p := ⟨gb613, 1, none⟩) (Kd.R_far (p := ⟨gb613, 0, none⟩) (Kd.R_types HO598.out BK613.out (by decide)) (fun _ hk => hk.2) (.int .i64 t599)) (fun _ hk => hk.2) (.int .i64 t600)) (fun _ hk => hk.2) (.int .i64 t601)) (fun _ hk => hk.2) (.string t602)) (fun _ hk => hk.2) (.string t603)) (fun _ hk => hk.2) (.bool t604)) (fun _ hk => hk.2) (.int .i64 t605)) (fun _ hk => hk.2) (.int .i64 t606)) (fun _ hk => hk.2) (.int .i64 t607)) (fun _ hk => hk.2) (.int .i64 t608)) (fun _ hk => hk.2) (.int .i64 t609)) (fun _ hk => hk.2) (.int .i64 t610)) (fun _ hk => hk.2) (.int .i64 t611)) (fun _ hk => trivial)))⟩; have n1_ : As (w56.heap[gb583]? = some (.cells #[.int .i64 a0_0, .int .i64 a0_1, .int .i64 a0_2, .string a0_3, .string a0_4, .bool a0_5, .int .i64 a0_6, .int .i64 a0_7, .int .i64 a0_8, .int .i64 a0_9, .int .i64 a0_10, .int .i64 a0_11, .int .i64 a0_12] 45 (0, 0))) := ⟨(by rw [hw]; exact (by (with_reducible repeat (first | refine kN ?_ _ | refine kD ?_ | refine kA ?_ _)); refine blk_far ?_ NB583_613.out _; (with_reducible repeat (first | refine kN ?_ _ | refine kD ?_ | refine kA ?_ _)); refine blk_far ?_ NB583_613.out _; (with_reducible repeat (first | refine kN ?_ _ | refine kD ?_ | refine kA ?_ _)); refine blk_far ?_ NB583_613.out _; (with_reducible repeat (first | refine kN ?_ _ | refine kD ?_ | refine kA ?_ _)); refine blk_far ?_ NB583_613.out _; (with_reducible repeat (first | refine kN ?_ _ | refine kD ?_ | refine kA ?_ _)); refine blk_far ?_ NB583_613.out _; (with_reducible repeat (first | refine kN ?_ _ | refine kD ?_ | refine kA ?_ _)); refine blk_far ?_ NB583_613.out _; (with_reducible repeat (first | refine kN ?_ _ | refine kD ?_ | refine kA ?_ _)); refine blk_far ?_ NB583_613.out _; (with_reducible repeat (first | refine kN ?_ _ | refine kD ?_ | refine kA ?_ _)); refine blk_far ?_ NB583_613.out _; (with_reducible repeat (first | refine kN ?_ _ | refine kD ?_ | refine kA ?_ _)); refine blk_far ?_ NB583_613.out _; (with_reducible repeat (first | refine kN ?_ _ | refine kD ?_ | refine kA ?_ _)); refine blk_far ?_ NB583_613.out _; (with_reducible repeat (first | refine kN ?_ _ | refine kD ?_ | refine kA ?_ _)); refine blk_far ?_ NB583_613.out _; (with_reducible repeat (first | refine kN ?_ _ | refine kD ?_ | refine kA ?_ _)); refine blk_far ?_ NB583_613.out _; (with_reducible repeat (first | refine kN ?_ _ | refine kD ?_ | refine kA ?_ _)); refine blk_far ?_ NB583_613.out _; (with_reducible repeat (first | refine kN ?_ _ | refine kD ?_ | refine kA ?_ _)); exact BK583.out))⟩; have n2_ : As (w56.heap[gb584]? = some (.cells #[.int .i64 a1_0, .int .i64 a1_1, .int .i64 a1_2, .string a1_3, .string a1_4, .bool a1_5, .int .i64 a1_6, .int .i64 a1_7, .int .i64 a1_8, .int .i64 a1_9, .int .i64 a1_10, .int .i64 a1_11, .int .i64 a1_12] 45 (0, 0))) := ⟨(by rw [hw]; exact (by (with_reducible repeat (first | refine kN ?_ _ | refine kD ?_ | refine kA ?_ _)); refine blk_far ?_ NB584_613.out _; (with_reducible repeat (first | refine kN ?_ _ | refine kD ?_ | refine kA ?_ _)); refine blk_far ?_ NB584_613.out _; (with_reducible repeat (first | refine kN ?_ _ | refine kD ?_ | refine kA ?_ _)); refine blk_far ?_ NB584_613.out _; (with_reducible repeat (first | refine kN ?_ _ | refine kD ?_ | refine kA ?_ _)); refine blk_far ?_ NB584_613.out _; (with_reducible repeat (first | refine kN ?_ _ | refine kD ?_ | refine kA ?_ _)); refine blk_far ?_ NB584_613.out _; (with_reducible repeat (first | refine kN ?_ _ | refine kD ?_ | refine kA ?_ _)); refine blk_far ?_ NB584_613.out _; (with_reducible repeat (first | refine kN ?_ _ | refine kD ?_ | refine kA ?_ _)); refine blk_far ?_ NB584_613.out _; (with_reducible repeat (first | refine kN ?_ _ | refine kD ?_ | refine kA ?_ _)); refine blk_far ?_ NB584_613.out _; (with_reducible repeat (first | refine kN ?_ _ | refine kD ?_ | refine kA ?_ _)); refine blk_far ?_ NB584_613.out _; (with_reducible repeat (first | refine kN ?_ _ | refine kD ?_ | refine kA ?_ _)); refine blk_far ?_ NB584_613.out _; (with_reducible repeat (first | refine kN ?_ _ | refine kD ?_ | refine kA ?_ _)); refine blk_far ?_ NB584_613.out _; (with_reducible repeat (first | refine kN ?_ _ | refine kD ?_ | refine kA ?_ _)); refine blk_far ?_ NB584_613.out _; (with_reducible repeat (first | refine kN ?_ _ | refine kD ?_ | refine kA ?_ _)); refine blk_far ?_ NB584_613.out _; (with_reducible repeat (first | refine kN ?_ _ | refine kD ?_ | refine kA ?_ _)); exact BK584.out))⟩; have n3_ : As (w56.heap[gb613]? = some (.cells #[.int .i64 t599, .int .i64 t600, .int .i64 t601, .string t602, .string t603, .bool t604, .int .i64 t605, .int .i64 t606, .int .i64 t607, .int .i64 t608, .int .i64 t609, .int .i64 t610, .int .i64 t611] 45 (0, 0))) := ⟨(by rw [hw]; exact (by (with_reducible repeat (first | refine kN ?_ _ | refine kD ?_ | refine kA ?_ _)); refine blk_put (cs := #[.int .i64 t599, .int .i64 t600, .int .i64 t601, .string t602, .string t603, .bool t604, .int .i64 t605, .int .i64 t606, .int .i64 t607, .int .i64 t608, .int .i64 t609, .int .i64 t610, .int .i64 0]) ?_ 12 _ rfl; (with_reducible repeat (first | refine kN ?_ _ | refine kD ?_ | refine kA ?_ _)); refine blk_put (cs := #[.int .i64 t599, .int .i64 t600, .int .i64 t601, .string t602, .string t603, .bool t604, .int .i64 t605, .int .i64 t606, .int .i64 t607, .int .i64 t608, .int .i64 t609, .int .i64 0, .int .i64 0]) ?_ 11 _ rfl; (with_reducible repeat (first | refine kN ?_ _ | refine kD ?_ | refine kA ?_ _)); refine blk_put (cs := #[.int .i64 t599, .int .i64 t600, .int .i64 t601, .string t602, .string t603, .bool t604, .int .i64 t605, .int .i64 t606, .int .i64 t607, .int .i64 t608, .int .i64 0, .int .i64 0, .int .i64 0]) ?_ 10 _ rfl; (with_reducible repeat (first | refine kN ?_ _ | refine kD ?_ | refine kA ?_ _)); refine blk_put (cs := #[.int .i64 t599, .int .i64 t600, .int .i64 t601, .string t602, .string t603, .bool t604, .int .i64 t605, .int .i64 t606, .int .i64 t607, .int .i64 0, .int .i64 0, .int .i64 0, .int .i64 0]) ?_ 9 _ rfl; (with_reducible repeat (first | refine kN ?_ _ | refine kD ?_ | refine kA ?_ _)); refine blk_put (cs := #[.int .i64 t599, .int .i64 t600, .int .i64 t601, .string t602, .string t603, .bool t604, .int .i64 t605, .int .i64 t606, .int .i64 0, .int .i64 0, .int .i64 0, .int .i64 0, .int .i64 0]) ?_ 8 _ rfl; (with_reducible repeat (first | refine kN ?_ _ | refine kD ?_ | refine kA ?_ _)); refine blk_put (cs := #[.int .i64 t599, .int .i64 t600, .int .i64 t601, .string t602, .string t603, .bool t604, .int .i64 t605, .int .i64 0, .int .i64 0, .int .i64 0, .int .i64 0, .int .i64 0, .int .i64 0]) ?_ 7 _ rfl; (with_reducible repeat (first | refine kN ?_ _ | refine kD ?_ | refine kA ?_ _)); refine blk_put (cs := #[.int .i64 t599, .int .i64 t600, .int .i64 t601, .string t602, .string t603, .bool t604, .int .i64 0, .int .i64 0, .int .i64 0, .int .i64 0, .int .i64 0, .int .i64 0, .int .i64 0]) ?_ 6 _ rfl; (with_reducible repeat (first | refine kN ?_ _ | refine kD ?_ | refine kA ?_ _)); refine blk_put (cs := #[.int .i64 t599, .int .i64 t600, .int .i64 t601, .string t602, .string t603, .bool false, .int .i64 0, .int .i64 0, .int .i64 0, .int .i64 0, .int .i64 0, .int .i64 0, .int .i64 0]) ?_ 5 _ rfl; (with_reducible repeat (first | refine kN ?_ _ | refine kD ?_ | refine kA ?_ _)); refine blk_put (cs := #[.int .i64 t599, .int .i64 t600, .int .i64 t601, .string t602, .string (⟨#[]⟩ : ByteArray), .bool false, .int .i64 0, .int .i64 0, .int .i64 0, .int .i64 0, .int .i64 0, .int .i64 0, .int .i64 0]) ?_ 4 _ rfl; (with_reducible repeat (first | refine kN ?_ _ | refine kD ?_ | refine kA ?_ _)); refine blk_put (cs := #[.int .i64 t599, .int .i64 t600, .int .i64 t601, .string (⟨#[]⟩ : ByteArray), .string (⟨#[]⟩ : ByteArray), .bool false, .int .i64 0, .int .i64 0, .int .i64 0, .int .i64 0, .int .i64 0, .int .i64 0, .int .i64 0]) ?_ 3 _ rfl; (with_reducible repeat (first | refine kN ?_ _ | refine kD ?_ | refine kA ?_ _)); refine blk_put (cs := #[.int .i64 t599, .int .i64 t600, .int .i64 0, .string (⟨#[]⟩ : ByteArray), .string (⟨#[]⟩ : ByteArray), .bool false, .int .i64 0, .int .i64 0, .int .i64 0, .int .i64 0, .int .i64 0, .int .i64 0, .int .i64 0]) ?_ 2 _ rfl; (with_reducible repeat (first | refine kN ?_ _ | refine kD ?_ | refine kA ?_ _)); refine blk_put (cs := #[.int .i64 t599, .int .i64 0, .int .i64 0, .string (⟨#[]⟩ : ByteArray), .string (⟨#[]⟩ : ByteArray), .bool false, .int .i64 0, .int .i64 0, .int .i64 0, .int .i64 0, .int .i64 0, .int .i64 0, .int .i64 0]) ?_ 1 _ rfl; (with_reducible repeat (first | refine kN ?_ _ | refine kD ?_ | refine kA ?_ _)); refine blk_put (cs := #[.int .i64 0, .int .i64 0, .int .i64 0, .string (⟨#[]⟩ : ByteArray), .string (⟨#[]⟩ : ByteArray), .bool false, .int .i64 0, .int .i64 0, .int .i64 0, .int .i64 0, .int .i64 0, .int .i64 0, .int .i64 0]) ?_ 0 _ rfl; (with_reducible repeat (first | refine kN ?_ _ | refine kD ?_ | refine kA ?_ _)); exact BK613.out))⟩; have n4_ : As (Below w.heap.size w w56) := ⟨(by rw [hw]; exact (by repeat (first | (with_reducible first | exact HB.out | apply bA | apply bN | apply bD | refine bS ?_ GE583.out | refine bS ?_ GE584.out | refine bS ?_ GE613.out) | exact HB.out)))⟩; clear hw; clear HO598; clear BK583; clear BK584; clear BK613; clear HB; have HO598 := n0_; have BK583 := n1_; have BK584 := n2_; have BK613 := n3_; have HB := n4_; clear n0_ n1_ n2_ n3_ n4_; obtain ⟨hcz57_0, hcz57_1, hcz57_2, hcz57_3, hcz57_4, hcz57_5, hcz57_6, hcz57_7, hcz57_8, hcz57_9, hcz57_10, hcz57_11, hcz57_12, hfz57_0, hfz57_1, hfz57_2, hfz57_3, hfz57_4, hfz57_5, hfz57_6, hfz57_7, hfz57_8, hfz57_9, hfz57_10, hfz57_11, hfz57_12⟩ := cl13 BK613.out; have hnb58 := NB583_584.out; have hnc58 := NB584_583.out; obtain ⟨hcz59_0, hcz59_1, hcz59_2, hcz59_3, hcz59_4, hcz59_5, hcz59_6, hcz59_7, hcz59_8, hcz59_9, hcz59_10, hcz59_11, hcz59_12, hfz59_0, hfz59_1, hfz59_2, hfz59_3, hfz59_4, hfz59_5, hfz59_6, hfz59_7, hfz59_8, hfz59_9, hfz59_10, hfz59_11, hfz59_12⟩ := cl13 BK583.out; obtain ⟨hcz60_0, hcz60_1, hcz60_2, hcz60_3, hcz60_4, hcz60_5, hcz60_6, hcz60_7, hcz60_8, hcz60_9, hcz60_10, hcz60_11, hcz60_12, hfz60_0, hfz60_1, hfz60_2, hfz60_3, hfz60_4, hfz60_5, hfz60_6, hfz60_7, hfz60_8, hfz60_9, hfz60_10, hfz60_11, hfz60_12⟩ := cl13 BK584.out) | (go_at_call 25; (with_reducible refine (solsticelaw10_wakes.calls kj19  t614 _ ?side1 A48.out).mono ?_); (case side1 => exact GW.on HG.out (by repeat (first | (with_reducible first | exact HB.out | apply bA | apply bN | apply bD | refine bS ?_ GE583.out | refine bS ?_ GE584.out | refine bS ?_ GE613.out) | exact HB.out))); rintro e w61 ⟨rfl, hb⟩; have n0_ := As.mk (Kd.R_below (by (with_reducible repeat (first | apply Kd.R_alloc | apply Kd.R_drewN | apply Kd.R_drew)); exact HO598.out) hb); have n1_ := As.mk (kB (g := gb583) (o := .cells #[.int .i64 a0_0, .int .i64 a0_1, .int .i64 a0_2, .string a0_3, .string a0_4, .bool a0_5, .int .i64 a0_6, .int .i64 a0_7, .int .i64 a0_8, .int .i64 a0_9, .int .i64 a0_10, .int .i64 a0_11, .int .i64 a0_12] 45 (0, 0)) (by (with_reducible repeat (first | refine kN ?_ _ | refine kD ?_ | refine kA ?_ _)); exact BK583.out) hb); have n2_ := As.mk (kB (g := gb584) (o := .cells #[.int .i64 a1_0, .int .i64 a1_1, .int .i64 a1_2, .string a1_3, .string a1_4, .bool a1_5, .int .i64 a1_6, .int .i64 a1_7, .int .i64 a1_8, .int .i64 a1_9, .int .i64 a1_10, .int .i64 a1_11, .int .i64 a1_12] 45 (0, 0)) (by (with_reducible repeat (first | refine kN ?_ _ | refine kD ?_ | refine kA ?_ _)); exact BK584.out) hb); have n3_ := As.mk (kB (g := gb613) (o := .cells #[.int .i64 t599, .int .i64 t600, .int .i64 t601, .string t602, .string t603, .bool t604, .int .i64 t605, .int .i64 t606, .int .i64 t607, .int .i64 t608, .int .i64 t609, .int .i64 t610, .int .i64 t611] 45 (0, 0)) (by (with_reducible repeat (first | refine kN ?_ _ | refine kD ?_ | refine kA ?_ _)); exact BK613.out) hb); have n4_ := As.mk (bT (by repeat (first | (with_reducible first | exact HB.out | apply bA | apply bN | apply bD | refine bS ?_ GE583.out | refine bS ?_ GE584.out | refine bS ?_ GE613.out) | exact HB.out)) hb); clear HO598; clear BK583; clear BK584; clear BK613; clear HB; have HO598 := n0_; have BK583 := n1_; have BK584 := n2_; have BK613 := n3_; have HB := n4_; clear n0_ n1_ n2_ n3_ n4_; (try clear hb); (try clear hb2); (try clear hk); (try clear hi)))
           go_ret
           exact ⟨by first | rfl | (simp [eN, eS] <;> rfl) | (simp [*, eN, eS] <;> rfl), by repeat (first | (with_reducible first | exact HB.out | apply bA | apply bN | apply bD | refine bS ?_ GE583.out | refine bS ?_ GE584.out | refine bS ?_ GE613.out) | exact HB.out)⟩
          ·rw [if_neg c47] at H
           exact absurd H (by simp)
         ·rw [if_neg c46] at H
          exact absurd H (by simp)
        ·rw [if_neg c45] at H
         exact absurd H (by simp)
       ·rw [if_neg c44] at H
        exact absurd H (by simp)
end Go.Proofs.YtfhemdnjoedioaaGreatDoor.X
end
section
namespace Go.Proofs.YtfhemdnjoedioaaGreatDoor.X
open Go.RowKit Go.Proofs.YtfhemdnjoedioaaGreatDoorW.PrintWords Go.Proofs.YtfhemdnjoedioaaGreatDoorW.PrintLast Go.Proofs.YtfhemdnjoedioaaGreatDoorW.PrintMore
set_option linter.unusedVariables false
set_option linter.unusedSimpArgs false
theorem wrap_idd {x : Int} (h0 : -9223372036854775808 ≤ x) (h1 : x < 9223372036854775808) : wrap64 x = x := by unfold wrap64; omega
def isDg (b : UInt8) : Bool := decide (48 ≤ b.toNat) && decide (b.toNat ≤ 57)
theorem isDg_iff {b : UInt8} : isDg b = true ↔ 48 ≤ b.toNat ∧ b.toNat ≤ 57 := by unfold isDg; simp
def valL : List UInt8 → Nat → Nat
  | [], a => a
  | b :: l, a => valL l (10 * a + (b.toNat - 48))
theorem valL_append (l m : List UInt8) (a : Nat) : valL (l ++ m) a = valL m (valL l a) := by
  induction l generalizing a with
  | nil => rfl
  | cons b l ih => exact ih _
theorem valL_lt (l : List UInt8) (hd : ∀ b ∈ l, isDg b = true) (a : Nat) : valL l a < (a + 1) * 10 ^ l.length := by
  induction l generalizing a with
  | nil => simp [valL]
  | cons b l ih =>
    have hb := isDg_iff.mp (hd b (List.mem_cons_self ..))
    have h := ih (fun c hc => hd c (List.mem_cons_of_mem _ hc)) (10 * a + (b.toNat - 48))
    rw [List.length_cons, Nat.pow_succ]
    show valL l (10 * a + (b.toNat - 48)) < _
    refine Nat.lt_of_lt_of_le h ?_
    rw [show (a + 1) * (10 ^ l.length * 10) = (10 * (a + 1)) * 10 ^ l.length by rw [Nat.mul_comm (10 ^ l.length) 10, ← Nat.mul_assoc, Nat.mul_comm (a + 1) 10]]
    exact Nat.mul_le_mul_right _ (by omega)
theorem bt_list (l : List UInt8) (i : Nat) (h : i < l.length) : bt ⟨l.toArray⟩ (i : Int) = (l[i].toNat : Int) := by
  unfold bt
  have hi : ((i : Int)).toNat < (⟨l.toArray⟩ : ByteArray).size := by
    show ((i : Int)).toNat < l.toArray.size
    simpa using h
  rw [dif_pos hi]
  rfl
theorem size_list (l : List UInt8) : (⟨l.toArray⟩ : ByteArray).size = l.length := by
  show l.toArray.size = _
  simp
theorem parse_loop (l : List UInt8) (hd : ∀ b ∈ l, isDg b = true) (hl : l.length ≤ 18) (d : Nat) : ∀ (i k : Nat), i ≤ l.length → d = l.length - i → d < k →
    num_Parse.l0 k ⟨l.toArray⟩ ((valL (l.take i) 0 : Nat) : Int) (l.length : Int) (i : Int) = some (((valL l 0 : Nat) : Int), true) := by
  induction d with
  | zero =>
    intro i k hi he hk
    obtain ⟨k, rfl⟩ : ∃ m, k = m + 1 := ⟨k - 1, by omega⟩
    simp only [num_Parse.l0]
    rw [if_neg (by omega), List.take_of_length_le (by omega)]
  | succ d ih =>
    intro i k hi he hk
    obtain ⟨k, rfl⟩ : ∃ m, k = m + 1 := ⟨k - 1, by omega⟩
    have hlt : i < l.length := by omega
    have hb := isDg_iff.mp (hd l[i] (List.getElem_mem hlt))
    have hv := valL_lt (l.take i) (fun b hb => hd b (List.mem_of_mem_take hb)) 0
    rw [List.length_take, Nat.min_eq_left (by omega)] at hv
    have hp : 10 ^ i ≤ 10 ^ 17 := Nat.pow_le_pow_right (by decide) (by omega)
    have hp' : (10 : Nat) ^ 17 = 100000000000000000 := by decide
    have hv' : valL (l.take i) 0 < 100000000000000000 := by omega
    simp only [num_Parse.l0]
    rw [if_pos (by omega), if_pos (by omega), if_pos (by rw [size_list]; omega), bt_list l i hlt, if_neg (by omega), if_neg (by omega)]
    have e : wrap64 (wrap64 (10 * ((valL (l.take i) 0 : Nat) : Int)) + ((l[i].toNat : Int) - 48) % 256) = ((valL (l.take (i + 1)) 0 : Nat) : Int) := by
      rw [List.take_succ_eq_append_getElem hlt, valL_append]
      show _ = ((10 * valL (l.take i) 0 + (l[i].toNat - 48) : Nat) : Int)
      rw [wrap_idd (x := 10 * ((valL (l.take i) 0 : Nat) : Int)) (by omega) (by omega), wrap_idd (by omega) (by omega)]
      omega
    rw [e, wrap_idd (x := (i : Int) + 1) (by omega) (by omega)]
    exact ih (i + 1) k (by omega) (by omega) (by omega)
theorem parse_digits (l : List UInt8) (hd : ∀ b ∈ l, isDg b = true) (h1 : 1 ≤ l.length) (hl : l.length ≤ 18) (k : Nat) (hk : 20 ≤ k) : num_Parse.f k ⟨l.toArray⟩ = some (((valL l 0 : Nat) : Int), true) := by
  obtain ⟨k, rfl⟩ : ∃ m, k = m + 1 := ⟨k - 1, by omega⟩
  unfold num_Parse.f
  rw [if_neg (by rw [size_list]; omega)]
  simp only [num_Parse.j0]
  rw [if_neg (by rw [size_list]; simp; omega), size_list]
  exact parse_loop l hd hl l.length 0 k (by omega) (by omega) (by omega)
theorem dec_dg (n : Nat) : ∀ b ∈ Lib.decDigits n, isDg b = true := by
  induction n using Nat.strongRecOn with
  | _ n ih =>
    intro b hb
    by_cases h : n < 10
    · rw [Lib.decDigits_one h, List.mem_singleton] at hb
      subst hb
      rw [isDg_iff]
      simp
      omega
    · rw [Lib.decDigits, dif_neg h] at hb
      rcases List.mem_append.mp hb with hb | hb
      · exact ih (n / 10) (by omega) b hb
      · rw [List.mem_singleton] at hb
        subst hb
        rw [isDg_iff]
        simp
        omega
theorem dec_val (n : Nat) : valL (Lib.decDigits n) 0 = n := by
  induction n using Nat.strongRecOn with
  | _ n ih =>
    by_cases h : n < 10
    · rw [Lib.decDigits_one h]
      show 10 * 0 + ((UInt8.ofNat (48 + n)).toNat - 48) = n
      simp
      omega
    · rw [Lib.decDigits, dif_neg h, valL_append, ih (n / 10) (by omega)]
      show 10 * (n / 10) + ((UInt8.ofNat (48 + n % 10)).toNat - 48) = n
      simp
      omega
theorem dec_pos (n : Nat) : 1 ≤ (Lib.decDigits n).length := by rw [Lib.decDigits_length]; exact Lib.nDigits_pos n
theorem nDigits_le (m : Nat) : ∀ n, n < 10 ^ m → 1 ≤ m → Lib.nDigits n ≤ m := by
  induction m with
  | zero => intro n _ h; omega
  | succ m ih =>
    intro n hn _
    by_cases h : n < 10
    · rw [Lib.nDigits_small h]; omega
    · rw [Lib.nDigits_big h]
      rw [Nat.pow_succ] at hn
      by_cases hm : m = 0
      · subst hm; simp at hn; omega
      · have := ih (n / 10) (by omega) (by omega)
        omega
theorem parse_dec (n : Nat) (hn : n < 1000000000000000000) (k : Nat) (hk : 20 ≤ k) : num_Parse.f k ⟨(Lib.decDigits n).toArray⟩ = some ((n : Int), true) := by
  have h := parse_digits (Lib.decDigits n) (dec_dg n) (dec_pos n) (by rw [Lib.decDigits_length]; exact nDigits_le 18 n (by simpa using hn) (by decide)) k hk
  rw [dec_val] at h
  exact h
abbrev B (l : List UInt8) : ByteArray := ⟨l.toArray⟩
theorem B_data (l : List UInt8) : (B l).data.toList = l := by simp [B]
theorem B_toList (l : List UInt8) : (B l).toList = l := by rw [ByteArray.toList_eq]
theorem B_of (s : ByteArray) : s = B s.data.toList := rfl
theorem B_append (l m : List UInt8) : B l ++ B m = B (l ++ m) := by apply ByteArray.ext; rw [ByteArray.data_append]; simp [B]
theorem B_size (l : List UInt8) : (B l).size = l.length := size_list l
theorem B_take (l : List UInt8) (a : Nat) : (B l).extract 0 a = B (l.take a) := by
  rw [B_of ((B l).extract 0 a), Lib.extract_from_zero, B_data]
theorem B_drop (l : List UInt8) (a : Nat) : (B l).extract a (B l).size = B (l.drop a) := by
  rw [B_of ((B l).extract a (B l).size), Lib.extract_to_end, B_data]
theorem index_in (c : UInt8) (a r : List UInt8) (h : c ∉ a) : Lib.index (a ++ c :: r) [c] = a.length := by
  induction a with
  | nil => simp [Lib.index, List.isPrefixOf]
  | cons b a ih =>
    have hb : (c == b) = false := by rw [beq_eq_false_iff_ne]; intro e; exact h (e ▸ List.mem_cons_self ..)
    have ih' := ih (fun hc => h (List.mem_cons_of_mem _ hc))
    simp only [List.cons_append, Lib.index, List.isPrefixOf, hb, Bool.false_and, ih']
    rw [if_neg (by decide), if_neg (by simp <;> omega)]
    simp
theorem index_no (c : UInt8) (a : List UInt8) (h : c ∉ a) : Lib.index a [c] = -1 := by
  induction a with
  | nil => rfl
  | cons b a ih =>
    have hb : (c == b) = false := by rw [beq_eq_false_iff_ne]; intro e; exact h (e ▸ List.mem_cons_self ..)
    have ih' := ih (fun hc => h (List.mem_cons_of_mem _ hc))
    simp only [Lib.index, List.isPrefixOf, hb, Bool.false_and, ih']
    rw [if_neg (by decide)]
    rfl
def sp (l : List UInt8) : List ByteArray := Lib.splitB ⟨#[58]⟩ 0 (Lib.countB (B l) ⟨#[58]⟩) (B l)
theorem split_sp (l : List UInt8) (h : l.length < 1000000) : strings_Split.f (B l) ⟨#[58]⟩ = some (sp l) := by
  have h1 : 1 ≤ (⟨#[58]⟩ : ByteArray).size := by decide
  have hc := Lib.countB_le (⟨#[58]⟩ : ByteArray) h1 (B l).size (B l) (Nat.le_refl _)
  rw [B_size] at hc
  unfold strings_Split.f
  rw [if_pos (by rw [B_size]; omega), if_pos h1, if_pos (Lib.splitB_all _ h1 0 _ _ rfl), if_pos (by omega)]
  rfl
theorem sp_no (a : List UInt8) (h : (58 : UInt8) ∉ a) : sp a = [B a] := by
  have hi : Lib.indexB (B a) ⟨#[58]⟩ = -1 := by
    show Lib.index (B a).data.toList [58] = -1
    rw [B_data]
    exact index_no 58 a h
  unfold sp
  rw [Lib.countB_miss _ _ hi]
  rfl
theorem sp_cons (a r : List UInt8) (h : (58 : UInt8) ∉ a) : sp (a ++ 58 :: r) = B a :: sp r := by
  have hi : Lib.indexB (B (a ++ 58 :: r)) ⟨#[58]⟩ = (a.length : Nat) := by
    show Lib.index (B (a ++ 58 :: r)).data.toList [58] = _
    rw [B_data]
    exact index_in 58 a r h
  have e : (B (a ++ 58 :: r)).extract (a.length + 1) (B (a ++ 58 :: r)).size = B r := by
    rw [B_drop]
    congr 1
    rw [← List.drop_drop, List.drop_left]
    rfl
  have e2 : (B (a ++ 58 :: r)).extract 0 a.length = B a := by
    rw [B_take, List.take_left]
  unfold sp
  rw [Lib.countB_hit _ _ a.length (by decide) hi, show (⟨#[58]⟩ : ByteArray).size = 1 from rfl, e, Nat.add_comm, Lib.splitB_hit _ 0 _ _ a.length hi, show (⟨#[58]⟩ : ByteArray).size = 1 from rfl, e, Nat.add_zero, e2]
def two (m : Nat) : List UInt8 := [UInt8.ofNat (48 + m / 10), UInt8.ofNat (48 + m % 10)]
theorem text_two : ((List.range 60).all fun m => decide (num_Text.f (m : Int) 2 = some (B (two m)))) = true := by decide +kernel
theorem part_two : ((List.range 60).all fun m => decide (clock_part.f 30 (B (two m)) 1 = some ((m : Int), true)) && decide (clock_part.f 30 (B (two m)) 2 = some ((m : Int), true)) && decide ((58 : UInt8) ∉ two m)) = true := by decide +kernel
theorem all_at {p : Nat → Bool} {n : Nat} (h : ((List.range n).all p) = true) (m : Nat) (hm : m < n) : p m = true := List.all_eq_true.mp h m (List.mem_range.mpr hm)
theorem text_two_at (m : Nat) (h : m < 60) : num_Text.f (m : Int) 2 = some (B (two m)) := of_decide_eq_true (all_at text_two m h)
theorem part_two_at (m : Nat) (h : m < 60) (k : Nat) (hk : 30 ≤ k) : clock_part.f k (B (two m)) 1 = some ((m : Int), true) ∧ clock_part.f k (B (two m)) 2 = some ((m : Int), true) ∧ (58 : UInt8) ∉ two m := by
  have := all_at part_two m h
  simp only [Bool.and_eq_true, decide_eq_true_eq] at this
  exact ⟨at_rounds (g := fun k => clock_part.f k (B (two m)) 1) (fun k => clock_part.mono _ _ k) hk this.1.1, at_rounds (g := fun k => clock_part.f k (B (two m)) 2) (fun k => clock_part.mono _ _ k) hk this.1.2, this.2⟩
theorem text_one (n : Nat) (h : n < 1000000000000000000) : num_Text.f (n : Int) 1 = some (B (Lib.decDigits n)) := by
  unfold num_Text.f strconv_Itoa.f
  have hi : Lib.itoa (n : Int) = Lib.decDigits n := by unfold Lib.itoa; rw [if_neg (by omega)]; simp
  have hp := dec_pos n
  rw [if_neg (by omega), if_pos (by omega), if_pos (by omega), hi, Option.bind_some, if_neg (by decide), if_neg (by decide), if_pos (by rw [size_list]; omega)]
def ctx (n : Nat) : List UInt8 := Lib.decDigits (n / 3600) ++ (if n % 3600 = 0 then [] else 58 :: two (n % 3600 / 60)) ++ (if n % 60 = 0 then [] else 58 :: two (n % 60))
def sgnd (s : Int) : List UInt8 := (if s < 0 then [45] else []) ++ ctx s.natAbs
theorem dec_len (n : Nat) (h : n < 1000) : (Lib.decDigits n).length ≤ 3 := by rw [Lib.decDigits_length]; exact nDigits_le 3 n (by simpa using h) (by decide)
theorem ctx_len (n : Nat) (h : n ≤ 345600) : (ctx n).length ≤ 9 := by
  have := dec_len (n / 3600) (by omega)
  unfold ctx two
  split <;> split <;> simp <;> omega
theorem ctext_j1 (n : Nat) (hn : n ≤ 345600) (p : List UInt8) (hp : p.length ≤ 1) (k : Nat) : clock_Text.j1 (k + 1) (n : Int) (B p) = some (B (p ++ ctx n), 0) := by
  have hd := dec_len (n / 3600) (by omega)
  simp only [clock_Text.j1]
  have e1 : wrap64 (Int.tdiv (n : Int) 3600) = ((n / 3600 : Nat) : Int) := by rw [Int.tdiv_eq_ediv_of_nonneg (by omega), wrap_idd (by omega) (by omega)]; omega
  have e2 : Int.tmod (n : Int) 3600 = ((n % 3600 : Nat) : Int) := by rw [Int.tmod_eq_emod_of_nonneg (by omega)]; omega
  have e3 : Int.tmod (n : Int) 60 = ((n % 60 : Nat) : Int) := by rw [Int.tmod_eq_emod_of_nonneg (by omega)]; omega
  have e4 : wrap64 (Int.tdiv ((n % 3600 : Nat) : Int) 60) = ((n % 3600 / 60 : Nat) : Int) := by rw [Int.tdiv_eq_ediv_of_nonneg (by omega), wrap_idd (by omega) (by omega)]; omega
  rw [e1, e2, e3, e4, text_one _ (by omega), text_two_at _ (by omega), text_two_at _ (by omega)]
  simp only [Option.bind_some]
  rw [if_pos (by rw [B_size, B_size]; omega), B_append]
  have ec : ∀ m, (⟨#[58]⟩ : ByteArray) ++ B (two m) = B (58 :: two m) := fun m => B_append [58] (two m)
  simp only [ec, B_append, B_size]
  unfold ctx
  by_cases h1 : n % 3600 = 0
  · have h2 : n % 60 = 0 := by omega
    rw [if_pos (by omega), if_pos (by omega), if_pos h1, if_pos h2, List.append_nil, List.append_nil]
  · rw [if_neg (by omega), if_neg h1, if_pos (by simp [two]), if_pos (by simp [two]; omega)]
    by_cases h2 : n % 60 = 0
    · rw [if_pos (by omega), if_pos h2, List.append_nil, List.append_assoc]
    · rw [if_neg (by omega), if_neg h2, if_pos (by simp [two]), if_pos (by simp [two]; omega)]
      simp only [List.append_assoc]
theorem ctext_eq (s : Int) (h0 : -345600 ≤ s) (h1 : s ≤ 345600) (k : Nat) (hk : 5 ≤ k) : clock_Text.f k s = some (B (sgnd s), 0) := by
  obtain ⟨k, rfl⟩ : ∃ m, k = m + 2 := ⟨k - 2, by omega⟩
  unfold clock_Text.f
  rw [if_neg (by omega), decide_eq_false (by omega)]
  simp only [clock_Text.j0]
  rw [if_neg (by decide)]
  unfold sgnd
  by_cases h : s < 0
  · rw [if_pos h, if_pos h, wrap_idd (by omega) (by omega), show -s = ((s.natAbs : Nat) : Int) by omega]
    exact ctext_j1 s.natAbs (by omega) [45] (by decide) k
  · rw [if_neg h, if_neg h, show s = ((s.natAbs : Nat) : Int) by omega]
    exact ctext_j1 s.natAbs (by omega) [] (by decide) k
theorem prefix_eq (l : List UInt8) (h : l.length < 1000000) : strings_CutPrefix.f (B l) ⟨#[45]⟩ = some (if l.take 1 = [45] then (B (l.drop 1), true) else (B l, false)) := by
  unfold strings_CutPrefix.f stringslite_CutPrefix.f stringslite_HasPrefix.f
  have hs : ((⟨#[45]⟩ : ByteArray).size : Int) = 1 := rfl
  rw [hs, B_size]
  by_cases h1 : (l.length : Int) ≥ 1
  · rw [if_pos h1, if_pos (by decide), if_pos h1, Option.bind_some, show ((1 : Int)).toNat = 1 from rfl, B_take, B_toList, show (⟨#[45]⟩ : ByteArray).toList = [45] by decide +kernel]
    by_cases h2 : l.take 1 = [45]
    · rw [if_pos h2, if_pos (by rw [h2]; rfl), if_pos (by decide), if_pos h1, Option.bind_some, ← B_size l, B_drop]
    · rw [if_neg h2, if_neg (by simpa using h2), Option.bind_some]
  · rw [if_neg h1, Option.bind_some, if_neg (by decide), Option.bind_some]
    have : l = [] := List.eq_nil_of_length_eq_zero (by omega)
    subst this
    rfl
theorem dec_no58 (n : Nat) : (58 : UInt8) ∉ Lib.decDigits n := by
  intro h
  have := dec_dg n 58 h
  revert this
  decide
theorem dec_head (n : Nat) : ∃ b l, Lib.decDigits n = b :: l ∧ isDg b = true := by
  have h := dec_pos n
  cases e : Lib.decDigits n with
  | nil => rw [e] at h; simp at h
  | cons b l => exact ⟨b, l, rfl, dec_dg n b (by rw [e]; exact List.mem_cons_self ..)⟩
theorem part_dec (n : Nat) (h : n < 1000) (k : Nat) (hk : 20 ≤ k) : clock_part.f k (B (Lib.decDigits n)) 0 = some ((n : Int), true) := by
  have hl := dec_len n h
  unfold clock_part.f
  rw [parse_dec n (by omega) k hk, Option.bind_some, if_pos rfl, if_pos rfl, B_size, decide_eq_true (by omega)]
def parts (n : Nat) : List ByteArray := B (Lib.decDigits (n / 3600)) :: ((if n % 3600 = 0 then [] else [B (two (n % 3600 / 60))]) ++ (if n % 60 = 0 then [] else [B (two (n % 60))]))
theorem sp_ctx (n : Nat) : sp (ctx n) = parts n := by
  unfold ctx parts
  have t1 := (part_two_at (n % 3600 / 60) (by omega) 30 (by decide)).2.2
  have t2 := (part_two_at (n % 60) (by omega) 30 (by decide)).2.2
  by_cases h1 : n % 3600 = 0
  · have h2 : n % 60 = 0 := by omega
    rw [if_pos h1, if_pos h2, if_pos h1, if_pos h2, List.append_nil, List.append_nil, sp_no _ (dec_no58 _)]
    rfl
  · rw [if_neg h1, if_neg h1]
    by_cases h2 : n % 60 = 0
    · rw [if_pos h2, if_pos h2, List.append_nil, sp_cons _ _ (dec_no58 _), sp_no _ t1]
      rfl
    · rw [if_neg h2, if_neg h2, List.append_assoc, List.cons_append, sp_cons _ _ (dec_no58 _), sp_cons _ _ t1, sp_no _ t2]
      rfl
theorem cparse_l0 (n : Nat) (hn : n ≤ 345600) (x5 : Bool) (k : Nat) (hk : 40 ≤ k) : clock_Parse.l0 k x5 0 3600 (parts n) ((parts n).length : Int) 0 = some (if x5 = true then -(n : Int) else (n : Int), 0) := by
  obtain ⟨k, rfl⟩ : ∃ m, k = m + 4 := ⟨k - 4, by omega⟩
  have p0 : ∀ q, 30 ≤ q → clock_part.f q (B (Lib.decDigits (n / 3600))) 0 = some (((n / 3600 : Nat) : Int), true) := fun q hq => part_dec _ (by omega) q (by omega)
  have p1 : ∀ q, 30 ≤ q → clock_part.f q (B (two (n % 3600 / 60))) 1 = some (((n % 3600 / 60 : Nat) : Int), true) := fun q hq => (part_two_at (n % 3600 / 60) (by omega) q hq).1
  have p2 : ∀ q, 30 ≤ q → clock_part.f q (B (two (n % 60))) 2 = some (((n % 60 : Nat) : Int), true) := fun q hq => (part_two_at (n % 60) (by omega) q hq).2.1
  have d1 : wrap64 (Int.tdiv 3600 60) = 60 := by kernel_rfl
  have d2 : wrap64 (Int.tdiv 60 60) = 1 := by kernel_rfl
  have d3 : wrap64 (Int.tdiv 1 60) = 0 := by kernel_rfl
  have w1 : wrap64 (0 + 1) = 1 := by kernel_rfl
  have w2 : wrap64 (1 + 1) = 2 := by kernel_rfl
  have w3 : wrap64 (2 + 1) = 3 := by kernel_rfl
  have e0 : wrap64 (0 + wrap64 (((n / 3600 : Nat) : Int) * 3600)) = ((n / 3600 * 3600 : Nat) : Int) := by rw [wrap_idd (x := ((n / 3600 : Nat) : Int) * 3600) (by omega) (by omega), wrap_idd (by omega) (by omega)]; omega
  have ef : ∀ (v : Nat), v = n → (if (v : Int) > 345600 then (some (0, 5) : Option (Int × Int)) else (if x5 = true then some (wrap64 (-(v : Int)), 0) else some ((v : Int), 0))) = some (if x5 = true then -(n : Int) else (n : Int), 0) := by
    intro v hv
    subst hv
    rw [if_neg (by omega)]
    cases x5
    · rfl
    · rw [if_pos rfl, if_pos rfl, wrap_idd (by omega) (by omega)]
  unfold parts
  by_cases h1 : n % 3600 = 0
  · have h2 : n % 60 = 0 := by omega
    rw [if_pos h1, if_pos h2]
    simp only [List.append_nil, clock_Parse.l0]
    rw [if_pos (by show (0 : Int) < 1; decide), if_pos (by decide), if_pos (by show (0 : Int) < 1; decide), show rdOf ByteArray.empty [B (Lib.decDigits (n / 3600))] 0 = B (Lib.decDigits (n / 3600)) from rfl, p0 _ (by omega), Option.bind_some, if_pos rfl, w1, if_neg (by show ¬ (1 : Int) < 1; decide), e0]
    exact ef _ (by omega)
  · rw [if_neg h1]
    have e1 : wrap64 (((n / 3600 * 3600 : Nat) : Int) + wrap64 (((n % 3600 / 60 : Nat) : Int) * 60)) = ((n / 60 * 60 : Nat) : Int) := by rw [wrap_idd (x := ((n % 3600 / 60 : Nat) : Int) * 60) (by omega) (by omega), wrap_idd (by omega) (by omega)]; omega
    by_cases h2 : n % 60 = 0
    · rw [if_pos h2]
      simp only [List.append_nil, clock_Parse.l0]
      rw [if_pos (by show (0 : Int) < 2; decide), if_pos (by decide), if_pos (by show (0 : Int) < 2; decide), show rdOf ByteArray.empty [B (Lib.decDigits (n / 3600)), B (two (n % 3600 / 60))] 0 = B (Lib.decDigits (n / 3600)) from rfl, p0 _ (by omega), Option.bind_some, if_pos rfl, w1, d1, e0, if_pos (by show (1 : Int) < 2; decide), if_pos (by decide), if_pos (by show (1 : Int) < 2; decide),
        show rdOf ByteArray.empty [B (Lib.decDigits (n / 3600)), B (two (n % 3600 / 60))] 1 = B (two (n % 3600 / 60)) from rfl, p1 _ (by omega), Option.bind_some, if_pos rfl, w2, e1, if_neg (by show ¬ (2 : Int) < 2; decide)]
      exact ef _ (by omega)
    · rw [if_neg h2]
      have e2 : wrap64 (((n / 60 * 60 : Nat) : Int) + wrap64 (((n % 60 : Nat) : Int) * 1)) = (n : Int) := by rw [wrap_idd (x := ((n % 60 : Nat) : Int) * 1) (by omega) (by omega), wrap_idd (by omega) (by omega)]; omega
      simp only [List.cons_append, List.nil_append, clock_Parse.l0]
      rw [if_pos (by show (0 : Int) < 3; decide), if_pos (by decide), if_pos (by show (0 : Int) < 3; decide), show rdOf ByteArray.empty [B (Lib.decDigits (n / 3600)), B (two (n % 3600 / 60)), B (two (n % 60))] 0 = B (Lib.decDigits (n / 3600)) from rfl, p0 _ (by omega), Option.bind_some, if_pos rfl, w1, d1, e0, if_pos (by show (1 : Int) < 3; decide), if_pos (by decide), if_pos (by show (1 : Int) < 3; decide),
        show rdOf ByteArray.empty [B (Lib.decDigits (n / 3600)), B (two (n % 3600 / 60)), B (two (n % 60))] 1 = B (two (n % 3600 / 60)) from rfl, p1 _ (by omega), Option.bind_some, if_pos rfl, w2, d2, e1, if_pos (by show (2 : Int) < 3; decide), if_pos (by decide), if_pos (by show (2 : Int) < 3; decide),
        show rdOf ByteArray.empty [B (Lib.decDigits (n / 3600)), B (two (n % 3600 / 60)), B (two (n % 60))] 2 = B (two (n % 60)) from rfl, p2 _ (by omega), Option.bind_some, if_pos rfl, w3, e2, if_neg (by show ¬ (3 : Int) < 3; decide)]
      exact ef _ rfl
theorem ctx_head (n : Nat) : ∃ b l, ctx n = b :: l ∧ isDg b = true := by
  obtain ⟨b, l, e, hb⟩ := dec_head (n / 3600)
  unfold ctx
  rw [e]
  exact ⟨b, _, rfl, hb⟩
theorem cparse_eq (s : Int) (h0 : -345600 ≤ s) (h1 : s ≤ 345600) (k : Nat) (hk : 40 ≤ k) : clock_Parse.f k (B (sgnd s)) = some (s, 0) := by
  have hlen := ctx_len s.natAbs (by omega)
  obtain ⟨b, l, e, hb⟩ := ctx_head s.natAbs
  have hb45 : b ≠ 45 := by rintro rfl; revert hb; decide
  have hp : (parts s.natAbs).length ≤ 3 := by unfold parts; split <;> split <;> simp
  unfold clock_Parse.f sgnd
  by_cases h : s < 0
  · rw [if_pos h, if_neg (by rw [B_toList, e]; simp), prefix_eq _ (by simp; omega)]
    rw [if_pos (by rfl), Option.bind_some]
    show ((strings_Split.f (B (ctx s.natAbs)) ⟨#[58]⟩).bind fun t258 => if (t258.length : Int) > 3 then some (0, 5) else clock_Parse.l0 k true 0 3600 t258 (t258.length : Int) 0) = _
    rw [split_sp _ (by omega), sp_ctx, Option.bind_some, if_neg (by omega), cparse_l0 s.natAbs (by omega) true k hk, if_pos rfl]
    congr 2
    omega
  · rw [if_neg h, List.nil_append, if_neg (by rw [B_toList, e]; intro h'; injection h' with h' _; exact hb45 h'), prefix_eq _ (by omega), if_neg (by rw [e]; intro h'; injection h' with h' _; exact hb45 h'), Option.bind_some]
    show ((strings_Split.f (B (ctx s.natAbs)) ⟨#[58]⟩).bind fun t258 => if (t258.length : Int) > 3 then some (0, 5) else clock_Parse.l0 k false 0 3600 t258 (t258.length : Int) 0) = _
    rw [split_sp _ (by omega), sp_ctx, Option.bind_some, if_neg (by omega), cparse_l0 s.natAbs (by omega) false k hk, if_neg (by decide)]
    congr 2
    omega
def alnum (c : Int) : Bool := (decide (48 ≤ c) && decide (c ≤ 57)) || (decide (97 ≤ c) && decide (c ≤ 122)) || (decide (65 ≤ c) && decide (c ≤ 90))
def sgn (l : List Int) (c : Int) : Bool := alnum c || l.contains c
def nameO : List Int := [95, 43, 45, 47]
theorem sign_name : ((List.range 256).all fun c => decide (rule_sign.f (c : Int) ⟨#[95, 43, 45, 47]⟩ = some (sgn nameO c))) = true := by decide +kernel
theorem of_range {p : Nat → Bool} {n : Nat} (h : ((List.range n).all p) = true) (c : Int) (h0 : 0 ≤ c) (h1 : c < n) : p c.toNat = true := List.all_eq_true.mp h c.toNat (List.mem_range.mpr (by omega))
theorem sign_name_at (c : Int) (h0 : 0 ≤ c) (h1 : c ≤ 255) : rule_sign.f c ⟨#[95, 43, 45, 47]⟩ = some (sgn nameO c) := by
  have := of_decide_eq_true (of_range sign_name c h0 (by omega))
  rwa [Int.toNat_of_nonneg h0] at this
def bts (s : ByteArray) : List Int := s.data.toList.map fun b => (b.toNat : Int)
theorem bts_length (s : ByteArray) : (bts s).length = s.size := by simp only [bts, List.length_map, Array.length_toList]; rfl
theorem bts_drop (s : ByteArray) (i : Nat) (h : i < s.size) : (bts s).drop i = bt s i :: (bts s).drop (i + 1) := by
  have hl : i < (bts s).length := by rw [bts_length]; exact h
  rw [List.drop_eq_getElem_cons hl]
  congr 1
  have hi : ((i : Int)).toNat < s.size := by simpa using h
  have e : bt s i = ((s[i]'h).toNat : Int) := by
    unfold bt
    rw [dif_pos hi]
    rfl
  rw [e]
  simp only [bts, List.getElem_map]
  rfl
theorem all_loop (s o : ByteArray) (l : List Int) (hs : s.size ≤ 1000000) (ho : ∀ c, 0 ≤ c → c ≤ 255 → rule_sign.f c o = some (sgn l c)) (d : Nat) : ∀ (i k : Nat), i ≤ s.size → d = s.size - i → d < k →
    rule_all.l0 k s o (s.size : Int) (i : Int) = some (((bts s).drop i).all (sgn l)) := by
  induction d with
  | zero =>
    intro i k hi hd hk
    obtain ⟨k, rfl⟩ : ∃ m, k = m + 1 := ⟨k - 1, by omega⟩
    simp only [rule_all.l0]
    rw [if_neg (by omega), List.drop_eq_nil_of_le (by rw [bts_length]; omega)]
    rfl
  | succ d ih =>
    intro i k hi hd hk
    obtain ⟨k, rfl⟩ : ∃ m, k = m + 1 := ⟨k - 1, by omega⟩
    have hlt : i < s.size := by omega
    have b1 := bt_range s i
    simp only [rule_all.l0]
    rw [if_pos (by omega), if_pos (by omega), if_pos (by omega), ho _ b1.1 b1.2, Option.bind_some, bts_drop s i hlt, List.all_cons]
    cases e : sgn l (bt s i) with
    | true =>
      rw [if_pos rfl, wrap_idd (by omega) (by omega), show ((i : Int) + 1) = ((i + 1 : Nat) : Int) from by omega, ih (i + 1) k (by omega) (by omega) (by omega), Bool.true_and]
    | false => rw [if_neg (by decide), Bool.false_and]
theorem all_eq (s o : ByteArray) (l : List Int) (hs : s.size ≤ 1000000) (ho : ∀ c, 0 ≤ c → c ≤ 255 → rule_sign.f c o = some (sgn l c)) (k : Nat) (hk : s.size < k) : rule_all.f k s o = some ((bts s).all (sgn l)) := by
  unfold rule_all.f
  have := all_loop s o l hs ho s.size 0 k (by omega) (by omega) hk
  simpa using this
def headOk (c : Int) : Bool := !(decide (48 ≤ c) && decide (c ≤ 57)) && (c != 43 && c != 45)
def nameB (s : ByteArray) : Bool := decide (1 ≤ s.size) && decide (s.size ≤ 40) && (bts s).all (sgn nameO) && headOk (bt s 0)
theorem digit_eq (c : Int) : rule_digit.f c = some (decide (48 ≤ c) && decide (c ≤ 57)) := by
  unfold rule_digit.f
  by_cases h : c ≥ 48
  · rw [if_pos h, decide_eq_true h, Bool.true_and]
  · rw [if_neg h, decide_eq_false h, Bool.false_and]
theorem name_eq (s : ByteArray) (hs : s.size ≤ 1000000) (k : Nat) (hk : 1000 < k) : rule_Name.f k s = some (nameB s) := by
  unfold rule_Name.f nameB
  by_cases h1 : (s.size : Int) < 1
  · rw [if_pos h1, decide_eq_false (show ¬ 1 ≤ s.size by omega)]; simp
  · rw [if_neg h1, decide_eq_true (show 1 ≤ s.size by omega)]
    by_cases h2 : (s.size : Int) > 40
    · rw [if_pos h2, decide_eq_false (show ¬ s.size ≤ 40 by omega)]; simp
    · rw [if_neg h2, decide_eq_true (show s.size ≤ 40 by omega), all_eq s _ nameO hs sign_name_at k (by omega), Option.bind_some]
      cases e : (bts s).all (sgn nameO) with
      | false => rw [if_neg (by decide)]; simp
      | true =>
        rw [if_pos rfl, if_pos (by omega), digit_eq, Option.bind_some]
        unfold headOk
        cases e2 : (decide (48 ≤ bt s 0) && decide (bt s 0 ≤ 57)) with
        | true => rw [if_pos rfl]; simp
        | false =>
          rw [if_neg (by decide)]
          by_cases h3 : bt s 0 = 43
          · rw [if_pos h3, h3]; simp
          · rw [if_neg h3]
            have : (bt s 0 != 43) = true := by simpa using h3
            rw [this]
            simp
def onB (k w d : Int) : Bool := (k == 1 && (decide (1 ≤ d) && decide (d ≤ 31)) && w == 0) || (k == 2 && d == 0 && (decide (0 ≤ w) && decide (w ≤ 6))) || ((k == 3 || k == 4) && (decide (1 ≤ d) && decide (d ≤ 31)) && (decide (0 ≤ w) && decide (w ≤ 6)))
def atB (s k : Int) : Bool := (decide (-345600 ≤ s) && decide (s ≤ 345600)) && (decide (1 ≤ k) && decide (k ≤ 3))
theorem weekday_eq (c : Int) : week_weekday.f c = some (decide (0 ≤ c) && decide (c ≤ 6)) := by
  unfold week_weekday.f
  by_cases h : c ≥ 0
  · rw [if_pos h, decide_eq_true h, Bool.true_and]
    congr 1
    exact decide_eq_decide.mpr (by omega)
  · rw [if_neg h, decide_eq_false h, Bool.false_and]
theorem wcheck_eq (a b c : Int) (k : Nat) (hk : 3 ≤ k) : week_Check.f k a b c = some (if onB a b c = true then 0 else 8) := by
  obtain ⟨k, rfl⟩ : ∃ m, k = m + 2 := ⟨k - 2, by omega⟩
  have key : ∀ x3 : Bool, x3 = (decide (1 ≤ c) && decide (c ≤ 31)) → week_Check.j0 (k + 2) x3 a b c = some (if onB a b c = true then 0 else 8) := by
    intro x3 hx
    subst hx
    simp only [week_Check.j0, week_Check.j1]
    rw [weekday_eq]
    simp only [Option.bind_some]
    unfold onB
    by_cases h1 : a = 1
    · subst h1
      rw [if_pos rfl]
      by_cases h2 : (decide (1 ≤ c) && decide (c ≤ 31)) = true
      · rw [if_pos h2, h2]
        by_cases h3 : b = 0
        · rw [if_pos h3, h3]; rfl
        · rw [if_neg h3]; simp [h3]
      · rw [if_neg h2, Bool.eq_false_iff.mpr h2]; rfl
    · rw [if_neg h1]
      by_cases h2 : a = 2
      · subst h2
        rw [if_pos rfl]
        by_cases h3 : c = 0
        · rw [if_pos h3, h3]; simp; split <;> rfl
        · rw [if_neg h3]; simp [h3]
      · rw [if_neg h2]
        by_cases h3 : a = 3
        · subst h3
          rw [if_pos rfl]
          cases (decide (1 ≤ c) && decide (c ≤ 31))
          · simp
          · simp; split <;> rfl
        · rw [if_neg h3]
          by_cases h4 : a = 4
          · subst h4
            cases (decide (1 ≤ c) && decide (c ≤ 31))
            · simp
            · simp; split <;> rfl
          · simp [h1, h2, h3, h4]
  unfold week_Check.f
  by_cases h : c ≥ 1
  · rw [if_pos h]; exact key _ (by rw [decide_eq_true h, Bool.true_and])
  · rw [if_neg h]; exact key _ (by rw [decide_eq_false h, Bool.false_and])
theorem acheck_eq (a b : Int) : atform_Check.f a b = some (if atB a b = true then 0 else 9) := by
  unfold atform_Check.f atform_in.f atform_right.f atB
  rw [show wrap64 (-345600) = -345600 by kernel_rfl]
  by_cases h : a ≥ -345600
  · rw [if_pos h, Option.bind_some, decide_eq_true h, Bool.true_and]
    by_cases h2 : a ≤ 345600
    · rw [decide_eq_true h2, if_pos rfl, Bool.true_and]
      by_cases h3 : b = 1
      · subst h3; rfl
      · rw [if_neg h3]
        by_cases h4 : b = 2
        · subst h4; rfl
        · rw [if_neg h4, Option.bind_some]
          by_cases h5 : b = 3
          · subst h5; rfl
          · have e : (decide (1 ≤ b) && decide (b ≤ 3)) = false := by
              rw [Bool.eq_false_iff]; intro h'; simp at h'; omega
            rw [e]; simp [h5]
    · rw [decide_eq_false h2]; rfl
  · rw [if_neg h, Option.bind_some, decide_eq_false h]; rfl
theorem empty_of (s : ByteArray) (h : s.size = 0) : s = ⟨#[]⟩ := by
  apply ByteArray.ext
  exact Array.eq_empty_of_size_eq_zero h
theorem dec_last (n : Nat) : ∃ l b, Lib.decDigits n = l ++ [b] ∧ isDg b = true := by
  by_cases h : n < 10
  · exact ⟨[], _, by rw [Lib.decDigits_one h]; rfl, dec_dg n _ (by rw [Lib.decDigits_one h]; exact List.mem_singleton.mpr rfl)⟩
  · exact ⟨Lib.decDigits (n / 10), UInt8.ofNat (48 + n % 10), by conv => lhs; rw [Lib.decDigits, dif_neg h], dec_dg n _ (by rw [Lib.decDigits, dif_neg h]; simp)⟩
theorem two_last (m : Nat) (h : m < 60) : ∃ b c, two m = [b, c] ∧ isDg b = true ∧ isDg c = true := by
  refine ⟨_, _, rfl, ?_, ?_⟩ <;> · rw [isDg_iff]; simp; omega
theorem ctx_last (n : Nat) : ∃ l b, ctx n = l ++ [b] ∧ isDg b = true := by
  unfold ctx
  by_cases h2 : n % 60 = 0
  · rw [if_pos h2, List.append_nil]
    by_cases h1 : n % 3600 = 0
    · rw [if_pos h1, List.append_nil]; exact dec_last _
    · rw [if_neg h1]
      obtain ⟨b, c, e, _, hc⟩ := two_last (n % 3600 / 60) (by omega)
      rw [e]
      exact ⟨Lib.decDigits (n / 3600) ++ [58, b], c, by simp, hc⟩
  · rw [if_neg h2]
    obtain ⟨b, c, e, _, hc⟩ := two_last (n % 60) (by omega)
    rw [e]
    exact ⟨Lib.decDigits (n / 3600) ++ (if n % 3600 = 0 then [] else 58 :: two (n % 3600 / 60)) ++ [58, b], c, by simp, hc⟩
theorem sgnd_last (s : Int) : ∃ l b, sgnd s = l ++ [b] ∧ isDg b = true := by
  obtain ⟨l, b, e, h⟩ := ctx_last s.natAbs
  unfold sgnd
  rw [e]
  exact ⟨_, b, by rw [List.append_assoc], h⟩
theorem sgnd_len (s : Int) (h0 : -345600 ≤ s) (h1 : s ≤ 345600) : (sgnd s).length ≤ 10 := by
  have := ctx_len s.natAbs (by omega)
  unfold sgnd
  split <;> simp <;> omega
def suf (k : Int) : List UInt8 := if k = 2 then [115] else if k = 3 then [117] else []
theorem atext_eq (s a : Int) (h : atB s a = true) (k : Nat) (hk : 5 ≤ k) : atform_Text.f k s a = some (B (sgnd s ++ suf a), 0) := by
  have h' := h
  unfold atB at h'
  simp only [Bool.and_eq_true, decide_eq_true_eq] at h'
  have hl := sgnd_len s h'.1.1 h'.1.2
  unfold atform_Text.f
  rw [acheck_eq, h, Option.bind_some, if_pos (show (if true = true then (0 : Int) else 9) = 0 from rfl), ctext_eq s h'.1.1 h'.1.2 k hk, Option.bind_some]
  unfold suf
  by_cases h2 : a = 2
  · rw [if_pos h2, if_pos h2, if_pos (by rw [B_size]; omega)]
    show some (B (sgnd s) ++ B [115], (0 : Int)) = _
    rw [B_append]
  · rw [if_neg h2, if_neg h2]
    by_cases h3 : a = 3
    · rw [if_pos h3, if_pos h3, if_pos (by rw [B_size]; omega)]
      show some (B (sgnd s) ++ B [117], (0 : Int)) = _
      rw [B_append]
    · rw [if_neg h3, if_neg h3, List.append_nil]
theorem akind_fin : ((List.range 10).all fun c => decide (atform_kind.f 10 ((c : Int) + 48) = some 0)) = true := by decide +kernel
theorem akind_digit (b : UInt8) (h : isDg b = true) (k : Nat) (hk : 10 ≤ k) : atform_kind.f k (b.toNat : Int) = some 0 := by
  have hb := isDg_iff.mp h
  have := of_decide_eq_true (all_at akind_fin (b.toNat - 48) (by omega))
  rw [show ((b.toNat - 48 : Nat) : Int) + 48 = (b.toNat : Int) by omega] at this
  exact at_rounds (g := fun k => atform_kind.f k (b.toNat : Int)) (fun k => atform_kind.mono _ k) hk this
theorem akind_at (c r : Int) (h : atform_kind.f 10 c = some r) (k : Nat) (hk : 10 ≤ k) : atform_kind.f k c = some r := at_rounds (g := fun k => atform_kind.f k c) (fun k => atform_kind.mono _ k) hk h
theorem bt_snoc (l : List UInt8) (b : UInt8) : bt (B (l ++ [b])) (l.length : Int) = (b.toNat : Int) := by
  have := bt_list (l ++ [b]) l.length (by simp)
  rw [this]
  simp
theorem aparse_suf (s a : Int) (c : UInt8) (h0 : -345600 ≤ s) (h1 : s ≤ 345600) (hc : atform_kind.f 10 (c.toNat : Int) = some a) (ha : a ≠ 0) (k : Nat) (hk : 50 ≤ k) : atform_Parse.f k (B (sgnd s ++ [c])) = some (s, a, 0) := by
  obtain ⟨k, rfl⟩ : ∃ m, k = m + 1 := ⟨k - 1, by omega⟩
  have hl := sgnd_len s h0 h1
  have hz : ((B (sgnd s ++ [c])).size : Int) = (sgnd s).length + 1 := by rw [B_size]; simp
  have hw : wrap64 (((sgnd s).length : Int) + 1 - 1) = ((sgnd s).length : Int) := by rw [wrap_idd (by omega) (by omega)]; omega
  unfold atform_Parse.f
  rw [hz, if_pos (by omega), hw, if_pos (by omega), if_pos (by omega), bt_snoc, akind_at _ _ hc _ (by omega), Option.bind_some]
  simp only [atform_Parse.j0]
  rw [if_pos (by simpa using ha), hw, if_pos (by omega), hz, if_pos (by omega), bt_snoc, akind_at _ _ hc _ (by omega), Option.bind_some, if_pos (by omega), Int.toNat_natCast, B_take, List.take_left, cparse_eq s h0 h1 k (by omega), Option.bind_some, if_pos rfl]
theorem aparse_eq (s a : Int) (h : atB s a = true) (k : Nat) (hk : 50 ≤ k) : atform_Parse.f k (B (sgnd s ++ suf a)) = some (s, a, 0) := by
  have h' := h
  unfold atB at h'
  simp only [Bool.and_eq_true, decide_eq_true_eq] at h'
  unfold suf
  by_cases h2 : a = 2
  · rw [if_pos h2]; exact aparse_suf s a 115 h'.1.1 h'.1.2 (by rw [h2]; decide +kernel) (by omega) k hk
  · rw [if_neg h2]
    by_cases h3 : a = 3
    · rw [if_pos h3]; exact aparse_suf s a 117 h'.1.1 h'.1.2 (by rw [h3]; decide +kernel) (by omega) k hk
    · rw [if_neg h3, List.append_nil]
      have ha : a = 1 := by omega
      obtain ⟨k, rfl⟩ : ∃ m, k = m + 1 := ⟨k - 1, by omega⟩
      have hl := sgnd_len s h'.1.1 h'.1.2
      have hcp := cparse_eq s h'.1.1 h'.1.2 k (by omega)
      obtain ⟨l, b, e, hb⟩ := sgnd_last s
      rw [e] at hl hcp ⊢
      have hz : ((B (l ++ [b])).size : Int) = l.length + 1 := by rw [B_size]; simp
      have hw : wrap64 ((l.length : Int) + 1 - 1) = (l.length : Int) := by
        simp only [List.length_append, List.length_cons, List.length_nil] at hl
        rw [wrap_idd (by omega) (by omega)]; omega
      unfold atform_Parse.f
      rw [hz, if_pos (by omega), hw, if_pos (by omega), if_pos (by omega), bt_snoc, akind_digit b hb _ (by omega), Option.bind_some]
      simp only [atform_Parse.j0]
      rw [if_neg (by decide), hcp, Option.bind_some, if_pos rfl, ha]
def cln (b : UInt8) : Bool := b != 0 && b != 9 && b != 10 && b != 13 && b != 32 && b != 34 && b != 35
def okF (l : List UInt8) : Bool := !l.isEmpty && l.all cln
def fsr : List Int → List ByteArray → List Int → Bool → Bool → List ByteArray × List Int × Bool × Bool
  | [], out, fld, op, q => (out, fld, op, q)
  | c :: cs, out, fld, op, q => if (fs_s c out fld op q).1 = true then fsr cs (fs_s c out fld op q).2.1 (fs_s c out fld op q).2.2.1 (fs_s c out fld op q).2.2.2.1 (fs_s c out fld op q).2.2.2.2 else (fs_s c out fld op q).2
theorem fs_l_eq (s : ByteArray) (hs : s.size ≤ 1000000) (d : Nat) : ∀ (i k : Nat) (out : List ByteArray) (fld : List Int) (op q : Bool), i ≤ s.size → d = s.size - i → d < k → fs_l k s (i : Int) out fld op q = some (fsr ((bts s).drop i) out fld op q) := by
  induction d with
  | zero =>
    intro i k out fld op q hi hd hk
    obtain ⟨k, rfl⟩ : ∃ m, k = m + 1 := ⟨k - 1, by omega⟩
    simp only [fs_l]
    rw [if_neg (by omega), List.drop_eq_nil_of_le (by rw [bts_length]; omega)]
    rfl
  | succ d ih =>
    intro i k out fld op q hi hd hk
    obtain ⟨k, rfl⟩ : ∃ m, k = m + 1 := ⟨k - 1, by omega⟩
    have hlt : i < s.size := by omega
    simp only [fs_l]
    rw [if_pos (by omega), if_pos (by omega), bts_drop s i hlt, wrap_idd (by omega) (by omega), show ((i : Int) + 1) = ((i + 1 : Nat) : Int) from by omega]
    simp only [fsr]
    split
    · exact ih (i + 1) k _ _ _ _ (by omega) (by omega) (by omega)
    · rfl
def nmU (l : List UInt8) : List Int := l.map fun b => (b.toNat : Int)
theorem str_nm (l : List UInt8) : strOfNums (nmU l) = B l := by
  unfold strOfNums nmU
  rw [List.map_map]
  congr 2
  conv => rhs; rw [← List.map_id l]
  apply List.map_congr_left
  intro b _
  simp
theorem cln_bl : ((List.range 256).all fun n => !(cln n.toUInt8) || !(bl_ (n : Int))) = true := by decide +kernel
theorem cln_step (b : UInt8) (h : cln b = true) (out : List ByteArray) (fld : List Int) (op : Bool) : fs_s (b.toNat : Int) out fld op false = (true, out, fld ++ [(b.toNat : Int)], true, false) := by
  have hcl := h
  unfold cln at h
  simp only [Bool.and_eq_true, bne_iff_ne, ne_eq] at h
  obtain ⟨⟨⟨⟨⟨⟨h0, h1⟩, h2⟩, h3⟩, h4⟩, h5⟩, h6⟩ := h
  have n34 : ¬ (b.toNat : Int) = 34 := fun e => h5 (UInt8.toNat_inj.mp (by show b.toNat = 34; omega))
  have n35 : ¬ (b.toNat : Int) = 35 := fun e => h6 (UInt8.toNat_inj.mp (by show b.toNat = 35; omega))
  have nb : bl_ (b.toNat : Int) = false := by
    have := all_at cln_bl b.toNat b.toNat_lt
    rw [show (b.toNat).toUInt8 = b by simp, hcl] at this
    simpa using this
  unfold fs_s
  rw [if_neg n34, if_neg (by decide), if_neg n35, nb, if_neg (by decide)]
theorem fsr_field (l : List UInt8) (h : l.all cln = true) (rest : List Int) : ∀ (out : List ByteArray) (fld : List Int) (op : Bool), fsr (nmU l ++ rest) out fld op false = fsr rest out (fld ++ nmU l) (op || !l.isEmpty) false := by
  induction l with
  | nil => intro out fld op; simp [nmU]
  | cons b l ih =>
    intro out fld op
    rw [List.all_cons, Bool.and_eq_true] at h
    show fsr ((b.toNat : Int) :: (nmU l ++ rest)) out fld op false = _
    simp only [fsr, cln_step b h.1, if_true]
    rw [ih h.2]
    simp [nmU]
theorem fsr_blank (rest : List Int) (out : List ByteArray) (fld : List Int) : fsr (32 :: rest) out fld true false = fsr rest (out ++ [strOfNums fld]) [] false false := by
  have e : fs_s 32 out fld true false = (true, out ++ [strOfNums fld], [], false, false) := rfl
  simp only [fsr, e, if_true]
theorem fsr_tail (fs : List (List UInt8)) : ∀ (f : List UInt8) (out : List ByteArray), okF f = true → (fs.all okF) = true →
    fsr (nmU (Lib.joinTail [32] fs)) out (nmU f) true false = (out ++ ((f :: fs).dropLast).map B, nmU ((f :: fs).getLast (by simp)), true, false) := by
  induction fs with
  | nil => intro f out _ _; simp [Lib.joinTail, nmU, fsr]
  | cons g fs ih =>
    intro f out hf hfs
    rw [List.all_cons, Bool.and_eq_true] at hfs
    have hg := hfs.1
    unfold okF at hg
    rw [Bool.and_eq_true] at hg
    have e : nmU (Lib.joinTail [32] (g :: fs)) = 32 :: (nmU g ++ nmU (Lib.joinTail [32] fs)) := by
      simp [Lib.joinTail, nmU]
    rw [e, fsr_blank, fsr_field g hg.2, str_nm, List.nil_append]
    have hne : (false || !g.isEmpty) = true := by rw [Bool.false_or]; exact hg.1
    rw [hne, ih g (out ++ [B f]) hfs.1 hfs.2]
    simp
theorem indexByte_no (c : UInt8) (l : List UInt8) (h : c ∉ l) : Lib.indexByte l c = -1 := by
  induction l with
  | nil => rfl
  | cons b l ih =>
    have hb : (b == c) = false := by rw [beq_eq_false_iff_ne]; intro e; exact h (e ▸ List.mem_cons_self ..)
    simp only [Lib.indexByte, hb, ih (fun hc => h (List.mem_cons_of_mem _ hc))]
    rfl
theorem join_mem (fs : List (List UInt8)) (c : UInt8) (h : c ∈ Lib.join fs [32]) : c = 32 ∨ ∃ f ∈ fs, c ∈ f := by
  cases fs with
  | nil => simp [Lib.join, List.intercalate] at h
  | cons f fs =>
    rw [Lib.join_cons] at h
    rcases List.mem_append.mp h with h | h
    · exact Or.inr ⟨f, List.mem_cons_self .., h⟩
    · unfold Lib.joinTail at h
      obtain ⟨x, hx, hc⟩ := List.mem_flatten.mp h
      obtain ⟨g, hg, rfl⟩ := List.mem_map.mp hx
      rcases List.mem_append.mp hc with hc | hc
      · exact Or.inl (List.mem_singleton.mp hc)
      · exact Or.inr ⟨g, List.mem_cons_of_mem _ hg, hc⟩
theorem split_join (f : List UInt8) (fs : List (List UInt8)) (h : ((f :: fs).all okF) = true) (hl : (Lib.join (f :: fs) [32]).length ≤ 600) : fields_Split.f (B (Lib.join (f :: fs) [32])) = some ((f :: fs).map B, 0) := by
  have hcl : ∀ c, cln c = false → c ≠ 32 → c ∉ Lib.join (f :: fs) [32] := by
    intro c hc h32 hm
    rcases join_mem _ _ hm with e | ⟨g, hg, hcg⟩
    · exact h32 e
    · have := List.all_eq_true.mp h g hg
      unfold okF at this
      rw [Bool.and_eq_true] at this
      have := List.all_eq_true.mp this.2 c hcg
      rw [hc] at this
      cases this
  unfold fields_Split.f fields_Split.fk
  rw [B_size, if_neg (by omega), B_data, indexByte_no 0 _ (hcl 0 (by decide) (by decide)), if_neg (by decide), indexByte_no 10 _ (hcl 10 (by decide) (by decide)), if_neg (by decide)]
  have hr := fs_l_eq (B (Lib.join (f :: fs) [32])) (by rw [B_size]; omega) (B (Lib.join (f :: fs) [32])).size 0 602 [] [] false false (by omega) (by omega) (by rw [B_size]; omega)
  rw [List.drop_zero] at hr
  have hr' : fs_l 602 (B (Lib.join (f :: fs) [32])) 0 [] [] false false = some (fsr (nmU (Lib.join (f :: fs) [32])) [] [] false false) := by
    have e : bts (B (Lib.join (f :: fs) [32])) = nmU (Lib.join (f :: fs) [32]) := by unfold bts nmU; rw [B_data]
    rw [← e]; exact hr
  rw [List.all_cons, Bool.and_eq_true] at h
  have hf := h.1
  unfold okF at hf
  rw [Bool.and_eq_true] at hf
  have e1 : nmU (Lib.join (f :: fs) [32]) = nmU f ++ nmU (Lib.joinTail [32] fs) := by rw [Lib.join_cons]; simp [nmU]
  have hne : (false || !f.isEmpty) = true := by rw [Bool.false_or]; exact hf.1
  rw [hr', Option.bind_some, e1, fsr_field f hf.2, List.nil_append, hne, fsr_tail fs f [] h.1 h.2]
  unfold fs_e
  rw [if_neg (show ¬ (false = true) by decide), if_pos rfl, str_nm, List.nil_append]
  congr 2
  show (f :: fs).dropLast.map B ++ [B ((f :: fs).getLast (by simp))] = _
  rw [← List.map_singleton, ← List.map_append, List.dropLast_concat_getLast]
theorem join_eq (fs : List (List UInt8)) (hn : fs.length ≤ 100) (hl : (Lib.join fs [32]).length ≤ 100000) : strings_Join.f (fs.map B) ⟨#[32]⟩ = some (B (Lib.join fs [32])) := by
  have e : (fs.map B).map (·.data.toList) = fs := by
    rw [List.map_map]
    conv => rhs; rw [← List.map_id fs]
    apply List.map_congr_left
    intro l _
    exact B_data l
  unfold strings_Join.f
  rw [if_pos (by simp; omega), e, show (⟨#[32]⟩ : ByteArray).data.toList = [32] from rfl, if_pos (by omega)]
def W1 : List ByteArray := [⟨#[82, 117, 108, 101]⟩, ⟨#[90, 111, 110, 101]⟩, ⟨#[76, 105, 110, 107]⟩]
def W2 : List ByteArray := [⟨#[74, 97, 110, 117, 97, 114, 121]⟩, ⟨#[70, 101, 98, 114, 117, 97, 114, 121]⟩, ⟨#[77, 97, 114, 99, 104]⟩, ⟨#[65, 112, 114, 105, 108]⟩, ⟨#[77, 97, 121]⟩, ⟨#[74, 117, 110, 101]⟩, ⟨#[74, 117, 108, 121]⟩, ⟨#[65, 117, 103, 117, 115, 116]⟩, ⟨#[83, 101, 112, 116, 101, 109, 98, 101, 114]⟩, ⟨#[79, 99, 116, 111, 98, 101, 114]⟩, ⟨#[78, 111, 118, 101, 109, 98, 101, 114]⟩, ⟨#[68, 101, 99, 101, 109, 98, 101, 114]⟩]
end Go.Proofs.YtfhemdnjoedioaaGreatDoor.X
end
section
namespace Go.Proofs.YtfhemdnjoedioaaGreatDoor.X
open Go.RowKit Go.Proofs.YtfhemdnjoedioaaGreatDoorW.PrintWords Go.Proofs.YtfhemdnjoedioaaGreatDoorW.PrintLast Go.Proofs.YtfhemdnjoedioaaGreatDoorW.PrintMore
attribute [local go_sem] max2_int min2_int max_two min_two max_three min_three max_four min_four
set_option linter.unusedVariables false
set_option linter.unusedSimpArgs false
def IsS27 (w0 W : World) (g : Nat) (f0 : ByteArray) (f1 : Int) (f2 : Int) (f3 : Int) (f4 : Int) (f5 : Int) (f6 : Int) (f7 : Int) (f8 : Int) (f9 : Int) (f10 : ByteArray) : Prop := W.heap[g]? = some (.cells #[.string f0, .int .i64 f1, .int .i64 f2, .int .i64 f3, .int .i64 f4, .int .i64 f5, .int .i64 f6, .int .i64 f7, .int .i64 f8, .int .i64 f9, .string f10] 27 (0, 0)) ∧ w0.heap.size ≤ g
theorem IsS27.grown {w0 W : World} {g : Nat} {f0 : ByteArray} {f1 : Int} {f2 : Int} {f3 : Int} {f4 : Int} {f5 : Int} {f6 : Int} {f7 : Int} {f8 : Int} {f9 : Int} {f10 : ByteArray} {W1 : World} {row : Option Nat} (h : IsS27 w0 W g f0 f1 f2 f3 f4 f5 f6 f7 f8 f9 f10) (hw : W.grownBy W1 row) (hne : some g ≠ row) : IsS27 w0 W1 g f0 f1 f2 f3 f4 f5 f6 f7 f8 f9 f10 := by
 obtain ⟨hb, hg⟩ := h
 exact ⟨blk_grown hb hw hne, hg⟩
theorem IsS27.kept {w0 W : World} {g : Nat} {f0 : ByteArray} {f1 : Int} {f2 : Int} {f3 : Int} {f4 : Int} {f5 : Int} {f6 : Int} {f7 : Int} {f8 : Int} {f9 : Int} {f10 : ByteArray} {W1 : World} {S : Nat → Prop} (h : IsS27 w0 W g f0 f1 f2 f3 f4 f5 f6 f7 f8 f9 f10) (hk : Kept W W1 S) (hne : ¬ S g) : IsS27 w0 W1 g f0 f1 f2 f3 f4 f5 f6 f7 f8 f9 f10 := by
 obtain ⟨hb, hg⟩ := h
 exact ⟨blk_kept hb hk hne, hg⟩
theorem IsS27.below {w0 W : World} {g : Nat} {f0 : ByteArray} {f1 : Int} {f2 : Int} {f3 : Int} {f4 : Int} {f5 : Int} {f6 : Int} {f7 : Int} {f8 : Int} {f9 : Int} {f10 : ByteArray} {W1 : World} (h : IsS27 w0 W g f0 f1 f2 f3 f4 f5 f6 f7 f8 f9 f10) (hw : Below W.heap.size W W1) : IsS27 w0 W1 g f0 f1 f2 f3 f4 f5 f6 f7 f8 f9 f10 := h.grown (grown_of_below hw none) (by simp)
theorem IsS27.alloc {w0 W : World} {g : Nat} {f0 : ByteArray} {f1 : Int} {f2 : Int} {f3 : Int} {f4 : Int} {f5 : Int} {f6 : Int} {f7 : Int} {f8 : Int} {f9 : Int} {f10 : ByteArray} (h : IsS27 w0 W g f0 f1 f2 f3 f4 f5 f6 f7 f8 f9 f10) (o : Obj) : IsS27 w0 (W.alloc o) g f0 f1 f2 f3 f4 f5 f6 f7 f8 f9 f10 := h.below (below_alloc (Below.refl _ _) o)
theorem IsS27.drewN {w0 W : World} {g : Nat} {f0 : ByteArray} {f1 : Int} {f2 : Int} {f3 : Int} {f4 : Int} {f5 : Int} {f6 : Int} {f7 : Int} {f8 : Int} {f9 : Int} {f10 : ByteArray} (h : IsS27 w0 W g f0 f1 f2 f3 f4 f5 f6 f7 f8 f9 f10) (m : Nat) : IsS27 w0 (W.drewN m) g f0 f1 f2 f3 f4 f5 f6 f7 f8 f9 f10 := h
theorem IsS27.drew {w0 W : World} {g : Nat} {f0 : ByteArray} {f1 : Int} {f2 : Int} {f3 : Int} {f4 : Int} {f5 : Int} {f6 : Int} {f7 : Int} {f8 : Int} {f9 : Int} {f10 : ByteArray} (h : IsS27 w0 W g f0 f1 f2 f3 f4 f5 f6 f7 f8 f9 f10) : IsS27 w0 W.drew g f0 f1 f2 f3 f4 f5 f6 f7 f8 f9 f10 := h
theorem IsS27.at_ {w0 W : World} {g : Nat} {f0 : ByteArray} {f1 : Int} {f2 : Int} {f3 : Int} {f4 : Int} {f5 : Int} {f6 : Int} {f7 : Int} {f8 : Int} {f9 : Int} {f10 : ByteArray} {w' : World} {m : Nat} (hq : W.drewN m = w') (h : IsS27 w0 W g f0 f1 f2 f3 f4 f5 f6 f7 f8 f9 f10) : IsS27 w0 w' g f0 f1 f2 f3 f4 f5 f6 f7 f8 f9 f10 := by subst hq; exact IsS27.drewN h m
theorem IsS27.apart {w0 W : World} {g : Nat} {f0 : ByteArray} {f1 : Int} {f2 : Int} {f3 : Int} {f4 : Int} {f5 : Int} {f6 : Int} {f7 : Int} {f8 : Int} {f9 : Int} {f10 : ByteArray} {α : Type} {d : Kd α} {e : Nat} {base : Nat} {ok : Nat → Prop} {v : Value} {xs : List α} (h : IsS27 w0 W g f0 f1 f2 f3 f4 f5 f6 f7 f8 f9 f10) (ho : d.R e W base ok v xs) (ht : ∀ q, q ∈ e :: d.E → q ≠ 27) : d.R e W base (fun k => ok k ∧ k ≠ g) v xs := by
 obtain ⟨hb, hg⟩ := h
 exact Kd.R_types ho hb ht
theorem IsS27.own_ne {w0 W : World} {g : Nat} {f0 : ByteArray} {f1 : Int} {f2 : Int} {f3 : Int} {f4 : Int} {f5 : Int} {f6 : Int} {f7 : Int} {f8 : Int} {f9 : Int} {f10 : ByteArray} {α : Type} {d : Kd α} {e : Nat} {base : Nat} {ok : Nat → Prop} {v : Value} {xs : List α} (h : IsS27 w0 W g f0 f1 f2 f3 f4 f5 f6 f7 f8 f9 f10) (ho : d.R e W base ok v xs) (ht : e ≠ 27) : some g ≠ v.ownBlock := by
 obtain ⟨hb, hg⟩ := h
 exact Kd.R_ne ho hb ht
theorem IsS27.ge {w0 W : World} {g : Nat} {f0 : ByteArray} {f1 : Int} {f2 : Int} {f3 : Int} {f4 : Int} {f5 : Int} {f6 : Int} {f7 : Int} {f8 : Int} {f9 : Int} {f10 : ByteArray} (h : IsS27 w0 W g f0 f1 f2 f3 f4 f5 f6 f7 f8 f9 f10) : w0.heap.size ≤ g := by
 obtain ⟨hb, hg⟩ := h
 exact hg
theorem IsS27.set_0 {w0 W : World} {g : Nat} {f0 : ByteArray} {f1 : Int} {f2 : Int} {f3 : Int} {f4 : Int} {f5 : Int} {f6 : Int} {f7 : Int} {f8 : Int} {f9 : Int} {f10 : ByteArray} (h : IsS27 w0 W g f0 f1 f2 f3 f4 f5 f6 f7 f8 f9 f10) (x : ByteArray) : IsS27 w0 (W.setCell ⟨g, 0, none⟩ (.string x)) g x f1 f2 f3 f4 f5 f6 f7 f8 f9 f10 := by
 obtain ⟨hb, hg⟩ := h
 exact ⟨by simpa using blk_set hb 0 (.string x), hg⟩
theorem IsS27.set_1 {w0 W : World} {g : Nat} {f0 : ByteArray} {f1 : Int} {f2 : Int} {f3 : Int} {f4 : Int} {f5 : Int} {f6 : Int} {f7 : Int} {f8 : Int} {f9 : Int} {f10 : ByteArray} (h : IsS27 w0 W g f0 f1 f2 f3 f4 f5 f6 f7 f8 f9 f10) (x : Int) : IsS27 w0 (W.setCell ⟨g, 1, none⟩ (.int .i64 x)) g f0 x f2 f3 f4 f5 f6 f7 f8 f9 f10 := by
 obtain ⟨hb, hg⟩ := h
 exact ⟨by simpa using blk_set hb 1 (.int .i64 x), hg⟩
theorem IsS27.set_2 {w0 W : World} {g : Nat} {f0 : ByteArray} {f1 : Int} {f2 : Int} {f3 : Int} {f4 : Int} {f5 : Int} {f6 : Int} {f7 : Int} {f8 : Int} {f9 : Int} {f10 : ByteArray} (h : IsS27 w0 W g f0 f1 f2 f3 f4 f5 f6 f7 f8 f9 f10) (x : Int) : IsS27 w0 (W.setCell ⟨g, 2, none⟩ (.int .i64 x)) g f0 f1 x f3 f4 f5 f6 f7 f8 f9 f10 := by
 obtain ⟨hb, hg⟩ := h
 exact ⟨by simpa using blk_set hb 2 (.int .i64 x), hg⟩
theorem IsS27.set_3 {w0 W : World} {g : Nat} {f0 : ByteArray} {f1 : Int} {f2 : Int} {f3 : Int} {f4 : Int} {f5 : Int} {f6 : Int} {f7 : Int} {f8 : Int} {f9 : Int} {f10 : ByteArray} (h : IsS27 w0 W g f0 f1 f2 f3 f4 f5 f6 f7 f8 f9 f10) (x : Int) : IsS27 w0 (W.setCell ⟨g, 3, none⟩ (.int .i64 x)) g f0 f1 f2 x f4 f5 f6 f7 f8 f9 f10 := by
 obtain ⟨hb, hg⟩ := h
 exact ⟨by simpa using blk_set hb 3 (.int .i64 x), hg⟩
theorem IsS27.set_4 {w0 W : World} {g : Nat} {f0 : ByteArray} {f1 : Int} {f2 : Int} {f3 : Int} {f4 : Int} {f5 : Int} {f6 : Int} {f7 : Int} {f8 : Int} {f9 : Int} {f10 : ByteArray} (h : IsS27 w0 W g f0 f1 f2 f3 f4 f5 f6 f7 f8 f9 f10) (x : Int) : IsS27 w0 (W.setCell ⟨g, 4, none⟩ (.int .i64 x)) g f0 f1 f2 f3 x f5 f6 f7 f8 f9 f10 := by
 obtain ⟨hb, hg⟩ := h
 exact ⟨by simpa using blk_set hb 4 (.int .i64 x), hg⟩
theorem IsS27.set_5 {w0 W : World} {g : Nat} {f0 : ByteArray} {f1 : Int} {f2 : Int} {f3 : Int} {f4 : Int} {f5 : Int} {f6 : Int} {f7 : Int} {f8 : Int} {f9 : Int} {f10 : ByteArray} (h : IsS27 w0 W g f0 f1 f2 f3 f4 f5 f6 f7 f8 f9 f10) (x : Int) : IsS27 w0 (W.setCell ⟨g, 5, none⟩ (.int .i64 x)) g f0 f1 f2 f3 f4 x f6 f7 f8 f9 f10 := by
 obtain ⟨hb, hg⟩ := h
 exact ⟨by simpa using blk_set hb 5 (.int .i64 x), hg⟩
theorem IsS27.set_6 {w0 W : World} {g : Nat} {f0 : ByteArray} {f1 : Int} {f2 : Int} {f3 : Int} {f4 : Int} {f5 : Int} {f6 : Int} {f7 : Int} {f8 : Int} {f9 : Int} {f10 : ByteArray} (h : IsS27 w0 W g f0 f1 f2 f3 f4 f5 f6 f7 f8 f9 f10) (x : Int) : IsS27 w0 (W.setCell ⟨g, 6, none⟩ (.int .i64 x)) g f0 f1 f2 f3 f4 f5 x f7 f8 f9 f10 := by
 obtain ⟨hb, hg⟩ := h
 exact ⟨by simpa using blk_set hb 6 (.int .i64 x), hg⟩
theorem IsS27.set_7 {w0 W : World} {g : Nat} {f0 : ByteArray} {f1 : Int} {f2 : Int} {f3 : Int} {f4 : Int} {f5 : Int} {f6 : Int} {f7 : Int} {f8 : Int} {f9 : Int} {f10 : ByteArray} (h : IsS27 w0 W g f0 f1 f2 f3 f4 f5 f6 f7 f8 f9 f10) (x : Int) : IsS27 w0 (W.setCell ⟨g, 7, none⟩ (.int .i64 x)) g f0 f1 f2 f3 f4 f5 f6 x f8 f9 f10 := by
 obtain ⟨hb, hg⟩ := h
 exact ⟨by simpa using blk_set hb 7 (.int .i64 x), hg⟩
theorem IsS27.set_8 {w0 W : World} {g : Nat} {f0 : ByteArray} {f1 : Int} {f2 : Int} {f3 : Int} {f4 : Int} {f5 : Int} {f6 : Int} {f7 : Int} {f8 : Int} {f9 : Int} {f10 : ByteArray} (h : IsS27 w0 W g f0 f1 f2 f3 f4 f5 f6 f7 f8 f9 f10) (x : Int) : IsS27 w0 (W.setCell ⟨g, 8, none⟩ (.int .i64 x)) g f0 f1 f2 f3 f4 f5 f6 f7 x f9 f10 := by
 obtain ⟨hb, hg⟩ := h
 exact ⟨by simpa using blk_set hb 8 (.int .i64 x), hg⟩
theorem IsS27.set_9 {w0 W : World} {g : Nat} {f0 : ByteArray} {f1 : Int} {f2 : Int} {f3 : Int} {f4 : Int} {f5 : Int} {f6 : Int} {f7 : Int} {f8 : Int} {f9 : Int} {f10 : ByteArray} (h : IsS27 w0 W g f0 f1 f2 f3 f4 f5 f6 f7 f8 f9 f10) (x : Int) : IsS27 w0 (W.setCell ⟨g, 9, none⟩ (.int .i64 x)) g f0 f1 f2 f3 f4 f5 f6 f7 f8 x f10 := by
 obtain ⟨hb, hg⟩ := h
 exact ⟨by simpa using blk_set hb 9 (.int .i64 x), hg⟩
theorem IsS27.set_10 {w0 W : World} {g : Nat} {f0 : ByteArray} {f1 : Int} {f2 : Int} {f3 : Int} {f4 : Int} {f5 : Int} {f6 : Int} {f7 : Int} {f8 : Int} {f9 : Int} {f10 : ByteArray} (h : IsS27 w0 W g f0 f1 f2 f3 f4 f5 f6 f7 f8 f9 f10) (x : ByteArray) : IsS27 w0 (W.setCell ⟨g, 10, none⟩ (.string x)) g f0 f1 f2 f3 f4 f5 f6 f7 f8 f9 x := by
 obtain ⟨hb, hg⟩ := h
 exact ⟨by simpa using blk_set hb 10 (.string x), hg⟩
theorem IsS27.new (w0 W : World) (f0 : ByteArray) (f1 : Int) (f2 : Int) (f3 : Int) (f4 : Int) (f5 : Int) (f6 : Int) (f7 : Int) (f8 : Int) (f9 : Int) (f10 : ByteArray) (hB : Below w0.heap.size w0 W) : IsS27 w0 (W.alloc (.cells #[.string f0, .int .i64 f1, .int .i64 f2, .int .i64 f3, .int .i64 f4, .int .i64 f5, .int .i64 f6, .int .i64 f7, .int .i64 f8, .int .i64 f9, .string f10] 27)) W.heap.size f0 f1 f2 f3 f4 f5 f6 f7 f8 f9 f10 := ⟨by simpa using heap_alloc_new W _, hB.size⟩
end Go.Proofs.YtfhemdnjoedioaaGreatDoor.X
end
section
namespace Go.Proofs.YtfhemdnjoedioaaGreatDoor.X
open Go.RowKit Go.Proofs.YtfhemdnjoedioaaGreatDoorW.PrintWords Go.Proofs.YtfhemdnjoedioaaGreatDoorW.PrintLast Go.Proofs.YtfhemdnjoedioaaGreatDoorW.PrintMore
set_option linter.unusedVariables false
set_option linter.unusedSimpArgs false
def forms : List (Int × Int × Int) :=
  ((List.range 31).map fun (d : Nat) => (1, 0, ((d : Int) + 1))) ++ ((List.range 7).map fun (w : Nat) => (2, (w : Int), 0)) ++
  ((List.range 7).flatMap fun (w : Nat) => (List.range 31).map fun (d : Nat) => (3, (w : Int), ((d : Int) + 1))) ++ ((List.range 7).flatMap fun (w : Nat) => (List.range 31).map fun (d : Nat) => (4, (w : Int), ((d : Int) + 1)))
def backs (x : Int × Int × Int) : Bool := match onform_Text.f 60 x.1 x.2.1 x.2.2 with
  | some (t, e) => decide (e = 0 ∧ onform_Parse.f 60 t = some (x.1, x.2.1, x.2.2, 0)) && okF t.data.toList && decide (t.size ≤ 20)
  | none => false
set_option maxRecDepth 100000 in
theorem all_back : forms.all backs = true := by decide +kernel
theorem on_mem (k w d : Int) (h : onB k w d = true) : (k, w, d) ∈ forms := by
  have hw' : 0 ≤ w → ((w.toNat : Nat) : Int) = w := by omega
  unfold onB at h
  simp only [Bool.or_eq_true, Bool.and_eq_true, beq_iff_eq, decide_eq_true_eq] at h
  unfold forms
  rcases h with (⟨⟨rfl, h1, h2⟩, rfl⟩ | ⟨⟨rfl, rfl⟩, h1, h2⟩) | ⟨⟨hk, h1, h2⟩, h3, h4⟩
  · have hd' : (((d - 1).toNat : Nat) : Int) + 1 = d := by omega
    exact List.mem_append_left _ (List.mem_append_left _ (List.mem_append_left _ (List.mem_map.mpr ⟨(d - 1).toNat, List.mem_range.mpr (by omega), by rw [hd']⟩)))
  · exact List.mem_append_left _ (List.mem_append_left _ (List.mem_append_right _ (List.mem_map.mpr ⟨w.toNat, List.mem_range.mpr (by omega), by rw [hw' h1]⟩)))
  · have hd' : (((d - 1).toNat : Nat) : Int) + 1 = d := by omega
    rcases hk with rfl | rfl
    · exact List.mem_append_left _ (List.mem_append_right _ (List.mem_flatMap.mpr ⟨w.toNat, List.mem_range.mpr (by omega), List.mem_map.mpr ⟨(d - 1).toNat, List.mem_range.mpr (by omega), by rw [hd', hw' h3]⟩⟩))
    · exact List.mem_append_right _ (List.mem_flatMap.mpr ⟨w.toNat, List.mem_range.mpr (by omega), List.mem_map.mpr ⟨(d - 1).toNat, List.mem_range.mpr (by omega), by rw [hd', hw' h3]⟩⟩)
theorem on_round (k w d : Int) (h : onB k w d = true) : ∃ l : List UInt8, okF l = true ∧ l.length ≤ 20 ∧ (∀ q, 60 ≤ q → onform_Text.f q k w d = some (B l, 0)) ∧ (∀ q, 60 ≤ q → onform_Parse.f q (B l) = some (k, w, d, 0)) := by
  have := List.all_eq_true.mp all_back _ (on_mem k w d h)
  unfold backs at this
  split at this
  · rename_i t e he
    simp only [Bool.and_eq_true, decide_eq_true_eq] at this
    obtain ⟨⟨⟨h1, h2⟩, h3⟩, h4⟩ := this
    subst h1
    refine ⟨t.data.toList, h3, ?_, ?_, ?_⟩
    · rw [← B_size]; exact h4
    · intro q hq; exact at_rounds (g := fun q => onform_Text.f q k w d) (fun q => onform_Text.mono _ _ _ q) hq he
    · intro q hq; exact at_rounds (g := fun q => onform_Parse.f q t) (fun q => onform_Parse.mono _ q) hq h2
  · cases this
def mon (m : Nat) : List UInt8 := ((W2.getD m ByteArray.empty).data.toList).take 3
theorem mon_fin : ((List.range 12).all fun m => decide ((words_Name.f 2 ((m : Int) + 1)) = some (W2.getD m ByteArray.empty, 0)) && decide ((3 : Int) ≤ ((W2.getD m ByteArray.empty).size : Int)) && decide ((W2.getD m ByteArray.empty).extract 0 3 = B (mon m)) && decide (words_Month.f 40 (B (mon m)) = some ((m : Int) + 1, 0)) && okF (mon m) && decide ((mon m).length = 3)) = true := by decide +kernel
theorem mon_round (m : Int) (h0 : 1 ≤ m) (h1 : m ≤ 12) : ∃ l : List UInt8, ∃ W : ByteArray, okF l = true ∧ l.length = 3 ∧ words_Name.f 2 m = some (W, 0) ∧ (3 : Int) ≤ (W.size : Int) ∧ W.extract 0 3 = B l ∧ (∀ q, 40 ≤ q → words_Month.f q (B l) = some (m, 0)) := by
  have := all_at mon_fin (m - 1).toNat (by omega)
  simp only [Bool.and_eq_true, decide_eq_true_eq] at this
  obtain ⟨⟨⟨⟨⟨a, b⟩, c⟩, d⟩, e⟩, f⟩ := this
  rw [show (((m - 1).toNat : Nat) : Int) + 1 = m by omega] at a d
  exact ⟨_, _, e, f, a, b, c, fun q hq => at_rounds (g := fun q => words_Month.f q (B (mon (m - 1).toNat))) (fun q => words_Month.mono _ q) hq d⟩
theorem sgn_cln : ((List.range 256).all fun n => !(sgn nameO (n : Int)) || cln n.toUInt8) = true := by decide +kernel
theorem cln_of {o : List Int} (hf : ((List.range 256).all fun n => !(sgn o (n : Int)) || cln n.toUInt8) = true) (s : ByteArray) (h : (bts s).all (sgn o) = true) : s.data.toList.all cln = true := by
  rw [List.all_eq_true]
  intro b hb
  have h1 := List.all_eq_true.mp h (b.toNat : Int) (List.mem_map.mpr ⟨b, hb, rfl⟩)
  have h2 := all_at hf b.toNat b.toNat_lt
  rw [h1, show (b.toNat).toUInt8 = b by simp] at h2
  simpa using h2
theorem size_data (s : ByteArray) : s.data.toList.length = s.size := by rw [Array.length_toList]; rfl
theorem okF_name (s : ByteArray) (h : nameB s = true) : okF s.data.toList = true := by
  unfold nameB at h
  simp only [Bool.and_eq_true, decide_eq_true_eq] at h
  unfold okF
  rw [cln_of sgn_cln s h.1.2, Bool.and_true]
  have := size_data s
  cases e : s.data.toList with
  | nil => rw [e] at this; simp at this; omega
  | cons b l => rfl
theorem digit_cln : ((List.range 256).all fun n => !(isDg n.toUInt8) || cln n.toUInt8) = true := by decide +kernel
theorem cln_digit (b : UInt8) (h : isDg b = true) : cln b = true := by
  have := all_at digit_cln b.toNat b.toNat_lt
  rw [show (b.toNat).toUInt8 = b by simp, h] at this
  simpa using this
theorem okF_dec (n : Nat) : okF (Lib.decDigits n) = true := by
  unfold okF
  have h := dec_pos n
  have e : (Lib.decDigits n).all cln = true := List.all_eq_true.mpr fun b hb => cln_digit b (dec_dg n b hb)
  rw [e, Bool.and_true]
  cases e2 : Lib.decDigits n with
  | nil => rw [e2] at h; simp at h
  | cons b l => rfl
theorem two_cln (m : Nat) (h : m < 60) : (two m).all cln = true := by
  obtain ⟨b, c, e, hb, hc⟩ := two_last m h
  rw [e]
  simp [cln_digit b hb, cln_digit c hc]
theorem ctx_cln (n : Nat) : (ctx n).all cln = true := by
  have h1 : (Lib.decDigits (n / 3600)).all cln = true := List.all_eq_true.mpr fun b hb => cln_digit b (dec_dg _ b hb)
  have h2 := two_cln (n % 3600 / 60) (by omega)
  have h3 := two_cln (n % 60) (by omega)
  have h4 : cln 58 = true := by decide
  unfold ctx
  split <;> split <;> simp only [List.all_append, List.all_cons, List.all_nil, h1, h2, h3, h4, Bool.and_self]
theorem sgnd_cln (s : Int) : (sgnd s).all cln = true := by
  unfold sgnd
  rw [List.all_append, ctx_cln, Bool.and_true]
  split <;> decide
theorem okF_at (s a : Int) : okF (sgnd s ++ suf a) = true := by
  obtain ⟨l, b, e, _⟩ := sgnd_last s
  have h := sgnd_cln s
  unfold okF
  rw [List.all_append, h, Bool.true_and]
  have hs : (suf a).all cln = true := by unfold suf; split; decide; split <;> decide
  rw [hs, Bool.and_true, e]
  simp
theorem okF_sgnd (s : Int) : okF (sgnd s) = true := by
  have := okF_at s 1
  unfold suf at this
  rwa [if_neg (by decide), if_neg (by decide), List.append_nil] at this
theorem dec_len4 (n : Nat) (h : n ≤ 9999) : (Lib.decDigits n).length ≤ 4 := by rw [Lib.decDigits_length]; exact nDigits_le 4 n (by omega) (by decide)
theorem toList_data (s : ByteArray) : s.toList = s.data.toList := by rw [ByteArray.toList_eq]
theorem empty_nil : (⟨#[]⟩ : ByteArray).toList = ([] : List UInt8) := by decide +kernel
theorem list_eq_of {a b : ByteArray} (h : a.toList = b.toList) : a = b := by
  rw [toList_data, toList_data] at h
  exact ByteArray.ext (Array.toList_inj.mp h)
theorem wakes10b (k : Nat) (h : 700 ≤ k) : solsticelaw10_wakes.f k = some true := at_rounds (g := solsticelaw10_wakes.f) (solsticelaw10_wakes.mono) h (by kernel_rfl)
theorem zsign_fin : ((List.range 256).all fun c => match zone_sign.f (c : Int) with | some b => !b || cln c.toUInt8 | none => false) = true := by decide +kernel
theorem zsign_at (c : Int) (h0 : 0 ≤ c) (h1 : c ≤ 255) : ∃ b, zone_sign.f c = some b ∧ (b = true → cln c.toNat.toUInt8 = true) := by
  have := of_range zsign_fin c h0 (by omega)
  rw [Int.toNat_of_nonneg h0] at this
  split at this
  · rename_i b hb
    refine ⟨b, hb, fun e => ?_⟩
    rw [e] at this
    simpa using this
  · cases this
def clnI (c : Int) : Bool := cln c.toNat.toUInt8
theorem fmt_end (s : ByteArray) (hs : s.size ≤ 1000) : ∃ b : Bool, ((strings_Count.f s (⟨#[47]⟩ : ByteArray)).bind fun t450 => ((strings_IndexByte.f s 37).bind fun t451 => (if t451 < 0 then (some (decide (t450 ≤ 1))) else (if t450 > 0 then (some false) else ((strings_Count.f s (⟨#[37]⟩ : ByteArray)).bind fun t452 => (if t452 > 1 then (some false) else (if (wrap64 (t451 + 1)) ≥ (s.size : Int) then (some false) else (if 0 ≤ (wrap64 (t451 + 1)) then (if (wrap64 (t451 + 1)) < (s.size : Int) then (if (bt s (wrap64 (t451 + 1))) = 115 then (some true) else (some ((bt s (wrap64 (t451 + 1))) == 122))) else (none)) else (none))))))))) = some b := by
  obtain ⟨r1, e1⟩ : ∃ r, strings_Count.f s ⟨#[47]⟩ = some r := ⟨_, rfl⟩
  obtain ⟨r2, e2⟩ : ∃ r, strings_Count.f s ⟨#[37]⟩ = some r := ⟨_, rfl⟩
  rw [e1, Option.bind_some]
  unfold strings_IndexByte.f
  rw [Option.bind_some]
  generalize hq : Lib.indexByte s.data.toList (Int.toNat 37).toUInt8 = q
  by_cases h1 : q < 0
  · exact ⟨_, by rw [if_pos h1]⟩
  · rw [if_neg h1]
    by_cases h2 : r1 > 0
    · exact ⟨_, by rw [if_pos h2]⟩
    · rw [if_neg h2, e2, Option.bind_some]
      by_cases h3 : r2 > 1
      · exact ⟨_, by rw [if_pos h3]⟩
      · rw [if_neg h3]
        by_cases h4 : wrap64 (q + 1) ≥ (s.size : Int)
        · exact ⟨_, by rw [if_pos h4]⟩
        · rw [if_neg h4]
          have hql : q < (s.size : Int) := by
            obtain ⟨o, ho⟩ := Int.eq_ofNat_of_zero_le (show 0 ≤ q by omega)
            have := (Lib.indexByte_some (l := s.data.toList) (c := (Int.toNat 37).toUInt8) (o := o) (by rw [hq]; exact ho)).1
            have := (List.getElem?_eq_some_iff.mp this).1
            rw [size_data] at this
            omega
          have hw : wrap64 (q + 1) = q + 1 := wrap_idd (by omega) (by omega)
          rw [hw] at h4 ⊢
          rw [if_pos (by omega), if_pos (by omega)]
          by_cases h5 : bt s (q + 1) = 115
          · exact ⟨_, by rw [if_pos h5]⟩
          · exact ⟨_, by rw [if_neg h5]⟩
theorem fmt_loop (s : ByteArray) (hs : s.size ≤ 1000) (d : Nat) : ∀ (i k : Nat), i ≤ s.size → d = s.size - i → d < k → ∃ b, zone_Format.l0 k s (s.size : Int) (i : Int) = some b ∧ (b = true → ((bts s).drop i).all clnI = true) := by
  induction d with
  | zero =>
    intro i k hi hd hk
    obtain ⟨k, rfl⟩ : ∃ m, k = m + 1 := ⟨k - 1, by omega⟩
    obtain ⟨b, hb⟩ := fmt_end s hs
    refine ⟨b, ?_, fun _ => ?_⟩
    · simp only [zone_Format.l0]
      rw [if_neg (by omega)]
      exact hb
    · rw [List.drop_eq_nil_of_le (by rw [bts_length]; omega)]; rfl
  | succ d ih =>
    intro i k hi hd hk
    obtain ⟨k, rfl⟩ : ∃ m, k = m + 1 := ⟨k - 1, by omega⟩
    have hlt : i < s.size := by omega
    have b1 := bt_range s i
    obtain ⟨z, hz, hc⟩ := zsign_at (bt s i) b1.1 b1.2
    obtain ⟨b, hb, hall⟩ := ih (i + 1) k (by omega) (by omega) (by omega)
    simp only [zone_Format.l0]
    rw [if_pos (by omega), if_pos (by omega), if_pos (by omega), hz, Option.bind_some, wrap_idd (by omega) (by omega), show ((i : Int) + 1) = ((i + 1 : Nat) : Int) from by omega]
    cases z with
    | true =>
      rw [if_pos rfl, bts_drop s i hlt, List.all_cons]
      exact ⟨b, hb, fun e => by rw [show clnI (bt s i) = true from hc rfl, hall e]; rfl⟩
    | false => exact ⟨false, by rw [if_neg (by decide)], fun e => by cases e⟩
theorem fmt_eq (s : ByteArray) (hs : s.size ≤ 1000) (k : Nat) (hk : 1100 ≤ k) : ∃ b, zone_Format.f k s = some b ∧ (b = true → okF s.data.toList = true ∧ s.size ≤ 40) := by
  obtain ⟨k, rfl⟩ : ∃ m, k = m + 1 := ⟨k - 1, by omega⟩
  unfold zone_Format.f
  simp only [zone_Format.j0]
  by_cases h1 : (s.size : Int) < 1
  · exact ⟨false, by rw [if_pos h1]; rfl, fun e => by cases e⟩
  · rw [if_neg h1]
    by_cases h2 : (s.size : Int) > 40
    · exact ⟨false, by rw [decide_eq_true h2, if_pos rfl], fun e => by cases e⟩
    · rw [decide_eq_false h2, if_neg (by decide)]
      obtain ⟨b, hb, hall⟩ := fmt_loop s hs s.size 0 k (by omega) (by omega) (by omega)
      refine ⟨b, hb, fun e => ⟨?_, by omega⟩⟩
      have ha := hall e
      rw [List.drop_zero] at ha
      unfold okF
      have hc : s.data.toList.all cln = true := by
        rw [List.all_eq_true]
        intro x hx
        have := List.all_eq_true.mp ha (x.toNat : Int) (List.mem_map.mpr ⟨x, hx, rfl⟩)
        unfold clnI at this
        rwa [Int.toNat_natCast, show (x.toNat).toUInt8 = x by simp] at this
      rw [hc, Bool.and_true]
      have := size_data s
      cases e2 : s.data.toList with
      | nil => rw [e2] at this; simp at this; omega
      | cons b l => rfl
theorem long_some (y : Int) : ∃ b, civil_Long.f y = some b := by
  unfold civil_Long.f
  split
  · split
    · exact ⟨_, rfl⟩
    · exact ⟨_, rfl⟩
  · exact ⟨_, rfl⟩
theorem clen_fin : ((List.range 12).all fun m => decide (0 ≤ rd [31, 28, 31, 30, 31, 30, 31, 31, 30, 31, 30, 31] (m : Int)) && decide (rd [31, 28, 31, 30, 31, 30, 31, 31, 30, 31, 30, 31] (m : Int) ≤ 31)) = true := by decide +kernel
theorem clen_some (y m : Int) (k : Nat) (hk : 3 ≤ k) : ∃ r, civil_Len.f k y m = some r ∧ 0 ≤ r ∧ r ≤ 31 ∧ (1 ≤ r → 1 ≤ m ∧ m ≤ 12) := by
  obtain ⟨k, rfl⟩ : ∃ q, k = q + 1 := ⟨k - 1, by omega⟩
  unfold civil_Len.f
  simp only [civil_Len.j0]
  by_cases h1 : m < 1
  · exact ⟨0, by rw [if_pos h1]; rfl, by omega, by omega, by omega⟩
  · rw [if_neg h1]
    by_cases h2 : m > 12
    · exact ⟨0, by rw [decide_eq_true h2, if_pos rfl], by omega, by omega, by omega⟩
    · rw [decide_eq_false h2, if_neg (by decide)]
      have hw : wrap64 (m - 1) = m - 1 := wrap_idd (by omega) (by omega)
      have hr := all_at clen_fin (m - 1).toNat (by omega)
      rw [Int.toNat_of_nonneg (by omega)] at hr
      simp only [Bool.and_eq_true, decide_eq_true_eq] at hr
      have tail : ((some (([31, 28, 31, 30, 31, 30, 31, 31, 30, 31, 30, 31] : List Int) : List Int)).bind fun y118 => (if 0 ≤ (wrap64 (m - 1)) then (if (wrap64 (m - 1)) < (y118.length : Int) then (some (rd y118 (wrap64 (m - 1)))) else (none)) else (none))) = some (rd [31, 28, 31, 30, 31, 30, 31, 31, 30, 31, 30, 31] (m - 1)) := by
        rw [Option.bind_some, hw, if_pos (by omega), if_pos (by show m - 1 < 12; omega)]
      by_cases h3 : m = 2
      · rw [if_pos h3]
        obtain ⟨b, hb⟩ := long_some y
        rw [hb, Option.bind_some]
        cases b with
        | true => exact ⟨29, by rw [if_pos rfl], by omega, by omega, by omega⟩
        | false => exact ⟨_, by rw [if_neg (by decide)]; exact tail, hr.1, hr.2, by omega⟩
      · exact ⟨_, by rw [if_neg h3]; exact tail, hr.1, hr.2, by omega⟩
theorem num_loop (y m d : Int) (hm : m ≤ 12) (n : Nat) : ∀ (i : Int) (x : Int) (k : Nat), 1 ≤ i → i ≤ 13 → (n : Int) = 13 - i → n + 5 < k → ∃ r, civil_Number.l0 k x i y m d = some (r, 0) := by
  induction n with
  | zero =>
    intro i x k h0 h1 hn hk
    obtain ⟨k, rfl⟩ : ∃ q, k = q + 1 := ⟨k - 1, by omega⟩
    simp only [civil_Number.l0]
    exact ⟨x, by rw [if_neg (by omega)]⟩
  | succ n ih =>
    intro i x k h0 h1 hn hk
    obtain ⟨k, rfl⟩ : ∃ q, k = q + 1 := ⟨k - 1, by omega⟩
    simp only [civil_Number.l0]
    by_cases h : i < m
    · obtain ⟨r, hr, _⟩ := clen_some y i k (by omega)
      rw [if_pos h, hr, Option.bind_some, wrap_idd (x := i + 1) (by omega) (by omega)]
      exact ih (i + 1) _ k (by omega) (by omega) (by omega) (by omega)
    · exact ⟨x, by rw [if_neg h]⟩
theorem number_some (y m d : Int) (h0 : 1 ≤ y) (h1 : y ≤ 9999) (k : Nat) (hk : 30 ≤ k) : ∃ x e, civil_Number.f k y m d = some (x, e) ∧ (e = 0 → 1 ≤ m ∧ m ≤ 12) := by
  unfold civil_Number.f civil_right.f
  rw [if_pos (by omega), if_pos (by omega)]
  by_cases h2 : d ≥ 1
  · obtain ⟨r, hr, r0, r1, r2⟩ := clen_some y m k (by omega)
    rw [if_pos h2, hr, Option.bind_some, Option.bind_some]
    by_cases h3 : d ≤ r
    · rw [decide_eq_true h3, if_pos rfl]
      have ha : ∃ a, civil_ahead.f y = some a := by unfold civil_ahead.f; split; exact ⟨_, rfl⟩; exact ⟨_, rfl⟩
      obtain ⟨a, ha⟩ := ha
      have hm := r2 (by omega)
      obtain ⟨x, hx⟩ := num_loop y m d hm.2 12 1 (wrap64 (wrap64 (wrap64 (a - 719528) + d) - 1)) k (by omega) (by omega) (by omega) (by omega)
      rw [ha, Option.bind_some]
      exact ⟨x, 0, hx, fun _ => hm⟩
    · rw [decide_eq_false h3, if_neg (by decide)]
      exact ⟨0, 4, rfl, fun e => by cases e⟩
  · rw [if_neg h2, Option.bind_some, if_neg (by decide)]
    exact ⟨0, 4, rfl, fun e => by cases e⟩
theorem resolve_some (y m a b c : Int) (k : Nat) (hk : 60 ≤ k) : ∃ x e, week_Resolve.f k y m a b c = some (x, e) ∧ (e = 0 → onB a b c = true ∧ 1 ≤ y ∧ y ≤ 9999 ∧ 1 ≤ m ∧ m ≤ 12) := by
  obtain ⟨k, rfl⟩ : ∃ q, k = q + 2 := ⟨k - 2, by omega⟩
  unfold week_Resolve.f
  rw [wcheck_eq a b c (k + 2) (by omega), Option.bind_some]
  cases ho : onB a b c with
  | false => exact ⟨0, 8, by rw [if_neg (show ¬ ((if false = true then (0 : Int) else 8) = 0) by decide)]; rfl, fun e => by cases e⟩
  | true =>
    rw [if_pos (show (if true = true then (0 : Int) else 8) = 0 from rfl)]
    have key : ∀ dd, 1 ≤ y → y ≤ 9999 → ∃ x e, week_Resolve.j1 (k + 1) y m dd a b c = some (x, e) ∧ (e = 0 → True ∧ 1 ≤ y ∧ y ≤ 9999 ∧ 1 ≤ m ∧ m ≤ 12) := by
      intro dd y0 y1
      obtain ⟨x, e, hx, he⟩ := number_some y m dd y0 y1 k (by omega)
      simp only [week_Resolve.j1, week_upon.f, week_ahead.f, civil_Weekday.f, Option.bind_some]
      rw [hx, Option.bind_some]
      by_cases h : e = 0
      · rw [if_pos h]
        have hm := he h
        by_cases h3 : a = 3
        · exact ⟨_, 0, by rw [if_pos h3], fun _ => ⟨trivial, y0, y1, hm.1, hm.2⟩⟩
        · rw [if_neg h3]
          by_cases h2 : a = 2
          · exact ⟨_, 0, by rw [if_pos h2], fun _ => ⟨trivial, y0, y1, hm.1, hm.2⟩⟩
          · rw [if_neg h2]
            by_cases h4 : a = 4
            · exact ⟨_, 0, by rw [if_pos h4], fun _ => ⟨trivial, y0, y1, hm.1, hm.2⟩⟩
            · exact ⟨_, 0, by rw [if_neg h4], fun _ => ⟨trivial, y0, y1, hm.1, hm.2⟩⟩
      · exact ⟨0, 4, by rw [if_neg h], fun e => by cases e⟩
    simp only [week_Resolve.j0]
    by_cases h1 : y < 1
    · exact ⟨0, 23, by rw [if_pos h1]; rfl, fun e => by cases e⟩
    · rw [if_neg h1]
      by_cases h2 : y > 9999
      · exact ⟨0, 23, by rw [decide_eq_true h2, if_pos rfl], fun e => by cases e⟩
      · rw [decide_eq_false h2, if_neg (by decide)]
        by_cases h3 : a = 2
        · obtain ⟨r, hr, _⟩ := clen_some y m (k + 1) (by omega)
          rw [if_pos h3, hr, Option.bind_some]
          exact key r (by omega) (by omega)
        · rw [if_neg h3]
          exact key c (by omega) (by omega)
structure RE (st kd sv : Int) (ru fm : ByteArray) (un : Bool) (y m a b c s ak : Int) : Prop where
  st : -86400 < st ∧ st < 86400
  kd : (kd = 1 ∧ sv = 0 ∧ ru = ⟨#[]⟩) ∨ (kd = 2 ∧ (-86400 < sv ∧ sv < 86400) ∧ ru = ⟨#[]⟩) ∨ (kd = 3 ∧ sv = 0 ∧ nameB ru = true)
  fm : okF fm.data.toList = true ∧ fm.size ≤ 40
  un : (un = true ∧ onB a b c = true ∧ (1 ≤ y ∧ y ≤ 9999) ∧ (1 ≤ m ∧ m ≤ 12) ∧ atB s ak = true) ∨ (un = false ∧ y = 0 ∧ m = 0 ∧ a = 0 ∧ b = 0 ∧ c = 0 ∧ s = 0 ∧ ak = 0)
theorem short_eq (n : Int) : zone_short.f n = some (decide (-86400 < n) && decide (n < 86400)) := by
  unfold zone_short.f
  by_cases h : n > (-86400)
  · rw [if_pos h, decide_eq_true (show -86400 < n from h), Bool.true_and]
  · rw [if_neg h, decide_eq_false (show ¬ -86400 < n from h), Bool.false_and]
theorem ru_nil (ru : ByteArray) (h : (ru.toList == ([] : List UInt8)) = true) : ru = ⟨#[]⟩ := by
  have h' : ru.toList = [] := by simpa using h
  apply empty_of
  rw [toList_data] at h'
  have := size_data ru
  rw [h'] at this
  exact this.symm
theorem right_cases (st kd sv : Int) (ru fm : ByteArray) (un : Bool) (y m a b c s ak : Int) (hr : ru.size ≤ 200) (hf : fm.size ≤ 200) :
    (zone_right.f 1200 st kd sv ru fm un y m a b c s ak = some true ∧ RE st kd sv ru fm un y m a b c s ak) ∨ zone_right.f 1200 st kd sv ru fm un y m a b c s ak = some false := by
  unfold zone_right.f
  rw [short_eq, Option.bind_some]
  by_cases h1 : (decide (-86400 < st) && decide (st < 86400)) = true
  · rw [if_pos h1]
    have h1' : -86400 < st ∧ st < 86400 := by simpa using h1
    have hsv : ∃ z, zone_saving.f 1200 st kd sv ru fm un y m a b c s ak = some z ∧ (z = true → (kd = 1 ∧ sv = 0 ∧ ru = ⟨#[]⟩) ∨ (kd = 2 ∧ (-86400 < sv ∧ sv < 86400) ∧ ru = ⟨#[]⟩) ∨ (kd = 3 ∧ sv = 0 ∧ nameB ru = true)) := by
      unfold zone_saving.f
      by_cases k1 : kd = 1
      · rw [if_pos k1]
        by_cases v : sv = 0
        · exact ⟨_, by rw [if_pos v], fun e => Or.inl ⟨k1, v, ru_nil ru e⟩⟩
        · exact ⟨false, by rw [if_neg v], fun e => by cases e⟩
      · rw [if_neg k1]
        by_cases k2 : kd = 2
        · rw [if_pos k2, short_eq, Option.bind_some]
          by_cases v : (decide (-86400 < sv) && decide (sv < 86400)) = true
          · exact ⟨_, by rw [if_pos v], fun e => Or.inr (Or.inl ⟨k2, by simpa using v, ru_nil ru e⟩)⟩
          · exact ⟨false, by rw [if_neg v], fun e => by cases e⟩
        · rw [if_neg k2]
          by_cases k3 : kd = 3
          · rw [if_pos k3]
            by_cases v : sv = 0
            · exact ⟨nameB ru, by rw [if_pos v, name_eq ru (by omega) 1200 (by omega)]; rfl, fun e => Or.inr (Or.inr ⟨k3, v, e⟩)⟩
            · exact ⟨false, by rw [if_neg v], fun e => by cases e⟩
          · exact ⟨false, by rw [if_neg k3], fun e => by cases e⟩
    obtain ⟨z, hz, hz'⟩ := hsv
    rw [hz, Option.bind_some]
    cases z with
    | false => exact Or.inr (by rw [if_neg (by decide)])
    | true =>
      rw [if_pos rfl]
      obtain ⟨f, hfm, hfm'⟩ := fmt_eq fm (by omega) 1200 (by omega)
      rw [hfm, Option.bind_some]
      cases f with
      | false => exact Or.inr (by rw [if_neg (by decide)])
      | true =>
        rw [if_pos rfl]
        have hun : ∃ u, zone_until.f 1200 st kd sv ru fm un y m a b c s ak = some u ∧ (u = true → (un = true ∧ onB a b c = true ∧ (1 ≤ y ∧ y ≤ 9999) ∧ (1 ≤ m ∧ m ≤ 12) ∧ atB s ak = true) ∨ (un = false ∧ y = 0 ∧ m = 0 ∧ a = 0 ∧ b = 0 ∧ c = 0 ∧ s = 0 ∧ ak = 0)) := by
          unfold zone_until.f
          cases un with
          | true =>
            rw [if_pos rfl]
            obtain ⟨x, e, hx, he⟩ := resolve_some y m a b c 1200 (by omega)
            rw [hx, Option.bind_some]
            by_cases h : e = 0
            · obtain ⟨q1, q2, q3, q4, q5⟩ := he h
              rw [if_pos h, acheck_eq, Option.bind_some]
              refine ⟨_, rfl, fun hh => Or.inl ⟨rfl, q1, ⟨q2, q3⟩, ⟨q4, q5⟩, ?_⟩⟩
              cases hq : atB s ak with
              | true => rfl
              | false => rw [hq] at hh; cases hh
            · exact ⟨false, by rw [if_neg h], fun e => by cases e⟩
          | false =>
            rw [if_neg (by decide)]
            by_cases h1 : y = 0
            · rw [if_pos h1]
              by_cases h2 : m = 0
              · rw [if_pos h2]
                by_cases h3 : (a == 0 && (b == 0 && (c == 0))) = true
                · refine ⟨_, by rw [if_pos h3], fun hh => Or.inr ?_⟩
                  simp only [Bool.and_eq_true, beq_iff_eq] at h3 hh
                  exact ⟨rfl, h1, h2, h3.1, h3.2.1, h3.2.2, hh.1, hh.2⟩
                · exact ⟨false, by rw [if_neg h3], fun e => by cases e⟩
              · exact ⟨false, by rw [if_neg h2], fun e => by cases e⟩
            · exact ⟨false, by rw [if_neg h1], fun e => by cases e⟩
        obtain ⟨u, hu, hu'⟩ := hun
        rw [hu]
        cases u with
        | false => exact Or.inr rfl
        | true => exact Or.inl ⟨rfl, ⟨h1', hz' rfl, hfm' rfl, hu' rfl⟩⟩
  · exact Or.inr (by rw [if_neg h1])
theorem right_at (st kd sv : Int) (ru fm : ByteArray) (un : Bool) (y m a b c s ak : Int) (r : Bool) (h : zone_right.f 1200 st kd sv ru fm un y m a b c s ak = some r) (q : Nat) (hq : 1200 ≤ q) : zone_right.f q st kd sv ru fm un y m a b c s ak = some r :=
  at_rounds (g := fun q => zone_right.f q st kd sv ru fm un y m a b c s ak) (fun q => zone_right.mono _ _ _ _ _ _ _ _ _ _ _ _ _ q) hq h
theorem name_no58 (s : ByteArray) (h : nameB s = true) : (58 : UInt8) ∉ s.data.toList := by
  unfold nameB at h
  simp only [Bool.and_eq_true] at h
  intro hm
  have := List.all_eq_true.mp h.1.2 58 (List.mem_map.mpr ⟨58, hm, rfl⟩)
  revert this
  decide
theorem name_head (s : ByteArray) (h : nameB s = true) : ∃ b l, s.data.toList = b :: l ∧ b ≠ 45 ∧ ¬ (48 ≤ (b.toNat : Int) ∧ (b.toNat : Int) ≤ 57) := by
  unfold nameB at h
  simp only [Bool.and_eq_true, decide_eq_true_eq] at h
  have hs := size_data s
  cases e : s.data.toList with
  | nil => rw [e] at hs; simp at hs; omega
  | cons b l =>
    have hb : bt s 0 = (b.toNat : Int) := by
      have := bt_list (b :: l) 0 (by simp)
      rw [show s = B (b :: l) by rw [← e]]
      exact this
    have hh := h.2
    unfold headOk at hh
    rw [hb] at hh
    simp only [Bool.and_eq_true, Bool.not_eq_true', Bool.and_eq_false_iff, decide_eq_false_iff_not, bne_iff_ne, ne_eq] at hh
    refine ⟨b, l, rfl, ?_, ?_⟩
    · rintro rfl
      exact hh.2.2 rfl
    · rcases hh.1 with h1 | h1 <;> omega
theorem num_no (b : UInt8) (l : List UInt8) (hb : ¬ (48 ≤ (b.toNat : Int) ∧ (b.toNat : Int) ≤ 57)) (k : Nat) (hk : 5 ≤ k) : ∃ v, num_Parse.f k (B (b :: l)) = some (v, false) := by
  obtain ⟨k, rfl⟩ : ∃ q, k = q + 2 := ⟨k - 2, by omega⟩
  have h0 : bt (B (b :: l)) 0 = (b.toNat : Int) := bt_list (b :: l) 0 (by simp)
  have hz : ((B (b :: l)).size : Int) = l.length + 1 := by rw [B_size]; simp
  unfold num_Parse.f
  simp only [num_Parse.j0, num_Parse.l0]
  rw [hz, if_neg (by omega)]
  by_cases h : ((l.length : Int) + 1 > 18)
  · exact ⟨0, by rw [decide_eq_true h, if_pos rfl]⟩
  · rw [decide_eq_false h, if_neg (by decide), if_pos (by omega), if_pos (by decide), if_pos (by omega), h0]
    by_cases h1 : (b.toNat : Int) < 48
    · exact ⟨0, by rw [if_pos h1]⟩
    · exact ⟨0, by rw [if_neg h1, if_pos (by omega)]⟩
theorem clock_name (s : ByteArray) (h : nameB s = true) (k : Nat) (hk : 20 ≤ k) : clock_Parse.f k s = some (0, 5) := by
  obtain ⟨b, l, e, hb, hd⟩ := name_head s h
  have ns : s.size ≤ 40 := by unfold nameB at h; simp only [Bool.and_eq_true, decide_eq_true_eq] at h; exact h.1.1.2
  have hs := size_data s
  have h58 := name_no58 s h
  rw [e] at hs h58
  have es : s = B (b :: l) := by rw [← e]
  rw [es]
  obtain ⟨k, rfl⟩ : ∃ q, k = q + 1 := ⟨k - 1, by omega⟩
  obtain ⟨v, hv⟩ := num_no b l hd k (by omega)
  unfold clock_Parse.f
  rw [if_neg (by rw [B_toList]; intro h'; injection h' with h' _; exact hb h'), prefix_eq _ (by omega), if_neg (by intro h'; injection h' with h' _; exact hb h'), Option.bind_some]
  show ((strings_Split.f (B (b :: l)) ⟨#[58]⟩).bind fun t258 => if (t258.length : Int) > 3 then some (0, 5) else clock_Parse.l0 (k + 1) false 0 3600 t258 (t258.length : Int) 0) = _
  rw [split_sp _ (by omega), sp_no _ h58, Option.bind_some, if_neg (by show ¬ (1 : Int) > 3; decide)]
  simp only [clock_Parse.l0]
  have hp : clock_part.f k (B (b :: l)) 0 = some (v, false) := by
    unfold clock_part.f
    rw [hv]
    rfl
  rw [if_pos (by show (0 : Int) < 1; decide), if_pos (by decide), if_pos (by show (0 : Int) < 1; decide), show rdOf ByteArray.empty [B (b :: l)] 0 = B (b :: l) from rfl, hp, Option.bind_some, if_neg (show ¬ (false = true) by decide)]
def k2_ (kd sv : Int) (ru : ByteArray) : List UInt8 := if kd = 2 then sgnd sv else if kd = 3 then ru.data.toList else [45]
def endF (un : Bool) (y : Int) (mo on : List UInt8) (s ak : Int) : List (List UInt8) := if un = true then [Lib.decDigits y.toNat, mo, on, sgnd s ++ suf ak] else []
def eraF (st kd sv : Int) (ru fm : ByteArray) (un : Bool) (y : Int) (mo on : List UInt8) (s ak : Int) : List (List UInt8) := [sgnd st, k2_ kd sv ru, fm.data.toList] ++ endF un y mo on s ak
theorem nbytes (r : ByteArray) : B r.data.toList = r := rfl
theorem text_eraF (st kd sv : Int) (ru fm : ByteArray) (un : Bool) (y m a b c s ak : Int) (mo on : List UInt8) (W : ByteArray) (hz : zone_right.f 1200 st kd sv ru fm un y m a b c s ak = some true) (h : RE st kd sv ru fm un y m a b c s ak)
    (hW : un = true → words_Name.f 2 m = some (W, 0) ∧ (3 : Int) ≤ (W.size : Int) ∧ W.extract 0 3 = B mo ∧ mo.length = 3 ∧ on.length ≤ 20 ∧ (∀ q, 60 ≤ q → onform_Text.f q a b c = some (B on, 0))) (q : Nat) (hq : 1300 ≤ q) :
    zone_Text.f q st kd sv ru fm un y m a b c s ak = some (B (Lib.join (eraF st kd sv ru fm un y mo on s ak) [32]), 0) ∧ (Lib.join (eraF st kd sv ru fm un y mo on s ak) [32]).length ≤ 600 := by
  obtain ⟨hst, hkd, hfm, hun⟩ := h
  have l1 := sgnd_len st (by omega) (by omega)
  have lf := size_data fm
  have l2 : (k2_ kd sv ru).length ≤ 40 := by
    unfold k2_
    rcases hkd with ⟨rfl, _, _⟩ | ⟨rfl, h2, _⟩ | ⟨rfl, _, h3⟩
    · rw [if_neg (by decide), if_neg (by decide)]; decide
    · have := sgnd_len sv (by omega) (by omega)
      rw [if_pos rfl]; omega
    · have : ru.size ≤ 40 := by unfold nameB at h3; simp only [Bool.and_eq_true, decide_eq_true_eq] at h3; exact h3.1.1.2
      rw [if_neg (by decide), if_pos rfl, size_data]; exact this
  have hlen : (Lib.join (eraF st kd sv ru fm un y mo on s ak) [32]).length ≤ 600 := by
    unfold eraF endF
    rcases hun with ⟨rfl, ho, hy, hm, ha⟩ | ⟨rfl, _⟩
    · obtain ⟨_, _, _, w4, w5, _⟩ := hW rfl
      have a2 := dec_len4 y.toNat (by omega)
      have ha' := ha
      unfold atB at ha'
      simp only [Bool.and_eq_true, decide_eq_true_eq] at ha'
      have a4 := sgnd_len s ha'.1.1 ha'.1.2
      have a7 : (suf ak).length ≤ 1 := by unfold suf; split; decide; split <;> decide
      rw [if_pos rfl, List.cons_append, Lib.join_cons]
      simp [Lib.joinTail]
      omega
    · rw [if_neg (by decide), List.append_nil, Lib.join_cons]
      simp [Lib.joinTail]
      omega
  refine ⟨?_, hlen⟩
  obtain ⟨q, rfl⟩ : ∃ p, q = p + 1 := ⟨q - 1, by omega⟩
  have j0 : ∀ X : List ByteArray, X = [B (sgnd st), B (k2_ kd sv ru), fm] → zone_Text.j0 (q + 1) X st kd sv ru fm un y m a b c s ak = some (B (Lib.join (eraF st kd sv ru fm un y mo on s ak) [32]), 0) := by
    intro X hX
    subst hX
    simp only [zone_Text.j0]
    have jn := join_eq (eraF st kd sv ru fm un y mo on s ak) (by unfold eraF endF; split <;> simp) (by omega)
    rcases hun with ⟨rfl, ho, hy, hm, ha⟩ | ⟨rfl, _⟩
    · obtain ⟨w1, w2, w3, w4, w5, w6⟩ := hW rfl
      have ty := text_one y.toNat (by omega)
      rw [Int.toNat_of_nonneg (by omega)] at ty
      rw [if_pos (by rfl), w1, Option.bind_some, w6 q (by omega), Option.bind_some, atext_eq s ak ha q (by omega), Option.bind_some, ty, Option.bind_some, if_pos w2, Option.bind_some, if_pos (by show 3 + 4 < 8796093022208; decide), w3]
      exact Eq.trans (congrArg (fun z => z.bind fun t505 => some (t505, (0 : Int))) jn) rfl
    · rw [if_neg (by simp)]
      exact Eq.trans (congrArg (fun z => z.bind fun t506 => some (t506, (0 : Int))) jn) rfl
  unfold zone_Text.f
  rw [right_at _ _ _ _ _ _ _ _ _ _ _ _ _ _ hz (q + 1) (by omega), Option.bind_some, if_pos rfl, ctext_eq st (by omega) (by omega) (q + 1) (by omega), Option.bind_some, Option.bind_some]
  rcases hkd with ⟨rfl, rfl, rfl⟩ | ⟨rfl, h2, rfl⟩ | ⟨rfl, rfl, h3⟩
  · rw [if_neg (by decide), if_neg (by decide)]
    exact j0 _ rfl
  · rw [if_pos rfl, ctext_eq sv (by omega) (by omega) (q + 1) (by omega), Option.bind_some, if_pos (by show (1 : Int) < 3; decide)]
    exact j0 _ rfl
  · rw [if_neg (by decide), if_pos rfl, if_pos (by show (1 : Int) < 3; decide)]
    exact j0 _ rfl
theorem parse_eraF (st kd sv : Int) (ru fm : ByteArray) (un : Bool) (y m a b c s ak : Int) (mo on : List UInt8) (hz : zone_right.f 1200 st kd sv ru fm un y m a b c s ak = some true) (h : RE st kd sv ru fm un y m a b c s ak)
    (hW : un = true → (∀ q, 40 ≤ q → words_Month.f q (B mo) = some (m, 0)) ∧ (∀ q, 60 ≤ q → onform_Parse.f q (B on) = some (a, b, c, 0))) (q : Nat) (hq : 1300 ≤ q) :
    zone_Era.f q ((eraF st kd sv ru fm un y mo on s ak).map B) = some (st, kd, sv, ru, fm, un, y, m, a, b, c, s, ak, 0) := by
  obtain ⟨q, rfl⟩ : ∃ p, q = p + 5 := ⟨q - 5, by omega⟩
  obtain ⟨hst, hkd, hfm, hun⟩ := h
  have zr := fun p hp => right_at _ _ _ _ _ _ _ _ _ _ _ _ _ _ hz p hp
  have hlen : (((eraF st kd sv ru fm un y mo on s ak).map B).length : Int) = if un = true then 7 else 3 := by unfold eraF endF; split <;> rfl
  have r0 : rdOf ByteArray.empty ((eraF st kd sv ru fm un y mo on s ak).map B) 0 = B (sgnd st) := rfl
  have r1 : rdOf ByteArray.empty ((eraF st kd sv ru fm un y mo on s ak).map B) 1 = B (k2_ kd sv ru) := rfl
  have r2 : rdOf ByteArray.empty ((eraF st kd sv ru fm un y mo on s ak).map B) 2 = fm := rfl
  have j2 : zone_Era.j2 (q + 3) ((eraF st kd sv ru fm un y mo on s ak).map B) st kd sv ru fm false 0 0 0 0 0 0 0 = some (st, kd, sv, ru, fm, un, y, m, a, b, c, s, ak, 0) := by
    simp only [zone_Era.j2]
    rw [hlen]
    rcases hun with ⟨rfl, ho, hy, hm, ha⟩ | ⟨rfl, rfl, rfl, rfl, rfl, rfl, rfl, rfl⟩
    · obtain ⟨w1, w2⟩ := hW rfl
      rw [if_pos (by decide), if_pos (by decide)]
      have ed : ((eraF st kd sv ru fm true y mo on s ak).map B).drop 3 = [B (Lib.decDigits y.toNat), B mo, B on, B (sgnd s ++ suf ak)] := rfl
      have en : zone_ends.f (q + 2) st kd sv ru fm false 0 0 0 0 0 0 0 [B (Lib.decDigits y.toNat), B mo, B on, B (sgnd s ++ suf ak)] = some (0, st, kd, sv, ru, fm, true, y, m, a, b, c, s, ak) := by
        have py := parse_dec y.toNat (by omega) (q + 2) (by omega)
        rw [Int.toNat_of_nonneg (by omega)] at py
        unfold zone_ends.f
        rw [if_pos (by show (0 : Int) < 4; decide), show rdOf ByteArray.empty [B (Lib.decDigits y.toNat), B mo, B on, B (sgnd s ++ suf ak)] 0 = B (Lib.decDigits y.toNat) from rfl, py, Option.bind_some, if_pos rfl, if_pos (by show (4 : Int) > 1; decide), if_pos (by show (1 : Int) < 4; decide),
          show rdOf ByteArray.empty [B (Lib.decDigits y.toNat), B mo, B on, B (sgnd s ++ suf ak)] 1 = B mo from rfl, w1 (q + 2) (by omega), Option.bind_some]
        simp only [zone_ends.j0, zone_ends.j1, if_true]
        rw [decide_eq_true (show ((([B (Lib.decDigits y.toNat), B mo, B on, B (sgnd s ++ suf ak)] : List ByteArray).length : Int) > 2) by show (4 : Int) > 2; decide), if_pos rfl, if_pos (by show (2 : Int) < 4; decide),
          show rdOf ByteArray.empty [B (Lib.decDigits y.toNat), B mo, B on, B (sgnd s ++ suf ak)] 2 = B on from rfl, w2 q (by omega), Option.bind_some, if_pos rfl, if_pos (by show (4 : Int) > 3; decide), if_pos (by show (3 : Int) < 4; decide),
          show rdOf ByteArray.empty [B (Lib.decDigits y.toNat), B mo, B on, B (sgnd s ++ suf ak)] 3 = B (sgnd s ++ suf ak) from rfl, aparse_eq s ak ha q (by omega), Option.bind_some]
      rw [ed, en, Option.bind_some, if_pos rfl, zr (q + 2) (by omega), Option.bind_some, if_pos rfl]
    · rw [if_neg (by decide), zr (q + 2) (by omega), Option.bind_some, if_pos rfl]
  unfold zone_Era.f
  have j0 : zone_Era.j0 (q + 5) ((eraF st kd sv ru fm un y mo on s ak).map B) false = some (st, kd, sv, ru, fm, un, y, m, a, b, c, s, ak, 0) := by
    simp only [zone_Era.j0]
    have g0 : (0 : Int) < (((eraF st kd sv ru fm un y mo on s ak).map B).length : Int) := by rw [hlen]; split <;> decide
    have g2 : (2 : Int) < (((eraF st kd sv ru fm un y mo on s ak).map B).length : Int) := by rw [hlen]; split <;> decide
    have g1 : (1 : Int) < (((eraF st kd sv ru fm un y mo on s ak).map B).length : Int) := by omega
    rw [if_neg (by simp), if_pos g0, r0, cparse_eq st (by omega) (by omega) (q + 4) (by omega), Option.bind_some, if_pos rfl, if_pos g2, if_pos g1, r1, r2]
    rcases hkd with ⟨rfl, rfl, rfl⟩ | ⟨rfl, h2, rfl⟩ | ⟨rfl, rfl, h3⟩
    · rw [if_pos (by rw [B_toList]; rfl)]
      simp only [zone_Era.j1, if_true]
      exact j2
    · have e2 : k2_ 2 sv ⟨#[]⟩ = sgnd sv := rfl
      rw [e2] at r1 ⊢
      have hne : ¬ (B (sgnd sv)).toList = [45] := by
        obtain ⟨l', b', e, hb⟩ := sgnd_last sv
        rw [B_toList, e]
        intro h'
        cases l' with
        | nil => injection h' with h' _; subst h'; revert hb; decide
        | cons x l' => injection h' with _ h'; simp at h'
      rw [if_neg hne, cparse_eq sv (by omega) (by omega) (q + 4) (by omega), Option.bind_some]
      simp only [zone_Era.j1, if_true]
      exact j2
    · have e2 : k2_ 3 0 ru = ru.data.toList := rfl
      rw [e2] at r1 ⊢
      have hne : ¬ (B ru.data.toList).toList = [45] := by
        obtain ⟨b', l', e, hb, _⟩ := name_head ru h3
        rw [B_toList, e]
        intro h'
        injection h' with h' _
        exact hb h'
      rw [if_neg hne, nbytes, clock_name ru h3 (q + 4) (by omega), Option.bind_some]
      simp only [zone_Era.j1]
      rw [if_neg (by decide), if_pos g1, r1, nbytes]
      exact j2
  rw [hlen]
  rcases hun with ⟨rfl, _⟩ | ⟨rfl, _⟩
  · rw [if_neg (by decide), show decide ((if true = true then (7 : Int) else 3) > 7) = false from by decide]; exact j0
  · rw [if_neg (by decide), show decide ((if false = true then (7 : Int) else 3) > 7) = false from by decide]; exact j0
theorem era_round (st kd sv : Int) (ru fm : ByteArray) (un : Bool) (y m a b c s ak : Int) (hz : zone_right.f 1200 st kd sv ru fm un y m a b c s ak = some true) (h : RE st kd sv ru fm un y m a b c s ak) :
    ∃ T L, (∀ q, 1300 ≤ q → zone_Text.f q st kd sv ru fm un y m a b c s ak = some (T, 0)) ∧ fields_Split.f T = some (L, 0) ∧ (∀ q, 1300 ≤ q → zone_Era.f q L = some (st, kd, sv, ru, fm, un, y, m, a, b, c, s, ak, 0)) := by
  have h0 := h
  obtain ⟨hst, hkd, hfm, hun⟩ := h0
  have ok2 : okF (k2_ kd sv ru) = true := by
    unfold k2_
    rcases hkd with ⟨rfl, _, _⟩ | ⟨rfl, h2, _⟩ | ⟨rfl, _, h3⟩
    · rw [if_neg (by decide), if_neg (by decide)]; decide
    · rw [if_pos rfl]; exact okF_sgnd _
    · rw [if_neg (by decide), if_pos rfl]; exact okF_name _ h3
  rcases hun with ⟨rfl, ho, hy, hm, ha⟩ | ⟨rfl, _⟩
  · obtain ⟨mo, W, o1, o2, o3, o4, o5, o6⟩ := mon_round m hm.1 hm.2
    obtain ⟨on, p1, p2, p3, p4⟩ := on_round a b c ho
    have tx := fun q hq => text_eraF st kd sv ru fm true y m a b c s ak mo on W hz h (fun _ => ⟨o3, o4, o5, o2, p2, p3⟩) q hq
    have hall : ((eraF st kd sv ru fm true y mo on s ak).all okF) = true := by
      unfold eraF endF
      rw [if_pos rfl]
      simp only [List.cons_append, List.nil_append, List.all_cons, List.all_nil, okF_sgnd, ok2, hfm.1, okF_dec, o1, p1, okF_at]
      decide
    exact ⟨_, _, fun q hq => (tx q hq).1, split_join _ _ hall (tx 1300 (by omega)).2, fun q hq => parse_eraF st kd sv ru fm true y m a b c s ak mo on hz h (fun _ => ⟨o6, p4⟩) q hq⟩
  · have tx := fun q hq => text_eraF st kd sv ru fm false y m a b c s ak [] [] ⟨#[]⟩ hz h (fun e => by cases e) q hq
    have hall : ((eraF st kd sv ru fm false y [] [] s ak).all okF) = true := by
      unfold eraF endF
      rw [if_neg (by decide)]
      simp only [List.append_nil, List.all_cons, List.all_nil, okF_sgnd, ok2, hfm.1]
      decide
    exact ⟨_, _, fun q hq => (tx q hq).1, split_join _ _ hall (tx 1300 (by omega)).2, fun q hq => parse_eraF st kd sv ru fm false y m a b c s ak [] [] hz h (fun e => by cases e) q hq⟩
theorem ztext_wrong (st kd sv : Int) (ru fm : ByteArray) (un : Bool) (y m a b c s ak : Int) (h : zone_right.f 1200 st kd sv ru fm un y m a b c s ak = some false) (k : Nat) (hk : 1200 ≤ k) : zone_Text.f k st kd sv ru fm un y m a b c s ak = some (⟨#[]⟩, 11) := by
  unfold zone_Text.f
  rw [right_at _ _ _ _ _ _ _ _ _ _ _ _ _ _ h k hk, Option.bind_some, if_neg (by decide)]
theorem zj1_wrong (x5 x7 : ByteArray) (x6 x8 : Int) (st kd sv : Int) (ru fm : ByteArray) (un : Bool) (y m a b c s ak : Int) (st' kd' sv' : Int) (ru' fm' : ByteArray) (un' : Bool) (y' m' a' b' c' s' ak' : Int) (h5 : x6 = 0 ∨ x5 = ⟨#[]⟩) (h7 : x8 = 0 ∨ x7 = ⟨#[]⟩) :
    solsticelaw10_ZoneBack.j1 1306 x5 x6 x7 x8 true st kd sv ru fm un y m a b c s ak st' kd' sv' ru' fm' un' y' m' a' b' c' s' ak' = some true := by
  simp only [solsticelaw10_ZoneBack.j1, if_true]
  rw [wakes10b 1305 (by decide)]
  by_cases h6 : x6 = 0
  · rw [if_pos h6]
    by_cases h8 : x8 = 0
    · rw [if_pos h8]; rfl
    · rw [if_neg h8, if_pos (by rw [h7.resolve_left h8]; exact empty_nil)]; rfl
  · rw [if_neg h6, if_pos (by rw [h5.resolve_left h6]; exact empty_nil)]
    by_cases h8 : x8 = 0
    · rw [if_pos h8]; rfl
    · rw [if_neg h8, if_pos (by rw [h7.resolve_left h8]; exact empty_nil)]; rfl
theorem zj1_right (st kd sv : Int) (ru fm : ByteArray) (un : Bool) (y m a b c s ak : Int) (st' kd' sv' : Int) (ru' fm' : ByteArray) (un' : Bool) (y' m' a' b' c' s' ak' : Int) (T T' : ByteArray) (L L' : List ByteArray)
    (u1 : ∀ q, 1300 ≤ q → zone_Text.f q st kd sv ru fm un y m a b c s ak = some (T, 0)) (u2 : fields_Split.f T = some (L, 0)) (u3 : ∀ q, 1300 ≤ q → zone_Era.f q L = some (st, kd, sv, ru, fm, un, y, m, a, b, c, s, ak, 0))
    (v1 : ∀ q, 1300 ≤ q → zone_Text.f q st' kd' sv' ru' fm' un' y' m' a' b' c' s' ak' = some (T', 0)) (v2 : fields_Split.f T' = some (L', 0)) (v3 : ∀ q, 1300 ≤ q → zone_Era.f q L' = some (st', kd', sv', ru', fm', un', y', m', a', b', c', s', ak', 0)) :
    solsticelaw10_ZoneBack.j1 1306 T 0 T' 0 false st kd sv ru fm un y m a b c s ak st' kd' sv' ru' fm' un' y' m' a' b' c' s' ak' = some true := by
  have e : ((T.toList == T'.toList) == (st == st' && (kd == kd' && (sv == sv' && (ru.toList == ru'.toList && (fm.toList == fm'.toList && (un == un' && (y == y' && (m == m' && ((a == a' && (b == b' && (c == c'))) && ((s == s' && (ak == ak'))))))))))))) = true := by
    by_cases hU : T.toList = T'.toList
    · have hU' := list_eq_of hU
      subst hU'
      have hL : L = L' := by have := u2.symm.trans v2; injection this with this; injection this
      subst hL
      have := (u3 1300 (by decide)).symm.trans (v3 1300 (by decide))
      simp only [Option.some.injEq, Prod.mk.injEq] at this
      obtain ⟨rfl, rfl, rfl, rfl, rfl, rfl, rfl, rfl, rfl, rfl, rfl, rfl, rfl, _⟩ := this
      simp
    · have h1 : (T.toList == T'.toList) = false := by simpa using hU
      have h2 : (st == st' && (kd == kd' && (sv == sv' && (ru.toList == ru'.toList && (fm.toList == fm'.toList && (un == un' && (y == y' && (m == m' && ((a == a' && (b == b' && (c == c'))) && ((s == s' && (ak == ak')))))))))))) = false := by
        rw [Bool.eq_false_iff]
        intro hh
        simp only [Bool.and_eq_true, beq_iff_eq] at hh
        obtain ⟨a1, a2, a3, a4, a5, a6, a7, a8, ⟨a9, a10, a11⟩, a12, a13⟩ := hh
        have b4 := list_eq_of a4
        have b5 := list_eq_of a5
        subst a1 a2 a3 b4 b5 a6 a7 a8 a9 a10 a11 a12 a13
        have := (u1 1300 (by decide)).symm.trans (v1 1300 (by decide))
        injection this with this
        injection this with this
        exact hU (by rw [this])
      rw [h1, h2]
      rfl
  simp only [solsticelaw10_ZoneBack.j1, Bool.false_eq_true, if_false]
  rw [u2, Option.bind_some, u3 1305 (by decide), Option.bind_some, if_pos rfl, if_pos rfl, if_pos (by simp), if_pos e, wakes10b 1305 (by decide)]
  rfl
theorem zj0_big (x1 : Nat) (st kd sv : Int) (ru fm : ByteArray) (un : Bool) (y m a b c s ak : Int) (st' kd' sv' : Int) (ru' fm' : ByteArray) (un' : Bool) (y' m' a' b' c' s' ak' : Int) :
    solsticelaw10_ZoneBack.j0 (x1 + 1) true st kd sv ru fm un y m a b c s ak st' kd' sv' ru' fm' un' y' m' a' b' c' s' ak' = some true := by
  simp only [solsticelaw10_ZoneBack.j0, if_true]
theorem heavy_eq (st kd sv : Int) (ru fm : ByteArray) (un : Bool) (y m a b c s ak : Int) : ∃ r, solsticelaw10_HeavyEra.f st kd sv ru fm un y m a b c s ak = some r ∧ (r = false → ru.size ≤ 200 ∧ fm.size ≤ 200) := by
  unfold solsticelaw10_HeavyEra.f
  by_cases h1 : (ru.size : Int) > 200
  · exact ⟨true, by rw [if_pos h1], fun e => by cases e⟩
  · rw [if_neg h1]
    refine ⟨_, rfl, fun e => ?_⟩
    have := of_decide_eq_false e
    omega
theorem pure_ZoneBack (st kd sv : Int) (ru fm : ByteArray) (un : Bool) (y m a b c s ak : Int) (st' kd' sv' : Int) (ru' fm' : ByteArray) (un' : Bool) (y' m' a' b' c' s' ak' : Int) :
    ∃ k, solsticelaw10_ZoneBack.f k st kd sv ru fm un y m a b c s ak st' kd' sv' ru' fm' un' y' m' a' b' c' s' ak' = some true := by
  refine ⟨1307, ?_⟩
  unfold solsticelaw10_ZoneBack.f
  obtain ⟨r, hr, hr'⟩ := heavy_eq st kd sv ru fm un y m a b c s ak
  rw [hr, Option.bind_some]
  cases r with
  | true => rw [if_pos rfl]; exact zj0_big 1306 ..
  | false =>
    rw [if_neg (by decide)]
    obtain ⟨r2, hq, hq'⟩ := heavy_eq st' kd' sv' ru' fm' un' y' m' a' b' c' s' ak'
    rw [hq, Option.bind_some]
    cases r2 with
    | true => exact zj0_big 1306 ..
    | false =>
      obtain ⟨z1, z2⟩ := hr' rfl
      obtain ⟨z3, z4⟩ := hq' rfl
      simp only [solsticelaw10_ZoneBack.j0, Bool.false_eq_true, if_false]
      rcases right_cases st kd sv ru fm un y m a b c s ak z1 z2 with ⟨hz, hR⟩ | hz
      · obtain ⟨T, L, u1, u2, u3⟩ := era_round st kd sv ru fm un y m a b c s ak hz hR
        rw [u1 1306 (by decide), Option.bind_some]
        rcases right_cases st' kd' sv' ru' fm' un' y' m' a' b' c' s' ak' z3 z4 with ⟨hz', hR'⟩ | hz'
        · obtain ⟨T', L', v1, v2, v3⟩ := era_round st' kd' sv' ru' fm' un' y' m' a' b' c' s' ak' hz' hR'
          rw [v1 1306 (by decide), Option.bind_some, if_pos rfl]
          exact zj1_right st kd sv ru fm un y m a b c s ak st' kd' sv' ru' fm' un' y' m' a' b' c' s' ak' T T' L L' u1 u2 u3 v1 v2 v3
        · rw [ztext_wrong _ _ _ _ _ _ _ _ _ _ _ _ _ hz' 1306 (by decide), Option.bind_some, if_pos rfl]
          exact zj1_wrong _ _ _ _ _ _ _ _ _ _ _ _ _ _ _ _ _ _ _ _ _ _ _ _ _ _ _ _ _ _ (Or.inl rfl) (Or.inr rfl)
      · rw [ztext_wrong _ _ _ _ _ _ _ _ _ _ _ _ _ hz 1306 (by decide), Option.bind_some]
        rcases right_cases st' kd' sv' ru' fm' un' y' m' a' b' c' s' ak' z3 z4 with ⟨hz', hR'⟩ | hz'
        · obtain ⟨T', L', v1, v2, v3⟩ := era_round st' kd' sv' ru' fm' un' y' m' a' b' c' s' ak' hz' hR'
          rw [v1 1306 (by decide), Option.bind_some, if_neg (by decide)]
          exact zj1_wrong _ _ _ _ _ _ _ _ _ _ _ _ _ _ _ _ _ _ _ _ _ _ _ _ _ _ _ _ _ _ (Or.inr rfl) (Or.inl rfl)
        · rw [ztext_wrong _ _ _ _ _ _ _ _ _ _ _ _ _ hz' 1306 (by decide), Option.bind_some, if_neg (by decide)]
          exact zj1_wrong _ _ _ _ _ _ _ _ _ _ _ _ _ _ _ _ _ _ _ _ _ _ _ _ _ _ _ _ _ _ (Or.inr rfl) (Or.inr rfl)
end Go.Proofs.YtfhemdnjoedioaaGreatDoor.X
end
