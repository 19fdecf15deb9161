import Derived.Below
import Derived.Deep.Draws
import Derived.Deep.AppendLies
import Derived.Maps.AppendAt
import Derived.OwnWalk
import Derived.Laws.BytesArg
import Derived.Laws.MakeOwn
import Derived.Laws.OwnMore
import Derived.Deep.OwnRows
import Derived.Tactics
import Derived.Lib.ConvBytes
import Derived.Laws.Slices
import Derived.WalkKit
import Derived.KernelRfl
import Derived.RowKit3
import Derived.Deep.LoopGhost
import Derived.Deep.QuietTactic
import Derived.BigQuiet
import Derived.WideLaws
import Derived.Deep.DeepCutAuto
import Derived.Deep.CutBlock
import Derived.Deep.RegionHeld3
import Derived.Laws.Rows
import Derived.Lib.AppendStr
import Derived.ArgAppend
import Derived.Laws.IdiomCopy
import Derived.RowKit
import Derived.OrdersHeld
import Derived.Laws.BitsLemmas
import Derived.Laws.StructEq
import Derived.Test.YtfhemdnjoedioaaGreatDoorProg
import Derived.Lib.AppendIntMem
import Derived.Shelf.Strings.Fields
import Derived.Lib.ItoaNum
import Derived.Shelf.Strings.Builder1
import Derived.Shelf.Strings.Builder2
import Derived.Shelf.Strings.OnBuilder
import Derived.Shelf.Small.Bits
import Derived.Shelf.Small.Strs
import Derived.Shelf.Strings.BuilderF
import Derived.Shelf.Strconv.Itoa0
import Derived.Shelf.Strconv.Itoa1
import Derived.Shelf.LaysM
import Derived.Shelf.Strconv.Itoa2
import Derived.Shelf.Strconv.Itoa3
import Derived.Shelf.Strings.Search1
import Derived.Shelf.Strings.Search2
import Derived.Shelf.Strings.Search3
import Derived.Shelf.Strings.Cut
import Derived.Shelf.Strings.Count
import Derived.Shelf.Strings.Shaped
import Derived.Shelf.Sort.Plain
import Derived.Shelf.Strings.Prefix
import Derived.Shelf.Strings.Split
import Derived.Shelf.Strings.Fold
import Derived.Shelf.Unicode.Latin
import Derived.Shelf.Bits.Mul64
import Derived.Shelf.Strings.Repeat
import Derived.Shelf.Unicode.DecodeSlow
import Derived.Shelf.Unicode.DecodeAny
import Derived.Shelf.Unicode.Is16White
import Derived.Shelf.Unicode.IsSpaceAny
import Derived.Shelf.Unicode.CaseLookup
import Derived.Shelf.Unicode.CaseConvert
import Derived.Shelf.Unicode.Is16Any
import Derived.Shelf.Unicode.Is32Any
import Derived.Shelf.Unicode.ExclAny
import Derived.Shelf.Slices.CompactS
import Derived.Shelf.Slices.Cells
import Derived.Shelf.Slices.In.SortNone
import Derived.Outline
import Derived.Test.YtfhemdnjoedioaaGreatDoorCRuleBent5
section
namespace Go.Proofs.YtfhemdnjoedioaaGreatDoor.X
open Go.RowKit Go.Proofs.YtfhemdnjoedioaaGreatDoorW.PrintWords Go.Proofs.YtfhemdnjoedioaaGreatDoorW.PrintLast Go.Proofs.YtfhemdnjoedioaaGreatDoorW.PrintMore
attribute [local go_sem] max2_int min2_int max_two min_two max_three min_three max_four min_four
set_option linter.unusedVariables false
set_option linter.unusedSimpArgs false
mutual
def solsticeref09_Plain.j0 : Nat → ByteArray → Bool → Option (Bool)
 | 0, _, _ => none
 | k + 1, x0, x14 => if x14 = true then (some false) else (solsticeref09_Plain.l0 k x0 0)
def solsticeref09_Plain.l0 : Nat → ByteArray → Int → Option (Bool)
 | 0, _, _ => none
 | k + 1, x0, x5 => if x5 < (x0.size : Int) then (if 0 ≤ x5 then ((solsticeref09_letter.f (bt x0 x5)).bind fun t385 => (if t385 = true then (solsticeref09_Plain.l0 k x0 (wrap64 (x5 + 1))) else ((solsticeref09_digit.f (bt x0 x5)).bind fun t386 => (if t386 = true then (solsticeref09_Plain.l0 k x0 (wrap64 (x5 + 1))) else (if (bt x0 x5) = 43 then (solsticeref09_Plain.l0 k x0 (wrap64 (x5 + 1))) else (if (bt x0 x5) = 45 then (solsticeref09_Plain.l0 k x0 (wrap64 (x5 + 1))) else (some false))))))) else (none)) else (some true)
end
def solsticeref09_Plain.f (k : Nat) (a0 : ByteArray) (a1 : Int) : Option (Bool) := if (a0.size : Int) < 1 then (solsticeref09_Plain.j0 k a0 true) else (solsticeref09_Plain.j0 k a0 (decide ((a0.size : Int) > a1)))
set_option maxHeartbeats 8000000 in
set_option maxRecDepth 100000 in
theorem solsticeref09_Plain.calls (k : Nat) (a0 : ByteArray) (a1 : Int) (r : Bool) (w : World) (h : solsticeref09_Plain.f k a0 a1 = some r) :
  Calls Tryz.prog 108 #[.string a0, .int .i64 a1] w fun e w' => e = .returned (.bool r) ∧ Drawn0 w w' := by
 have H : (if (a0.size : Int) < 1 then (solsticeref09_Plain.j0 k a0 true) else (solsticeref09_Plain.j0 k a0 (decide ((a0.size : Int) > a1)))) = some r := h
 clear h
 have HC3 := As.mk H
 clear H
 go_enter Tryz.func108, Tryz.ntmps108
 go_upto_region 1 with (fail)
 go_cut [14] (fun v14 wc => ∃ (kq : Nat) (x14_2 : Bool), v14 = .bool x14_2 ∧ As (solsticeref09_Plain.j0 kq a0 x14_2 = some r) ∧ As (kq ≤ k) ∧ Drawn0 w wc)
 case first =>
  have H := HC3.out
  clear HC3
  by_cases c4 : (a0.size : Int) < 1
  ·rw [if_pos c4] at H
   have c4b0 : decide ((a0.size : Int) < 1) = true := decide_eq_true c4
   have c4b1 : decide (a0.size < 1) = true := decide_eq_true (by omega)
   clear c4
   (first | rw [c4b0] | (simp only [i64_w, i32_w]; rw [c4b0]) | skip)
   have H' := As.mk H
   clear H
   go_wp2
   go_meet
   case rel => exact ⟨_, (true), (by first | rfl | (simp; done) | (simp [*]; done)), H', ⟨by first | omega | exact Nat.le_refl _⟩, by repeat (first | exact Drawn0.refl _ | apply Drawn0.step)⟩
  ·rw [if_neg c4] at H
   have c4b0 : decide ((a0.size : Int) < 1) = false := decide_eq_false c4
   have c4b1 : decide (a0.size < 1) = false := decide_eq_false (by omega)
   clear c4
   (first | rw [c4b0] | (simp only [i64_w, i32_w]; rw [c4b0]) | skip)
   have H' := As.mk H
   clear H
   go_wp2
   go_meet
   case rel => exact ⟨_, (decide ((a0.size : Int) > a1)), (by first | rfl | (simp; done) | (simp [*]; done)), H', ⟨by first | omega | exact Nat.le_refl _⟩, by repeat (first | exact Drawn0.refl _ | apply Drawn0.step)⟩
 case rest =>
  clear HC3
  try clear c1
  try clear p2
  try clear c4
  try clear c4b0
  try clear c4b1
  obtain ⟨kq, x14_2, rfl, HA, HJ2, ⟨mc2, rfl⟩⟩ := hcut
  cases kq with
  | zero => exact absurd HA.out (by simp [solsticeref09_Plain.j0])
  | succ kj2 =>
   have H := HA.out
   clear HA
   simp only [solsticeref09_Plain.j0] at H
   by_cases c5 : x14_2 = true
   ·subst c5
    have H1 : (some false) = some r := by rw [if_pos rfl] at H; exact H
    clear H
    have H := H1
    clear H1
    obtain rfl := Option.some.inj H
    go_wp2
    go_ret
    exact ⟨by first | rfl | (simp; done) | (simp [*]; done), by repeat (first | exact Drawn0.refl _ | apply Drawn0.step)⟩
   ·replace c5 := Bool.eq_false_iff.mpr c5
    subst c5
    have H1 : (solsticeref09_Plain.l0 kj2 a0 0) = some r := by rw [if_neg (show ¬ (false = true) by decide)] at H; exact H
    clear H
    have H := H1
    clear H1
    have H' := As.mk H
    clear H
    go_wp2
    go_loopg [5] kj2 (fun kq v5 w' => ∃ (x5_2 : Int), v5 = .int .i64 x5_2 ∧ As (solsticeref09_Plain.l0 kq a0 x5_2 = some r) ∧ As (kq ≤ kj2) ∧ Drawn0 w w')
    case atStart => exact ⟨(0), (by first | rfl | (simp; done) | (simp [*]; done)), H', ⟨Nat.le_refl _⟩, by repeat (first | exact Drawn0.refl _ | apply Drawn0.step)⟩
    case round =>
     clear H'
     try clear c1
     try clear c2
     try clear p2
     try clear c4
     try clear c4b0
     try clear c4b1
     try clear c5
     try clear p2
     obtain ⟨x5_2, rfl, HA, HK2, ⟨m2, rfl⟩⟩ := hrel
     cases gk with
     | zero => exact absurd HA.out (by simp [solsticeref09_Plain.l0])
     | succ k2 =>
      have H := HA.out
      clear HA
      simp only [solsticeref09_Plain.l0] at H
      by_cases c6 : x5_2 < (a0.size : Int)
      ·rw [if_pos c6] at H
       have c6b0 : decide (x5_2 < (a0.size : Int)) = true := decide_eq_true c6
       clear c6
       by_cases c7 : 0 ≤ x5_2
       ·rw [if_pos c7] at H
        have c7b0 : decide (0 ≤ x5_2) = true := decide_eq_true c7
        clear c7
        replace H := Option.bind_eq_some_iff.mp H
        obtain ⟨t385, A90, H⟩ := H
        (try dsimp only at H)
        have A9 := As.mk A90
        clear A90
        by_cases c10 : t385 = true
        ·subst c10
         have H1 : (solsticeref09_Plain.l0 k2 a0 (wrap64 (x5_2 + 1))) = some r := by rw [if_pos rfl] at H; exact H
         clear H
         have H := H1
         clear H1
         have H' := As.mk H
         clear H
         have p8 : 0 ≤ (x5_2 : Int) := of_decide_eq_true (by first | (with_reducible assumption) | assumption)
         have q8 : x5_2 < (a0.size : Int) := of_decide_eq_true (by first | (with_reducible assumption) | assumption)
         have hx8 := bt_at a0 x5_2
         replace p8 := eq_true p8
         replace q8 := eq_true q8
         go_wp2_with (first | ((with_reducible refine gC (f := 105) rfl ?_); refine goesL_ (some 24) rfl rfl Tryz.func105 (by kernel_rfl) rfl #[.int .u8 (bt a0 x5_2)] rfl (by (try simp only [List.map_toArray, List.map_cons, List.map_nil]); first | done | rfl | (simp only [List.length_drop, List.length_take]; rfl)) ?_; (with_reducible refine (solsticeref09_letter.calls (bt a0 x5_2) true _ A9.out).mono ?_); rintro e w' ⟨rfl, ⟨nd, rfl⟩⟩; refine ⟨_, rfl, ?_⟩))
         go_roundg k2
         case measure => have := HJ2.out; have := HK2.out; omega
         case rel => exact ⟨(wrap64 (x5_2 + 1)), (by first | rfl | (simp; done) | (simp [*]; done)), H', ⟨by have := HJ2.out; have := HK2.out; omega⟩, by repeat (first | exact Drawn0.refl _ | apply Drawn0.step)⟩
        ·replace c10 := Bool.eq_false_iff.mpr c10
         subst c10
         have H1 : ((solsticeref09_digit.f (bt a0 x5_2)).bind fun t386 => (if t386 = true then (solsticeref09_Plain.l0 k2 a0 (wrap64 (x5_2 + 1))) else (if (bt a0 x5_2) = 43 then (solsticeref09_Plain.l0 k2 a0 (wrap64 (x5_2 + 1))) else (if (bt a0 x5_2) = 45 then (solsticeref09_Plain.l0 k2 a0 (wrap64 (x5_2 + 1))) else (some false))))) = some r := by rw [if_neg (show ¬ (false = true) by decide)] at H; exact H
         clear H
         have H := H1
         clear H1
         replace H := Option.bind_eq_some_iff.mp H
         obtain ⟨t386, A120, H⟩ := H
         (try dsimp only at H)
         have A12 := As.mk A120
         clear A120
         by_cases c13 : t386 = true
         ·subst c13
          have H1 : (solsticeref09_Plain.l0 k2 a0 (wrap64 (x5_2 + 1))) = some r := by rw [if_pos rfl] at H; exact H
          clear H
          have H := H1
          clear H1
          have H' := As.mk H
          clear H
          have p8 : 0 ≤ (x5_2 : Int) := of_decide_eq_true (by first | (with_reducible assumption) | assumption)
          have q8 : x5_2 < (a0.size : Int) := of_decide_eq_true (by first | (with_reducible assumption) | assumption)
          have hx8 := bt_at a0 x5_2
          replace p8 := eq_true p8
          replace q8 := eq_true q8
          go_wp2_with (first | ((with_reducible refine gC (f := 105) rfl ?_); refine goesL_ (some 24) rfl rfl Tryz.func105 (by kernel_rfl) rfl #[.int .u8 (bt a0 x5_2)] rfl (by (try simp only [List.map_toArray, List.map_cons, List.map_nil]); first | done | rfl | (simp only [List.length_drop, List.length_take]; rfl)) ?_; (with_reducible refine (solsticeref09_letter.calls (bt a0 x5_2) false _ A9.out).mono ?_); rintro e w' ⟨rfl, ⟨nd, rfl⟩⟩; refine ⟨_, rfl, ?_⟩; have p11 : 0 ≤ (x5_2 : Int) := of_decide_eq_true (by first | (with_reducible assumption) | assumption); have q11 : x5_2 < (a0.size : Int) := of_decide_eq_true (by first | (with_reducible assumption) | assumption); have hx11 := bt_at a0 x5_2; replace p11 := eq_true p11; replace q11 := eq_true q11) | (go_at_call 104; (with_reducible refine (solsticeref09_digit.calls (bt a0 x5_2) true _ A12.out).mono ?_); rintro e w' ⟨rfl, ⟨nd, rfl⟩⟩))
          go_roundg k2
          case measure => have := HJ2.out; have := HK2.out; omega
          case rel => exact ⟨(wrap64 (x5_2 + 1)), (by first | rfl | (simp; done) | (simp [*]; done)), H', ⟨by have := HJ2.out; have := HK2.out; omega⟩, by repeat (first | exact Drawn0.refl _ | apply Drawn0.step)⟩
         ·replace c13 := Bool.eq_false_iff.mpr c13
          subst c13
          have H1 : (if (bt a0 x5_2) = 43 then (solsticeref09_Plain.l0 k2 a0 (wrap64 (x5_2 + 1))) else (if (bt a0 x5_2) = 45 then (solsticeref09_Plain.l0 k2 a0 (wrap64 (x5_2 + 1))) else (some false))) = some r := by rw [if_neg (show ¬ (false = true) by decide)] at H; exact H
          clear H
          have H := H1
          clear H1
          by_cases c15 : (bt a0 x5_2) = 43
          ·rw [if_pos c15] at H
           have c15b0 : ((bt a0 x5_2) == 43) = true := beq_iff_eq.mpr c15
           have c15b1 : ((bt a0 x5_2) != 43) = false := bne_eq_false_iff_eq.mpr c15
           clear c15
           have H' := As.mk H
           clear H
           have p8 : 0 ≤ (x5_2 : Int) := of_decide_eq_true (by first | (with_reducible assumption) | assumption)
           have q8 : x5_2 < (a0.size : Int) := of_decide_eq_true (by first | (with_reducible assumption) | assumption)
           have hx8 := bt_at a0 x5_2
           replace p8 := eq_true p8
           replace q8 := eq_true q8
           go_wp2_with (first | ((with_reducible refine gC (f := 105) rfl ?_); refine goesL_ (some 24) rfl rfl Tryz.func105 (by kernel_rfl) rfl #[.int .u8 (bt a0 x5_2)] rfl (by (try simp only [List.map_toArray, List.map_cons, List.map_nil]); first | done | rfl | (simp only [List.length_drop, List.length_take]; rfl)) ?_; (with_reducible refine (solsticeref09_letter.calls (bt a0 x5_2) false _ A9.out).mono ?_); rintro e w' ⟨rfl, ⟨nd, rfl⟩⟩; refine ⟨_, rfl, ?_⟩; have p11 : 0 ≤ (x5_2 : Int) := of_decide_eq_true (by first | (with_reducible assumption) | assumption); have q11 : x5_2 < (a0.size : Int) := of_decide_eq_true (by first | (with_reducible assumption) | assumption); have hx11 := bt_at a0 x5_2; replace p11 := eq_true p11; replace q11 := eq_true q11) | (go_at_call 104; (with_reducible refine (solsticeref09_digit.calls (bt a0 x5_2) false _ A12.out).mono ?_); rintro e w' ⟨rfl, ⟨nd, rfl⟩⟩; have p14 : 0 ≤ (x5_2 : Int) := of_decide_eq_true (by first | (with_reducible assumption) | assumption); have q14 : x5_2 < (a0.size : Int) := of_decide_eq_true (by first | (with_reducible assumption) | assumption); have hx14 := bt_at a0 x5_2; replace p14 := eq_true p14; replace q14 := eq_true q14))
           go_roundg k2
           case measure => have := HJ2.out; have := HK2.out; omega
           case rel => exact ⟨(wrap64 (x5_2 + 1)), (by first | rfl | (simp; done) | (simp [*]; done)), H', ⟨by have := HJ2.out; have := HK2.out; omega⟩, by repeat (first | exact Drawn0.refl _ | apply Drawn0.step)⟩
          ·rw [if_neg c15] at H
           have c15b0 : ((bt a0 x5_2) == 43) = false := beq_eq_false_iff_ne.mpr c15
           have c15b1 : ((bt a0 x5_2) != 43) = true := bne_iff_ne.mpr c15
           by_cases c17 : (bt a0 x5_2) = 45
           ·rw [if_pos c17] at H
            have c17b0 : ((bt a0 x5_2) == 45) = true := beq_iff_eq.mpr c17
            have c17b1 : ((bt a0 x5_2) != 45) = false := bne_eq_false_iff_eq.mpr c17
            clear c17
            have H' := As.mk H
            clear H
            have p8 : 0 ≤ (x5_2 : Int) := of_decide_eq_true (by first | (with_reducible assumption) | assumption)
            have q8 : x5_2 < (a0.size : Int) := of_decide_eq_true (by first | (with_reducible assumption) | assumption)
            have hx8 := bt_at a0 x5_2
            replace p8 := eq_true p8
            replace q8 := eq_true q8
            go_wp2_with (first | ((with_reducible refine gC (f := 105) rfl ?_); refine goesL_ (some 24) rfl rfl Tryz.func105 (by kernel_rfl) rfl #[.int .u8 (bt a0 x5_2)] rfl (by (try simp only [List.map_toArray, List.map_cons, List.map_nil]); first | done | rfl | (simp only [List.length_drop, List.length_take]; rfl)) ?_; (with_reducible refine (solsticeref09_letter.calls (bt a0 x5_2) false _ A9.out).mono ?_); rintro e w' ⟨rfl, ⟨nd, rfl⟩⟩; refine ⟨_, rfl, ?_⟩; have p11 : 0 ≤ (x5_2 : Int) := of_decide_eq_true (by first | (with_reducible assumption) | assumption); have q11 : x5_2 < (a0.size : Int) := of_decide_eq_true (by first | (with_reducible assumption) | assumption); have hx11 := bt_at a0 x5_2; replace p11 := eq_true p11; replace q11 := eq_true q11) | (go_at_call 104; (with_reducible refine (solsticeref09_digit.calls (bt a0 x5_2) false _ A12.out).mono ?_); rintro e w' ⟨rfl, ⟨nd, rfl⟩⟩; have p14 : 0 ≤ (x5_2 : Int) := of_decide_eq_true (by first | (with_reducible assumption) | assumption); have q14 : x5_2 < (a0.size : Int) := of_decide_eq_true (by first | (with_reducible assumption) | assumption); have hx14 := bt_at a0 x5_2; replace p14 := eq_true p14; replace q14 := eq_true q14; have p16 : 0 ≤ (x5_2 : Int) := of_decide_eq_true (by first | (with_reducible assumption) | assumption); have q16 : x5_2 < (a0.size : Int) := of_decide_eq_true (by first | (with_reducible assumption) | assumption); have hx16 := bt_at a0 x5_2; replace p16 := eq_true p16; replace q16 := eq_true q16))
            go_roundg k2
            case measure => have := HJ2.out; have := HK2.out; omega
            case rel => exact ⟨(wrap64 (x5_2 + 1)), (by first | rfl | (simp; done) | (simp [*]; done)), H', ⟨by have := HJ2.out; have := HK2.out; omega⟩, by repeat (first | exact Drawn0.refl _ | apply Drawn0.step)⟩
           ·rw [if_neg c17] at H
            have c17b0 : ((bt a0 x5_2) == 45) = false := beq_eq_false_iff_ne.mpr c17
            have c17b1 : ((bt a0 x5_2) != 45) = true := bne_iff_ne.mpr c17
            obtain rfl := Option.some.inj H
            have p8 : 0 ≤ (x5_2 : Int) := of_decide_eq_true (by first | (with_reducible assumption) | assumption)
            have q8 : x5_2 < (a0.size : Int) := of_decide_eq_true (by first | (with_reducible assumption) | assumption)
            have hx8 := bt_at a0 x5_2
            replace p8 := eq_true p8
            replace q8 := eq_true q8
            go_wp2_with (first | ((with_reducible refine gC (f := 105) rfl ?_); refine goesL_ (some 24) rfl rfl Tryz.func105 (by kernel_rfl) rfl #[.int .u8 (bt a0 x5_2)] rfl (by (try simp only [List.map_toArray, List.map_cons, List.map_nil]); first | done | rfl | (simp only [List.length_drop, List.length_take]; rfl)) ?_; (with_reducible refine (solsticeref09_letter.calls (bt a0 x5_2) false _ A9.out).mono ?_); rintro e w' ⟨rfl, ⟨nd, rfl⟩⟩; refine ⟨_, rfl, ?_⟩; have p11 : 0 ≤ (x5_2 : Int) := of_decide_eq_true (by first | (with_reducible assumption) | assumption); have q11 : x5_2 < (a0.size : Int) := of_decide_eq_true (by first | (with_reducible assumption) | assumption); have hx11 := bt_at a0 x5_2; replace p11 := eq_true p11; replace q11 := eq_true q11) | (go_at_call 104; (with_reducible refine (solsticeref09_digit.calls (bt a0 x5_2) false _ A12.out).mono ?_); rintro e w' ⟨rfl, ⟨nd, rfl⟩⟩; have p14 : 0 ≤ (x5_2 : Int) := of_decide_eq_true (by first | (with_reducible assumption) | assumption); have q14 : x5_2 < (a0.size : Int) := of_decide_eq_true (by first | (with_reducible assumption) | assumption); have hx14 := bt_at a0 x5_2; replace p14 := eq_true p14; replace q14 := eq_true q14; have p16 : 0 ≤ (x5_2 : Int) := of_decide_eq_true (by first | (with_reducible assumption) | assumption); have q16 : x5_2 < (a0.size : Int) := of_decide_eq_true (by first | (with_reducible assumption) | assumption); have hx16 := bt_at a0 x5_2; replace p16 := eq_true p16; replace q16 := eq_true q16))
            go_ret
            exact ⟨by first | rfl | (simp; done) | (simp [*]; done), by repeat (first | exact Drawn0.refl _ | apply Drawn0.step)⟩
       ·rw [if_neg c7] at H
        exact absurd H (by simp)
      ·rw [if_neg c6] at H
       have c6b0 : decide (x5_2 < (a0.size : Int)) = false := decide_eq_false c6
       clear c6
       obtain rfl := Option.some.inj H
       go_wp2
       go_ret
       exact ⟨by first | rfl | (simp; done) | (simp [*]; done), by repeat (first | exact Drawn0.refl _ | apply Drawn0.step)⟩
def solsticeref09_Letter.f (k : Nat) (a0 : ByteArray) : Option (Bool) := if (a0.size : Int) = 0 then (some true) else (if a0.toList = ([45] : List UInt8) then (some false) else ((solsticeref09_Plain.f k a0 6).bind fun t387 => (some t387)))
set_option maxHeartbeats 8000000 in
set_option maxRecDepth 100000 in
theorem solsticeref09_Letter.calls (k : Nat) (a0 : ByteArray) (r : Bool) (w : World) (h : solsticeref09_Letter.f k a0 = some r) :
  Calls Tryz.prog 59 #[.string a0] w fun e w' => e = .returned (.bool r) ∧ Drawn0 w w' := by
 have H : (if (a0.size : Int) = 0 then (some true) else (if a0.toList = ([45] : List UInt8) then (some false) else ((solsticeref09_Plain.f k a0 6).bind fun t387 => (some t387)))) = some r := h
 clear h
 by_cases c2 : (a0.size : Int) = 0
 ·rw [if_pos c2] at H
  have c2b0 : ((a0.size : Int) == 0) = true := beq_iff_eq.mpr c2
  have c2b1 : ((a0.size : Int) != 0) = false := bne_eq_false_iff_eq.mpr c2
  clear c2
  obtain rfl := Option.some.inj H
  go_enter Tryz.func59, Tryz.ntmps59
  go_wp2
  go_ret
  exact ⟨by first | rfl | (simp; done) | (simp [*]; done), by repeat (first | exact Drawn0.refl _ | apply Drawn0.step)⟩
 ·rw [if_neg c2] at H
  have c2b0 : ((a0.size : Int) == 0) = false := beq_eq_false_iff_ne.mpr c2
  have c2b1 : ((a0.size : Int) != 0) = true := bne_iff_ne.mpr c2
  by_cases c3 : a0.toList = ([45] : List UInt8)
  ·rw [if_pos c3] at H
   have c3b0 : (a0.toList == ([45] : List UInt8)) = true := beq_iff_eq.mpr c3
   have c3b1 : (a0.toList != ([45] : List UInt8)) = false := bne_eq_false_iff_eq.mpr c3
   clear c3
   obtain rfl := Option.some.inj H
   go_enter Tryz.func59, Tryz.ntmps59
   go_wp2
   go_ret
   exact ⟨by first | rfl | (simp; done) | (simp [*]; done), by repeat (first | exact Drawn0.refl _ | apply Drawn0.step)⟩
  ·rw [if_neg c3] at H
   have c3b0 : (a0.toList == ([45] : List UInt8)) = false := beq_eq_false_iff_ne.mpr c3
   have c3b1 : (a0.toList != ([45] : List UInt8)) = true := bne_iff_ne.mpr c3
   replace H := Option.bind_eq_some_iff.mp H
   obtain ⟨t387, A40, H⟩ := H
   (try dsimp only at H)
   have A4 := As.mk A40
   clear A40
   obtain rfl := Option.some.inj H
   go_enter Tryz.func59, Tryz.ntmps59
   go_wp2_with (first | (go_at_call 108; (with_reducible refine (solsticeref09_Plain.calls k a0 6 t387 _ A4.out).mono ?_); rintro e w' ⟨rfl, ⟨nd, rfl⟩⟩))
   go_ret
   exact ⟨by first | rfl | (simp; done) | (simp [*]; done), by repeat (first | exact Drawn0.refl _ | apply Drawn0.step)⟩
def solsticeref01_Div.f (a0 : Int) (a1 : Int) : Option (Int × Int) := if a1 = 0 then (none) else (if (Int.tmod a0 a1) < 0 then (some (wrap64 ((wrap64 (Int.tdiv a0 a1)) - 1), wrap64 ((Int.tmod a0 a1) + a1))) else (some (wrap64 (Int.tdiv a0 a1), Int.tmod a0 a1)))
set_option maxHeartbeats 8000000 in
set_option maxRecDepth 100000 in
theorem solsticeref01_Div.calls (a0 : Int) (a1 : Int) (r1 : Int) (r2 : Int) (w : World) (h : solsticeref01_Div.f a0 a1 = some (r1, r2)) :
  Calls Tryz.prog 159 #[.int .i64 a0, .int .i64 a1] w fun e w' => e = .returned (.tuple #[.int .i64 r1, .int .i64 r2]) ∧ Drawn0 w w' := by
 have H : (if a1 = 0 then (none) else (if (Int.tmod a0 a1) < 0 then (some (wrap64 ((wrap64 (Int.tdiv a0 a1)) - 1), wrap64 ((Int.tmod a0 a1) + a1))) else (some (wrap64 (Int.tdiv a0 a1), Int.tmod a0 a1)))) = some (r1, r2) := h
 clear h
 by_cases c3 : a1 = 0
 ·rw [if_pos c3] at H
  exact absurd H (by simp)
 ·rw [if_neg c3] at H
  have c3b0 : (a1 == 0) = false := beq_eq_false_iff_ne.mpr c3
  have c3b1 : (a1 != 0) = true := bne_iff_ne.mpr c3
  by_cases c4 : (Int.tmod a0 a1) < 0
  ·rw [if_pos c4] at H
   have c4b0 : decide ((Int.tmod a0 a1) < 0) = true := decide_eq_true c4
   clear c4
   simp only [Option.some.injEq, Prod.mk.injEq] at H
   obtain ⟨rfl, rfl⟩ := H
   go_enter Tryz.func159, Tryz.ntmps159
   go_wp2
   repeat (go_quiet (fail); try go_wp2)
   go_ret2
   exact ⟨by first | rfl | (simp; done) | (simp [*]; done), by repeat (first | exact Drawn0.refl _ | apply Drawn0.step)⟩
  ·rw [if_neg c4] at H
   have c4b0 : decide ((Int.tmod a0 a1) < 0) = false := decide_eq_false c4
   clear c4
   simp only [Option.some.injEq, Prod.mk.injEq] at H
   obtain ⟨rfl, rfl⟩ := H
   go_enter Tryz.func159, Tryz.ntmps159
   go_wp2
   repeat (go_quiet (fail); try go_wp2)
   go_ret2
   exact ⟨by first | rfl | (simp; done) | (simp [*]; done), by repeat (first | exact Drawn0.refl _ | apply Drawn0.step)⟩
def solsticeref01_Long.f (a0 : Int) : Option (Bool) := (solsticeref01_Div.f a0 4).bind fun bt388 => ((solsticeref01_Div.f a0 100).bind fun bt390 => ((solsticeref01_Div.f a0 400).bind fun bt392 => (if bt388.2 = 0 then (if bt390.2 = 0 then (some (bt392.2 == 0)) else (some true)) else (some false))))
set_option maxHeartbeats 8000000 in
set_option maxRecDepth 100000 in
theorem solsticeref01_Long.calls (a0 : Int) (r : Bool) (w : World) (h : solsticeref01_Long.f a0 = some r) :
  Calls Tryz.prog 109 #[.int .i64 a0] w fun e w' => e = .returned (.bool r) ∧ Drawn0 w w' := by
 have H : ((solsticeref01_Div.f a0 4).bind fun bt388 => ((solsticeref01_Div.f a0 100).bind fun bt390 => ((solsticeref01_Div.f a0 400).bind fun bt392 => (if bt388.2 = 0 then (if bt390.2 = 0 then (some (bt392.2 == 0)) else (some true)) else (some false))))) = some r := h
 clear h
 replace H := Option.bind_eq_some_iff.mp H
 obtain ⟨⟨t388, t389⟩, A20, H⟩ := H
 (try dsimp only at H)
 have A2 := As.mk A20
 clear A20
 replace H := Option.bind_eq_some_iff.mp H
 obtain ⟨⟨t390, t391⟩, A30, H⟩ := H
 (try dsimp only at H)
 have A3 := As.mk A30
 clear A30
 replace H := Option.bind_eq_some_iff.mp H
 obtain ⟨⟨t392, t393⟩, A40, H⟩ := H
 (try dsimp only at H)
 have A4 := As.mk A40
 clear A40
 by_cases c5 : t389 = 0
 ·rw [if_pos c5] at H
  have c5b0 : (t389 == 0) = true := beq_iff_eq.mpr c5
  have c5b1 : (t389 != 0) = false := bne_eq_false_iff_eq.mpr c5
  clear c5
  by_cases c6 : t391 = 0
  ·rw [if_pos c6] at H
   have c6b0 : (t391 == 0) = true := beq_iff_eq.mpr c6
   have c6b1 : (t391 != 0) = false := bne_eq_false_iff_eq.mpr c6
   clear c6
   obtain rfl := Option.some.inj H
   go_enter Tryz.func109, Tryz.ntmps109
   go_wp2_with (first | ((with_reducible refine gC (f := 159) rfl ?_); refine goesL_ (some 11) rfl rfl Tryz.func159 (by kernel_rfl) rfl #[.int .i64 a0, .int .i64 4] rfl (by (try simp only [List.map_toArray, List.map_cons, List.map_nil]); first | done | rfl | (simp only [List.length_drop, List.length_take]; rfl)) ?_; (with_reducible refine (solsticeref01_Div.calls a0 4 t388 t389 _ A2.out).mono ?_); rintro e w' ⟨rfl, ⟨nd, rfl⟩⟩; refine ⟨_, rfl, ?_⟩) | ((with_reducible refine gC (f := 159) rfl ?_); refine goesL_ (some 16) rfl rfl Tryz.func159 (by kernel_rfl) rfl #[.int .i64 a0, .int .i64 100] rfl (by (try simp only [List.map_toArray, List.map_cons, List.map_nil]); first | done | rfl | (simp only [List.length_drop, List.length_take]; rfl)) ?_; (with_reducible refine (solsticeref01_Div.calls a0 100 t390 t391 _ A3.out).mono ?_); rintro e w' ⟨rfl, ⟨nd, rfl⟩⟩; refine ⟨_, rfl, ?_⟩) | ((with_reducible refine gC (f := 159) rfl ?_); refine goesL_ (some 21) rfl rfl Tryz.func159 (by kernel_rfl) rfl #[.int .i64 a0, .int .i64 400] rfl (by (try simp only [List.map_toArray, List.map_cons, List.map_nil]); first | done | rfl | (simp only [List.length_drop, List.length_take]; rfl)) ?_; (with_reducible refine (solsticeref01_Div.calls a0 400 t392 t393 _ A4.out).mono ?_); rintro e w' ⟨rfl, ⟨nd, rfl⟩⟩; refine ⟨_, rfl, ?_⟩))
   go_ret
   exact ⟨by first | rfl | (simp; done) | (simp [*]; done), by repeat (first | exact Drawn0.refl _ | apply Drawn0.step)⟩
  ·rw [if_neg c6] at H
   have c6b0 : (t391 == 0) = false := beq_eq_false_iff_ne.mpr c6
   have c6b1 : (t391 != 0) = true := bne_iff_ne.mpr c6
   obtain rfl := Option.some.inj H
   go_enter Tryz.func109, Tryz.ntmps109
   go_wp2_with (first | ((with_reducible refine gC (f := 159) rfl ?_); refine goesL_ (some 11) rfl rfl Tryz.func159 (by kernel_rfl) rfl #[.int .i64 a0, .int .i64 4] rfl (by (try simp only [List.map_toArray, List.map_cons, List.map_nil]); first | done | rfl | (simp only [List.length_drop, List.length_take]; rfl)) ?_; (with_reducible refine (solsticeref01_Div.calls a0 4 t388 t389 _ A2.out).mono ?_); rintro e w' ⟨rfl, ⟨nd, rfl⟩⟩; refine ⟨_, rfl, ?_⟩) | ((with_reducible refine gC (f := 159) rfl ?_); refine goesL_ (some 16) rfl rfl Tryz.func159 (by kernel_rfl) rfl #[.int .i64 a0, .int .i64 100] rfl (by (try simp only [List.map_toArray, List.map_cons, List.map_nil]); first | done | rfl | (simp only [List.length_drop, List.length_take]; rfl)) ?_; (with_reducible refine (solsticeref01_Div.calls a0 100 t390 t391 _ A3.out).mono ?_); rintro e w' ⟨rfl, ⟨nd, rfl⟩⟩; refine ⟨_, rfl, ?_⟩) | ((with_reducible refine gC (f := 159) rfl ?_); refine goesL_ (some 21) rfl rfl Tryz.func159 (by kernel_rfl) rfl #[.int .i64 a0, .int .i64 400] rfl (by (try simp only [List.map_toArray, List.map_cons, List.map_nil]); first | done | rfl | (simp only [List.length_drop, List.length_take]; rfl)) ?_; (with_reducible refine (solsticeref01_Div.calls a0 400 t392 t393 _ A4.out).mono ?_); rintro e w' ⟨rfl, ⟨nd, rfl⟩⟩; refine ⟨_, rfl, ?_⟩))
   go_ret
   exact ⟨by first | rfl | (simp; done) | (simp [*]; done), by repeat (first | exact Drawn0.refl _ | apply Drawn0.step)⟩
 ·rw [if_neg c5] at H
  have c5b0 : (t389 == 0) = false := beq_eq_false_iff_ne.mpr c5
  have c5b1 : (t389 != 0) = true := bne_iff_ne.mpr c5
  obtain rfl := Option.some.inj H
  go_enter Tryz.func109, Tryz.ntmps109
  go_wp2_with (first | ((with_reducible refine gC (f := 159) rfl ?_); refine goesL_ (some 11) rfl rfl Tryz.func159 (by kernel_rfl) rfl #[.int .i64 a0, .int .i64 4] rfl (by (try simp only [List.map_toArray, List.map_cons, List.map_nil]); first | done | rfl | (simp only [List.length_drop, List.length_take]; rfl)) ?_; (with_reducible refine (solsticeref01_Div.calls a0 4 t388 t389 _ A2.out).mono ?_); rintro e w' ⟨rfl, ⟨nd, rfl⟩⟩; refine ⟨_, rfl, ?_⟩) | ((with_reducible refine gC (f := 159) rfl ?_); refine goesL_ (some 16) rfl rfl Tryz.func159 (by kernel_rfl) rfl #[.int .i64 a0, .int .i64 100] rfl (by (try simp only [List.map_toArray, List.map_cons, List.map_nil]); first | done | rfl | (simp only [List.length_drop, List.length_take]; rfl)) ?_; (with_reducible refine (solsticeref01_Div.calls a0 100 t390 t391 _ A3.out).mono ?_); rintro e w' ⟨rfl, ⟨nd, rfl⟩⟩; refine ⟨_, rfl, ?_⟩) | ((with_reducible refine gC (f := 159) rfl ?_); refine goesL_ (some 21) rfl rfl Tryz.func159 (by kernel_rfl) rfl #[.int .i64 a0, .int .i64 400] rfl (by (try simp only [List.map_toArray, List.map_cons, List.map_nil]); first | done | rfl | (simp only [List.length_drop, List.length_take]; rfl)) ?_; (with_reducible refine (solsticeref01_Div.calls a0 400 t392 t393 _ A4.out).mono ?_); rintro e w' ⟨rfl, ⟨nd, rfl⟩⟩; refine ⟨_, rfl, ?_⟩))
  go_ret
  exact ⟨by first | rfl | (simp; done) | (simp [*]; done), by repeat (first | exact Drawn0.refl _ | apply Drawn0.step)⟩
def solsticeref01_Len.j0 : Nat → Int → Bool → Option (Int)
 | 0, _, _ => none
 | k + 1, x1, x9 => if x9 = true then (some 29) else (if x1 = 2 then (some 28) else (if x1 = 4 then (some 30) else (if x1 = 6 then (some 30) else (if x1 = 9 then (some 30) else (if x1 = 11 then (some 30) else (some 31))))))
def solsticeref01_Len.f (k : Nat) (a0 : Int) (a1 : Int) : Option (Int) := (solsticeref01_In.f a1 1 12).bind fun t394 => (if t394 = true then (if a1 = 2 then ((solsticeref01_Long.f a0).bind fun t395 => (solsticeref01_Len.j0 k a1 t395)) else (solsticeref01_Len.j0 k a1 false)) else (some 0))
theorem solsticeref01_Len.mono_l : ∀ k, (∀ y0 y1, LeO (solsticeref01_Len.j0 k y0 y1) (solsticeref01_Len.j0 (k + 1) y0 y1))
 | 0 => fun _ _ r h => by simp [solsticeref01_Len.j0] at h
 | k + 1 => by
  have ih0 := solsticeref01_Len.mono_l k
  ·intro y0 y1
   unfold solsticeref01_Len.j0
   repeat' first
   | (with_reducible exact ih0 _ _)
   | (with_reducible exact LeO.refl _)
   | (with_reducible exact LeO.none _)
   | (with_reducible refine LeO.ite ?_ ?_)
   | (with_reducible refine LeO.bind ?_ (fun _ => ?_))
   | exact ih0 _ _
   | exact LeO.none _
   | refine LeO.ite ?_ ?_
   | refine LeO.bind ?_ (fun _ => ?_)
theorem solsticeref01_Len.mono : ∀ a0 a1 k, LeO (solsticeref01_Len.f k a0 a1) (solsticeref01_Len.f (k + 1) a0 a1) := by
 intro a0 a1 k
 have ih0 := solsticeref01_Len.mono_l k
 unfold solsticeref01_Len.f
 repeat' first
   | (with_reducible exact ih0 _ _)
   | (with_reducible exact LeO.refl _)
   | (with_reducible exact LeO.none _)
   | (with_reducible refine LeO.ite ?_ ?_)
   | (with_reducible refine LeO.bind ?_ (fun _ => ?_))
   | exact ih0 _ _
   | exact LeO.none _
   | refine LeO.ite ?_ ?_
   | refine LeO.bind ?_ (fun _ => ?_)
set_option maxHeartbeats 8000000 in
set_option maxRecDepth 100000 in
theorem solsticeref01_Len.calls (k : Nat) (a0 : Int) (a1 : Int) (r : Int) (w : World) (h : solsticeref01_Len.f k a0 a1 = some r) :
  Calls Tryz.prog 60 #[.int .i64 a0, .int .i64 a1] w fun e w' => e = .returned (.int .i64 r) ∧ Drawn0 w w' := by
 have H : ((solsticeref01_In.f a1 1 12).bind fun t394 => (if t394 = true then (if a1 = 2 then ((solsticeref01_Long.f a0).bind fun t395 => (solsticeref01_Len.j0 k a1 t395)) else (solsticeref01_Len.j0 k a1 false)) else (some 0))) = some r := h
 clear h
 replace H := Option.bind_eq_some_iff.mp H
 obtain ⟨t394, A30, H⟩ := H
 (try dsimp only at H)
 have A3 := As.mk A30
 clear A30
 by_cases c4 : t394 = true
 ·subst c4
  have H1 : (if a1 = 2 then ((solsticeref01_Long.f a0).bind fun t395 => (solsticeref01_Len.j0 k a1 t395)) else (solsticeref01_Len.j0 k a1 false)) = some r := by rw [if_pos rfl] at H; exact H
  clear H
  have H := H1
  clear H1
  have HC5 := As.mk H
  clear H
  go_enter Tryz.func60, Tryz.ntmps60
  go_upto_region 3 with (first | ((with_reducible refine gC (f := 107) rfl ?_); refine goesL_ (some 7) rfl rfl Tryz.func107 (by kernel_rfl) rfl #[.int .i64 a1, .int .i64 1, .int .i64 12] rfl (by (try simp only [List.map_toArray, List.map_cons, List.map_nil]); first | done | rfl | (simp only [List.length_drop, List.length_take]; rfl)) ?_; (with_reducible refine (solsticeref01_In.calls a1 1 12 true _ A3.out).mono ?_); rintro e w' ⟨rfl, ⟨nd, rfl⟩⟩; refine ⟨_, rfl, ?_⟩))
  (try simp only [Act.put, List.setIfInBounds_toArray, List.set_cons_zero, List.set_cons_succ])
  go_cut [9] (fun v9 wc => ∃ (kq : Nat) (x9_4 : Bool), v9 = .bool x9_4 ∧ As (solsticeref01_Len.j0 kq a1 x9_4 = some r) ∧ As (kq ≤ k) ∧ Drawn0 w wc)
  case first =>
   have H := HC5.out
   clear HC5
   by_cases c6 : a1 = 2
   ·rw [if_pos c6] at H
    have c6b0 : (a1 == 2) = true := beq_iff_eq.mpr c6
    have c6b1 : (a1 != 2) = false := bne_eq_false_iff_eq.mpr c6
    clear c6
    (first | rw [c6b0] | (simp only [i64_w, i32_w]; rw [c6b0]) | skip)
    replace H := Option.bind_eq_some_iff.mp H
    obtain ⟨t395, A70, H⟩ := H
    (try dsimp only at H)
    have A7 := As.mk A70
    clear A70
    have H' := As.mk H
    clear H
    go_wp2_with (first | (go_at_call 109; (with_reducible refine (solsticeref01_Long.calls a0 t395 _ A7.out).mono ?_); rintro e w' ⟨rfl, ⟨nd, rfl⟩⟩))
    go_meet
    case rel => exact ⟨_, (t395), (by first | rfl | (simp; done) | (simp [*]; done)), H', ⟨by first | omega | exact Nat.le_refl _⟩, by repeat (first | exact Drawn0.refl _ | apply Drawn0.step)⟩
   ·rw [if_neg c6] at H
    have c6b0 : (a1 == 2) = false := beq_eq_false_iff_ne.mpr c6
    have c6b1 : (a1 != 2) = true := bne_iff_ne.mpr c6
    (first | rw [c6b0] | (simp only [i64_w, i32_w]; rw [c6b0]) | skip)
    have H' := As.mk H
    clear H
    go_wp2
    go_meet
    case rel => exact ⟨_, (false), (by first | rfl | (simp; done) | (simp [*]; done)), H', ⟨by first | omega | exact Nat.le_refl _⟩, by repeat (first | exact Drawn0.refl _ | apply Drawn0.step)⟩
  case rest =>
   clear HC5
   try clear c1
   try clear p2
   try clear c4
   try clear c6
   try clear c6b0
   try clear c6b1
   obtain ⟨kq, x9_4, rfl, HA, HJ4, ⟨mc4, rfl⟩⟩ := hcut
   cases kq with
   | zero => exact absurd HA.out (by simp [solsticeref01_Len.j0])
   | succ kj4 =>
    have H := HA.out
    clear HA
    simp only [solsticeref01_Len.j0] at H
    by_cases c8 : x9_4 = true
    ·subst c8
     have H1 : (some 29) = some r := by rw [if_pos rfl] at H; exact H
     clear H
     have H := H1
     clear H1
     obtain rfl := Option.some.inj H
     go_wp2
     go_ret
     exact ⟨by first | rfl | (simp; done) | (simp [*]; done), by repeat (first | exact Drawn0.refl _ | apply Drawn0.step)⟩
    ·replace c8 := Bool.eq_false_iff.mpr c8
     subst c8
     have H1 : (if a1 = 2 then (some 28) else (if a1 = 4 then (some 30) else (if a1 = 6 then (some 30) else (if a1 = 9 then (some 30) else (if a1 = 11 then (some 30) else (some 31)))))) = some r := by rw [if_neg (show ¬ (false = true) by decide)] at H; exact H
     clear H
     have H := H1
     clear H1
     by_cases c9 : a1 = 2
     ·rw [if_pos c9] at H
      have c9b0 : (a1 == 2) = true := beq_iff_eq.mpr c9
      have c9b1 : (a1 != 2) = false := bne_eq_false_iff_eq.mpr c9
      clear c9
      obtain rfl := Option.some.inj H
      go_wp2
      go_ret
      exact ⟨by first | rfl | (simp; done) | (simp [*]; done), by repeat (first | exact Drawn0.refl _ | apply Drawn0.step)⟩
     ·rw [if_neg c9] at H
      have c9b0 : (a1 == 2) = false := beq_eq_false_iff_ne.mpr c9
      have c9b1 : (a1 != 2) = true := bne_iff_ne.mpr c9
      by_cases c10 : a1 = 4
      ·rw [if_pos c10] at H
       have c10b0 : (a1 == 4) = true := beq_iff_eq.mpr c10
       have c10b1 : (a1 != 4) = false := bne_eq_false_iff_eq.mpr c10
       clear c10
       obtain rfl := Option.some.inj H
       go_wp2
       go_ret
       exact ⟨by first | rfl | (simp; done) | (simp [*]; done), by repeat (first | exact Drawn0.refl _ | apply Drawn0.step)⟩
      ·rw [if_neg c10] at H
       have c10b0 : (a1 == 4) = false := beq_eq_false_iff_ne.mpr c10
       have c10b1 : (a1 != 4) = true := bne_iff_ne.mpr c10
       by_cases c11 : a1 = 6
       ·rw [if_pos c11] at H
        have c11b0 : (a1 == 6) = true := beq_iff_eq.mpr c11
        have c11b1 : (a1 != 6) = false := bne_eq_false_iff_eq.mpr c11
        clear c11
        obtain rfl := Option.some.inj H
        go_wp2
        go_ret
        exact ⟨by first | rfl | (simp; done) | (simp [*]; done), by repeat (first | exact Drawn0.refl _ | apply Drawn0.step)⟩
       ·rw [if_neg c11] at H
        have c11b0 : (a1 == 6) = false := beq_eq_false_iff_ne.mpr c11
        have c11b1 : (a1 != 6) = true := bne_iff_ne.mpr c11
        by_cases c12 : a1 = 9
        ·rw [if_pos c12] at H
         have c12b0 : (a1 == 9) = true := beq_iff_eq.mpr c12
         have c12b1 : (a1 != 9) = false := bne_eq_false_iff_eq.mpr c12
         clear c12
         obtain rfl := Option.some.inj H
         go_wp2
         go_ret
         exact ⟨by first | rfl | (simp; done) | (simp [*]; done), by repeat (first | exact Drawn0.refl _ | apply Drawn0.step)⟩
        ·rw [if_neg c12] at H
         have c12b0 : (a1 == 9) = false := beq_eq_false_iff_ne.mpr c12
         have c12b1 : (a1 != 9) = true := bne_iff_ne.mpr c12
         by_cases c13 : a1 = 11
         ·rw [if_pos c13] at H
          have c13b0 : (a1 == 11) = true := beq_iff_eq.mpr c13
          have c13b1 : (a1 != 11) = false := bne_eq_false_iff_eq.mpr c13
          clear c13
          obtain rfl := Option.some.inj H
          go_wp2
          go_ret
          exact ⟨by first | rfl | (simp; done) | (simp [*]; done), by repeat (first | exact Drawn0.refl _ | apply Drawn0.step)⟩
         ·rw [if_neg c13] at H
          have c13b0 : (a1 == 11) = false := beq_eq_false_iff_ne.mpr c13
          have c13b1 : (a1 != 11) = true := bne_iff_ne.mpr c13
          obtain rfl := Option.some.inj H
          go_wp2
          go_ret
          exact ⟨by first | rfl | (simp; done) | (simp [*]; done), by repeat (first | exact Drawn0.refl _ | apply Drawn0.step)⟩
 ·replace c4 := Bool.eq_false_iff.mpr c4
  subst c4
  have H1 : (some 0) = some r := by rw [if_neg (show ¬ (false = true) by decide)] at H; exact H
  clear H
  have H := H1
  clear H1
  obtain rfl := Option.some.inj H
  go_enter Tryz.func60, Tryz.ntmps60
  go_wp2_with (first | ((with_reducible refine gC (f := 107) rfl ?_); refine goesL_ (some 7) rfl rfl Tryz.func107 (by kernel_rfl) rfl #[.int .i64 a1, .int .i64 1, .int .i64 12] rfl (by (try simp only [List.map_toArray, List.map_cons, List.map_nil]); first | done | rfl | (simp only [List.length_drop, List.length_take]; rfl)) ?_; (with_reducible refine (solsticeref01_In.calls a1 1 12 false _ A3.out).mono ?_); rintro e w' ⟨rfl, ⟨nd, rfl⟩⟩; refine ⟨_, rfl, ?_⟩))
  go_ret
  exact ⟨by first | rfl | (simp; done) | (simp [*]; done), by repeat (first | exact Drawn0.refl _ | apply Drawn0.step)⟩
def solsticeref09_Rule.j0 : Nat → Bool → ByteArray → Int → Int → Int → Int → Int → Int → Int → Int → Int → ByteArray → Option (Bool)
 | 0, _, _, _, _, _, _, _, _, _, _, _, _ => none
 | k + 1, x51, x397000, x397001, x397002, x397003, x397004, x397005, x397006, x397007, x397008, x397009, x397010 => if x51 = true then (some false) else ((solsticeref01_Len.f k 2000 x397003).bind fun t405 => (if x397003 = 2 then (if x397004 = 1 then (if x397002 > x397001 then (if x397004 = 2 then (some true) else (some (decide (x397006 ≤ 28)))) else (if x397004 = 2 then (some true) else (some (decide (x397006 ≤ t405))))) else (if x397004 = 2 then (some true) else (some (decide (x397006 ≤ t405))))) else (if x397004 = 2 then (some true) else (some (decide (x397006 ≤ t405))))))
def solsticeref09_Rule.f (k : Nat) (a0_0 : ByteArray) (a0_1 : Int) (a0_2 : Int) (a0_3 : Int) (a0_4 : Int) (a0_5 : Int) (a0_6 : Int) (a0_7 : Int) (a0_8 : Int) (a0_9 : Int) (a0_10 : ByteArray) : Option (Bool) := (solsticeref09_Name.f k a0_0).bind fun t397 => (if t397 = true then ((solsticeref09_in.f a0_1 1 9999).bind fun t398 => (if t398 = true then ((solsticeref09_in.f a0_2 a0_1 9999).bind fun t399 => (if t399 = true then ((solsticeref09_in.f a0_3 1 12).bind fun t400 => (if t400 = true then ((solsticeref01_On.f k a0_4 a0_5 a0_6).bind fun t401 => (if t401 = true then ((solsticeref01_At.f a0_7 a0_8).bind fun t402 => (if t402 = true then ((solsticeref09_day.f a0_9).bind fun t403 => (if t403 = true then ((solsticeref09_Letter.f k a0_10).bind fun t404 => (solsticeref09_Rule.j0 k (!t404) a0_0 a0_1 a0_2 a0_3 a0_4 a0_5 a0_6 a0_7 a0_8 a0_9 a0_10)) else (solsticeref09_Rule.j0 k true a0_0 a0_1 a0_2 a0_3 a0_4 a0_5 a0_6 a0_7 a0_8 a0_9 a0_10))) else (solsticeref09_Rule.j0 k true a0_0 a0_1 a0_2 a0_3 a0_4 a0_5 a0_6 a0_7 a0_8 a0_9 a0_10))) else (solsticeref09_Rule.j0 k true a0_0 a0_1 a0_2 a0_3 a0_4 a0_5 a0_6 a0_7 a0_8 a0_9 a0_10))) else (solsticeref09_Rule.j0 k true a0_0 a0_1 a0_2 a0_3 a0_4 a0_5 a0_6 a0_7 a0_8 a0_9 a0_10))) else (solsticeref09_Rule.j0 k true a0_0 a0_1 a0_2 a0_3 a0_4 a0_5 a0_6 a0_7 a0_8 a0_9 a0_10))) else (solsticeref09_Rule.j0 k true a0_0 a0_1 a0_2 a0_3 a0_4 a0_5 a0_6 a0_7 a0_8 a0_9 a0_10))) else (solsticeref09_Rule.j0 k true a0_0 a0_1 a0_2 a0_3 a0_4 a0_5 a0_6 a0_7 a0_8 a0_9 a0_10))
set_option maxHeartbeats 8000000 in
set_option maxRecDepth 100000 in
theorem solsticeref09_Rule.calls (k : Nat) (a0_0 : ByteArray) (a0_1 : Int) (a0_2 : Int) (a0_3 : Int) (a0_4 : Int) (a0_5 : Int) (a0_6 : Int) (a0_7 : Int) (a0_8 : Int) (a0_9 : Int) (a0_10 : ByteArray) (r : Bool) (w : World) (h : solsticeref09_Rule.f k a0_0 a0_1 a0_2 a0_3 a0_4 a0_5 a0_6 a0_7 a0_8 a0_9 a0_10 = some r) :
  Calls Tryz.prog 20 #[.agg #[.string a0_0, .int .i64 a0_1, .int .i64 a0_2, .int .i64 a0_3, .int .i64 a0_4, .int .i64 a0_5, .int .i64 a0_6, .int .i64 a0_7, .int .i64 a0_8, .int .i64 a0_9, .string a0_10]] w fun e w' => e = .returned (.bool r) ∧ Below w.heap.size w w' := by
 have hu27 := Tryz.underlying27
 have hu23 := Tryz.underlying23
 have hu25 := Tryz.underlying25
 have HB := As.mk (Below.refl w.heap.size w)
 have H : ((solsticeref09_Name.f k a0_0).bind fun t397 => (if t397 = true then ((solsticeref09_in.f a0_1 1 9999).bind fun t398 => (if t398 = true then ((solsticeref09_in.f a0_2 a0_1 9999).bind fun t399 => (if t399 = true then ((solsticeref09_in.f a0_3 1 12).bind fun t400 => (if t400 = true then ((solsticeref01_On.f k a0_4 a0_5 a0_6).bind fun t401 => (if t401 = true then ((solsticeref01_At.f a0_7 a0_8).bind fun t402 => (if t402 = true then ((solsticeref09_day.f a0_9).bind fun t403 => (if t403 = true then ((solsticeref09_Letter.f k a0_10).bind fun t404 => (solsticeref09_Rule.j0 k (!t404) a0_0 a0_1 a0_2 a0_3 a0_4 a0_5 a0_6 a0_7 a0_8 a0_9 a0_10)) else (solsticeref09_Rule.j0 k true a0_0 a0_1 a0_2 a0_3 a0_4 a0_5 a0_6 a0_7 a0_8 a0_9 a0_10))) else (solsticeref09_Rule.j0 k true a0_0 a0_1 a0_2 a0_3 a0_4 a0_5 a0_6 a0_7 a0_8 a0_9 a0_10))) else (solsticeref09_Rule.j0 k true a0_0 a0_1 a0_2 a0_3 a0_4 a0_5 a0_6 a0_7 a0_8 a0_9 a0_10))) else (solsticeref09_Rule.j0 k true a0_0 a0_1 a0_2 a0_3 a0_4 a0_5 a0_6 a0_7 a0_8 a0_9 a0_10))) else (solsticeref09_Rule.j0 k true a0_0 a0_1 a0_2 a0_3 a0_4 a0_5 a0_6 a0_7 a0_8 a0_9 a0_10))) else (solsticeref09_Rule.j0 k true a0_0 a0_1 a0_2 a0_3 a0_4 a0_5 a0_6 a0_7 a0_8 a0_9 a0_10))) else (solsticeref09_Rule.j0 k true a0_0 a0_1 a0_2 a0_3 a0_4 a0_5 a0_6 a0_7 a0_8 a0_9 a0_10))) = some r := h
 clear h
 have HC2 := As.mk H
 clear H
 go_enter Tryz.func20, Tryz.ntmps20
 go_upto_region 1 with (first | ((with_reducible refine gD (N := 1) rfl ?_); refine xE ?hg (N := 1) ?hd (cs := #[.string a0_0, .int .i64 a0_1, .int .i64 a0_2, .int .i64 a0_3, .int .i64 a0_4, .int .i64 a0_5, .int .i64 a0_6, .int .i64 a0_7, .int .i64 a0_8, .int .i64 a0_9, .string a0_10]) (t := 27) ?hr ?_; (case hd => rfl); (case hg => rfl); (case hr => first | (go_simp; done) | (go_simp; rfl)); intro gb396 hg w3 hbox hb; have n0_ := As.mk (bT (by repeat (first | (with_reducible first | exact HB.out | apply bA | apply bN | apply bD) | exact HB.out)) hb); have n1_ := As.mk (hbox); have n2_ := As.mk ((by rw [hg]; exact (bZ (by repeat (first | (with_reducible first | exact HB.out | apply bA | apply bN | apply bD) | exact HB.out))) : w.heap.size ≤ gb396)); have n3_ := As.mk ((by rw [hg]; exact (bZ (by repeat (first | (with_reducible first | exact HB.out | apply bA | apply bN | apply bD) | exact HB.out))) : w.heap.size ≤ gb396)); clear HB; have HB := n0_; have BK396 := n1_; have GW396 := n2_; have GE396 := n3_; clear n0_ n1_ n2_ n3_; clear hb hbox hg))
 (try simp only [Act.put, List.setIfInBounds_toArray, List.set_cons_zero, List.set_cons_succ])
 go_cut [51] (fun v51 wc => ∃ (kq : Nat) (x51_1 : Bool), v51 = .bool x51_1 ∧ As (solsticeref09_Rule.j0 kq x51_1 a0_0 a0_1 a0_2 a0_3 a0_4 a0_5 a0_6 a0_7 a0_8 a0_9 a0_10 = some r) ∧ As (kq ≤ k) ∧ As (wc.heap[gb396]? = some (.cells #[.string a0_0, .int .i64 a0_1, .int .i64 a0_2, .int .i64 a0_3, .int .i64 a0_4, .int .i64 a0_5, .int .i64 a0_6, .int .i64 a0_7, .int .i64 a0_8, .int .i64 a0_9, .string a0_10] 27 (0, 0))) ∧ As (Below w.heap.size w wc))
 case first =>
  have H := HC2.out
  clear HC2
  replace H := Option.bind_eq_some_iff.mp H
  obtain ⟨t397, A40, H⟩ := H
  (try dsimp only at H)
  have A4 := As.mk A40
  clear A40
  by_cases c5 : t397 = true
  ·subst c5
   have H1 : ((solsticeref09_in.f a0_1 1 9999).bind fun t398 => (if t398 = true then ((solsticeref09_in.f a0_2 a0_1 9999).bind fun t399 => (if t399 = true then ((solsticeref09_in.f a0_3 1 12).bind fun t400 => (if t400 = true then ((solsticeref01_On.f k a0_4 a0_5 a0_6).bind fun t401 => (if t401 = true then ((solsticeref01_At.f a0_7 a0_8).bind fun t402 => (if t402 = true then ((solsticeref09_day.f a0_9).bind fun t403 => (if t403 = true then ((solsticeref09_Letter.f k a0_10).bind fun t404 => (solsticeref09_Rule.j0 k (!t404) a0_0 a0_1 a0_2 a0_3 a0_4 a0_5 a0_6 a0_7 a0_8 a0_9 a0_10)) else (solsticeref09_Rule.j0 k true a0_0 a0_1 a0_2 a0_3 a0_4 a0_5 a0_6 a0_7 a0_8 a0_9 a0_10))) else (solsticeref09_Rule.j0 k true a0_0 a0_1 a0_2 a0_3 a0_4 a0_5 a0_6 a0_7 a0_8 a0_9 a0_10))) else (solsticeref09_Rule.j0 k true a0_0 a0_1 a0_2 a0_3 a0_4 a0_5 a0_6 a0_7 a0_8 a0_9 a0_10))) else (solsticeref09_Rule.j0 k true a0_0 a0_1 a0_2 a0_3 a0_4 a0_5 a0_6 a0_7 a0_8 a0_9 a0_10))) else (solsticeref09_Rule.j0 k true a0_0 a0_1 a0_2 a0_3 a0_4 a0_5 a0_6 a0_7 a0_8 a0_9 a0_10))) else (solsticeref09_Rule.j0 k true a0_0 a0_1 a0_2 a0_3 a0_4 a0_5 a0_6 a0_7 a0_8 a0_9 a0_10))) = some r := by rw [if_pos rfl] at H; exact H
   clear H
   have H := H1
   clear H1
   replace H := Option.bind_eq_some_iff.mp H
   obtain ⟨t398, A60, H⟩ := H
   (try dsimp only at H)
   have A6 := As.mk A60
   clear A60
   by_cases c7 : t398 = true
   ·subst c7
    have H1 : ((solsticeref09_in.f a0_2 a0_1 9999).bind fun t399 => (if t399 = true then ((solsticeref09_in.f a0_3 1 12).bind fun t400 => (if t400 = true then ((solsticeref01_On.f k a0_4 a0_5 a0_6).bind fun t401 => (if t401 = true then ((solsticeref01_At.f a0_7 a0_8).bind fun t402 => (if t402 = true then ((solsticeref09_day.f a0_9).bind fun t403 => (if t403 = true then ((solsticeref09_Letter.f k a0_10).bind fun t404 => (solsticeref09_Rule.j0 k (!t404) a0_0 a0_1 a0_2 a0_3 a0_4 a0_5 a0_6 a0_7 a0_8 a0_9 a0_10)) else (solsticeref09_Rule.j0 k true a0_0 a0_1 a0_2 a0_3 a0_4 a0_5 a0_6 a0_7 a0_8 a0_9 a0_10))) else (solsticeref09_Rule.j0 k true a0_0 a0_1 a0_2 a0_3 a0_4 a0_5 a0_6 a0_7 a0_8 a0_9 a0_10))) else (solsticeref09_Rule.j0 k true a0_0 a0_1 a0_2 a0_3 a0_4 a0_5 a0_6 a0_7 a0_8 a0_9 a0_10))) else (solsticeref09_Rule.j0 k true a0_0 a0_1 a0_2 a0_3 a0_4 a0_5 a0_6 a0_7 a0_8 a0_9 a0_10))) else (solsticeref09_Rule.j0 k true a0_0 a0_1 a0_2 a0_3 a0_4 a0_5 a0_6 a0_7 a0_8 a0_9 a0_10))) = some r := by rw [if_pos rfl] at H; exact H
    clear H
    have H := H1
    clear H1
    replace H := Option.bind_eq_some_iff.mp H
    obtain ⟨t399, A80, H⟩ := H
    (try dsimp only at H)
    have A8 := As.mk A80
    clear A80
    by_cases c9 : t399 = true
    ·subst c9
     have H1 : ((solsticeref09_in.f a0_3 1 12).bind fun t400 => (if t400 = true then ((solsticeref01_On.f k a0_4 a0_5 a0_6).bind fun t401 => (if t401 = true then ((solsticeref01_At.f a0_7 a0_8).bind fun t402 => (if t402 = true then ((solsticeref09_day.f a0_9).bind fun t403 => (if t403 = true then ((solsticeref09_Letter.f k a0_10).bind fun t404 => (solsticeref09_Rule.j0 k (!t404) a0_0 a0_1 a0_2 a0_3 a0_4 a0_5 a0_6 a0_7 a0_8 a0_9 a0_10)) else (solsticeref09_Rule.j0 k true a0_0 a0_1 a0_2 a0_3 a0_4 a0_5 a0_6 a0_7 a0_8 a0_9 a0_10))) else (solsticeref09_Rule.j0 k true a0_0 a0_1 a0_2 a0_3 a0_4 a0_5 a0_6 a0_7 a0_8 a0_9 a0_10))) else (solsticeref09_Rule.j0 k true a0_0 a0_1 a0_2 a0_3 a0_4 a0_5 a0_6 a0_7 a0_8 a0_9 a0_10))) else (solsticeref09_Rule.j0 k true a0_0 a0_1 a0_2 a0_3 a0_4 a0_5 a0_6 a0_7 a0_8 a0_9 a0_10))) = some r := by rw [if_pos rfl] at H; exact H
     clear H
     have H := H1
     clear H1
     replace H := Option.bind_eq_some_iff.mp H
     obtain ⟨t400, A100, H⟩ := H
     (try dsimp only at H)
     have A10 := As.mk A100
     clear A100
     by_cases c11 : t400 = true
     ·subst c11
      have H1 : ((solsticeref01_On.f k a0_4 a0_5 a0_6).bind fun t401 => (if t401 = true then ((solsticeref01_At.f a0_7 a0_8).bind fun t402 => (if t402 = true then ((solsticeref09_day.f a0_9).bind fun t403 => (if t403 = true then ((solsticeref09_Letter.f k a0_10).bind fun t404 => (solsticeref09_Rule.j0 k (!t404) a0_0 a0_1 a0_2 a0_3 a0_4 a0_5 a0_6 a0_7 a0_8 a0_9 a0_10)) else (solsticeref09_Rule.j0 k true a0_0 a0_1 a0_2 a0_3 a0_4 a0_5 a0_6 a0_7 a0_8 a0_9 a0_10))) else (solsticeref09_Rule.j0 k true a0_0 a0_1 a0_2 a0_3 a0_4 a0_5 a0_6 a0_7 a0_8 a0_9 a0_10))) else (solsticeref09_Rule.j0 k true a0_0 a0_1 a0_2 a0_3 a0_4 a0_5 a0_6 a0_7 a0_8 a0_9 a0_10))) = some r := by rw [if_pos rfl] at H; exact H
      clear H
      have H := H1
      clear H1
      replace H := Option.bind_eq_some_iff.mp H
      obtain ⟨t401, A120, H⟩ := H
      (try dsimp only at H)
      have A12 := As.mk A120
      clear A120
      by_cases c13 : t401 = true
      ·subst c13
       have H1 : ((solsticeref01_At.f a0_7 a0_8).bind fun t402 => (if t402 = true then ((solsticeref09_day.f a0_9).bind fun t403 => (if t403 = true then ((solsticeref09_Letter.f k a0_10).bind fun t404 => (solsticeref09_Rule.j0 k (!t404) a0_0 a0_1 a0_2 a0_3 a0_4 a0_5 a0_6 a0_7 a0_8 a0_9 a0_10)) else (solsticeref09_Rule.j0 k true a0_0 a0_1 a0_2 a0_3 a0_4 a0_5 a0_6 a0_7 a0_8 a0_9 a0_10))) else (solsticeref09_Rule.j0 k true a0_0 a0_1 a0_2 a0_3 a0_4 a0_5 a0_6 a0_7 a0_8 a0_9 a0_10))) = some r := by rw [if_pos rfl] at H; exact H
       clear H
       have H := H1
       clear H1
       replace H := Option.bind_eq_some_iff.mp H
       obtain ⟨t402, A140, H⟩ := H
       (try dsimp only at H)
       have A14 := As.mk A140
       clear A140
       by_cases c15 : t402 = true
       ·subst c15
        have H1 : ((solsticeref09_day.f a0_9).bind fun t403 => (if t403 = true then ((solsticeref09_Letter.f k a0_10).bind fun t404 => (solsticeref09_Rule.j0 k (!t404) a0_0 a0_1 a0_2 a0_3 a0_4 a0_5 a0_6 a0_7 a0_8 a0_9 a0_10)) else (solsticeref09_Rule.j0 k true a0_0 a0_1 a0_2 a0_3 a0_4 a0_5 a0_6 a0_7 a0_8 a0_9 a0_10))) = some r := by rw [if_pos rfl] at H; exact H
        clear H
        have H := H1
        clear H1
        replace H := Option.bind_eq_some_iff.mp H
        obtain ⟨t403, A160, H⟩ := H
        (try dsimp only at H)
        have A16 := As.mk A160
        clear A160
        by_cases c17 : t403 = true
        ·subst c17
         have H1 : ((solsticeref09_Letter.f k a0_10).bind fun t404 => (solsticeref09_Rule.j0 k (!t404) a0_0 a0_1 a0_2 a0_3 a0_4 a0_5 a0_6 a0_7 a0_8 a0_9 a0_10)) = some r := by rw [if_pos rfl] at H; exact H
         clear H
         have H := H1
         clear H1
         replace H := Option.bind_eq_some_iff.mp H
         obtain ⟨t404, A180, H⟩ := H
         (try dsimp only at H)
         have A18 := As.mk A180
         clear A180
         have H' := As.mk H
         clear H
         obtain ⟨hcz19_0, hcz19_1, hcz19_2, hcz19_3, hcz19_4, hcz19_5, hcz19_6, hcz19_7, hcz19_8, hcz19_9, hcz19_10, hfz19_0, hfz19_1, hfz19_2, hfz19_3, hfz19_4, hfz19_5, hfz19_6, hfz19_7, hfz19_8, hfz19_9, hfz19_10⟩ := cl11 BK396.out
         go_wp2_with (first | ((with_reducible refine gC (f := 54) rfl ?_); refine goesL_ (some 6) rfl rfl Tryz.func54 (by kernel_rfl) rfl #[.string a0_0] rfl (by (try simp only [List.map_toArray, List.map_cons, List.map_nil]); first | done | rfl | (simp only [List.length_drop, List.length_take]; rfl)) ?_; (with_reducible refine (solsticeref09_Name.calls k a0_0 true _ A4.out).mono ?_); rintro e w' ⟨rfl, ⟨nd, rfl⟩⟩; refine ⟨_, rfl, ?_⟩) | (go_at_call 55; (with_reducible refine (solsticeref09_in.calls a0_1 1 9999 true _ A6.out).mono ?_); rintro e w' ⟨rfl, ⟨nd, rfl⟩⟩) | (go_at_call 55; (with_reducible refine (solsticeref09_in.calls a0_2 a0_1 9999 true _ A8.out).mono ?_); rintro e w' ⟨rfl, ⟨nd, rfl⟩⟩) | (go_at_call 55; (with_reducible refine (solsticeref09_in.calls a0_3 1 12 true _ A10.out).mono ?_); rintro e w' ⟨rfl, ⟨nd, rfl⟩⟩) | (go_at_call 56; (with_reducible refine (solsticeref01_On.calls k a0_4 a0_5 a0_6 true _ A12.out).mono ?_); rintro e w20 ⟨rfl, hb⟩; have n0_ := As.mk (kB (g := gb396) (o := .cells #[.string a0_0, .int .i64 a0_1, .int .i64 a0_2, .int .i64 a0_3, .int .i64 a0_4, .int .i64 a0_5, .int .i64 a0_6, .int .i64 a0_7, .int .i64 a0_8, .int .i64 a0_9, .string a0_10] 27 (0, 0)) (by (with_reducible repeat (first | refine kN ?_ _ | refine kD ?_ | refine kA ?_ _)); exact BK396.out) hb); have n1_ := As.mk (bT (by repeat (first | (with_reducible first | exact HB.out | apply bA | apply bN | apply bD | refine bS ?_ GE396.out) | exact HB.out)) hb); clear BK396; clear HB; have BK396 := n0_; have HB := n1_; clear n0_ n1_; (try clear hb); (try clear hb2); (try clear hk); (try clear hi); obtain ⟨hcz21_0, hcz21_1, hcz21_2, hcz21_3, hcz21_4, hcz21_5, hcz21_6, hcz21_7, hcz21_8, hcz21_9, hcz21_10, hfz21_0, hfz21_1, hfz21_2, hfz21_3, hfz21_4, hfz21_5, hfz21_6, hfz21_7, hfz21_8, hfz21_9, hfz21_10⟩ := cl11 BK396.out) | (go_at_call 57; (with_reducible refine (solsticeref01_At.calls a0_7 a0_8 true _ A14.out).mono ?_); rintro e w22 ⟨rfl, hb⟩; have n0_ := As.mk (kB (g := gb396) (o := .cells #[.string a0_0, .int .i64 a0_1, .int .i64 a0_2, .int .i64 a0_3, .int .i64 a0_4, .int .i64 a0_5, .int .i64 a0_6, .int .i64 a0_7, .int .i64 a0_8, .int .i64 a0_9, .string a0_10] 27 (0, 0)) (by (with_reducible repeat (first | refine kN ?_ _ | refine kD ?_ | refine kA ?_ _)); exact BK396.out) hb); have n1_ := As.mk (bT (by repeat (first | (with_reducible first | exact HB.out | apply bA | apply bN | apply bD | refine bS ?_ GE396.out) | exact HB.out)) hb); clear BK396; clear HB; have BK396 := n0_; have HB := n1_; clear n0_ n1_; (try clear hb); (try clear hb2); (try clear hk); (try clear hi); obtain ⟨hcz23_0, hcz23_1, hcz23_2, hcz23_3, hcz23_4, hcz23_5, hcz23_6, hcz23_7, hcz23_8, hcz23_9, hcz23_10, hfz23_0, hfz23_1, hfz23_2, hfz23_3, hfz23_4, hfz23_5, hfz23_6, hfz23_7, hfz23_8, hfz23_9, hfz23_10⟩ := cl11 BK396.out) | (go_at_call 58; (with_reducible refine (solsticeref09_day.calls a0_9 true _ A16.out).mono ?_); rintro e w' ⟨rfl, ⟨nd, rfl⟩⟩) | (go_at_call 59; (with_reducible refine (solsticeref09_Letter.calls k a0_10 t404 _ A18.out).mono ?_); rintro e w' ⟨rfl, ⟨nd, rfl⟩⟩))
         go_meet
         case rel => exact ⟨_, (!t404), (by first | rfl | (simp; done) | (simp [*]; done)), H', ⟨by first | omega | exact Nat.le_refl _⟩, ⟨by (with_reducible repeat (first | refine kN ?_ _ | refine kD ?_ | refine kA ?_ _)); exact BK396.out⟩, ⟨by repeat (first | (with_reducible first | exact HB.out | apply bA | apply bN | apply bD | refine bS ?_ GE396.out) | exact HB.out)⟩⟩
        ·replace c17 := Bool.eq_false_iff.mpr c17
         subst c17
         have H1 : (solsticeref09_Rule.j0 k true a0_0 a0_1 a0_2 a0_3 a0_4 a0_5 a0_6 a0_7 a0_8 a0_9 a0_10) = some r := by rw [if_neg (show ¬ (false = true) by decide)] at H; exact H
         clear H
         have H := H1
         clear H1
         have H' := As.mk H
         clear H
         obtain ⟨hcz24_0, hcz24_1, hcz24_2, hcz24_3, hcz24_4, hcz24_5, hcz24_6, hcz24_7, hcz24_8, hcz24_9, hcz24_10, hfz24_0, hfz24_1, hfz24_2, hfz24_3, hfz24_4, hfz24_5, hfz24_6, hfz24_7, hfz24_8, hfz24_9, hfz24_10⟩ := cl11 BK396.out
         go_wp2_with (first | ((with_reducible refine gC (f := 54) rfl ?_); refine goesL_ (some 6) rfl rfl Tryz.func54 (by kernel_rfl) rfl #[.string a0_0] rfl (by (try simp only [List.map_toArray, List.map_cons, List.map_nil]); first | done | rfl | (simp only [List.length_drop, List.length_take]; rfl)) ?_; (with_reducible refine (solsticeref09_Name.calls k a0_0 true _ A4.out).mono ?_); rintro e w' ⟨rfl, ⟨nd, rfl⟩⟩; refine ⟨_, rfl, ?_⟩) | (go_at_call 55; (with_reducible refine (solsticeref09_in.calls a0_1 1 9999 true _ A6.out).mono ?_); rintro e w' ⟨rfl, ⟨nd, rfl⟩⟩) | (go_at_call 55; (with_reducible refine (solsticeref09_in.calls a0_2 a0_1 9999 true _ A8.out).mono ?_); rintro e w' ⟨rfl, ⟨nd, rfl⟩⟩) | (go_at_call 55; (with_reducible refine (solsticeref09_in.calls a0_3 1 12 true _ A10.out).mono ?_); rintro e w' ⟨rfl, ⟨nd, rfl⟩⟩) | (go_at_call 56; (with_reducible refine (solsticeref01_On.calls k a0_4 a0_5 a0_6 true _ A12.out).mono ?_); rintro e w25 ⟨rfl, hb⟩; have n0_ := As.mk (kB (g := gb396) (o := .cells #[.string a0_0, .int .i64 a0_1, .int .i64 a0_2, .int .i64 a0_3, .int .i64 a0_4, .int .i64 a0_5, .int .i64 a0_6, .int .i64 a0_7, .int .i64 a0_8, .int .i64 a0_9, .string a0_10] 27 (0, 0)) (by (with_reducible repeat (first | refine kN ?_ _ | refine kD ?_ | refine kA ?_ _)); exact BK396.out) hb); have n1_ := As.mk (bT (by repeat (first | (with_reducible first | exact HB.out | apply bA | apply bN | apply bD | refine bS ?_ GE396.out) | exact HB.out)) hb); clear BK396; clear HB; have BK396 := n0_; have HB := n1_; clear n0_ n1_; (try clear hb); (try clear hb2); (try clear hk); (try clear hi); obtain ⟨hcz26_0, hcz26_1, hcz26_2, hcz26_3, hcz26_4, hcz26_5, hcz26_6, hcz26_7, hcz26_8, hcz26_9, hcz26_10, hfz26_0, hfz26_1, hfz26_2, hfz26_3, hfz26_4, hfz26_5, hfz26_6, hfz26_7, hfz26_8, hfz26_9, hfz26_10⟩ := cl11 BK396.out) | (go_at_call 57; (with_reducible refine (solsticeref01_At.calls a0_7 a0_8 true _ A14.out).mono ?_); rintro e w27 ⟨rfl, hb⟩; have n0_ := As.mk (kB (g := gb396) (o := .cells #[.string a0_0, .int .i64 a0_1, .int .i64 a0_2, .int .i64 a0_3, .int .i64 a0_4, .int .i64 a0_5, .int .i64 a0_6, .int .i64 a0_7, .int .i64 a0_8, .int .i64 a0_9, .string a0_10] 27 (0, 0)) (by (with_reducible repeat (first | refine kN ?_ _ | refine kD ?_ | refine kA ?_ _)); exact BK396.out) hb); have n1_ := As.mk (bT (by repeat (first | (with_reducible first | exact HB.out | apply bA | apply bN | apply bD | refine bS ?_ GE396.out) | exact HB.out)) hb); clear BK396; clear HB; have BK396 := n0_; have HB := n1_; clear n0_ n1_; (try clear hb); (try clear hb2); (try clear hk); (try clear hi); obtain ⟨hcz28_0, hcz28_1, hcz28_2, hcz28_3, hcz28_4, hcz28_5, hcz28_6, hcz28_7, hcz28_8, hcz28_9, hcz28_10, hfz28_0, hfz28_1, hfz28_2, hfz28_3, hfz28_4, hfz28_5, hfz28_6, hfz28_7, hfz28_8, hfz28_9, hfz28_10⟩ := cl11 BK396.out) | (go_at_call 58; (with_reducible refine (solsticeref09_day.calls a0_9 false _ A16.out).mono ?_); rintro e w' ⟨rfl, ⟨nd, rfl⟩⟩))
         go_meet
         case rel => exact ⟨_, (true), (by first | rfl | (simp; done) | (simp [*]; done)), H', ⟨by first | omega | exact Nat.le_refl _⟩, ⟨by (with_reducible repeat (first | refine kN ?_ _ | refine kD ?_ | refine kA ?_ _)); exact BK396.out⟩, ⟨by repeat (first | (with_reducible first | exact HB.out | apply bA | apply bN | apply bD | refine bS ?_ GE396.out) | exact HB.out)⟩⟩
       ·replace c15 := Bool.eq_false_iff.mpr c15
        subst c15
        have H1 : (solsticeref09_Rule.j0 k true a0_0 a0_1 a0_2 a0_3 a0_4 a0_5 a0_6 a0_7 a0_8 a0_9 a0_10) = some r := by rw [if_neg (show ¬ (false = true) by decide)] at H; exact H
        clear H
        have H := H1
        clear H1
        have H' := As.mk H
        clear H
        obtain ⟨hcz29_0, hcz29_1, hcz29_2, hcz29_3, hcz29_4, hcz29_5, hcz29_6, hcz29_7, hcz29_8, hcz29_9, hcz29_10, hfz29_0, hfz29_1, hfz29_2, hfz29_3, hfz29_4, hfz29_5, hfz29_6, hfz29_7, hfz29_8, hfz29_9, hfz29_10⟩ := cl11 BK396.out
        go_wp2_with (first | ((with_reducible refine gC (f := 54) rfl ?_); refine goesL_ (some 6) rfl rfl Tryz.func54 (by kernel_rfl) rfl #[.string a0_0] rfl (by (try simp only [List.map_toArray, List.map_cons, List.map_nil]); first | done | rfl | (simp only [List.length_drop, List.length_take]; rfl)) ?_; (with_reducible refine (solsticeref09_Name.calls k a0_0 true _ A4.out).mono ?_); rintro e w' ⟨rfl, ⟨nd, rfl⟩⟩; refine ⟨_, rfl, ?_⟩) | (go_at_call 55; (with_reducible refine (solsticeref09_in.calls a0_1 1 9999 true _ A6.out).mono ?_); rintro e w' ⟨rfl, ⟨nd, rfl⟩⟩) | (go_at_call 55; (with_reducible refine (solsticeref09_in.calls a0_2 a0_1 9999 true _ A8.out).mono ?_); rintro e w' ⟨rfl, ⟨nd, rfl⟩⟩) | (go_at_call 55; (with_reducible refine (solsticeref09_in.calls a0_3 1 12 true _ A10.out).mono ?_); rintro e w' ⟨rfl, ⟨nd, rfl⟩⟩) | (go_at_call 56; (with_reducible refine (solsticeref01_On.calls k a0_4 a0_5 a0_6 true _ A12.out).mono ?_); rintro e w30 ⟨rfl, hb⟩; have n0_ := As.mk (kB (g := gb396) (o := .cells #[.string a0_0, .int .i64 a0_1, .int .i64 a0_2, .int .i64 a0_3, .int .i64 a0_4, .int .i64 a0_5, .int .i64 a0_6, .int .i64 a0_7, .int .i64 a0_8, .int .i64 a0_9, .string a0_10] 27 (0, 0)) (by (with_reducible repeat (first | refine kN ?_ _ | refine kD ?_ | refine kA ?_ _)); exact BK396.out) hb); have n1_ := As.mk (bT (by repeat (first | (with_reducible first | exact HB.out | apply bA | apply bN | apply bD | refine bS ?_ GE396.out) | exact HB.out)) hb); clear BK396; clear HB; have BK396 := n0_; have HB := n1_; clear n0_ n1_; (try clear hb); (try clear hb2); (try clear hk); (try clear hi); obtain ⟨hcz31_0, hcz31_1, hcz31_2, hcz31_3, hcz31_4, hcz31_5, hcz31_6, hcz31_7, hcz31_8, hcz31_9, hcz31_10, hfz31_0, hfz31_1, hfz31_2, hfz31_3, hfz31_4, hfz31_5, hfz31_6, hfz31_7, hfz31_8, hfz31_9, hfz31_10⟩ := cl11 BK396.out) | (go_at_call 57; (with_reducible refine (solsticeref01_At.calls a0_7 a0_8 false _ A14.out).mono ?_); rintro e w32 ⟨rfl, hb⟩; have n0_ := As.mk (kB (g := gb396) (o := .cells #[.string a0_0, .int .i64 a0_1, .int .i64 a0_2, .int .i64 a0_3, .int .i64 a0_4, .int .i64 a0_5, .int .i64 a0_6, .int .i64 a0_7, .int .i64 a0_8, .int .i64 a0_9, .string a0_10] 27 (0, 0)) (by (with_reducible repeat (first | refine kN ?_ _ | refine kD ?_ | refine kA ?_ _)); exact BK396.out) hb); have n1_ := As.mk (bT (by repeat (first | (with_reducible first | exact HB.out | apply bA | apply bN | apply bD | refine bS ?_ GE396.out) | exact HB.out)) hb); clear BK396; clear HB; have BK396 := n0_; have HB := n1_; clear n0_ n1_; (try clear hb); (try clear hb2); (try clear hk); (try clear hi)))
        go_meet
        case rel => exact ⟨_, (true), (by first | rfl | (simp; done) | (simp [*]; done)), H', ⟨by first | omega | exact Nat.le_refl _⟩, ⟨by (with_reducible repeat (first | refine kN ?_ _ | refine kD ?_ | refine kA ?_ _)); exact BK396.out⟩, ⟨by repeat (first | (with_reducible first | exact HB.out | apply bA | apply bN | apply bD | refine bS ?_ GE396.out) | exact HB.out)⟩⟩
      ·replace c13 := Bool.eq_false_iff.mpr c13
       subst c13
       have H1 : (solsticeref09_Rule.j0 k true a0_0 a0_1 a0_2 a0_3 a0_4 a0_5 a0_6 a0_7 a0_8 a0_9 a0_10) = some r := by rw [if_neg (show ¬ (false = true) by decide)] at H; exact H
       clear H
       have H := H1
       clear H1
       have H' := As.mk H
       clear H
       obtain ⟨hcz33_0, hcz33_1, hcz33_2, hcz33_3, hcz33_4, hcz33_5, hcz33_6, hcz33_7, hcz33_8, hcz33_9, hcz33_10, hfz33_0, hfz33_1, hfz33_2, hfz33_3, hfz33_4, hfz33_5, hfz33_6, hfz33_7, hfz33_8, hfz33_9, hfz33_10⟩ := cl11 BK396.out
       go_wp2_with (first | ((with_reducible refine gC (f := 54) rfl ?_); refine goesL_ (some 6) rfl rfl Tryz.func54 (by kernel_rfl) rfl #[.string a0_0] rfl (by (try simp only [List.map_toArray, List.map_cons, List.map_nil]); first | done | rfl | (simp only [List.length_drop, List.length_take]; rfl)) ?_; (with_reducible refine (solsticeref09_Name.calls k a0_0 true _ A4.out).mono ?_); rintro e w' ⟨rfl, ⟨nd, rfl⟩⟩; refine ⟨_, rfl, ?_⟩) | (go_at_call 55; (with_reducible refine (solsticeref09_in.calls a0_1 1 9999 true _ A6.out).mono ?_); rintro e w' ⟨rfl, ⟨nd, rfl⟩⟩) | (go_at_call 55; (with_reducible refine (solsticeref09_in.calls a0_2 a0_1 9999 true _ A8.out).mono ?_); rintro e w' ⟨rfl, ⟨nd, rfl⟩⟩) | (go_at_call 55; (with_reducible refine (solsticeref09_in.calls a0_3 1 12 true _ A10.out).mono ?_); rintro e w' ⟨rfl, ⟨nd, rfl⟩⟩) | (go_at_call 56; (with_reducible refine (solsticeref01_On.calls k a0_4 a0_5 a0_6 false _ A12.out).mono ?_); rintro e w34 ⟨rfl, hb⟩; have n0_ := As.mk (kB (g := gb396) (o := .cells #[.string a0_0, .int .i64 a0_1, .int .i64 a0_2, .int .i64 a0_3, .int .i64 a0_4, .int .i64 a0_5, .int .i64 a0_6, .int .i64 a0_7, .int .i64 a0_8, .int .i64 a0_9, .string a0_10] 27 (0, 0)) (by (with_reducible repeat (first | refine kN ?_ _ | refine kD ?_ | refine kA ?_ _)); exact BK396.out) hb); have n1_ := As.mk (bT (by repeat (first | (with_reducible first | exact HB.out | apply bA | apply bN | apply bD | refine bS ?_ GE396.out) | exact HB.out)) hb); clear BK396; clear HB; have BK396 := n0_; have HB := n1_; clear n0_ n1_; (try clear hb); (try clear hb2); (try clear hk); (try clear hi)))
       go_meet
       case rel => exact ⟨_, (true), (by first | rfl | (simp; done) | (simp [*]; done)), H', ⟨by first | omega | exact Nat.le_refl _⟩, ⟨by (with_reducible repeat (first | refine kN ?_ _ | refine kD ?_ | refine kA ?_ _)); exact BK396.out⟩, ⟨by repeat (first | (with_reducible first | exact HB.out | apply bA | apply bN | apply bD | refine bS ?_ GE396.out) | exact HB.out)⟩⟩
     ·replace c11 := Bool.eq_false_iff.mpr c11
      subst c11
      have H1 : (solsticeref09_Rule.j0 k true a0_0 a0_1 a0_2 a0_3 a0_4 a0_5 a0_6 a0_7 a0_8 a0_9 a0_10) = some r := by rw [if_neg (show ¬ (false = true) by decide)] at H; exact H
      clear H
      have H := H1
      clear H1
      have H' := As.mk H
      clear H
      obtain ⟨hcz35_0, hcz35_1, hcz35_2, hcz35_3, hcz35_4, hcz35_5, hcz35_6, hcz35_7, hcz35_8, hcz35_9, hcz35_10, hfz35_0, hfz35_1, hfz35_2, hfz35_3, hfz35_4, hfz35_5, hfz35_6, hfz35_7, hfz35_8, hfz35_9, hfz35_10⟩ := cl11 BK396.out
      go_wp2_with (first | ((with_reducible refine gC (f := 54) rfl ?_); refine goesL_ (some 6) rfl rfl Tryz.func54 (by kernel_rfl) rfl #[.string a0_0] rfl (by (try simp only [List.map_toArray, List.map_cons, List.map_nil]); first | done | rfl | (simp only [List.length_drop, List.length_take]; rfl)) ?_; (with_reducible refine (solsticeref09_Name.calls k a0_0 true _ A4.out).mono ?_); rintro e w' ⟨rfl, ⟨nd, rfl⟩⟩; refine ⟨_, rfl, ?_⟩) | (go_at_call 55; (with_reducible refine (solsticeref09_in.calls a0_1 1 9999 true _ A6.out).mono ?_); rintro e w' ⟨rfl, ⟨nd, rfl⟩⟩) | (go_at_call 55; (with_reducible refine (solsticeref09_in.calls a0_2 a0_1 9999 true _ A8.out).mono ?_); rintro e w' ⟨rfl, ⟨nd, rfl⟩⟩) | (go_at_call 55; (with_reducible refine (solsticeref09_in.calls a0_3 1 12 false _ A10.out).mono ?_); rintro e w' ⟨rfl, ⟨nd, rfl⟩⟩))
      go_meet
      case rel => exact ⟨_, (true), (by first | rfl | (simp; done) | (simp [*]; done)), H', ⟨by first | omega | exact Nat.le_refl _⟩, ⟨by (with_reducible repeat (first | refine kN ?_ _ | refine kD ?_ | refine kA ?_ _)); exact BK396.out⟩, ⟨by repeat (first | (with_reducible first | exact HB.out | apply bA | apply bN | apply bD | refine bS ?_ GE396.out) | exact HB.out)⟩⟩
    ·replace c9 := Bool.eq_false_iff.mpr c9
     subst c9
     have H1 : (solsticeref09_Rule.j0 k true a0_0 a0_1 a0_2 a0_3 a0_4 a0_5 a0_6 a0_7 a0_8 a0_9 a0_10) = some r := by rw [if_neg (show ¬ (false = true) by decide)] at H; exact H
     clear H
     have H := H1
     clear H1
     have H' := As.mk H
     clear H
     obtain ⟨hcz36_0, hcz36_1, hcz36_2, hcz36_3, hcz36_4, hcz36_5, hcz36_6, hcz36_7, hcz36_8, hcz36_9, hcz36_10, hfz36_0, hfz36_1, hfz36_2, hfz36_3, hfz36_4, hfz36_5, hfz36_6, hfz36_7, hfz36_8, hfz36_9, hfz36_10⟩ := cl11 BK396.out
     go_wp2_with (first | ((with_reducible refine gC (f := 54) rfl ?_); refine goesL_ (some 6) rfl rfl Tryz.func54 (by kernel_rfl) rfl #[.string a0_0] rfl (by (try simp only [List.map_toArray, List.map_cons, List.map_nil]); first | done | rfl | (simp only [List.length_drop, List.length_take]; rfl)) ?_; (with_reducible refine (solsticeref09_Name.calls k a0_0 true _ A4.out).mono ?_); rintro e w' ⟨rfl, ⟨nd, rfl⟩⟩; refine ⟨_, rfl, ?_⟩) | (go_at_call 55; (with_reducible refine (solsticeref09_in.calls a0_1 1 9999 true _ A6.out).mono ?_); rintro e w' ⟨rfl, ⟨nd, rfl⟩⟩) | (go_at_call 55; (with_reducible refine (solsticeref09_in.calls a0_2 a0_1 9999 false _ A8.out).mono ?_); rintro e w' ⟨rfl, ⟨nd, rfl⟩⟩))
     go_meet
     case rel => exact ⟨_, (true), (by first | rfl | (simp; done) | (simp [*]; done)), H', ⟨by first | omega | exact Nat.le_refl _⟩, ⟨by (with_reducible repeat (first | refine kN ?_ _ | refine kD ?_ | refine kA ?_ _)); exact BK396.out⟩, ⟨by repeat (first | (with_reducible first | exact HB.out | apply bA | apply bN | apply bD | refine bS ?_ GE396.out) | exact HB.out)⟩⟩
   ·replace c7 := Bool.eq_false_iff.mpr c7
    subst c7
    have H1 : (solsticeref09_Rule.j0 k true a0_0 a0_1 a0_2 a0_3 a0_4 a0_5 a0_6 a0_7 a0_8 a0_9 a0_10) = some r := by rw [if_neg (show ¬ (false = true) by decide)] at H; exact H
    clear H
    have H := H1
    clear H1
    have H' := As.mk H
    clear H
    obtain ⟨hcz37_0, hcz37_1, hcz37_2, hcz37_3, hcz37_4, hcz37_5, hcz37_6, hcz37_7, hcz37_8, hcz37_9, hcz37_10, hfz37_0, hfz37_1, hfz37_2, hfz37_3, hfz37_4, hfz37_5, hfz37_6, hfz37_7, hfz37_8, hfz37_9, hfz37_10⟩ := cl11 BK396.out
    go_wp2_with (first | ((with_reducible refine gC (f := 54) rfl ?_); refine goesL_ (some 6) rfl rfl Tryz.func54 (by kernel_rfl) rfl #[.string a0_0] rfl (by (try simp only [List.map_toArray, List.map_cons, List.map_nil]); first | done | rfl | (simp only [List.length_drop, List.length_take]; rfl)) ?_; (with_reducible refine (solsticeref09_Name.calls k a0_0 true _ A4.out).mono ?_); rintro e w' ⟨rfl, ⟨nd, rfl⟩⟩; refine ⟨_, rfl, ?_⟩) | (go_at_call 55; (with_reducible refine (solsticeref09_in.calls a0_1 1 9999 false _ A6.out).mono ?_); rintro e w' ⟨rfl, ⟨nd, rfl⟩⟩))
    go_meet
    case rel => exact ⟨_, (true), (by first | rfl | (simp; done) | (simp [*]; done)), H', ⟨by first | omega | exact Nat.le_refl _⟩, ⟨by (with_reducible repeat (first | refine kN ?_ _ | refine kD ?_ | refine kA ?_ _)); exact BK396.out⟩, ⟨by repeat (first | (with_reducible first | exact HB.out | apply bA | apply bN | apply bD | refine bS ?_ GE396.out) | exact HB.out)⟩⟩
  ·replace c5 := Bool.eq_false_iff.mpr c5
   subst c5
   have H1 : (solsticeref09_Rule.j0 k true a0_0 a0_1 a0_2 a0_3 a0_4 a0_5 a0_6 a0_7 a0_8 a0_9 a0_10) = some r := by rw [if_neg (show ¬ (false = true) by decide)] at H; exact H
   clear H
   have H := H1
   clear H1
   have H' := As.mk H
   clear H
   obtain ⟨hcz38_0, hcz38_1, hcz38_2, hcz38_3, hcz38_4, hcz38_5, hcz38_6, hcz38_7, hcz38_8, hcz38_9, hcz38_10, hfz38_0, hfz38_1, hfz38_2, hfz38_3, hfz38_4, hfz38_5, hfz38_6, hfz38_7, hfz38_8, hfz38_9, hfz38_10⟩ := cl11 BK396.out
   go_wp2_with (first | ((with_reducible refine gC (f := 54) rfl ?_); refine goesL_ (some 6) rfl rfl Tryz.func54 (by kernel_rfl) rfl #[.string a0_0] rfl (by (try simp only [List.map_toArray, List.map_cons, List.map_nil]); first | done | rfl | (simp only [List.length_drop, List.length_take]; rfl)) ?_; (with_reducible refine (solsticeref09_Name.calls k a0_0 false _ A4.out).mono ?_); rintro e w' ⟨rfl, ⟨nd, rfl⟩⟩; refine ⟨_, rfl, ?_⟩))
   go_meet
   case rel => exact ⟨_, (true), (by first | rfl | (simp; done) | (simp [*]; done)), H', ⟨by first | omega | exact Nat.le_refl _⟩, ⟨by (with_reducible repeat (first | refine kN ?_ _ | refine kD ?_ | refine kA ?_ _)); exact BK396.out⟩, ⟨by repeat (first | (with_reducible first | exact HB.out | apply bA | apply bN | apply bD | refine bS ?_ GE396.out) | exact HB.out)⟩⟩
 case rest =>
  clear HC2
  try clear c1
  try clear c2
  try clear p2
  try clear c5
  try clear c7
  try clear c9
  try clear c11
  try clear c13
  try clear c15
  try clear c17
  try clear c20
  try clear hcz19_0
  try clear hcz19_1
  try clear hcz19_10
  try clear hcz19_2
  try clear hcz19_3
  try clear hcz19_4
  try clear hcz19_5
  try clear hcz19_6
  try clear hcz19_7
  try clear hcz19_8
  try clear hcz19_9
  try clear hcz21_0
  try clear hcz21_1
  try clear hcz21_10
  try clear hcz21_2
  try clear hcz21_3
  try clear hcz21_4
  try clear hcz21_5
  try clear hcz21_6
  try clear hcz21_7
  try clear hcz21_8
  try clear hcz21_9
  try clear hcz23_0
  try clear hcz23_1
  try clear hcz23_10
  try clear hcz23_2
  try clear hcz23_3
  try clear hcz23_4
  try clear hcz23_5
  try clear hcz23_6
  try clear hcz23_7
  try clear hcz23_8
  try clear hcz23_9
  try clear hcz24_0
  try clear hcz24_1
  try clear hcz24_10
  try clear hcz24_2
  try clear hcz24_3
  try clear hcz24_4
  try clear hcz24_5
  try clear hcz24_6
  try clear hcz24_7
  try clear hcz24_8
  try clear hcz24_9
  try clear hcz26_0
  try clear hcz26_1
  try clear hcz26_10
  try clear hcz26_2
  try clear hcz26_3
  try clear hcz26_4
  try clear hcz26_5
  try clear hcz26_6
  try clear hcz26_7
  try clear hcz26_8
  try clear hcz26_9
  try clear hcz28_0
  try clear hcz28_1
  try clear hcz28_10
  try clear hcz28_2
  try clear hcz28_3
  try clear hcz28_4
  try clear hcz28_5
  try clear hcz28_6
  try clear hcz28_7
  try clear hcz28_8
  try clear hcz28_9
  try clear hcz29_0
  try clear hcz29_1
  try clear hcz29_10
  try clear hcz29_2
  try clear hcz29_3
  try clear hcz29_4
  try clear hcz29_5
  try clear hcz29_6
  try clear hcz29_7
  try clear hcz29_8
  try clear hcz29_9
  try clear hcz31_0
  try clear hcz31_1
  try clear hcz31_10
  try clear hcz31_2
  try clear hcz31_3
  try clear hcz31_4
  try clear hcz31_5
  try clear hcz31_6
  try clear hcz31_7
  try clear hcz31_8
  try clear hcz31_9
  try clear hcz33_0
  try clear hcz33_1
  try clear hcz33_10
  try clear hcz33_2
  try clear hcz33_3
  try clear hcz33_4
  try clear hcz33_5
  try clear hcz33_6
  try clear hcz33_7
  try clear hcz33_8
  try clear hcz33_9
  try clear hcz35_0
  try clear hcz35_1
  try clear hcz35_10
  try clear hcz35_2
  try clear hcz35_3
  try clear hcz35_4
  try clear hcz35_5
  try clear hcz35_6
  try clear hcz35_7
  try clear hcz35_8
  try clear hcz35_9
  try clear hcz36_0
  try clear hcz36_1
  try clear hcz36_10
  try clear hcz36_2
  try clear hcz36_3
  try clear hcz36_4
  try clear hcz36_5
  try clear hcz36_6
  try clear hcz36_7
  try clear hcz36_8
  try clear hcz36_9
  try clear hcz37_0
  try clear hcz37_1
  try clear hcz37_10
  try clear hcz37_2
  try clear hcz37_3
  try clear hcz37_4
  try clear hcz37_5
  try clear hcz37_6
  try clear hcz37_7
  try clear hcz37_8
  try clear hcz37_9
  try clear hcz38_0
  try clear hcz38_1
  try clear hcz38_10
  try clear hcz38_2
  try clear hcz38_3
  try clear hcz38_4
  try clear hcz38_5
  try clear hcz38_6
  try clear hcz38_7
  try clear hcz38_8
  try clear hcz38_9
  try clear hfz19_0
  try clear hfz19_1
  try clear hfz19_10
  try clear hfz19_2
  try clear hfz19_3
  try clear hfz19_4
  try clear hfz19_5
  try clear hfz19_6
  try clear hfz19_7
  try clear hfz19_8
  try clear hfz19_9
  try clear hfz21_0
  try clear hfz21_1
  try clear hfz21_10
  try clear hfz21_2
  try clear hfz21_3
  try clear hfz21_4
  try clear hfz21_5
  try clear hfz21_6
  try clear hfz21_7
  try clear hfz21_8
  try clear hfz21_9
  try clear hfz23_0
  try clear hfz23_1
  try clear hfz23_10
  try clear hfz23_2
  try clear hfz23_3
  try clear hfz23_4
  try clear hfz23_5
  try clear hfz23_6
  try clear hfz23_7
  try clear hfz23_8
  try clear hfz23_9
  try clear hfz24_0
  try clear hfz24_1
  try clear hfz24_10
  try clear hfz24_2
  try clear hfz24_3
  try clear hfz24_4
  try clear hfz24_5
  try clear hfz24_6
  try clear hfz24_7
  try clear hfz24_8
  try clear hfz24_9
  try clear hfz26_0
  try clear hfz26_1
  try clear hfz26_10
  try clear hfz26_2
  try clear hfz26_3
  try clear hfz26_4
  try clear hfz26_5
  try clear hfz26_6
  try clear hfz26_7
  try clear hfz26_8
  try clear hfz26_9
  try clear hfz28_0
  try clear hfz28_1
  try clear hfz28_10
  try clear hfz28_2
  try clear hfz28_3
  try clear hfz28_4
  try clear hfz28_5
  try clear hfz28_6
  try clear hfz28_7
  try clear hfz28_8
  try clear hfz28_9
  try clear hfz29_0
  try clear hfz29_1
  try clear hfz29_10
  try clear hfz29_2
  try clear hfz29_3
  try clear hfz29_4
  try clear hfz29_5
  try clear hfz29_6
  try clear hfz29_7
  try clear hfz29_8
  try clear hfz29_9
  try clear hfz31_0
  try clear hfz31_1
  try clear hfz31_10
  try clear hfz31_2
  try clear hfz31_3
  try clear hfz31_4
  try clear hfz31_5
  try clear hfz31_6
  try clear hfz31_7
  try clear hfz31_8
  try clear hfz31_9
  try clear hfz33_0
  try clear hfz33_1
  try clear hfz33_10
  try clear hfz33_2
  try clear hfz33_3
  try clear hfz33_4
  try clear hfz33_5
  try clear hfz33_6
  try clear hfz33_7
  try clear hfz33_8
  try clear hfz33_9
  try clear hfz35_0
  try clear hfz35_1
  try clear hfz35_10
  try clear hfz35_2
  try clear hfz35_3
  try clear hfz35_4
  try clear hfz35_5
  try clear hfz35_6
  try clear hfz35_7
  try clear hfz35_8
  try clear hfz35_9
  try clear hfz36_0
  try clear hfz36_1
  try clear hfz36_10
  try clear hfz36_2
  try clear hfz36_3
  try clear hfz36_4
  try clear hfz36_5
  try clear hfz36_6
  try clear hfz36_7
  try clear hfz36_8
  try clear hfz36_9
  try clear hfz37_0
  try clear hfz37_1
  try clear hfz37_10
  try clear hfz37_2
  try clear hfz37_3
  try clear hfz37_4
  try clear hfz37_5
  try clear hfz37_6
  try clear hfz37_7
  try clear hfz37_8
  try clear hfz37_9
  try clear hfz38_0
  try clear hfz38_1
  try clear hfz38_10
  try clear hfz38_2
  try clear hfz38_3
  try clear hfz38_4
  try clear hfz38_5
  try clear hfz38_6
  try clear hfz38_7
  try clear hfz38_8
  try clear hfz38_9
  obtain ⟨kq, x51_1, rfl, HA, HJ1, BK396, HB⟩ := hcut
  cases kq with
  | zero => exact absurd HA.out (by simp [solsticeref09_Rule.j0])
  | succ kj1 =>
   have H := HA.out
   clear HA
   simp only [solsticeref09_Rule.j0] at H
   by_cases c39 : x51_1 = true
   ·subst c39
    have H1 : (some false) = some r := by rw [if_pos rfl] at H; exact H
    clear H
    have H := H1
    clear H1
    obtain rfl := Option.some.inj H
    go_wp2
    go_ret
    exact ⟨by first | rfl | (simp [eN, eS] <;> rfl) | (simp [*, eN, eS] <;> rfl), by repeat (first | (with_reducible first | exact HB.out | apply bA | apply bN | apply bD | refine bS ?_ GE396.out) | exact HB.out)⟩
   ·replace c39 := Bool.eq_false_iff.mpr c39
    subst c39
    have H1 : ((solsticeref01_Len.f kj1 2000 a0_3).bind fun t405 => (if a0_3 = 2 then (if a0_4 = 1 then (if a0_2 > a0_1 then (if a0_4 = 2 then (some true) else (some (decide (a0_6 ≤ 28)))) else (if a0_4 = 2 then (some true) else (some (decide (a0_6 ≤ t405))))) else (if a0_4 = 2 then (some true) else (some (decide (a0_6 ≤ t405))))) else (if a0_4 = 2 then (some true) else (some (decide (a0_6 ≤ t405)))))) = some r := by rw [if_neg (show ¬ (false = true) by decide)] at H; exact H
    clear H
    have H := H1
    clear H1
    replace H := Option.bind_eq_some_iff.mp H
    obtain ⟨t405, A400, H⟩ := H
    (try dsimp only at H)
    have A40 := As.mk A400
    clear A400
    by_cases c41 : a0_3 = 2
    ·rw [if_pos c41] at H
     have c41b0 : (a0_3 == 2) = true := beq_iff_eq.mpr c41
     have c41b1 : (a0_3 != 2) = false := bne_eq_false_iff_eq.mpr c41
     clear c41
     by_cases c42 : a0_4 = 1
     ·rw [if_pos c42] at H
      have c42b0 : (a0_4 == 1) = true := beq_iff_eq.mpr c42
      have c42b1 : (a0_4 != 1) = false := bne_eq_false_iff_eq.mpr c42
      clear c42
      by_cases c43 : a0_2 > a0_1
      ·rw [if_pos c43] at H
       have c43b0 : decide (a0_1 < a0_2) = true := decide_eq_true c43
       clear c43
       have c44n : ¬ (a0_4 = 2) := by rw [beq_iff_eq.mp c42b0]; decide
       rw [if_neg c44n] at H
       have c44b0 : (a0_4 == 2) = false := beq_eq_false_iff_ne.mpr c44n
       have c44b1 : (a0_4 != 2) = true := bne_iff_ne.mpr c44n
       clear c44n
       obtain rfl := Option.some.inj H
       obtain ⟨hcz45_0, hcz45_1, hcz45_2, hcz45_3, hcz45_4, hcz45_5, hcz45_6, hcz45_7, hcz45_8, hcz45_9, hcz45_10, hfz45_0, hfz45_1, hfz45_2, hfz45_3, hfz45_4, hfz45_5, hfz45_6, hfz45_7, hfz45_8, hfz45_9, hfz45_10⟩ := cl11 BK396.out
       go_wp2_with (first | ((with_reducible refine gC (f := 60) rfl ?_); refine goesL_ (some 54) rfl rfl Tryz.func60 (by kernel_rfl) rfl #[.int .i64 2000, .int .i64 a0_3] rfl (by (try simp only [List.map_toArray, List.map_cons, List.map_nil]); first | done | rfl | (simp only [List.length_drop, List.length_take]; rfl)) ?_; (with_reducible refine (solsticeref01_Len.calls kj1 2000 a0_3 t405 _ A40.out).mono ?_); rintro e w' ⟨rfl, ⟨nd, rfl⟩⟩; refine ⟨_, rfl, ?_⟩))
       go_ret
       exact ⟨by first | rfl | (simp [eN, eS] <;> rfl) | (simp [*, eN, eS] <;> rfl), by repeat (first | (with_reducible first | exact HB.out | apply bA | apply bN | apply bD | refine bS ?_ GE396.out) | exact HB.out)⟩
      ·rw [if_neg c43] at H
       have c43b0 : decide (a0_1 < a0_2) = false := decide_eq_false c43
       clear c43
       have c46n : ¬ (a0_4 = 2) := by rw [beq_iff_eq.mp c42b0]; decide
       rw [if_neg c46n] at H
       have c46b0 : (a0_4 == 2) = false := beq_eq_false_iff_ne.mpr c46n
       have c46b1 : (a0_4 != 2) = true := bne_iff_ne.mpr c46n
       clear c46n
       obtain rfl := Option.some.inj H
       obtain ⟨hcz47_0, hcz47_1, hcz47_2, hcz47_3, hcz47_4, hcz47_5, hcz47_6, hcz47_7, hcz47_8, hcz47_9, hcz47_10, hfz47_0, hfz47_1, hfz47_2, hfz47_3, hfz47_4, hfz47_5, hfz47_6, hfz47_7, hfz47_8, hfz47_9, hfz47_10⟩ := cl11 BK396.out
       go_wp2_with (first | ((with_reducible refine gC (f := 60) rfl ?_); refine goesL_ (some 54) rfl rfl Tryz.func60 (by kernel_rfl) rfl #[.int .i64 2000, .int .i64 a0_3] rfl (by (try simp only [List.map_toArray, List.map_cons, List.map_nil]); first | done | rfl | (simp only [List.length_drop, List.length_take]; rfl)) ?_; (with_reducible refine (solsticeref01_Len.calls kj1 2000 a0_3 t405 _ A40.out).mono ?_); rintro e w' ⟨rfl, ⟨nd, rfl⟩⟩; refine ⟨_, rfl, ?_⟩))
       go_ret
       exact ⟨by first | rfl | (simp [eN, eS] <;> rfl) | (simp [*, eN, eS] <;> rfl), by repeat (first | (with_reducible first | exact HB.out | apply bA | apply bN | apply bD | refine bS ?_ GE396.out) | exact HB.out)⟩
     ·rw [if_neg c42] at H
      have c42b0 : (a0_4 == 1) = false := beq_eq_false_iff_ne.mpr c42
      have c42b1 : (a0_4 != 1) = true := bne_iff_ne.mpr c42
      by_cases c48 : a0_4 = 2
      ·rw [if_pos c48] at H
       have c48b0 : (a0_4 == 2) = true := beq_iff_eq.mpr c48
       have c48b1 : (a0_4 != 2) = false := bne_eq_false_iff_eq.mpr c48
       clear c48
       obtain rfl := Option.some.inj H
       obtain ⟨hcz49_0, hcz49_1, hcz49_2, hcz49_3, hcz49_4, hcz49_5, hcz49_6, hcz49_7, hcz49_8, hcz49_9, hcz49_10, hfz49_0, hfz49_1, hfz49_2, hfz49_3, hfz49_4, hfz49_5, hfz49_6, hfz49_7, hfz49_8, hfz49_9, hfz49_10⟩ := cl11 BK396.out
       go_wp2_with (first | ((with_reducible refine gC (f := 60) rfl ?_); refine goesL_ (some 54) rfl rfl Tryz.func60 (by kernel_rfl) rfl #[.int .i64 2000, .int .i64 a0_3] rfl (by (try simp only [List.map_toArray, List.map_cons, List.map_nil]); first | done | rfl | (simp only [List.length_drop, List.length_take]; rfl)) ?_; (with_reducible refine (solsticeref01_Len.calls kj1 2000 a0_3 t405 _ A40.out).mono ?_); rintro e w' ⟨rfl, ⟨nd, rfl⟩⟩; refine ⟨_, rfl, ?_⟩))
       go_ret
       exact ⟨by first | rfl | (simp [eN, eS] <;> rfl) | (simp [*, eN, eS] <;> rfl), by repeat (first | (with_reducible first | exact HB.out | apply bA | apply bN | apply bD | refine bS ?_ GE396.out) | exact HB.out)⟩
      ·rw [if_neg c48] at H
       have c48b0 : (a0_4 == 2) = false := beq_eq_false_iff_ne.mpr c48
       have c48b1 : (a0_4 != 2) = true := bne_iff_ne.mpr c48
       obtain rfl := Option.some.inj H
       obtain ⟨hcz50_0, hcz50_1, hcz50_2, hcz50_3, hcz50_4, hcz50_5, hcz50_6, hcz50_7, hcz50_8, hcz50_9, hcz50_10, hfz50_0, hfz50_1, hfz50_2, hfz50_3, hfz50_4, hfz50_5, hfz50_6, hfz50_7, hfz50_8, hfz50_9, hfz50_10⟩ := cl11 BK396.out
       go_wp2_with (first | ((with_reducible refine gC (f := 60) rfl ?_); refine goesL_ (some 54) rfl rfl Tryz.func60 (by kernel_rfl) rfl #[.int .i64 2000, .int .i64 a0_3] rfl (by (try simp only [List.map_toArray, List.map_cons, List.map_nil]); first | done | rfl | (simp only [List.length_drop, List.length_take]; rfl)) ?_; (with_reducible refine (solsticeref01_Len.calls kj1 2000 a0_3 t405 _ A40.out).mono ?_); rintro e w' ⟨rfl, ⟨nd, rfl⟩⟩; refine ⟨_, rfl, ?_⟩))
       go_ret
       exact ⟨by first | rfl | (simp [eN, eS] <;> rfl) | (simp [*, eN, eS] <;> rfl), by repeat (first | (with_reducible first | exact HB.out | apply bA | apply bN | apply bD | refine bS ?_ GE396.out) | exact HB.out)⟩
    ·rw [if_neg c41] at H
     have c41b0 : (a0_3 == 2) = false := beq_eq_false_iff_ne.mpr c41
     have c41b1 : (a0_3 != 2) = true := bne_iff_ne.mpr c41
     by_cases c51 : a0_4 = 2
     ·rw [if_pos c51] at H
      have c51b0 : (a0_4 == 2) = true := beq_iff_eq.mpr c51
      have c51b1 : (a0_4 != 2) = false := bne_eq_false_iff_eq.mpr c51
      clear c51
      obtain rfl := Option.some.inj H
      obtain ⟨hcz52_0, hcz52_1, hcz52_2, hcz52_3, hcz52_4, hcz52_5, hcz52_6, hcz52_7, hcz52_8, hcz52_9, hcz52_10, hfz52_0, hfz52_1, hfz52_2, hfz52_3, hfz52_4, hfz52_5, hfz52_6, hfz52_7, hfz52_8, hfz52_9, hfz52_10⟩ := cl11 BK396.out
      go_wp2_with (first | ((with_reducible refine gC (f := 60) rfl ?_); refine goesL_ (some 54) rfl rfl Tryz.func60 (by kernel_rfl) rfl #[.int .i64 2000, .int .i64 a0_3] rfl (by (try simp only [List.map_toArray, List.map_cons, List.map_nil]); first | done | rfl | (simp only [List.length_drop, List.length_take]; rfl)) ?_; (with_reducible refine (solsticeref01_Len.calls kj1 2000 a0_3 t405 _ A40.out).mono ?_); rintro e w' ⟨rfl, ⟨nd, rfl⟩⟩; refine ⟨_, rfl, ?_⟩))
      go_ret
      exact ⟨by first | rfl | (simp [eN, eS] <;> rfl) | (simp [*, eN, eS] <;> rfl), by repeat (first | (with_reducible first | exact HB.out | apply bA | apply bN | apply bD | refine bS ?_ GE396.out) | exact HB.out)⟩
     ·rw [if_neg c51] at H
      have c51b0 : (a0_4 == 2) = false := beq_eq_false_iff_ne.mpr c51
      have c51b1 : (a0_4 != 2) = true := bne_iff_ne.mpr c51
      obtain rfl := Option.some.inj H
      obtain ⟨hcz53_0, hcz53_1, hcz53_2, hcz53_3, hcz53_4, hcz53_5, hcz53_6, hcz53_7, hcz53_8, hcz53_9, hcz53_10, hfz53_0, hfz53_1, hfz53_2, hfz53_3, hfz53_4, hfz53_5, hfz53_6, hfz53_7, hfz53_8, hfz53_9, hfz53_10⟩ := cl11 BK396.out
      go_wp2_with (first | ((with_reducible refine gC (f := 60) rfl ?_); refine goesL_ (some 54) rfl rfl Tryz.func60 (by kernel_rfl) rfl #[.int .i64 2000, .int .i64 a0_3] rfl (by (try simp only [List.map_toArray, List.map_cons, List.map_nil]); first | done | rfl | (simp only [List.length_drop, List.length_take]; rfl)) ?_; (with_reducible refine (solsticeref01_Len.calls kj1 2000 a0_3 t405 _ A40.out).mono ?_); rintro e w' ⟨rfl, ⟨nd, rfl⟩⟩; refine ⟨_, rfl, ?_⟩))
      go_ret
      exact ⟨by first | rfl | (simp [eN, eS] <;> rfl) | (simp [*, eN, eS] <;> rfl), by repeat (first | (with_reducible first | exact HB.out | apply bA | apply bN | apply bD | refine bS ?_ GE396.out) | exact HB.out)⟩
mutual
def solsticelaw09_RuleBent.j0 : Nat → Int → Bool → ByteArray → Int → Int → Int → Int → Int → Int → Int → Int → Int → ByteArray → Option (Bool)
 | 0, _, _, _, _, _, _, _, _, _, _, _, _, _ => none
 | k + 1, x1, x22, x407000, x407001, x407002, x407003, x407004, x407005, x407006, x407007, x407008, x407009, x407010 => if x22 = true then (some true) else (if (Int.tmod (IntKind.u64.wrap (x1)) 9) = 0 then (solsticelaw09_RuleBent.j1 k x407000 x407001 x407002 x407003 x407004 x407005 x407006 x407007 x407008 x407009 x407010 x407000 0 x407002 x407003 x407004 x407005 x407006 x407007 x407008 x407009 x407010) else (if (Int.tmod (IntKind.u64.wrap (x1)) 9) = 1 then (solsticelaw09_RuleBent.j1 k x407000 x407001 x407002 x407003 x407004 x407005 x407006 x407007 x407008 x407009 x407010 x407000 x407001 (wrap64 (x407001 - 1)) x407003 x407004 x407005 x407006 x407007 x407008 x407009 x407010) else (if (Int.tmod (IntKind.u64.wrap (x1)) 9) = 2 then (solsticelaw09_RuleBent.j1 k x407000 x407001 x407002 x407003 x407004 x407005 x407006 x407007 x407008 x407009 x407010 x407000 x407001 x407002 13 x407004 x407005 x407006 x407007 x407008 x407009 x407010) else (if (Int.tmod (IntKind.u64.wrap (x1)) 9) = 3 then (solsticelaw09_RuleBent.j1 k x407000 x407001 x407002 x407003 x407004 x407005 x407006 x407007 x407008 x407009 x407010 x407000 x407001 x407002 4 1 0 31 x407007 x407008 x407009 x407010) else (if (Int.tmod (IntKind.u64.wrap (x1)) 9) = 4 then (solsticelaw09_RuleBent.j1 k x407000 x407001 x407002 x407003 x407004 x407005 x407006 x407007 x407008 x407009 x407010 x407000 x407001 x407002 x407003 x407004 x407005 x407006 x407007 x407008 86400 x407010) else (if (Int.tmod (IntKind.u64.wrap (x1)) 9) = 5 then (if 1 + x407000.size ≤ 9223372036854775807 then (solsticelaw09_RuleBent.j1 k x407000 x407001 x407002 x407003 x407004 x407005 x407006 x407007 x407008 x407009 x407010 ((⟨#[49]⟩ : ByteArray) ++ x407000) x407001 x407002 x407003 x407004 x407005 x407006 x407007 x407008 x407009 x407010) else (none)) else (if (Int.tmod (IntKind.u64.wrap (x1)) 9) = 6 then (solsticelaw09_RuleBent.j1 k x407000 x407001 x407002 x407003 x407004 x407005 x407006 x407007 x407008 x407009 x407010 x407000 x407001 x407002 x407003 x407004 x407005 x407006 x407007 x407008 x407009 (⟨#[45]⟩ : ByteArray)) else (if (Int.tmod (IntKind.u64.wrap (x1)) 9) = 7 then (solsticelaw09_RuleBent.j1 k x407000 x407001 x407002 x407003 x407004 x407005 x407006 x407007 x407008 x407009 x407010 x407000 x407001 x407002 x407003 x407004 x407005 x407006 345601 x407008 x407009 x407010) else (solsticelaw09_RuleBent.j1 k x407000 x407001 x407002 x407003 x407004 x407005 x407006 x407007 x407008 x407009 x407010 x407000 2000 2004 2 1 0 29 x407007 x407008 x407009 x407010)))))))))
def solsticelaw09_RuleBent.j1 : Nat → ByteArray → Int → Int → Int → Int → Int → Int → Int → Int → Int → ByteArray → ByteArray → Int → Int → Int → Int → Int → Int → Int → Int → Int → ByteArray → Option (Bool)
 | 0, _, _, _, _, _, _, _, _, _, _, _, _, _, _, _, _, _, _, _, _, _, _ => none
 | k + 1, x407000, x407001, x407002, x407003, x407004, x407005, x407006, x407007, x407008, x407009, x407010, x409000, x409001, x409002, x409003, x409004, x409005, x409006, x409007, x409008, x409009, x409010 => (rule_Text.f k x409000 x409001 x409002 x409003 x409004 x409005 x409006 x409007 x409008 x409009 x409010).bind fun bt409 => ((rule_Check.f k x407000 x407001 x407002 x407003 x407004 x407005 x407006 x407007 x407008 x407009 x407010).bind fun t411 => (if t411 = 0 then ((rule_Check.f k x409000 x409001 x409002 x409003 x409004 x409005 x409006 x409007 x409008 x409009 x409010).bind fun t412 => (if t412 = 10 then (if bt409.2 = 10 then (if bt409.1.toList = ([] : List UInt8) then ((solsticelaw09_wakes.f k).bind fun t413 => (some t413)) else (none)) else (none)) else (none))) else (none)))
end
def solsticelaw09_RuleBent.f (k : Nat) (a0_0 : ByteArray) (a0_1 : Int) (a0_2 : Int) (a0_3 : Int) (a0_4 : Int) (a0_5 : Int) (a0_6 : Int) (a0_7 : Int) (a0_8 : Int) (a0_9 : Int) (a0_10 : ByteArray) (a1 : Int) : Option (Bool) := if (a0_0.size : Int) > 200 then (solsticelaw09_RuleBent.j0 k a1 true a0_0 a0_1 a0_2 a0_3 a0_4 a0_5 a0_6 a0_7 a0_8 a0_9 a0_10) else (if (a0_10.size : Int) > 200 then (solsticelaw09_RuleBent.j0 k a1 true a0_0 a0_1 a0_2 a0_3 a0_4 a0_5 a0_6 a0_7 a0_8 a0_9 a0_10) else ((solsticeref09_Rule.f k a0_0 a0_1 a0_2 a0_3 a0_4 a0_5 a0_6 a0_7 a0_8 a0_9 a0_10).bind fun t407 => (solsticelaw09_RuleBent.j0 k a1 (!t407) a0_0 a0_1 a0_2 a0_3 a0_4 a0_5 a0_6 a0_7 a0_8 a0_9 a0_10)))
set_option maxHeartbeats 8000000 in
set_option maxRecDepth 100000 in
theorem solsticelaw09_RuleBent.calls (k : Nat) (a0_0 : ByteArray) (a0_1 : Int) (a0_2 : Int) (a0_3 : Int) (a0_4 : Int) (a0_5 : Int) (a0_6 : Int) (a0_7 : Int) (a0_8 : Int) (a0_9 : Int) (a0_10 : ByteArray) (a1 : Int) (r : Bool) (w : World) (hG : GW w) (h : solsticelaw09_RuleBent.f k a0_0 a0_1 a0_2 a0_3 a0_4 a0_5 a0_6 a0_7 a0_8 a0_9 a0_10 a1 = some r) :
  Calls Tryz.prog 4 #[.agg #[.string a0_0, .int .i64 a0_1, .int .i64 a0_2, .int .i64 a0_3, .int .i64 a0_4, .int .i64 a0_5, .int .i64 a0_6, .int .i64 a0_7, .int .i64 a0_8, .int .i64 a0_9, .string a0_10], .int .i64 a1] w fun e w' => e = .returned (.bool r) ∧ Below w.heap.size w w' := by
 have hu27 := Tryz.underlying27
 have hu23 := Tryz.underlying23
 have HG := As.mk hG
 clear hG
 have HB := As.mk (Below.refl w.heap.size w)
 have H : (if (a0_0.size : Int) > 200 then (solsticelaw09_RuleBent.j0 k a1 true a0_0 a0_1 a0_2 a0_3 a0_4 a0_5 a0_6 a0_7 a0_8 a0_9 a0_10) else (if (a0_10.size : Int) > 200 then (solsticelaw09_RuleBent.j0 k a1 true a0_0 a0_1 a0_2 a0_3 a0_4 a0_5 a0_6 a0_7 a0_8 a0_9 a0_10) else ((solsticeref09_Rule.f k a0_0 a0_1 a0_2 a0_3 a0_4 a0_5 a0_6 a0_7 a0_8 a0_9 a0_10).bind fun t407 => (solsticelaw09_RuleBent.j0 k a1 (!t407) a0_0 a0_1 a0_2 a0_3 a0_4 a0_5 a0_6 a0_7 a0_8 a0_9 a0_10)))) = some r := h
 clear h
 have HC3 := As.mk H
 clear H
 go_enter Tryz.func4, Tryz.ntmps4
 go_upto_region 1 with (first | ((with_reducible refine gD (N := 2) rfl ?_); (try (refine gate_guard (by rfl) ?_; dsimp only)); refine xE ?hg (N := 2) ?hd (cs := #[.string a0_0, .int .i64 a0_1, .int .i64 a0_2, .int .i64 a0_3, .int .i64 a0_4, .int .i64 a0_5, .int .i64 a0_6, .int .i64 a0_7, .int .i64 a0_8, .int .i64 a0_9, .string a0_10]) (t := 27) ?hr ?_; (case hd => rfl); (case hg => rfl); (case hr => first | (go_simp; done) | (go_simp; rfl)); intro gb406 hg w4 hbox hb; have n0_ := As.mk (bT (by repeat (first | (with_reducible first | exact HB.out | apply bA | apply bN | apply bD) | exact HB.out)) hb); have n1_ := As.mk (hbox); have n2_ := As.mk ((by rw [hg]; exact (bZ (by repeat (first | (with_reducible first | exact HB.out | apply bA | apply bN | apply bD) | exact HB.out))) : w.heap.size ≤ gb406)); have n3_ := As.mk ((by rw [hg]; exact (bZ (by repeat (first | (with_reducible first | exact HB.out | apply bA | apply bN | apply bD) | exact HB.out))) : w.heap.size ≤ gb406)); clear HB; have HB := n0_; have BK406 := n1_; have GW406 := n2_; have GE406 := n3_; clear n0_ n1_ n2_ n3_; clear hb hbox hg))
 (try simp only [Act.put, List.setIfInBounds_toArray, List.set_cons_zero, List.set_cons_succ])
 go_cut [22] (fun v22 wc => ∃ (kq : Nat) (x22_2 : Bool), v22 = .bool x22_2 ∧ As (solsticelaw09_RuleBent.j0 kq a1 x22_2 a0_0 a0_1 a0_2 a0_3 a0_4 a0_5 a0_6 a0_7 a0_8 a0_9 a0_10 = some r) ∧ As (kq ≤ k) ∧ As (wc.heap[gb406]? = some (.cells #[.string a0_0, .int .i64 a0_1, .int .i64 a0_2, .int .i64 a0_3, .int .i64 a0_4, .int .i64 a0_5, .int .i64 a0_6, .int .i64 a0_7, .int .i64 a0_8, .int .i64 a0_9, .string a0_10] 27 (0, 0))) ∧ As (Below w.heap.size w wc))
 case first =>
  have H := HC3.out
  clear HC3
  by_cases c5 : (a0_0.size : Int) > 200
  ·rw [if_pos c5] at H
   have c5b0 : decide (200 < (a0_0.size : Int)) = true := decide_eq_true c5
   have c5b1 : decide (200 < a0_0.size) = true := decide_eq_true (by omega)
   clear c5
   (first | rw [c5b0] | (simp only [i64_w, i32_w]; rw [c5b0]) | skip)
   have H' := As.mk H
   clear H
   obtain ⟨hcz6_0, hcz6_1, hcz6_2, hcz6_3, hcz6_4, hcz6_5, hcz6_6, hcz6_7, hcz6_8, hcz6_9, hcz6_10, hfz6_0, hfz6_1, hfz6_2, hfz6_3, hfz6_4, hfz6_5, hfz6_6, hfz6_7, hfz6_8, hfz6_9, hfz6_10⟩ := cl11 BK406.out
   go_wp2
   go_meet
   case rel => exact ⟨_, (true), (by first | rfl | (simp; done) | (simp [*]; done)), H', ⟨by first | omega | exact Nat.le_refl _⟩, ⟨by (with_reducible repeat (first | refine kN ?_ _ | refine kD ?_ | refine kA ?_ _)); exact BK406.out⟩, ⟨by repeat (first | (with_reducible first | exact HB.out | apply bA | apply bN | apply bD | refine bS ?_ GE406.out) | exact HB.out)⟩⟩
  ·rw [if_neg c5] at H
   have c5b0 : decide (200 < (a0_0.size : Int)) = false := decide_eq_false c5
   have c5b1 : decide (200 < a0_0.size) = false := decide_eq_false (by omega)
   clear c5
   (first | rw [c5b0] | (simp only [i64_w, i32_w]; rw [c5b0]) | skip)
   by_cases c7 : (a0_10.size : Int) > 200
   ·rw [if_pos c7] at H
    have c7b0 : decide (200 < (a0_10.size : Int)) = true := decide_eq_true c7
    have c7b1 : decide (200 < a0_10.size) = true := decide_eq_true (by omega)
    clear c7
    have H' := As.mk H
    clear H
    obtain ⟨hcz8_0, hcz8_1, hcz8_2, hcz8_3, hcz8_4, hcz8_5, hcz8_6, hcz8_7, hcz8_8, hcz8_9, hcz8_10, hfz8_0, hfz8_1, hfz8_2, hfz8_3, hfz8_4, hfz8_5, hfz8_6, hfz8_7, hfz8_8, hfz8_9, hfz8_10⟩ := cl11 BK406.out
    go_wp2
    go_meet
    case rel => exact ⟨_, (true), (by first | rfl | (simp; done) | (simp [*]; done)), H', ⟨by first | omega | exact Nat.le_refl _⟩, ⟨by (with_reducible repeat (first | refine kN ?_ _ | refine kD ?_ | refine kA ?_ _)); exact BK406.out⟩, ⟨by repeat (first | (with_reducible first | exact HB.out | apply bA | apply bN | apply bD | refine bS ?_ GE406.out) | exact HB.out)⟩⟩
   ·rw [if_neg c7] at H
    have c7b0 : decide (200 < (a0_10.size : Int)) = false := decide_eq_false c7
    have c7b1 : decide (200 < a0_10.size) = false := decide_eq_false (by omega)
    clear c7
    replace H := Option.bind_eq_some_iff.mp H
    obtain ⟨t407, A90, H⟩ := H
    (try dsimp only at H)
    have A9 := As.mk A90
    clear A90
    have H' := As.mk H
    clear H
    obtain ⟨hcz10_0, hcz10_1, hcz10_2, hcz10_3, hcz10_4, hcz10_5, hcz10_6, hcz10_7, hcz10_8, hcz10_9, hcz10_10, hfz10_0, hfz10_1, hfz10_2, hfz10_3, hfz10_4, hfz10_5, hfz10_6, hfz10_7, hfz10_8, hfz10_9, hfz10_10⟩ := cl11 BK406.out
    go_wp2_with (first | (go_at_call 20; (with_reducible refine (solsticeref09_Rule.calls k a0_0 a0_1 a0_2 a0_3 a0_4 a0_5 a0_6 a0_7 a0_8 a0_9 a0_10 t407 _ A9.out).mono ?_); rintro e w11 ⟨rfl, hb⟩; have n0_ := As.mk (kB (g := gb406) (o := .cells #[.string a0_0, .int .i64 a0_1, .int .i64 a0_2, .int .i64 a0_3, .int .i64 a0_4, .int .i64 a0_5, .int .i64 a0_6, .int .i64 a0_7, .int .i64 a0_8, .int .i64 a0_9, .string a0_10] 27 (0, 0)) (by (with_reducible repeat (first | refine kN ?_ _ | refine kD ?_ | refine kA ?_ _)); exact BK406.out) hb); have n1_ := As.mk (bT (by repeat (first | (with_reducible first | exact HB.out | apply bA | apply bN | apply bD | refine bS ?_ GE406.out) | exact HB.out)) hb); clear BK406; clear HB; have BK406 := n0_; have HB := n1_; clear n0_ n1_; (try clear hb); (try clear hb2); (try clear hk); (try clear hi)))
    go_meet
    case rel => exact ⟨_, (!t407), (by first | rfl | (simp; done) | (simp [*]; done)), H', ⟨by first | omega | exact Nat.le_refl _⟩, ⟨by (with_reducible repeat (first | refine kN ?_ _ | refine kD ?_ | refine kA ?_ _)); exact BK406.out⟩, ⟨by repeat (first | (with_reducible first | exact HB.out | apply bA | apply bN | apply bD | refine bS ?_ GE406.out) | exact HB.out)⟩⟩
 case rest =>
  clear HC3
  try clear p2
  try clear c4
  try clear c5
  try clear c5b0
  try clear c5b1
  try clear c7
  try clear c7b0
  try clear c7b1
  try clear hcz10_0
  try clear hcz10_1
  try clear hcz10_10
  try clear hcz10_2
  try clear hcz10_3
  try clear hcz10_4
  try clear hcz10_5
  try clear hcz10_6
  try clear hcz10_7
  try clear hcz10_8
  try clear hcz10_9
  try clear hcz6_0
  try clear hcz6_1
  try clear hcz6_10
  try clear hcz6_2
  try clear hcz6_3
  try clear hcz6_4
  try clear hcz6_5
  try clear hcz6_6
  try clear hcz6_7
  try clear hcz6_8
  try clear hcz6_9
  try clear hcz8_0
  try clear hcz8_1
  try clear hcz8_10
  try clear hcz8_2
  try clear hcz8_3
  try clear hcz8_4
  try clear hcz8_5
  try clear hcz8_6
  try clear hcz8_7
  try clear hcz8_8
  try clear hcz8_9
  try clear hfz10_0
  try clear hfz10_1
  try clear hfz10_10
  try clear hfz10_2
  try clear hfz10_3
  try clear hfz10_4
  try clear hfz10_5
  try clear hfz10_6
  try clear hfz10_7
  try clear hfz10_8
  try clear hfz10_9
  try clear hfz6_0
  try clear hfz6_1
  try clear hfz6_10
  try clear hfz6_2
  try clear hfz6_3
  try clear hfz6_4
  try clear hfz6_5
  try clear hfz6_6
  try clear hfz6_7
  try clear hfz6_8
  try clear hfz6_9
  try clear hfz8_0
  try clear hfz8_1
  try clear hfz8_10
  try clear hfz8_2
  try clear hfz8_3
  try clear hfz8_4
  try clear hfz8_5
  try clear hfz8_6
  try clear hfz8_7
  try clear hfz8_8
  try clear hfz8_9
  obtain ⟨kq, x22_2, rfl, HA, HJ2, BK406, HB⟩ := hcut
  cases kq with
  | zero => exact absurd HA.out (by simp [solsticelaw09_RuleBent.j0])
  | succ kj2 =>
   have H := HA.out
   clear HA
   simp only [solsticelaw09_RuleBent.j0] at H
   by_cases c12 : x22_2 = true
   ·subst c12
    have H1 : (some true) = some r := by rw [if_pos rfl] at H; exact H
    clear H
    have H := H1
    clear H1
    obtain rfl := Option.some.inj H
    go_wp2
    go_ret
    exact ⟨by first | rfl | (simp [eN, eS] <;> rfl) | (simp [*, eN, eS] <;> rfl), by repeat (first | (with_reducible first | exact HB.out | apply bA | apply bN | apply bD | refine bS ?_ GE406.out) | exact HB.out)⟩
   ·replace c12 := Bool.eq_false_iff.mpr c12
    subst c12
    have H1 : (if (Int.tmod (IntKind.u64.wrap (a1)) 9) = 0 then (solsticelaw09_RuleBent.j1 kj2 a0_0 a0_1 a0_2 a0_3 a0_4 a0_5 a0_6 a0_7 a0_8 a0_9 a0_10 a0_0 0 a0_2 a0_3 a0_4 a0_5 a0_6 a0_7 a0_8 a0_9 a0_10) else (if (Int.tmod (IntKind.u64.wrap (a1)) 9) = 1 then (solsticelaw09_RuleBent.j1 kj2 a0_0 a0_1 a0_2 a0_3 a0_4 a0_5 a0_6 a0_7 a0_8 a0_9 a0_10 a0_0 a0_1 (wrap64 (a0_1 - 1)) a0_3 a0_4 a0_5 a0_6 a0_7 a0_8 a0_9 a0_10) else (if (Int.tmod (IntKind.u64.wrap (a1)) 9) = 2 then (solsticelaw09_RuleBent.j1 kj2 a0_0 a0_1 a0_2 a0_3 a0_4 a0_5 a0_6 a0_7 a0_8 a0_9 a0_10 a0_0 a0_1 a0_2 13 a0_4 a0_5 a0_6 a0_7 a0_8 a0_9 a0_10) else (if (Int.tmod (IntKind.u64.wrap (a1)) 9) = 3 then (solsticelaw09_RuleBent.j1 kj2 a0_0 a0_1 a0_2 a0_3 a0_4 a0_5 a0_6 a0_7 a0_8 a0_9 a0_10 a0_0 a0_1 a0_2 4 1 0 31 a0_7 a0_8 a0_9 a0_10) else (if (Int.tmod (IntKind.u64.wrap (a1)) 9) = 4 then (solsticelaw09_RuleBent.j1 kj2 a0_0 a0_1 a0_2 a0_3 a0_4 a0_5 a0_6 a0_7 a0_8 a0_9 a0_10 a0_0 a0_1 a0_2 a0_3 a0_4 a0_5 a0_6 a0_7 a0_8 86400 a0_10) else (if (Int.tmod (IntKind.u64.wrap (a1)) 9) = 5 then (if 1 + a0_0.size ≤ 9223372036854775807 then (solsticelaw09_RuleBent.j1 kj2 a0_0 a0_1 a0_2 a0_3 a0_4 a0_5 a0_6 a0_7 a0_8 a0_9 a0_10 ((⟨#[49]⟩ : ByteArray) ++ a0_0) a0_1 a0_2 a0_3 a0_4 a0_5 a0_6 a0_7 a0_8 a0_9 a0_10) else (none)) else (if (Int.tmod (IntKind.u64.wrap (a1)) 9) = 6 then (solsticelaw09_RuleBent.j1 kj2 a0_0 a0_1 a0_2 a0_3 a0_4 a0_5 a0_6 a0_7 a0_8 a0_9 a0_10 a0_0 a0_1 a0_2 a0_3 a0_4 a0_5 a0_6 a0_7 a0_8 a0_9 (⟨#[45]⟩ : ByteArray)) else (if (Int.tmod (IntKind.u64.wrap (a1)) 9) = 7 then (solsticelaw09_RuleBent.j1 kj2 a0_0 a0_1 a0_2 a0_3 a0_4 a0_5 a0_6 a0_7 a0_8 a0_9 a0_10 a0_0 a0_1 a0_2 a0_3 a0_4 a0_5 a0_6 345601 a0_8 a0_9 a0_10) else (solsticelaw09_RuleBent.j1 kj2 a0_0 a0_1 a0_2 a0_3 a0_4 a0_5 a0_6 a0_7 a0_8 a0_9 a0_10 a0_0 2000 2004 2 1 0 29 a0_7 a0_8 a0_9 a0_10))))))))) = some r := by rw [if_neg (show ¬ (false = true) by decide)] at H; exact H
    clear H
    have H := H1
    clear H1
    have HC13 := As.mk H
    clear H
    obtain ⟨hcz14_0, hcz14_1, hcz14_2, hcz14_3, hcz14_4, hcz14_5, hcz14_6, hcz14_7, hcz14_8, hcz14_9, hcz14_10, hfz14_0, hfz14_1, hfz14_2, hfz14_3, hfz14_4, hfz14_5, hfz14_6, hfz14_7, hfz14_8, hfz14_9, hfz14_10⟩ := cl11 BK406.out
    go_upto_block 0 with (first | ((with_reducible refine gD (N := 5) rfl ?_); (try (refine gate_guard (by rfl) ?_; dsimp only)); refine xE ?hg (N := 5) ?hd (cs := #[.string (⟨#[]⟩ : ByteArray), .int .i64 0, .int .i64 0, .int .i64 0, .int .i64 0, .int .i64 0, .int .i64 0, .int .i64 0, .int .i64 0, .int .i64 0, .string (⟨#[]⟩ : ByteArray)]) (t := 27) ?hr ?_; (case hd => rfl); (case hg => rfl); (case hr => first | (go_simp; done) | (go_simp; rfl)); intro gb408 hg w15 hbox hb; have n0_ := As.mk (kB (g := gb406) (o := .cells #[.string a0_0, .int .i64 a0_1, .int .i64 a0_2, .int .i64 a0_3, .int .i64 a0_4, .int .i64 a0_5, .int .i64 a0_6, .int .i64 a0_7, .int .i64 a0_8, .int .i64 a0_9, .string a0_10] 27 (0, 0)) (by (with_reducible repeat (first | refine kN ?_ _ | refine kD ?_ | refine kA ?_ _)); exact BK406.out) hb); have n1_ := As.mk (bT (by repeat (first | (with_reducible first | exact HB.out | apply bA | apply bN | apply bD | refine bS ?_ GE406.out) | exact HB.out)) hb); have n2_ := As.mk (hbox); have n3_ := As.mk ((by rw [hg]; exact (bZ (by repeat (first | (with_reducible first | exact HB.out | apply bA | apply bN | apply bD | refine bS ?_ GE406.out) | exact HB.out))) : w.heap.size ≤ gb408)); have n4_ := As.mk ((by rw [hg]; exact (bZ (by repeat (first | (with_reducible first | exact HB.out | apply bA | apply bN | apply bD | refine bS ?_ GE406.out) | exact HB.out))) : w.heap.size ≤ gb408)); have n5_ := As.mk ((by rw [hg]; exact Nat.ne_of_lt (blk_lt (g := gb406) (o := .cells #[.string a0_0, .int .i64 a0_1, .int .i64 a0_2, .int .i64 a0_3, .int .i64 a0_4, .int .i64 a0_5, .int .i64 a0_6, .int .i64 a0_7, .int .i64 a0_8, .int .i64 a0_9, .string a0_10] 27 (0, 0)) (by (with_reducible repeat (first | refine kN ?_ _ | refine kD ?_ | refine kA ?_ _)); exact BK406.out)) : gb406 ≠ gb408)); have n6_ := As.mk ((by rw [hg]; exact Nat.ne_of_gt (blk_lt (g := gb406) (o := .cells #[.string a0_0, .int .i64 a0_1, .int .i64 a0_2, .int .i64 a0_3, .int .i64 a0_4, .int .i64 a0_5, .int .i64 a0_6, .int .i64 a0_7, .int .i64 a0_8, .int .i64 a0_9, .string a0_10] 27 (0, 0)) (by (with_reducible repeat (first | refine kN ?_ _ | refine kD ?_ | refine kA ?_ _)); exact BK406.out)) : gb408 ≠ gb406)); clear BK406; clear HB; have BK406 := n0_; have HB := n1_; have BK408 := n2_; have GW408 := n3_; have GE408 := n4_; have NB406_408 := n5_; have NB408_406 := n6_; clear n0_ n1_ n2_ n3_ n4_ n5_ n6_; clear hb hbox hg; have hnb16 := NB408_406.out; have hnc16 := NB406_408.out; obtain ⟨hcz17_0, hcz17_1, hcz17_2, hcz17_3, hcz17_4, hcz17_5, hcz17_6, hcz17_7, hcz17_8, hcz17_9, hcz17_10, hfz17_0, hfz17_1, hfz17_2, hfz17_3, hfz17_4, hfz17_5, hfz17_6, hfz17_7, hfz17_8, hfz17_9, hfz17_10⟩ := cl11 BK408.out) | ((with_reducible refine gS (t := 27) (p := 5) rfl ?_); refine store_event (t := 27) (p := 5) (v := ?vo_w18) (w1 := (((((((((((w15.setCell ⟨gb408, 0, none⟩ (.string a0_0)).setCell ⟨gb408, 1, none⟩ (.int .i64 a0_1)).setCell ⟨gb408, 2, none⟩ (.int .i64 a0_2)).setCell ⟨gb408, 3, none⟩ (.int .i64 a0_3)).setCell ⟨gb408, 4, none⟩ (.int .i64 a0_4)).setCell ⟨gb408, 5, none⟩ (.int .i64 a0_5)).setCell ⟨gb408, 6, none⟩ (.int .i64 a0_6)).setCell ⟨gb408, 7, none⟩ (.int .i64 a0_7)).setCell ⟨gb408, 8, none⟩ (.int .i64 a0_8)).setCell ⟨gb408, 9, none⟩ (.int .i64 a0_9)).setCell ⟨gb408, 10, none⟩ (.string a0_10))) ?hg ?ho ?hn ?hr ?_; (case ho => rfl); (case hg => rfl); (case hn => rfl); (case hr => first | (go_simp; done) | (go_simp; rfl)); intro w18 hw; have n0_ : As (w18.heap[gb406]? = some (.cells #[.string a0_0, .int .i64 a0_1, .int .i64 a0_2, .int .i64 a0_3, .int .i64 a0_4, .int .i64 a0_5, .int .i64 a0_6, .int .i64 a0_7, .int .i64 a0_8, .int .i64 a0_9, .string a0_10] 27 (0, 0))) := ⟨(by rw [hw]; exact (by (with_reducible repeat (first | refine kN ?_ _ | refine kD ?_ | refine kA ?_ _)); refine blk_far ?_ NB406_408.out _; (with_reducible repeat (first | refine kN ?_ _ | refine kD ?_ | refine kA ?_ _)); refine blk_far ?_ NB406_408.out _; (with_reducible repeat (first | refine kN ?_ _ | refine kD ?_ | refine kA ?_ _)); refine blk_far ?_ NB406_408.out _; (with_reducible repeat (first | refine kN ?_ _ | refine kD ?_ | refine kA ?_ _)); refine blk_far ?_ NB406_408.out _; (with_reducible repeat (first | refine kN ?_ _ | refine kD ?_ | refine kA ?_ _)); refine blk_far ?_ NB406_408.out _; (with_reducible repeat (first | refine kN ?_ _ | refine kD ?_ | refine kA ?_ _)); refine blk_far ?_ NB406_408.out _; (with_reducible repeat (first | refine kN ?_ _ | refine kD ?_ | refine kA ?_ _)); refine blk_far ?_ NB406_408.out _; (with_reducible repeat (first | refine kN ?_ _ | refine kD ?_ | refine kA ?_ _)); refine blk_far ?_ NB406_408.out _; (with_reducible repeat (first | refine kN ?_ _ | refine kD ?_ | refine kA ?_ _)); refine blk_far ?_ NB406_408.out _; (with_reducible repeat (first | refine kN ?_ _ | refine kD ?_ | refine kA ?_ _)); refine blk_far ?_ NB406_408.out _; (with_reducible repeat (first | refine kN ?_ _ | refine kD ?_ | refine kA ?_ _)); refine blk_far ?_ NB406_408.out _; (with_reducible repeat (first | refine kN ?_ _ | refine kD ?_ | refine kA ?_ _)); exact BK406.out))⟩; have n1_ : As (w18.heap[gb408]? = some (.cells #[.string a0_0, .int .i64 a0_1, .int .i64 a0_2, .int .i64 a0_3, .int .i64 a0_4, .int .i64 a0_5, .int .i64 a0_6, .int .i64 a0_7, .int .i64 a0_8, .int .i64 a0_9, .string a0_10] 27 (0, 0))) := ⟨(by rw [hw]; exact (by (with_reducible repeat (first | refine kN ?_ _ | refine kD ?_ | refine kA ?_ _)); refine blk_put (cs := #[.string a0_0, .int .i64 a0_1, .int .i64 a0_2, .int .i64 a0_3, .int .i64 a0_4, .int .i64 a0_5, .int .i64 a0_6, .int .i64 a0_7, .int .i64 a0_8, .int .i64 a0_9, .string (⟨#[]⟩ : ByteArray)]) ?_ 10 _ rfl; (with_reducible repeat (first | refine kN ?_ _ | refine kD ?_ | refine kA ?_ _)); refine blk_put (cs := #[.string a0_0, .int .i64 a0_1, .int .i64 a0_2, .int .i64 a0_3, .int .i64 a0_4, .int .i64 a0_5, .int .i64 a0_6, .int .i64 a0_7, .int .i64 a0_8, .int .i64 0, .string (⟨#[]⟩ : ByteArray)]) ?_ 9 _ rfl; (with_reducible repeat (first | refine kN ?_ _ | refine kD ?_ | refine kA ?_ _)); refine blk_put (cs := #[.string a0_0, .int .i64 a0_1, .int .i64 a0_2, .int .i64 a0_3, .int .i64 a0_4, .int .i64 a0_5, .int .i64 a0_6, .int .i64 a0_7, .int .i64 0, .int .i64 0, .string (⟨#[]⟩ : ByteArray)]) ?_ 8 _ rfl; (with_reducible repeat (first | refine kN ?_ _ | refine kD ?_ | refine kA ?_ _)); refine blk_put (cs := #[.string a0_0, .int .i64 a0_1, .int .i64 a0_2, .int .i64 a0_3, .int .i64 a0_4, .int .i64 a0_5, .int .i64 a0_6, .int .i64 0, .int .i64 0, .int .i64 0, .string (⟨#[]⟩ : ByteArray)]) ?_ 7 _ rfl; (with_reducible repeat (first | refine kN ?_ _ | refine kD ?_ | refine kA ?_ _)); refine blk_put (cs := #[.string a0_0, .int .i64 a0_1, .int .i64 a0_2, .int .i64 a0_3, .int .i64 a0_4, .int .i64 a0_5, .int .i64 0, .int .i64 0, .int .i64 0, .int .i64 0, .string (⟨#[]⟩ : ByteArray)]) ?_ 6 _ rfl; (with_reducible repeat (first | refine kN ?_ _ | refine kD ?_ | refine kA ?_ _)); refine blk_put (cs := #[.string a0_0, .int .i64 a0_1, .int .i64 a0_2, .int .i64 a0_3, .int .i64 a0_4, .int .i64 0, .int .i64 0, .int .i64 0, .int .i64 0, .int .i64 0, .string (⟨#[]⟩ : ByteArray)]) ?_ 5 _ rfl; (with_reducible repeat (first | refine kN ?_ _ | refine kD ?_ | refine kA ?_ _)); refine blk_put (cs := #[.string a0_0, .int .i64 a0_1, .int .i64 a0_2, .int .i64 a0_3, .int .i64 0, .int .i64 0, .int .i64 0, .int .i64 0, .int .i64 0, .int .i64 0, .string (⟨#[]⟩ : ByteArray)]) ?_ 4 _ rfl; (with_reducible repeat (first | refine kN ?_ _ | refine kD ?_ | refine kA ?_ _)); refine blk_put (cs := #[.string a0_0, .int .i64 a0_1, .int .i64 a0_2, .int .i64 0, .int .i64 0, .int .i64 0, .int .i64 0, .int .i64 0, .int .i64 0, .int .i64 0, .string (⟨#[]⟩ : ByteArray)]) ?_ 3 _ rfl; (with_reducible repeat (first | refine kN ?_ _ | refine kD ?_ | refine kA ?_ _)); refine blk_put (cs := #[.string a0_0, .int .i64 a0_1, .int .i64 0, .int .i64 0, .int .i64 0, .int .i64 0, .int .i64 0, .int .i64 0, .int .i64 0, .int .i64 0, .string (⟨#[]⟩ : ByteArray)]) ?_ 2 _ rfl; (with_reducible repeat (first | refine kN ?_ _ | refine kD ?_ | refine kA ?_ _)); refine blk_put (cs := #[.string a0_0, .int .i64 0, .int .i64 0, .int .i64 0, .int .i64 0, .int .i64 0, .int .i64 0, .int .i64 0, .int .i64 0, .int .i64 0, .string (⟨#[]⟩ : ByteArray)]) ?_ 1 _ rfl; (with_reducible repeat (first | refine kN ?_ _ | refine kD ?_ | refine kA ?_ _)); refine blk_put (cs := #[.string (⟨#[]⟩ : ByteArray), .int .i64 0, .int .i64 0, .int .i64 0, .int .i64 0, .int .i64 0, .int .i64 0, .int .i64 0, .int .i64 0, .int .i64 0, .string (⟨#[]⟩ : ByteArray)]) ?_ 0 _ rfl; (with_reducible repeat (first | refine kN ?_ _ | refine kD ?_ | refine kA ?_ _)); exact BK408.out))⟩; have n2_ : As (Below w.heap.size w w18) := ⟨(by rw [hw]; exact (by repeat (first | (with_reducible first | exact HB.out | apply bA | apply bN | apply bD | refine bS ?_ GE406.out | refine bS ?_ GE408.out) | exact HB.out)))⟩; clear hw; clear BK406; clear BK408; clear HB; have BK406 := n0_; have BK408 := n1_; have HB := n2_; clear n0_ n1_ n2_))
    (try simp only [Act.put, List.setIfInBounds_toArray, List.set_cons_zero, List.set_cons_succ])
    go_cut [] (fun wc => ∃ (kq : Nat) (x409000_12 : ByteArray) (x409001_12 : Int) (x409002_12 : Int) (x409003_12 : Int) (x409004_12 : Int) (x409005_12 : Int) (x409006_12 : Int) (x409007_12 : Int) (x409009_12 : Int) (x409010_12 : ByteArray), As (solsticelaw09_RuleBent.j1 kq a0_0 a0_1 a0_2 a0_3 a0_4 a0_5 a0_6 a0_7 a0_8 a0_9 a0_10 x409000_12 x409001_12 x409002_12 x409003_12 x409004_12 x409005_12 x409006_12 x409007_12 a0_8 x409009_12 x409010_12 = some r) ∧ As (kq ≤ kj2) ∧ As (wc.heap[gb406]? = some (.cells #[.string a0_0, .int .i64 a0_1, .int .i64 a0_2, .int .i64 a0_3, .int .i64 a0_4, .int .i64 a0_5, .int .i64 a0_6, .int .i64 a0_7, .int .i64 a0_8, .int .i64 a0_9, .string a0_10] 27 (0, 0))) ∧ As (wc.heap[gb408]? = some (.cells #[.string x409000_12, .int .i64 x409001_12, .int .i64 x409002_12, .int .i64 x409003_12, .int .i64 x409004_12, .int .i64 x409005_12, .int .i64 x409006_12, .int .i64 x409007_12, .int .i64 a0_8, .int .i64 x409009_12, .string x409010_12] 27 (0, 0))) ∧ As (Below w.heap.size w wc))
    case first =>
     have H := HC13.out
     clear HC13
     by_cases c19 : (Int.tmod (IntKind.u64.wrap (a1)) 9) = 0
     ·rw [if_pos c19] at H
      have c19b0 : ((Int.tmod (IntKind.u64.wrap (a1)) 9) == 0) = true := beq_iff_eq.mpr c19
      have c19b1 : ((Int.tmod (IntKind.u64.wrap (a1)) 9) != 0) = false := bne_eq_false_iff_eq.mpr c19
      clear c19
      (first | rw [c19b0] | (simp only [i64_w, i32_w]; rw [c19b0]) | skip)
      have H' := As.mk H
      clear H
      have hnb20 := NB408_406.out
      have hnc20 := NB406_408.out
      obtain ⟨hcz21_0, hcz21_1, hcz21_2, hcz21_3, hcz21_4, hcz21_5, hcz21_6, hcz21_7, hcz21_8, hcz21_9, hcz21_10, hfz21_0, hfz21_1, hfz21_2, hfz21_3, hfz21_4, hfz21_5, hfz21_6, hfz21_7, hfz21_8, hfz21_9, hfz21_10⟩ := cl11 BK408.out
      go_wp2
      go_meet
      case rel => exact ⟨_, (a0_0), (0), (a0_2), (a0_3), (a0_4), (a0_5), (a0_6), (a0_7), (a0_9), (a0_10), H', ⟨by have := HJ2.out; first | omega | exact Nat.le_refl _⟩, ⟨by (with_reducible repeat (first | refine kN ?_ _ | refine kD ?_ | refine kA ?_ _)); refine blk_far ?_ NB406_408.out _; (with_reducible repeat (first | refine kN ?_ _ | refine kD ?_ | refine kA ?_ _)); exact BK406.out⟩, ⟨by (with_reducible repeat (first | refine kN ?_ _ | refine kD ?_ | refine kA ?_ _)); refine blk_put (cs := #[.string a0_0, .int .i64 a0_1, .int .i64 a0_2, .int .i64 a0_3, .int .i64 a0_4, .int .i64 a0_5, .int .i64 a0_6, .int .i64 a0_7, .int .i64 a0_8, .int .i64 a0_9, .string a0_10]) ?_ 1 _ rfl; (with_reducible repeat (first | refine kN ?_ _ | refine kD ?_ | refine kA ?_ _)); exact BK408.out⟩, ⟨by repeat (first | (with_reducible first | exact HB.out | apply bA | apply bN | apply bD | refine bS ?_ GE406.out | refine bS ?_ GE408.out) | exact HB.out)⟩⟩
     ·rw [if_neg c19] at H
      have c19b0 : ((Int.tmod (IntKind.u64.wrap (a1)) 9) == 0) = false := beq_eq_false_iff_ne.mpr c19
      have c19b1 : ((Int.tmod (IntKind.u64.wrap (a1)) 9) != 0) = true := bne_iff_ne.mpr c19
      (first | rw [c19b0] | (simp only [i64_w, i32_w]; rw [c19b0]) | skip)
      by_cases c22 : (Int.tmod (IntKind.u64.wrap (a1)) 9) = 1
      ·rw [if_pos c22] at H
       have c22b0 : ((Int.tmod (IntKind.u64.wrap (a1)) 9) == 1) = true := beq_iff_eq.mpr c22
       have c22b1 : ((Int.tmod (IntKind.u64.wrap (a1)) 9) != 1) = false := bne_eq_false_iff_eq.mpr c22
       clear c22
       have H' := As.mk H
       clear H
       have hnb23 := NB406_408.out
       have hnc23 := NB408_406.out
       obtain ⟨hcz24_0, hcz24_1, hcz24_2, hcz24_3, hcz24_4, hcz24_5, hcz24_6, hcz24_7, hcz24_8, hcz24_9, hcz24_10, hfz24_0, hfz24_1, hfz24_2, hfz24_3, hfz24_4, hfz24_5, hfz24_6, hfz24_7, hfz24_8, hfz24_9, hfz24_10⟩ := cl11 BK406.out
       obtain ⟨hcz25_0, hcz25_1, hcz25_2, hcz25_3, hcz25_4, hcz25_5, hcz25_6, hcz25_7, hcz25_8, hcz25_9, hcz25_10, hfz25_0, hfz25_1, hfz25_2, hfz25_3, hfz25_4, hfz25_5, hfz25_6, hfz25_7, hfz25_8, hfz25_9, hfz25_10⟩ := cl11 BK408.out
       go_wp2
       go_meet
       case rel => exact ⟨_, (a0_0), (a0_1), (wrap64 (a0_1 - 1)), (a0_3), (a0_4), (a0_5), (a0_6), (a0_7), (a0_9), (a0_10), H', ⟨by have := HJ2.out; first | omega | exact Nat.le_refl _⟩, ⟨by (with_reducible repeat (first | refine kN ?_ _ | refine kD ?_ | refine kA ?_ _)); refine blk_far ?_ NB406_408.out _; (with_reducible repeat (first | refine kN ?_ _ | refine kD ?_ | refine kA ?_ _)); exact BK406.out⟩, ⟨by (with_reducible repeat (first | refine kN ?_ _ | refine kD ?_ | refine kA ?_ _)); refine blk_put (cs := #[.string a0_0, .int .i64 a0_1, .int .i64 a0_2, .int .i64 a0_3, .int .i64 a0_4, .int .i64 a0_5, .int .i64 a0_6, .int .i64 a0_7, .int .i64 a0_8, .int .i64 a0_9, .string a0_10]) ?_ 2 _ rfl; (with_reducible repeat (first | refine kN ?_ _ | refine kD ?_ | refine kA ?_ _)); exact BK408.out⟩, ⟨by repeat (first | (with_reducible first | exact HB.out | apply bA | apply bN | apply bD | refine bS ?_ GE406.out | refine bS ?_ GE408.out) | exact HB.out)⟩⟩
      ·rw [if_neg c22] at H
       have c22b0 : ((Int.tmod (IntKind.u64.wrap (a1)) 9) == 1) = false := beq_eq_false_iff_ne.mpr c22
       have c22b1 : ((Int.tmod (IntKind.u64.wrap (a1)) 9) != 1) = true := bne_iff_ne.mpr c22
       by_cases c26 : (Int.tmod (IntKind.u64.wrap (a1)) 9) = 2
       ·rw [if_pos c26] at H
        have c26b0 : ((Int.tmod (IntKind.u64.wrap (a1)) 9) == 2) = true := beq_iff_eq.mpr c26
        have c26b1 : ((Int.tmod (IntKind.u64.wrap (a1)) 9) != 2) = false := bne_eq_false_iff_eq.mpr c26
        clear c26
        have H' := As.mk H
        clear H
        have hnb27 := NB408_406.out
        have hnc27 := NB406_408.out
        obtain ⟨hcz28_0, hcz28_1, hcz28_2, hcz28_3, hcz28_4, hcz28_5, hcz28_6, hcz28_7, hcz28_8, hcz28_9, hcz28_10, hfz28_0, hfz28_1, hfz28_2, hfz28_3, hfz28_4, hfz28_5, hfz28_6, hfz28_7, hfz28_8, hfz28_9, hfz28_10⟩ := cl11 BK408.out
        go_wp2
        go_meet
        case rel => exact ⟨_, (a0_0), (a0_1), (a0_2), (13), (a0_4), (a0_5), (a0_6), (a0_7), (a0_9), (a0_10), H', ⟨by have := HJ2.out; first | omega | exact Nat.le_refl _⟩, ⟨by (with_reducible repeat (first | refine kN ?_ _ | refine kD ?_ | refine kA ?_ _)); refine blk_far ?_ NB406_408.out _; (with_reducible repeat (first | refine kN ?_ _ | refine kD ?_ | refine kA ?_ _)); exact BK406.out⟩, ⟨by (with_reducible repeat (first | refine kN ?_ _ | refine kD ?_ | refine kA ?_ _)); refine blk_put (cs := #[.string a0_0, .int .i64 a0_1, .int .i64 a0_2, .int .i64 a0_3, .int .i64 a0_4, .int .i64 a0_5, .int .i64 a0_6, .int .i64 a0_7, .int .i64 a0_8, .int .i64 a0_9, .string a0_10]) ?_ 3 _ rfl; (with_reducible repeat (first | refine kN ?_ _ | refine kD ?_ | refine kA ?_ _)); exact BK408.out⟩, ⟨by repeat (first | (with_reducible first | exact HB.out | apply bA | apply bN | apply bD | refine bS ?_ GE406.out | refine bS ?_ GE408.out) | exact HB.out)⟩⟩
       ·rw [if_neg c26] at H
        have c26b0 : ((Int.tmod (IntKind.u64.wrap (a1)) 9) == 2) = false := beq_eq_false_iff_ne.mpr c26
        have c26b1 : ((Int.tmod (IntKind.u64.wrap (a1)) 9) != 2) = true := bne_iff_ne.mpr c26
        by_cases c29 : (Int.tmod (IntKind.u64.wrap (a1)) 9) = 3
        ·rw [if_pos c29] at H
         have c29b0 : ((Int.tmod (IntKind.u64.wrap (a1)) 9) == 3) = true := beq_iff_eq.mpr c29
         have c29b1 : ((Int.tmod (IntKind.u64.wrap (a1)) 9) != 3) = false := bne_eq_false_iff_eq.mpr c29
         clear c29
         have H' := As.mk H
         clear H
         have hnb30 := NB408_406.out
         have hnc30 := NB406_408.out
         obtain ⟨hcz31_0, hcz31_1, hcz31_2, hcz31_3, hcz31_4, hcz31_5, hcz31_6, hcz31_7, hcz31_8, hcz31_9, hcz31_10, hfz31_0, hfz31_1, hfz31_2, hfz31_3, hfz31_4, hfz31_5, hfz31_6, hfz31_7, hfz31_8, hfz31_9, hfz31_10⟩ := cl11 BK408.out
         go_wp2
         go_meet
         case rel => exact ⟨_, (a0_0), (a0_1), (a0_2), (4), (1), (0), (31), (a0_7), (a0_9), (a0_10), H', ⟨by have := HJ2.out; first | omega | exact Nat.le_refl _⟩, ⟨by (with_reducible repeat (first | refine kN ?_ _ | refine kD ?_ | refine kA ?_ _)); refine blk_far ?_ NB406_408.out _; (with_reducible repeat (first | refine kN ?_ _ | refine kD ?_ | refine kA ?_ _)); refine blk_far ?_ NB406_408.out _; (with_reducible repeat (first | refine kN ?_ _ | refine kD ?_ | refine kA ?_ _)); refine blk_far ?_ NB406_408.out _; (with_reducible repeat (first | refine kN ?_ _ | refine kD ?_ | refine kA ?_ _)); refine blk_far ?_ NB406_408.out _; (with_reducible repeat (first | refine kN ?_ _ | refine kD ?_ | refine kA ?_ _)); exact BK406.out⟩, ⟨by (with_reducible repeat (first | refine kN ?_ _ | refine kD ?_ | refine kA ?_ _)); refine blk_put (cs := #[.string a0_0, .int .i64 a0_1, .int .i64 a0_2, .int .i64 4, .int .i64 1, .int .i64 0, .int .i64 a0_6, .int .i64 a0_7, .int .i64 a0_8, .int .i64 a0_9, .string a0_10]) ?_ 6 _ rfl; (with_reducible repeat (first | refine kN ?_ _ | refine kD ?_ | refine kA ?_ _)); refine blk_put (cs := #[.string a0_0, .int .i64 a0_1, .int .i64 a0_2, .int .i64 4, .int .i64 1, .int .i64 a0_5, .int .i64 a0_6, .int .i64 a0_7, .int .i64 a0_8, .int .i64 a0_9, .string a0_10]) ?_ 5 _ rfl; (with_reducible repeat (first | refine kN ?_ _ | refine kD ?_ | refine kA ?_ _)); refine blk_put (cs := #[.string a0_0, .int .i64 a0_1, .int .i64 a0_2, .int .i64 4, .int .i64 a0_4, .int .i64 a0_5, .int .i64 a0_6, .int .i64 a0_7, .int .i64 a0_8, .int .i64 a0_9, .string a0_10]) ?_ 4 _ rfl; (with_reducible repeat (first | refine kN ?_ _ | refine kD ?_ | refine kA ?_ _)); refine blk_put (cs := #[.string a0_0, .int .i64 a0_1, .int .i64 a0_2, .int .i64 a0_3, .int .i64 a0_4, .int .i64 a0_5, .int .i64 a0_6, .int .i64 a0_7, .int .i64 a0_8, .int .i64 a0_9, .string a0_10]) ?_ 3 _ rfl; (with_reducible repeat (first | refine kN ?_ _ | refine kD ?_ | refine kA ?_ _)); exact BK408.out⟩, ⟨by repeat (first | (with_reducible first | exact HB.out | apply bA | apply bN | apply bD | refine bS ?_ GE406.out | refine bS ?_ GE408.out) | exact HB.out)⟩⟩
        ·rw [if_neg c29] at H
         have c29b0 : ((Int.tmod (IntKind.u64.wrap (a1)) 9) == 3) = false := beq_eq_false_iff_ne.mpr c29
         have c29b1 : ((Int.tmod (IntKind.u64.wrap (a1)) 9) != 3) = true := bne_iff_ne.mpr c29
         by_cases c32 : (Int.tmod (IntKind.u64.wrap (a1)) 9) = 4
         ·rw [if_pos c32] at H
          have c32b0 : ((Int.tmod (IntKind.u64.wrap (a1)) 9) == 4) = true := beq_iff_eq.mpr c32
          have c32b1 : ((Int.tmod (IntKind.u64.wrap (a1)) 9) != 4) = false := bne_eq_false_iff_eq.mpr c32
          clear c32
          have H' := As.mk H
          clear H
          have hnb33 := NB408_406.out
          have hnc33 := NB406_408.out
          obtain ⟨hcz34_0, hcz34_1, hcz34_2, hcz34_3, hcz34_4, hcz34_5, hcz34_6, hcz34_7, hcz34_8, hcz34_9, hcz34_10, hfz34_0, hfz34_1, hfz34_2, hfz34_3, hfz34_4, hfz34_5, hfz34_6, hfz34_7, hfz34_8, hfz34_9, hfz34_10⟩ := cl11 BK408.out
          go_wp2
          go_meet
          case rel => exact ⟨_, (a0_0), (a0_1), (a0_2), (a0_3), (a0_4), (a0_5), (a0_6), (a0_7), (86400), (a0_10), H', ⟨by have := HJ2.out; first | omega | exact Nat.le_refl _⟩, ⟨by (with_reducible repeat (first | refine kN ?_ _ | refine kD ?_ | refine kA ?_ _)); refine blk_far ?_ NB406_408.out _; (with_reducible repeat (first | refine kN ?_ _ | refine kD ?_ | refine kA ?_ _)); exact BK406.out⟩, ⟨by (with_reducible repeat (first | refine kN ?_ _ | refine kD ?_ | refine kA ?_ _)); refine blk_put (cs := #[.string a0_0, .int .i64 a0_1, .int .i64 a0_2, .int .i64 a0_3, .int .i64 a0_4, .int .i64 a0_5, .int .i64 a0_6, .int .i64 a0_7, .int .i64 a0_8, .int .i64 a0_9, .string a0_10]) ?_ 9 _ rfl; (with_reducible repeat (first | refine kN ?_ _ | refine kD ?_ | refine kA ?_ _)); exact BK408.out⟩, ⟨by repeat (first | (with_reducible first | exact HB.out | apply bA | apply bN | apply bD | refine bS ?_ GE406.out | refine bS ?_ GE408.out) | exact HB.out)⟩⟩
         ·rw [if_neg c32] at H
          have c32b0 : ((Int.tmod (IntKind.u64.wrap (a1)) 9) == 4) = false := beq_eq_false_iff_ne.mpr c32
          have c32b1 : ((Int.tmod (IntKind.u64.wrap (a1)) 9) != 4) = true := bne_iff_ne.mpr c32
          by_cases c35 : (Int.tmod (IntKind.u64.wrap (a1)) 9) = 5
          ·rw [if_pos c35] at H
           have c35b0 : ((Int.tmod (IntKind.u64.wrap (a1)) 9) == 5) = true := beq_iff_eq.mpr c35
           have c35b1 : ((Int.tmod (IntKind.u64.wrap (a1)) 9) != 5) = false := bne_eq_false_iff_eq.mpr c35
           clear c35
           by_cases c36 : 1 + a0_0.size ≤ 9223372036854775807
           ·rw [if_pos c36] at H
            have c36b0 := eq_true c36
            have c36b1 : decide (1 + a0_0.size ≤ 9223372036854775807) = true := decide_eq_true c36
            try have c36b2 : (9223372036854775807 < 1 + a0_0.size) = False := eq_false (Nat.not_lt.2 c36)
            have H' := As.mk H
            clear H
            have hnb37 := NB406_408.out
            have hnc37 := NB408_406.out
            obtain ⟨hcz38_0, hcz38_1, hcz38_2, hcz38_3, hcz38_4, hcz38_5, hcz38_6, hcz38_7, hcz38_8, hcz38_9, hcz38_10, hfz38_0, hfz38_1, hfz38_2, hfz38_3, hfz38_4, hfz38_5, hfz38_6, hfz38_7, hfz38_8, hfz38_9, hfz38_10⟩ := cl11 BK406.out
            obtain ⟨hcz39_0, hcz39_1, hcz39_2, hcz39_3, hcz39_4, hcz39_5, hcz39_6, hcz39_7, hcz39_8, hcz39_9, hcz39_10, hfz39_0, hfz39_1, hfz39_2, hfz39_3, hfz39_4, hfz39_5, hfz39_6, hfz39_7, hfz39_8, hfz39_9, hfz39_10⟩ := cl11 BK408.out
            go_wp2
            go_meet
            case rel => exact ⟨_, ((⟨#[49]⟩ : ByteArray) ++ a0_0), (a0_1), (a0_2), (a0_3), (a0_4), (a0_5), (a0_6), (a0_7), (a0_9), (a0_10), H', ⟨by have := HJ2.out; first | omega | exact Nat.le_refl _⟩, ⟨by (with_reducible repeat (first | refine kN ?_ _ | refine kD ?_ | refine kA ?_ _)); refine blk_far ?_ NB406_408.out _; (with_reducible repeat (first | refine kN ?_ _ | refine kD ?_ | refine kA ?_ _)); exact BK406.out⟩, ⟨by (with_reducible repeat (first | refine kN ?_ _ | refine kD ?_ | refine kA ?_ _)); refine blk_put (cs := #[.string a0_0, .int .i64 a0_1, .int .i64 a0_2, .int .i64 a0_3, .int .i64 a0_4, .int .i64 a0_5, .int .i64 a0_6, .int .i64 a0_7, .int .i64 a0_8, .int .i64 a0_9, .string a0_10]) ?_ 0 _ rfl; (with_reducible repeat (first | refine kN ?_ _ | refine kD ?_ | refine kA ?_ _)); exact BK408.out⟩, ⟨by repeat (first | (with_reducible first | exact HB.out | apply bA | apply bN | apply bD | refine bS ?_ GE406.out | refine bS ?_ GE408.out) | exact HB.out)⟩⟩
           ·rw [if_neg c36] at H
            exact absurd H (by simp)
          ·rw [if_neg c35] at H
           have c35b0 : ((Int.tmod (IntKind.u64.wrap (a1)) 9) == 5) = false := beq_eq_false_iff_ne.mpr c35
           have c35b1 : ((Int.tmod (IntKind.u64.wrap (a1)) 9) != 5) = true := bne_iff_ne.mpr c35
           by_cases c40 : (Int.tmod (IntKind.u64.wrap (a1)) 9) = 6
           ·rw [if_pos c40] at H
            have c40b0 : ((Int.tmod (IntKind.u64.wrap (a1)) 9) == 6) = true := beq_iff_eq.mpr c40
            have c40b1 : ((Int.tmod (IntKind.u64.wrap (a1)) 9) != 6) = false := bne_eq_false_iff_eq.mpr c40
            clear c40
            have H' := As.mk H
            clear H
            have hnb41 := NB408_406.out
            have hnc41 := NB406_408.out
            obtain ⟨hcz42_0, hcz42_1, hcz42_2, hcz42_3, hcz42_4, hcz42_5, hcz42_6, hcz42_7, hcz42_8, hcz42_9, hcz42_10, hfz42_0, hfz42_1, hfz42_2, hfz42_3, hfz42_4, hfz42_5, hfz42_6, hfz42_7, hfz42_8, hfz42_9, hfz42_10⟩ := cl11 BK408.out
            go_wp2
            go_meet
            case rel => exact ⟨_, (a0_0), (a0_1), (a0_2), (a0_3), (a0_4), (a0_5), (a0_6), (a0_7), (a0_9), ((⟨#[45]⟩ : ByteArray)), H', ⟨by have := HJ2.out; first | omega | exact Nat.le_refl _⟩, ⟨by (with_reducible repeat (first | refine kN ?_ _ | refine kD ?_ | refine kA ?_ _)); refine blk_far ?_ NB406_408.out _; (with_reducible repeat (first | refine kN ?_ _ | refine kD ?_ | refine kA ?_ _)); exact BK406.out⟩, ⟨by (with_reducible repeat (first | refine kN ?_ _ | refine kD ?_ | refine kA ?_ _)); refine blk_put (cs := #[.string a0_0, .int .i64 a0_1, .int .i64 a0_2, .int .i64 a0_3, .int .i64 a0_4, .int .i64 a0_5, .int .i64 a0_6, .int .i64 a0_7, .int .i64 a0_8, .int .i64 a0_9, .string a0_10]) ?_ 10 _ rfl; (with_reducible repeat (first | refine kN ?_ _ | refine kD ?_ | refine kA ?_ _)); exact BK408.out⟩, ⟨by repeat (first | (with_reducible first | exact HB.out | apply bA | apply bN | apply bD | refine bS ?_ GE406.out | refine bS ?_ GE408.out) | exact HB.out)⟩⟩
           ·rw [if_neg c40] at H
            have c40b0 : ((Int.tmod (IntKind.u64.wrap (a1)) 9) == 6) = false := beq_eq_false_iff_ne.mpr c40
            have c40b1 : ((Int.tmod (IntKind.u64.wrap (a1)) 9) != 6) = true := bne_iff_ne.mpr c40
            by_cases c43 : (Int.tmod (IntKind.u64.wrap (a1)) 9) = 7
            ·rw [if_pos c43] at H
             have c43b0 : ((Int.tmod (IntKind.u64.wrap (a1)) 9) == 7) = true := beq_iff_eq.mpr c43
             have c43b1 : ((Int.tmod (IntKind.u64.wrap (a1)) 9) != 7) = false := bne_eq_false_iff_eq.mpr c43
             clear c43
             have H' := As.mk H
             clear H
             have hnb44 := NB408_406.out
             have hnc44 := NB406_408.out
             obtain ⟨hcz45_0, hcz45_1, hcz45_2, hcz45_3, hcz45_4, hcz45_5, hcz45_6, hcz45_7, hcz45_8, hcz45_9, hcz45_10, hfz45_0, hfz45_1, hfz45_2, hfz45_3, hfz45_4, hfz45_5, hfz45_6, hfz45_7, hfz45_8, hfz45_9, hfz45_10⟩ := cl11 BK408.out
             go_wp2
             go_meet
             case rel => exact ⟨_, (a0_0), (a0_1), (a0_2), (a0_3), (a0_4), (a0_5), (a0_6), (345601), (a0_9), (a0_10), H', ⟨by have := HJ2.out; first | omega | exact Nat.le_refl _⟩, ⟨by (with_reducible repeat (first | refine kN ?_ _ | refine kD ?_ | refine kA ?_ _)); refine blk_far ?_ NB406_408.out _; (with_reducible repeat (first | refine kN ?_ _ | refine kD ?_ | refine kA ?_ _)); exact BK406.out⟩, ⟨by (with_reducible repeat (first | refine kN ?_ _ | refine kD ?_ | refine kA ?_ _)); refine blk_put (cs := #[.string a0_0, .int .i64 a0_1, .int .i64 a0_2, .int .i64 a0_3, .int .i64 a0_4, .int .i64 a0_5, .int .i64 a0_6, .int .i64 a0_7, .int .i64 a0_8, .int .i64 a0_9, .string a0_10]) ?_ 7 _ rfl; (with_reducible repeat (first | refine kN ?_ _ | refine kD ?_ | refine kA ?_ _)); exact BK408.out⟩, ⟨by repeat (first | (with_reducible first | exact HB.out | apply bA | apply bN | apply bD | refine bS ?_ GE406.out | refine bS ?_ GE408.out) | exact HB.out)⟩⟩
            ·rw [if_neg c43] at H
             have c43b0 : ((Int.tmod (IntKind.u64.wrap (a1)) 9) == 7) = false := beq_eq_false_iff_ne.mpr c43
             have c43b1 : ((Int.tmod (IntKind.u64.wrap (a1)) 9) != 7) = true := bne_iff_ne.mpr c43
             have H' := As.mk H
             clear H
             have hnb46 := NB408_406.out
             have hnc46 := NB406_408.out
             obtain ⟨hcz47_0, hcz47_1, hcz47_2, hcz47_3, hcz47_4, hcz47_5, hcz47_6, hcz47_7, hcz47_8, hcz47_9, hcz47_10, hfz47_0, hfz47_1, hfz47_2, hfz47_3, hfz47_4, hfz47_5, hfz47_6, hfz47_7, hfz47_8, hfz47_9, hfz47_10⟩ := cl11 BK408.out
             go_wp2
             go_meet
             case rel => exact ⟨_, (a0_0), (2000), (2004), (2), (1), (0), (29), (a0_7), (a0_9), (a0_10), H', ⟨by have := HJ2.out; first | omega | exact Nat.le_refl _⟩, ⟨by (with_reducible repeat (first | refine kN ?_ _ | refine kD ?_ | refine kA ?_ _)); refine blk_far ?_ NB406_408.out _; (with_reducible repeat (first | refine kN ?_ _ | refine kD ?_ | refine kA ?_ _)); refine blk_far ?_ NB406_408.out _; (with_reducible repeat (first | refine kN ?_ _ | refine kD ?_ | refine kA ?_ _)); refine blk_far ?_ NB406_408.out _; (with_reducible repeat (first | refine kN ?_ _ | refine kD ?_ | refine kA ?_ _)); refine blk_far ?_ NB406_408.out _; (with_reducible repeat (first | refine kN ?_ _ | refine kD ?_ | refine kA ?_ _)); refine blk_far ?_ NB406_408.out _; (with_reducible repeat (first | refine kN ?_ _ | refine kD ?_ | refine kA ?_ _)); refine blk_far ?_ NB406_408.out _; (with_reducible repeat (first | refine kN ?_ _ | refine kD ?_ | refine kA ?_ _)); exact BK406.out⟩, ⟨by (with_reducible repeat (first | refine kN ?_ _ | refine kD ?_ | refine kA ?_ _)); refine blk_put (cs := #[.string a0_0, .int .i64 2000, .int .i64 2004, .int .i64 2, .int .i64 1, .int .i64 0, .int .i64 a0_6, .int .i64 a0_7, .int .i64 a0_8, .int .i64 a0_9, .string a0_10]) ?_ 6 _ rfl; (with_reducible repeat (first | refine kN ?_ _ | refine kD ?_ | refine kA ?_ _)); refine blk_put (cs := #[.string a0_0, .int .i64 2000, .int .i64 2004, .int .i64 2, .int .i64 1, .int .i64 a0_5, .int .i64 a0_6, .int .i64 a0_7, .int .i64 a0_8, .int .i64 a0_9, .string a0_10]) ?_ 5 _ rfl; (with_reducible repeat (first | refine kN ?_ _ | refine kD ?_ | refine kA ?_ _)); refine blk_put (cs := #[.string a0_0, .int .i64 2000, .int .i64 2004, .int .i64 2, .int .i64 a0_4, .int .i64 a0_5, .int .i64 a0_6, .int .i64 a0_7, .int .i64 a0_8, .int .i64 a0_9, .string a0_10]) ?_ 4 _ rfl; (with_reducible repeat (first | refine kN ?_ _ | refine kD ?_ | refine kA ?_ _)); refine blk_put (cs := #[.string a0_0, .int .i64 2000, .int .i64 a0_2, .int .i64 2, .int .i64 a0_4, .int .i64 a0_5, .int .i64 a0_6, .int .i64 a0_7, .int .i64 a0_8, .int .i64 a0_9, .string a0_10]) ?_ 2 _ rfl; (with_reducible repeat (first | refine kN ?_ _ | refine kD ?_ | refine kA ?_ _)); refine blk_put (cs := #[.string a0_0, .int .i64 a0_1, .int .i64 a0_2, .int .i64 2, .int .i64 a0_4, .int .i64 a0_5, .int .i64 a0_6, .int .i64 a0_7, .int .i64 a0_8, .int .i64 a0_9, .string a0_10]) ?_ 1 _ rfl; (with_reducible repeat (first | refine kN ?_ _ | refine kD ?_ | refine kA ?_ _)); refine blk_put (cs := #[.string a0_0, .int .i64 a0_1, .int .i64 a0_2, .int .i64 a0_3, .int .i64 a0_4, .int .i64 a0_5, .int .i64 a0_6, .int .i64 a0_7, .int .i64 a0_8, .int .i64 a0_9, .string a0_10]) ?_ 3 _ rfl; (with_reducible repeat (first | refine kN ?_ _ | refine kD ?_ | refine kA ?_ _)); exact BK408.out⟩, ⟨by repeat (first | (with_reducible first | exact HB.out | apply bA | apply bN | apply bD | refine bS ?_ GE406.out | refine bS ?_ GE408.out) | exact HB.out)⟩⟩
    case rest =>
     clear HC13
     try clear c1
     try clear c2
     try clear p2
     try clear c3
     try clear c4
     try clear c5
     try clear c5b0
     try clear c5b1
     try clear p6
     try clear c7
     try clear c7b0
     try clear c7b1
     try clear c12
     try clear c16
     try clear c19
     try clear c19b0
     try clear c19b1
     try clear c20
     try clear c22
     try clear c22b0
     try clear c22b1
     try clear c23
     try clear c26
     try clear c26b0
     try clear c26b1
     try clear c27
     try clear c29
     try clear c29b0
     try clear c29b1
     try clear c30
     try clear c32
     try clear c32b0
     try clear c32b1
     try clear c33
     try clear c35
     try clear c35b0
     try clear c35b1
     try clear c36
     try clear c36b0
     try clear c36b1
     try clear c36b2
     try clear c37
     try clear c40
     try clear c40b0
     try clear c40b1
     try clear c41
     try clear c43
     try clear c43b0
     try clear c43b1
     try clear c44
     try clear c46
     try clear hcz10_0
     try clear hcz10_1
     try clear hcz10_10
     try clear hcz10_2
     try clear hcz10_3
     try clear hcz10_4
     try clear hcz10_5
     try clear hcz10_6
     try clear hcz10_7
     try clear hcz10_8
     try clear hcz10_9
     try clear hcz14_0
     try clear hcz14_1
     try clear hcz14_10
     try clear hcz14_2
     try clear hcz14_3
     try clear hcz14_4
     try clear hcz14_5
     try clear hcz14_6
     try clear hcz14_7
     try clear hcz14_8
     try clear hcz14_9
     try clear hcz17_0
     try clear hcz17_1
     try clear hcz17_10
     try clear hcz17_2
     try clear hcz17_3
     try clear hcz17_4
     try clear hcz17_5
     try clear hcz17_6
     try clear hcz17_7
     try clear hcz17_8
     try clear hcz17_9
     try clear hcz21_0
     try clear hcz21_1
     try clear hcz21_10
     try clear hcz21_2
     try clear hcz21_3
     try clear hcz21_4
     try clear hcz21_5
     try clear hcz21_6
     try clear hcz21_7
     try clear hcz21_8
     try clear hcz21_9
     try clear hcz24_0
     try clear hcz24_1
     try clear hcz24_10
     try clear hcz24_2
     try clear hcz24_3
     try clear hcz24_4
     try clear hcz24_5
     try clear hcz24_6
     try clear hcz24_7
     try clear hcz24_8
     try clear hcz24_9
     try clear hcz25_0
     try clear hcz25_1
     try clear hcz25_10
     try clear hcz25_2
     try clear hcz25_3
     try clear hcz25_4
     try clear hcz25_5
     try clear hcz25_6
     try clear hcz25_7
     try clear hcz25_8
     try clear hcz25_9
     try clear hcz28_0
     try clear hcz28_1
     try clear hcz28_10
     try clear hcz28_2
     try clear hcz28_3
     try clear hcz28_4
     try clear hcz28_5
     try clear hcz28_6
     try clear hcz28_7
     try clear hcz28_8
     try clear hcz28_9
     try clear hcz31_0
     try clear hcz31_1
     try clear hcz31_10
     try clear hcz31_2
     try clear hcz31_3
     try clear hcz31_4
     try clear hcz31_5
     try clear hcz31_6
     try clear hcz31_7
     try clear hcz31_8
     try clear hcz31_9
     try clear hcz34_0
     try clear hcz34_1
     try clear hcz34_10
     try clear hcz34_2
     try clear hcz34_3
     try clear hcz34_4
     try clear hcz34_5
     try clear hcz34_6
     try clear hcz34_7
     try clear hcz34_8
     try clear hcz34_9
     try clear hcz38_0
     try clear hcz38_1
     try clear hcz38_10
     try clear hcz38_2
     try clear hcz38_3
     try clear hcz38_4
     try clear hcz38_5
     try clear hcz38_6
     try clear hcz38_7
     try clear hcz38_8
     try clear hcz38_9
     try clear hcz39_0
     try clear hcz39_1
     try clear hcz39_10
     try clear hcz39_2
     try clear hcz39_3
     try clear hcz39_4
     try clear hcz39_5
     try clear hcz39_6
     try clear hcz39_7
     try clear hcz39_8
     try clear hcz39_9
     try clear hcz42_0
     try clear hcz42_1
     try clear hcz42_10
     try clear hcz42_2
     try clear hcz42_3
     try clear hcz42_4
     try clear hcz42_5
     try clear hcz42_6
     try clear hcz42_7
     try clear hcz42_8
     try clear hcz42_9
     try clear hcz45_0
     try clear hcz45_1
     try clear hcz45_10
     try clear hcz45_2
     try clear hcz45_3
     try clear hcz45_4
     try clear hcz45_5
     try clear hcz45_6
     try clear hcz45_7
     try clear hcz45_8
     try clear hcz45_9
     try clear hcz47_0
     try clear hcz47_1
     try clear hcz47_10
     try clear hcz47_2
     try clear hcz47_3
     try clear hcz47_4
     try clear hcz47_5
     try clear hcz47_6
     try clear hcz47_7
     try clear hcz47_8
     try clear hcz47_9
     try clear hcz6_0
     try clear hcz6_1
     try clear hcz6_10
     try clear hcz6_2
     try clear hcz6_3
     try clear hcz6_4
     try clear hcz6_5
     try clear hcz6_6
     try clear hcz6_7
     try clear hcz6_8
     try clear hcz6_9
     try clear hcz8_0
     try clear hcz8_1
     try clear hcz8_10
     try clear hcz8_2
     try clear hcz8_3
     try clear hcz8_4
     try clear hcz8_5
     try clear hcz8_6
     try clear hcz8_7
     try clear hcz8_8
     try clear hcz8_9
     try clear hfz10_0
     try clear hfz10_1
     try clear hfz10_10
     try clear hfz10_2
     try clear hfz10_3
     try clear hfz10_4
     try clear hfz10_5
     try clear hfz10_6
     try clear hfz10_7
     try clear hfz10_8
     try clear hfz10_9
     try clear hfz14_0
     try clear hfz14_1
     try clear hfz14_10
     try clear hfz14_2
     try clear hfz14_3
     try clear hfz14_4
     try clear hfz14_5
     try clear hfz14_6
     try clear hfz14_7
     try clear hfz14_8
     try clear hfz14_9
     try clear hfz17_0
     try clear hfz17_1
     try clear hfz17_10
     try clear hfz17_2
     try clear hfz17_3
     try clear hfz17_4
     try clear hfz17_5
     try clear hfz17_6
     try clear hfz17_7
     try clear hfz17_8
     try clear hfz17_9
     try clear hfz21_0
     try clear hfz21_1
     try clear hfz21_10
     try clear hfz21_2
     try clear hfz21_3
     try clear hfz21_4
     try clear hfz21_5
     try clear hfz21_6
     try clear hfz21_7
     try clear hfz21_8
     try clear hfz21_9
     try clear hfz24_0
     try clear hfz24_1
     try clear hfz24_10
     try clear hfz24_2
     try clear hfz24_3
     try clear hfz24_4
     try clear hfz24_5
     try clear hfz24_6
     try clear hfz24_7
     try clear hfz24_8
     try clear hfz24_9
     try clear hfz25_0
     try clear hfz25_1
     try clear hfz25_10
     try clear hfz25_2
     try clear hfz25_3
     try clear hfz25_4
     try clear hfz25_5
     try clear hfz25_6
     try clear hfz25_7
     try clear hfz25_8
     try clear hfz25_9
     try clear hfz28_0
     try clear hfz28_1
     try clear hfz28_10
     try clear hfz28_2
     try clear hfz28_3
     try clear hfz28_4
     try clear hfz28_5
     try clear hfz28_6
     try clear hfz28_7
     try clear hfz28_8
     try clear hfz28_9
     try clear hfz31_0
     try clear hfz31_1
     try clear hfz31_10
     try clear hfz31_2
     try clear hfz31_3
     try clear hfz31_4
     try clear hfz31_5
     try clear hfz31_6
     try clear hfz31_7
     try clear hfz31_8
     try clear hfz31_9
     try clear hfz34_0
     try clear hfz34_1
     try clear hfz34_10
     try clear hfz34_2
     try clear hfz34_3
     try clear hfz34_4
     try clear hfz34_5
     try clear hfz34_6
     try clear hfz34_7
     try clear hfz34_8
     try clear hfz34_9
     try clear hfz38_0
     try clear hfz38_1
     try clear hfz38_10
     try clear hfz38_2
     try clear hfz38_3
     try clear hfz38_4
     try clear hfz38_5
     try clear hfz38_6
     try clear hfz38_7
     try clear hfz38_8
     try clear hfz38_9
     try clear hfz39_0
     try clear hfz39_1
     try clear hfz39_10
     try clear hfz39_2
     try clear hfz39_3
     try clear hfz39_4
     try clear hfz39_5
     try clear hfz39_6
     try clear hfz39_7
     try clear hfz39_8
     try clear hfz39_9
     try clear hfz42_0
     try clear hfz42_1
     try clear hfz42_10
     try clear hfz42_2
     try clear hfz42_3
     try clear hfz42_4
     try clear hfz42_5
     try clear hfz42_6
     try clear hfz42_7
     try clear hfz42_8
     try clear hfz42_9
     try clear hfz45_0
     try clear hfz45_1
     try clear hfz45_10
     try clear hfz45_2
     try clear hfz45_3
     try clear hfz45_4
     try clear hfz45_5
     try clear hfz45_6
     try clear hfz45_7
     try clear hfz45_8
     try clear hfz45_9
     try clear hfz47_0
     try clear hfz47_1
     try clear hfz47_10
     try clear hfz47_2
     try clear hfz47_3
     try clear hfz47_4
     try clear hfz47_5
     try clear hfz47_6
     try clear hfz47_7
     try clear hfz47_8
     try clear hfz47_9
     try clear hfz6_0
     try clear hfz6_1
     try clear hfz6_10
     try clear hfz6_2
     try clear hfz6_3
     try clear hfz6_4
     try clear hfz6_5
     try clear hfz6_6
     try clear hfz6_7
     try clear hfz6_8
     try clear hfz6_9
     try clear hfz8_0
     try clear hfz8_1
     try clear hfz8_10
     try clear hfz8_2
     try clear hfz8_3
     try clear hfz8_4
     try clear hfz8_5
     try clear hfz8_6
     try clear hfz8_7
     try clear hfz8_8
     try clear hfz8_9
     try clear p2
     obtain ⟨kq, x409000_12, x409001_12, x409002_12, x409003_12, x409004_12, x409005_12, x409006_12, x409007_12, x409009_12, x409010_12, HA, HJ12, BK406, BK408, HB⟩ := hcut
     cases kq with
     | zero => exact absurd HA.out (by simp [solsticelaw09_RuleBent.j1])
     | succ kj12 =>
      have H := HA.out
      clear HA
      simp only [solsticelaw09_RuleBent.j1] at H
      replace H := Option.bind_eq_some_iff.mp H
      obtain ⟨⟨t409, t410⟩, A480, H⟩ := H
      (try dsimp only at H)
      have A48 := As.mk A480
      clear A480
      replace H := Option.bind_eq_some_iff.mp H
      obtain ⟨t411, A490, H⟩ := H
      (try dsimp only at H)
      have A49 := As.mk A490
      clear A490
      by_cases c50 : t411 = 0
      ·rw [if_pos c50] at H
       have c50b0 : (t411 == 0) = true := beq_iff_eq.mpr c50
       have c50b1 : (t411 != 0) = false := bne_eq_false_iff_eq.mpr c50
       clear c50
       replace H := Option.bind_eq_some_iff.mp H
       obtain ⟨t412, A510, H⟩ := H
       (try dsimp only at H)
       have A51 := As.mk A510
       clear A510
       by_cases c52 : t412 = 10
       ·rw [if_pos c52] at H
        have c52b0 : (t412 == 10) = true := beq_iff_eq.mpr c52
        have c52b1 : (t412 != 10) = false := bne_eq_false_iff_eq.mpr c52
        clear c52
        by_cases c53 : t410 = 10
        ·rw [if_pos c53] at H
         have c53b0 : (t410 == 10) = true := beq_iff_eq.mpr c53
         have c53b1 : (t410 != 10) = false := bne_eq_false_iff_eq.mpr c53
         clear c53
         by_cases c54 : t409.toList = ([] : List UInt8)
         ·rw [if_pos c54] at H
          have c54b0 : (t409.toList == ([] : List UInt8)) = true := beq_iff_eq.mpr c54
          have c54b1 : (t409.toList != ([] : List UInt8)) = false := bne_eq_false_iff_eq.mpr c54
          clear c54
          replace H := Option.bind_eq_some_iff.mp H
          obtain ⟨t413, A550, H⟩ := H
          (try dsimp only at H)
          have A55 := As.mk A550
          clear A550
          obtain rfl := Option.some.inj H
          have hnb56 := NB408_406.out
          have hnc56 := NB406_408.out
          obtain ⟨hcz57_0, hcz57_1, hcz57_2, hcz57_3, hcz57_4, hcz57_5, hcz57_6, hcz57_7, hcz57_8, hcz57_9, hcz57_10, hfz57_0, hfz57_1, hfz57_2, hfz57_3, hfz57_4, hfz57_5, hfz57_6, hfz57_7, hfz57_8, hfz57_9, hfz57_10⟩ := cl11 BK408.out
          go_wp2_with (first | ((with_reducible refine gC (f := 16) rfl ?_); refine goesL_ (some 67) rfl rfl Tryz.func16 (by kernel_rfl) rfl #[.agg #[.string x409000_12, .int .i64 x409001_12, .int .i64 x409002_12, .int .i64 x409003_12, .int .i64 x409004_12, .int .i64 x409005_12, .int .i64 x409006_12, .int .i64 x409007_12, .int .i64 a0_8, .int .i64 x409009_12, .string x409010_12]] rfl (by (try simp only [List.map_toArray, List.map_cons, List.map_nil]); first | done | rfl | (simp only [List.length_drop, List.length_take]; rfl)) ?_; (with_reducible refine (rule_Text.calls kj12 x409000_12 x409001_12 x409002_12 x409003_12 x409004_12 x409005_12 x409006_12 x409007_12 a0_8 x409009_12 x409010_12 t409 t410 _ ?side1 A48.out).mono ?_); (case side1 => exact GW.on HG.out (by repeat (first | (with_reducible first | exact HB.out | apply bA | apply bN | apply bD | refine bS ?_ GE406.out | refine bS ?_ GE408.out) | exact HB.out))); rintro e w58 ⟨rfl, hb⟩; refine ⟨_, rfl, ?_⟩; have n0_ := As.mk (kB (g := gb406) (o := .cells #[.string a0_0, .int .i64 a0_1, .int .i64 a0_2, .int .i64 a0_3, .int .i64 a0_4, .int .i64 a0_5, .int .i64 a0_6, .int .i64 a0_7, .int .i64 a0_8, .int .i64 a0_9, .string a0_10] 27 (0, 0)) (by (with_reducible repeat (first | refine kN ?_ _ | refine kD ?_ | refine kA ?_ _)); exact BK406.out) hb); have n1_ := As.mk (kB (g := gb408) (o := .cells #[.string x409000_12, .int .i64 x409001_12, .int .i64 x409002_12, .int .i64 x409003_12, .int .i64 x409004_12, .int .i64 x409005_12, .int .i64 x409006_12, .int .i64 x409007_12, .int .i64 a0_8, .int .i64 x409009_12, .string x409010_12] 27 (0, 0)) (by (with_reducible repeat (first | refine kN ?_ _ | refine kD ?_ | refine kA ?_ _)); exact BK408.out) hb); have n2_ := As.mk (bT (by repeat (first | (with_reducible first | exact HB.out | apply bA | apply bN | apply bD | refine bS ?_ GE406.out | refine bS ?_ GE408.out) | exact HB.out)) hb); clear BK406; clear BK408; clear HB; have BK406 := n0_; have BK408 := n1_; have HB := n2_; clear n0_ n1_ n2_; (try clear hb); (try clear hb2); (try clear hk); (try clear hi); obtain ⟨hcz59_0, hcz59_1, hcz59_2, hcz59_3, hcz59_4, hcz59_5, hcz59_6, hcz59_7, hcz59_8, hcz59_9, hcz59_10, hfz59_0, hfz59_1, hfz59_2, hfz59_3, hfz59_4, hfz59_5, hfz59_6, hfz59_7, hfz59_8, hfz59_9, hfz59_10⟩ := cl11 BK406.out) | ((with_reducible refine gC (f := 21) rfl ?_); refine goesL_ (some 71) rfl rfl Tryz.func21 (by kernel_rfl) rfl #[.agg #[.string a0_0, .int .i64 a0_1, .int .i64 a0_2, .int .i64 a0_3, .int .i64 a0_4, .int .i64 a0_5, .int .i64 a0_6, .int .i64 a0_7, .int .i64 a0_8, .int .i64 a0_9, .string a0_10]] rfl (by (try simp only [List.map_toArray, List.map_cons, List.map_nil]); first | done | rfl | (simp only [List.length_drop, List.length_take]; rfl)) ?_; (with_reducible refine (rule_Check.calls kj12 a0_0 a0_1 a0_2 a0_3 a0_4 a0_5 a0_6 a0_7 a0_8 a0_9 a0_10 t411 _ A49.out).mono ?_); rintro e w60 ⟨rfl, hb⟩; refine ⟨_, rfl, ?_⟩; have n0_ := As.mk (kB (g := gb406) (o := .cells #[.string a0_0, .int .i64 a0_1, .int .i64 a0_2, .int .i64 a0_3, .int .i64 a0_4, .int .i64 a0_5, .int .i64 a0_6, .int .i64 a0_7, .int .i64 a0_8, .int .i64 a0_9, .string a0_10] 27 (0, 0)) (by (with_reducible repeat (first | refine kN ?_ _ | refine kD ?_ | refine kA ?_ _)); exact BK406.out) hb); have n1_ := As.mk (kB (g := gb408) (o := .cells #[.string x409000_12, .int .i64 x409001_12, .int .i64 x409002_12, .int .i64 x409003_12, .int .i64 x409004_12, .int .i64 x409005_12, .int .i64 x409006_12, .int .i64 x409007_12, .int .i64 a0_8, .int .i64 x409009_12, .string x409010_12] 27 (0, 0)) (by (with_reducible repeat (first | refine kN ?_ _ | refine kD ?_ | refine kA ?_ _)); exact BK408.out) hb); have n2_ := As.mk (bT (by repeat (first | (with_reducible first | exact HB.out | apply bA | apply bN | apply bD | refine bS ?_ GE406.out | refine bS ?_ GE408.out) | exact HB.out)) hb); clear BK406; clear BK408; clear HB; have BK406 := n0_; have BK408 := n1_; have HB := n2_; clear n0_ n1_ n2_; (try clear hb); (try clear hb2); (try clear hk); (try clear hi); obtain ⟨hcz61_0, hcz61_1, hcz61_2, hcz61_3, hcz61_4, hcz61_5, hcz61_6, hcz61_7, hcz61_8, hcz61_9, hcz61_10, hfz61_0, hfz61_1, hfz61_2, hfz61_3, hfz61_4, hfz61_5, hfz61_6, hfz61_7, hfz61_8, hfz61_9, hfz61_10⟩ := cl11 BK408.out) | (go_at_call 21; (with_reducible refine (rule_Check.calls kj12 x409000_12 x409001_12 x409002_12 x409003_12 x409004_12 x409005_12 x409006_12 x409007_12 a0_8 x409009_12 x409010_12 t412 _ A51.out).mono ?_); rintro e w62 ⟨rfl, hb⟩; have n0_ := As.mk (kB (g := gb406) (o := .cells #[.string a0_0, .int .i64 a0_1, .int .i64 a0_2, .int .i64 a0_3, .int .i64 a0_4, .int .i64 a0_5, .int .i64 a0_6, .int .i64 a0_7, .int .i64 a0_8, .int .i64 a0_9, .string a0_10] 27 (0, 0)) (by (with_reducible repeat (first | refine kN ?_ _ | refine kD ?_ | refine kA ?_ _)); exact BK406.out) hb); have n1_ := As.mk (kB (g := gb408) (o := .cells #[.string x409000_12, .int .i64 x409001_12, .int .i64 x409002_12, .int .i64 x409003_12, .int .i64 x409004_12, .int .i64 x409005_12, .int .i64 x409006_12, .int .i64 x409007_12, .int .i64 a0_8, .int .i64 x409009_12, .string x409010_12] 27 (0, 0)) (by (with_reducible repeat (first | refine kN ?_ _ | refine kD ?_ | refine kA ?_ _)); exact BK408.out) hb); have n2_ := As.mk (bT (by repeat (first | (with_reducible first | exact HB.out | apply bA | apply bN | apply bD | refine bS ?_ GE406.out | refine bS ?_ GE408.out) | exact HB.out)) hb); clear BK406; clear BK408; clear HB; have BK406 := n0_; have BK408 := n1_; have HB := n2_; clear n0_ n1_ n2_; (try clear hb); (try clear hb2); (try clear hk); (try clear hi)) | (go_at_call 17; (with_reducible refine (solsticelaw09_wakes.calls kj12  t413 _ ?side1 A55.out).mono ?_); (case side1 => exact GW.on HG.out (by repeat (first | (with_reducible first | exact HB.out | apply bA | apply bN | apply bD | refine bS ?_ GE406.out | refine bS ?_ GE408.out) | exact HB.out))); rintro e w63 ⟨rfl, hb⟩; have n0_ := As.mk (kB (g := gb406) (o := .cells #[.string a0_0, .int .i64 a0_1, .int .i64 a0_2, .int .i64 a0_3, .int .i64 a0_4, .int .i64 a0_5, .int .i64 a0_6, .int .i64 a0_7, .int .i64 a0_8, .int .i64 a0_9, .string a0_10] 27 (0, 0)) (by (with_reducible repeat (first | refine kN ?_ _ | refine kD ?_ | refine kA ?_ _)); exact BK406.out) hb); have n1_ := As.mk (kB (g := gb408) (o := .cells #[.string x409000_12, .int .i64 x409001_12, .int .i64 x409002_12, .int .i64 x409003_12, .int .i64 x409004_12, .int .i64 x409005_12, .int .i64 x409006_12, .int .i64 x409007_12, .int .i64 a0_8, .int .i64 x409009_12, .string x409010_12] 27 (0, 0)) (by (with_reducible repeat (first | refine kN ?_ _ | refine kD ?_ | refine kA ?_ _)); exact BK408.out) hb); have n2_ := As.mk (bT (by repeat (first | (with_reducible first | exact HB.out | apply bA | apply bN | apply bD | refine bS ?_ GE406.out | refine bS ?_ GE408.out) | exact HB.out)) hb); clear BK406; clear BK408; clear HB; have BK406 := n0_; have BK408 := n1_; have HB := n2_; clear n0_ n1_ n2_; (try clear hb); (try clear hb2); (try clear hk); (try clear hi)))
          go_ret
          exact ⟨by first | rfl | (simp [eN, eS] <;> rfl) | (simp [*, eN, eS] <;> rfl), by repeat (first | (with_reducible first | exact HB.out | apply bA | apply bN | apply bD | refine bS ?_ GE406.out | refine bS ?_ GE408.out) | exact HB.out)⟩
         ·rw [if_neg c54] at H
          exact absurd H (by simp)
        ·rw [if_neg c53] at H
         exact absurd H (by simp)
       ·rw [if_neg c52] at H
        exact absurd H (by simp)
      ·rw [if_neg c50] at H
       exact absurd H (by simp)
end Go.Proofs.YtfhemdnjoedioaaGreatDoor.X
end
section
namespace Go.Proofs.YtfhemdnjoedioaaGreatDoor.X
open Go.RowKit Go.Proofs.YtfhemdnjoedioaaGreatDoorW.PrintWords Go.Proofs.YtfhemdnjoedioaaGreatDoorW.PrintLast Go.Proofs.YtfhemdnjoedioaaGreatDoorW.PrintMore
set_option linter.unusedVariables false
set_option linter.unusedSimpArgs false
theorem wrap_idd {x : Int} (h0 : -9223372036854775808 ≤ x) (h1 : x < 9223372036854775808) : wrap64 x = x := by unfold wrap64; omega
theorem bt_list (l : List UInt8) (i : Nat) (h : i < l.length) : bt ⟨l.toArray⟩ (i : Int) = (l[i].toNat : Int) := by
  unfold bt
  have hi : ((i : Int)).toNat < (⟨l.toArray⟩ : ByteArray).size := by
    show ((i : Int)).toNat < l.toArray.size
    simpa using h
  rw [dif_pos hi]
  rfl
def alnum (c : Int) : Bool := (decide (48 ≤ c) && decide (c ≤ 57)) || (decide (97 ≤ c) && decide (c ≤ 122)) || (decide (65 ≤ c) && decide (c ≤ 90))
def sgn (l : List Int) (c : Int) : Bool := alnum c || l.contains c
def nameO : List Int := [95, 43, 45, 47]
def letO : List Int := [43, 45]
theorem sign_name : ((List.range 256).all fun c => decide (rule_sign.f (c : Int) ⟨#[95, 43, 45, 47]⟩ = some (sgn nameO c))) = true := by decide +kernel
theorem sign_let : ((List.range 256).all fun c => decide (rule_sign.f (c : Int) ⟨#[43, 45]⟩ = some (sgn letO c))) = true := by decide +kernel
theorem of_range {p : Nat → Bool} {n : Nat} (h : ((List.range n).all p) = true) (c : Int) (h0 : 0 ≤ c) (h1 : c < n) : p c.toNat = true := List.all_eq_true.mp h c.toNat (List.mem_range.mpr (by omega))
theorem sign_name_at (c : Int) (h0 : 0 ≤ c) (h1 : c ≤ 255) : rule_sign.f c ⟨#[95, 43, 45, 47]⟩ = some (sgn nameO c) := by
  have := of_decide_eq_true (of_range sign_name c h0 (by omega))
  rwa [Int.toNat_of_nonneg h0] at this
theorem sign_let_at (c : Int) (h0 : 0 ≤ c) (h1 : c ≤ 255) : rule_sign.f c ⟨#[43, 45]⟩ = some (sgn letO c) := by
  have := of_decide_eq_true (of_range sign_let c h0 (by omega))
  rwa [Int.toNat_of_nonneg h0] at this
def bts (s : ByteArray) : List Int := s.data.toList.map fun b => (b.toNat : Int)
theorem bts_length (s : ByteArray) : (bts s).length = s.size := by simp only [bts, List.length_map, Array.length_toList]; rfl
theorem bts_drop (s : ByteArray) (i : Nat) (h : i < s.size) : (bts s).drop i = bt s i :: (bts s).drop (i + 1) := by
  have hl : i < (bts s).length := by rw [bts_length]; exact h
  rw [List.drop_eq_getElem_cons hl]
  congr 1
  have hi : ((i : Int)).toNat < s.size := by simpa using h
  have e : bt s i = ((s[i]'h).toNat : Int) := by
    unfold bt
    rw [dif_pos hi]
    rfl
  rw [e]
  simp only [bts, List.getElem_map]
  rfl
theorem all_loop (s o : ByteArray) (l : List Int) (hs : s.size ≤ 1000000) (ho : ∀ c, 0 ≤ c → c ≤ 255 → rule_sign.f c o = some (sgn l c)) (d : Nat) : ∀ (i k : Nat), i ≤ s.size → d = s.size - i → d < k →
    rule_all.l0 k s o (s.size : Int) (i : Int) = some (((bts s).drop i).all (sgn l)) := by
  induction d with
  | zero =>
    intro i k hi hd hk
    obtain ⟨k, rfl⟩ : ∃ m, k = m + 1 := ⟨k - 1, by omega⟩
    simp only [rule_all.l0]
    rw [if_neg (by omega), List.drop_eq_nil_of_le (by rw [bts_length]; omega)]
    rfl
  | succ d ih =>
    intro i k hi hd hk
    obtain ⟨k, rfl⟩ : ∃ m, k = m + 1 := ⟨k - 1, by omega⟩
    have hlt : i < s.size := by omega
    have b1 := bt_range s i
    simp only [rule_all.l0]
    rw [if_pos (by omega), if_pos (by omega), if_pos (by omega), ho _ b1.1 b1.2, Option.bind_some, bts_drop s i hlt, List.all_cons]
    cases e : sgn l (bt s i) with
    | true =>
      rw [if_pos rfl, wrap_idd (by omega) (by omega), show ((i : Int) + 1) = ((i + 1 : Nat) : Int) from by omega, ih (i + 1) k (by omega) (by omega) (by omega), Bool.true_and]
    | false => rw [if_neg (by decide), Bool.false_and]
theorem all_eq (s o : ByteArray) (l : List Int) (hs : s.size ≤ 1000000) (ho : ∀ c, 0 ≤ c → c ≤ 255 → rule_sign.f c o = some (sgn l c)) (k : Nat) (hk : s.size < k) : rule_all.f k s o = some ((bts s).all (sgn l)) := by
  unfold rule_all.f
  have := all_loop s o l hs ho s.size 0 k (by omega) (by omega) hk
  simpa using this
def headOk (c : Int) : Bool := !(decide (48 ≤ c) && decide (c ≤ 57)) && (c != 43 && c != 45)
def nameB (s : ByteArray) : Bool := decide (1 ≤ s.size) && decide (s.size ≤ 40) && (bts s).all (sgn nameO) && headOk (bt s 0)
theorem digit_eq (c : Int) : rule_digit.f c = some (decide (48 ≤ c) && decide (c ≤ 57)) := by
  unfold rule_digit.f
  by_cases h : c ≥ 48
  · rw [if_pos h, decide_eq_true h, Bool.true_and]
  · rw [if_neg h, decide_eq_false h, Bool.false_and]
theorem name_eq (s : ByteArray) (hs : s.size ≤ 1000000) (k : Nat) (hk : 1000 < k) : rule_Name.f k s = some (nameB s) := by
  unfold rule_Name.f nameB
  by_cases h1 : (s.size : Int) < 1
  · rw [if_pos h1, decide_eq_false (show ¬ 1 ≤ s.size by omega)]; simp
  · rw [if_neg h1, decide_eq_true (show 1 ≤ s.size by omega)]
    by_cases h2 : (s.size : Int) > 40
    · rw [if_pos h2, decide_eq_false (show ¬ s.size ≤ 40 by omega)]; simp
    · rw [if_neg h2, decide_eq_true (show s.size ≤ 40 by omega), all_eq s _ nameO hs sign_name_at k (by omega), Option.bind_some]
      cases e : (bts s).all (sgn nameO) with
      | false => rw [if_neg (by decide)]; simp
      | true =>
        rw [if_pos rfl, if_pos (by omega), digit_eq, Option.bind_some]
        unfold headOk
        cases e2 : (decide (48 ≤ bt s 0) && decide (bt s 0 ≤ 57)) with
        | true => rw [if_pos rfl]; simp
        | false =>
          rw [if_neg (by decide)]
          by_cases h3 : bt s 0 = 43
          · rw [if_pos h3, h3]; simp
          · rw [if_neg h3]
            have : (bt s 0 != 43) = true := by simpa using h3
            rw [this]
            simp
def letterB (s : ByteArray) : Bool := decide (s.size ≤ 6) && (bts s).all (sgn letO) && (s.toList != ([45] : List UInt8))
theorem letter_eq (s : ByteArray) (hs : s.size ≤ 1000000) (k : Nat) (hk : 1000 < k) : rule_Letter.f k s = some (letterB s) := by
  unfold rule_Letter.f letterB
  by_cases h1 : (s.size : Int) ≤ 6
  · rw [if_pos h1, decide_eq_true (show s.size ≤ 6 by omega), all_eq s _ letO hs sign_let_at k (by omega), Option.bind_some]
    cases e : (bts s).all (sgn letO) with
    | false => rw [if_neg (by decide)]; simp
    | true => rw [if_pos rfl]; simp
  · rw [if_neg h1, decide_eq_false (show ¬ s.size ≤ 6 by omega)]; simp
def onB (k w d : Int) : Bool := (k == 1 && (decide (1 ≤ d) && decide (d ≤ 31)) && w == 0) || (k == 2 && d == 0 && (decide (0 ≤ w) && decide (w ≤ 6))) || ((k == 3 || k == 4) && (decide (1 ≤ d) && decide (d ≤ 31)) && (decide (0 ≤ w) && decide (w ≤ 6)))
def atB (s k : Int) : Bool := (decide (-345600 ≤ s) && decide (s ≤ 345600)) && (decide (1 ≤ k) && decide (k ≤ 3))
theorem weekday_eq (c : Int) : week_weekday.f c = some (decide (0 ≤ c) && decide (c ≤ 6)) := by
  unfold week_weekday.f
  by_cases h : c ≥ 0
  · rw [if_pos h, decide_eq_true h, Bool.true_and]
    congr 1
    exact decide_eq_decide.mpr (by omega)
  · rw [if_neg h, decide_eq_false h, Bool.false_and]
theorem wcheck_eq (a b c : Int) (k : Nat) (hk : 3 ≤ k) : week_Check.f k a b c = some (if onB a b c = true then 0 else 8) := by
  obtain ⟨k, rfl⟩ : ∃ m, k = m + 2 := ⟨k - 2, by omega⟩
  have key : ∀ x3 : Bool, x3 = (decide (1 ≤ c) && decide (c ≤ 31)) → week_Check.j0 (k + 2) x3 a b c = some (if onB a b c = true then 0 else 8) := by
    intro x3 hx
    subst hx
    simp only [week_Check.j0, week_Check.j1]
    rw [weekday_eq]
    simp only [Option.bind_some]
    unfold onB
    by_cases h1 : a = 1
    · subst h1
      rw [if_pos rfl]
      by_cases h2 : (decide (1 ≤ c) && decide (c ≤ 31)) = true
      · rw [if_pos h2, h2]
        by_cases h3 : b = 0
        · rw [if_pos h3, h3]; rfl
        · rw [if_neg h3]; simp [h3]
      · rw [if_neg h2, Bool.eq_false_iff.mpr h2]; rfl
    · rw [if_neg h1]
      by_cases h2 : a = 2
      · subst h2
        rw [if_pos rfl]
        by_cases h3 : c = 0
        · rw [if_pos h3, h3]; simp; split <;> rfl
        · rw [if_neg h3]; simp [h3]
      · rw [if_neg h2]
        by_cases h3 : a = 3
        · subst h3
          rw [if_pos rfl]
          cases (decide (1 ≤ c) && decide (c ≤ 31))
          · simp
          · simp; split <;> rfl
        · rw [if_neg h3]
          by_cases h4 : a = 4
          · subst h4
            cases (decide (1 ≤ c) && decide (c ≤ 31))
            · simp
            · simp; split <;> rfl
          · simp [h1, h2, h3, h4]
  unfold week_Check.f
  by_cases h : c ≥ 1
  · rw [if_pos h]; exact key _ (by rw [decide_eq_true h, Bool.true_and])
  · rw [if_neg h]; exact key _ (by rw [decide_eq_false h, Bool.false_and])
theorem acheck_eq (a b : Int) : atform_Check.f a b = some (if atB a b = true then 0 else 9) := by
  unfold atform_Check.f atform_in.f atform_right.f atB
  rw [show wrap64 (-345600) = -345600 by kernel_rfl]
  by_cases h : a ≥ -345600
  · rw [if_pos h, Option.bind_some, decide_eq_true h, Bool.true_and]
    by_cases h2 : a ≤ 345600
    · rw [decide_eq_true h2, if_pos rfl, Bool.true_and]
      by_cases h3 : b = 1
      · subst h3; rfl
      · rw [if_neg h3]
        by_cases h4 : b = 2
        · subst h4; rfl
        · rw [if_neg h4, Option.bind_some]
          by_cases h5 : b = 3
          · subst h5; rfl
          · have e : (decide (1 ≤ b) && decide (b ≤ 3)) = false := by
              rw [Bool.eq_false_iff]; intro h'; simp at h'; omega
            rw [e]; simp [h5]
    · rw [decide_eq_false h2]; rfl
  · rw [if_neg h, Option.bind_some, decide_eq_false h]; rfl
def lenM (m : Int) : Int := if m = 2 then 29 else if m = 4 ∨ m = 6 ∨ m = 9 ∨ m = 11 then 30 else 31
def dayB (f t m k d : Int) : Bool := k == 2 || decide (d ≤ (if m = 2 ∧ k = 1 ∧ t > f then 28 else lenM m))
theorem len2000 : ((List.range 12).all fun m => decide (civil_Len.f 10 2000 ((m : Int) + 1) = some (lenM ((m : Int) + 1)))) = true := by decide +kernel
theorem len_eq (m : Int) (h0 : 1 ≤ m) (h1 : m ≤ 12) (k : Nat) (hk : 10 ≤ k) : civil_Len.f k 2000 m = some (lenM m) := by
  have := of_decide_eq_true (of_range len2000 (m - 1) (by omega) (by omega))
  rw [Int.toNat_of_nonneg (by omega), show m - 1 + 1 = m by omega] at this
  exact at_rounds (g := fun k => civil_Len.f k 2000 m) (fun k => civil_Len.mono 2000 m k) hk this
theorem rday_eq (n : ByteArray) (f t m kd w d s ak sv : Int) (l : ByteArray) (h0 : 1 ≤ m) (h1 : m ≤ 12) (k : Nat) (hk : 10 ≤ k) : rule_day.f k n f t m kd w d s ak sv l = some (dayB f t m kd d) := by
  unfold rule_day.f dayB
  by_cases h2 : kd = 2
  · rw [if_pos h2, h2]; simp
  · rw [if_neg h2, len_eq m h0 h1 k hk, Option.bind_some]
    have e : (kd == 2) = false := by simpa using h2
    rw [e, Bool.false_or]
    by_cases h3 : m = 2
    · rw [if_pos h3]
      subst h3
      by_cases h4 : kd = 1
      · rw [if_pos h4]
        by_cases h5 : t > f
        · rw [if_pos h5, if_pos ⟨rfl, h4, h5⟩, show wrap64 (lenM 2 - 1) = 28 by kernel_rfl]
        · rw [if_neg h5, if_neg (by omega)]
      · rw [if_neg h4, if_neg (by omega)]
    · rw [if_neg h3, if_neg (by omega)]
def rightB (n : ByteArray) (f t m kd w d s ak sv : Int) (l : ByteArray) : Bool :=
  nameB n && (decide (1 ≤ f) && (decide (f ≤ t) && decide (t ≤ 9999))) && (decide (1 ≤ m) && decide (m ≤ 12)) && onB kd w d && dayB f t m kd d && atB s ak && (decide (-86400 < sv) && decide (sv < 86400)) && letterB l
theorem check_eq (n : ByteArray) (f t m kd w d s ak sv : Int) (l : ByteArray) (hn : n.size ≤ 1000000) (hl : l.size ≤ 1000000) (k : Nat) (hk : 1010 < k) :
    rule_Check.f k n f t m kd w d s ak sv l = some (if rightB n f t m kd w d s ak sv l = true then 0 else 10) := by
  obtain ⟨k, rfl⟩ : ∃ q, k = q + 3 := ⟨k - 3, by omega⟩
  have key2 : ∀ x3 x4 x5 : Bool, x3 = (decide (1 ≤ f) && (decide (f ≤ t) && decide (t ≤ 9999))) → x4 = (decide (1 ≤ m) && decide (m ≤ 12)) → x5 = (decide (-86400 < sv) && decide (sv < 86400)) →
      rule_Check.j2 (k + 1) x3 x4 x5 n f t m kd w d s ak sv l = some (if rightB n f t m kd w d s ak sv l = true then 0 else 10) := by
    intro x3 x4 x5 h3 h4 h5
    simp only [rule_Check.j2]
    unfold rightB
    rw [← h3, ← h4, ← h5, name_eq n hn k (by omega), Option.bind_some]
    cases nameB n with
    | false => rw [if_neg (by decide)]; rfl
    | true =>
      rw [if_pos rfl]
      cases x3 with
      | false => rw [if_neg (by decide)]; rfl
      | true =>
        rw [if_pos rfl]
        cases hx4 : x4 with
        | false => rw [if_neg (by decide)]; rfl
        | true =>
          rw [if_pos rfl, wcheck_eq kd w d k (by omega), Option.bind_some]
          rw [hx4] at h4
          have hm : 1 ≤ m ∧ m ≤ 12 := by have := h4.symm; simpa using this
          cases onB kd w d with
          | false => rw [if_neg (show ¬ (false = true) by decide), if_neg (show ¬ ((8 : Int) = 0) by decide)]; rfl
          | true =>
            rw [if_pos rfl, if_pos rfl, rday_eq n f t m kd w d s ak sv l hm.1 hm.2 k (by omega), Option.bind_some]
            cases dayB f t m kd d with
            | false => rw [if_neg (by decide)]; rfl
            | true =>
              rw [if_pos rfl, acheck_eq, Option.bind_some]
              cases atB s ak with
              | false => rw [if_neg (show ¬ (false = true) by decide), if_neg (show ¬ ((9 : Int) = 0) by decide)]; rfl
              | true =>
                rw [if_pos rfl, if_pos rfl]
                cases x5 with
                | false => rw [if_neg (by decide)]; rfl
                | true =>
                  rw [if_pos rfl, letter_eq l hl k (by omega), Option.bind_some]
                  cases letterB l <;> rfl
  have key1 : ∀ x3 x4 : Bool, x3 = (decide (1 ≤ f) && (decide (f ≤ t) && decide (t ≤ 9999))) → x4 = (decide (1 ≤ m) && decide (m ≤ 12)) →
      rule_Check.j1 (k + 2) x3 x4 n f t m kd w d s ak sv l = some (if rightB n f t m kd w d s ak sv l = true then 0 else 10) := by
    intro x3 x4 h3 h4
    simp only [rule_Check.j1]
    by_cases h : sv > (-86400)
    · rw [if_pos h]; exact key2 _ _ _ h3 h4 (by rw [decide_eq_true (show -86400 < sv from h), Bool.true_and])
    · rw [if_neg h]; exact key2 _ _ _ h3 h4 (by rw [decide_eq_false (show ¬ -86400 < sv from h), Bool.false_and])
  have key0 : ∀ x3 : Bool, x3 = (decide (1 ≤ f) && (decide (f ≤ t) && decide (t ≤ 9999))) → rule_Check.j0 (k + 3) x3 n f t m kd w d s ak sv l = some (if rightB n f t m kd w d s ak sv l = true then 0 else 10) := by
    intro x3 h3
    simp only [rule_Check.j0]
    by_cases h : m ≥ 1
    · rw [if_pos h]; exact key1 _ _ h3 (by rw [decide_eq_true (show 1 ≤ m from h), Bool.true_and])
    · rw [if_neg h]; exact key1 _ _ h3 (by rw [decide_eq_false (show ¬ 1 ≤ m from h), Bool.false_and])
  unfold rule_Check.f
  by_cases h : f ≥ 1
  · rw [if_pos h]
    by_cases h2 : t ≥ f
    · rw [if_pos h2]; exact key0 _ (by rw [decide_eq_true (show 1 ≤ f from h), decide_eq_true (show f ≤ t from h2)]; simp)
    · rw [if_neg h2]; exact key0 _ (by rw [decide_eq_false (show ¬ f ≤ t from h2)]; simp)
  · rw [if_neg h]; exact key0 _ (by rw [decide_eq_false (show ¬ 1 ≤ f from h), Bool.false_and])
theorem rin_eq (a b c : Int) : solsticeref09_in.f a b c = some (decide (b ≤ a) && decide (a ≤ c)) := by
  unfold solsticeref09_in.f
  by_cases h : a ≥ b
  · rw [if_pos h, decide_eq_true (show b ≤ a from h), Bool.true_and]
  · rw [if_neg h, decide_eq_false (show ¬ b ≤ a from h), Bool.false_and]
theorem rIn_eq (a b c : Int) : solsticeref01_In.f a b c = some (decide (b ≤ a) && decide (a ≤ c)) := by
  unfold solsticeref01_In.f
  by_cases h : a ≥ b
  · rw [if_pos h, decide_eq_true (show b ≤ a from h), Bool.true_and]
  · rw [if_neg h, decide_eq_false (show ¬ b ≤ a from h), Bool.false_and]
def rsign (k : Nat) (c : Int) : Option Bool := (solsticeref09_letter.f c).bind fun a => if a = true then some true else (solsticeref09_digit.f c).bind fun b => if b = true then some true else solsticeref09_one.f k c (⟨#[95, 43, 45, 47]⟩ : ByteArray)
theorem rsign_fin : ((List.range 256).all fun c => decide (rsign 10 (c : Int) = some (sgn nameO c))) = true := by decide +kernel
theorem rsign_at (c : Int) (h0 : 0 ≤ c) (h1 : c ≤ 255) (k : Nat) (hk : 10 ≤ k) : rsign k c = some (sgn nameO c) := by
  have := of_decide_eq_true (of_range rsign_fin c h0 (by omega))
  rw [Int.toNat_of_nonneg h0] at this
  refine at_rounds (g := fun k => rsign k c) (fun k => ?_) hk this
  unfold rsign
  exact LeO.bind (LeO.refl _) fun a => LeO.ite (LeO.refl _) (LeO.bind (LeO.refl _) fun b => LeO.ite (LeO.refl _) (solsticeref09_one.mono _ _ k))
theorem rname_loop (s : ByteArray) (hs : s.size ≤ 1000000) (d : Nat) : ∀ (i k : Nat), i ≤ s.size → d = s.size - i → d + 20 < k → solsticeref09_Name.l0 k s (i : Int) = some (((bts s).drop i).all (sgn nameO)) := by
  induction d with
  | zero =>
    intro i k hi hd hk
    obtain ⟨k, rfl⟩ : ∃ m, k = m + 1 := ⟨k - 1, by omega⟩
    simp only [solsticeref09_Name.l0]
    rw [if_neg (by omega), List.drop_eq_nil_of_le (by rw [bts_length]; omega)]
    rfl
  | succ d ih =>
    intro i k hi hd hk
    obtain ⟨k, rfl⟩ : ∃ m, k = m + 1 := ⟨k - 1, by omega⟩
    have hlt : i < s.size := by omega
    have b1 := bt_range s i
    have hr := rsign_at (bt s i) b1.1 b1.2 k (by omega)
    have hrec := ih (i + 1) k (by omega) (by omega) (by omega)
    simp only [solsticeref09_Name.l0]
    rw [if_pos (by omega), if_pos (by omega), bts_drop s i hlt, List.all_cons, wrap_idd (by omega) (by omega), show ((i : Int) + 1) = ((i + 1 : Nat) : Int) from by omega, hrec]
    unfold rsign at hr
    cases e1 : solsticeref09_letter.f (bt s i) with
    | none => rw [e1] at hr; cases hr
    | some a =>
      rw [e1, Option.bind_some] at hr
      rw [Option.bind_some]
      cases a with
      | true => rw [if_pos rfl] at hr ⊢; rw [← Option.some.inj hr, Bool.true_and]
      | false =>
        rw [if_neg (by decide)] at hr ⊢
        cases e2 : solsticeref09_digit.f (bt s i) with
        | none => rw [e2] at hr; cases hr
        | some b =>
          rw [e2, Option.bind_some] at hr
          rw [Option.bind_some]
          cases b with
          | true => rw [if_pos rfl] at hr ⊢; rw [← Option.some.inj hr, Bool.true_and]
          | false =>
            rw [if_neg (by decide)] at hr ⊢
            rw [hr, Option.bind_some]
            cases sgn nameO (bt s i) with
            | true => rw [if_pos rfl, Bool.true_and]
            | false => rw [if_neg (by decide), Bool.false_and]
theorem rdigit_eq (c : Int) : solsticeref09_digit.f c = some (decide (48 ≤ c) && decide (c ≤ 57)) := by
  unfold solsticeref09_digit.f
  by_cases h : c ≥ 48
  · rw [if_pos h, decide_eq_true h, Bool.true_and]
  · rw [if_neg h, decide_eq_false h, Bool.false_and]
theorem rname_eq (s : ByteArray) (hs : s.size ≤ 1000) (k : Nat) (hk : 1100 < k) : solsticeref09_Name.f k s = some (nameB s) := by
  obtain ⟨k, rfl⟩ : ∃ m, k = m + 1 := ⟨k - 1, by omega⟩
  have hl := rname_loop s (by omega) s.size 0 k (by omega) (by omega) (by omega)
  rw [List.drop_zero] at hl
  have hl' : solsticeref09_Name.l0 k s 0 = some ((bts s).all (sgn nameO)) := hl
  unfold solsticeref09_Name.f nameB
  simp only [solsticeref09_Name.j0, hl']
  by_cases h1 : (s.size : Int) < 1
  · rw [if_pos h1, decide_eq_false (show ¬ 1 ≤ s.size by omega)]; simp
  · rw [if_neg h1, decide_eq_true (show 1 ≤ s.size by omega)]
    by_cases h2 : (s.size : Int) > 40
    · rw [if_pos h2, decide_eq_false (show ¬ s.size ≤ 40 by omega)]; simp
    · rw [if_neg h2, decide_eq_true (show s.size ≤ 40 by omega), if_pos (by omega), rdigit_eq, Option.bind_some]
      unfold headOk
      cases e2 : (decide (48 ≤ bt s 0) && decide (bt s 0 ≤ 57)) with
      | true => rw [if_pos rfl]; simp
      | false =>
        rw [if_neg (by decide)]
        by_cases h3 : bt s 0 = 43
        · rw [if_pos h3, h3]; simp
        · rw [if_neg h3]
          have e3 : (bt s 0 != 43) = true := by simpa using h3
          rw [e3]
          by_cases h4 : bt s 0 = 45
          · rw [h4]; simp
          · have e4 : (bt s 0 == 45) = false := by simpa using h4
            have e5 : (bt s 0 != 45) = true := by simpa using h4
            rw [e4, e5, if_neg (by decide)]
            simp
def rsign2 (c : Int) : Option Bool := (solsticeref09_letter.f c).bind fun a => if a = true then some true else (solsticeref09_digit.f c).bind fun b => if b = true then some true else if c = 43 then some true else some (c == 45)
theorem rsign2_fin : ((List.range 256).all fun c => decide (rsign2 (c : Int) = some (sgn letO c))) = true := by decide +kernel
theorem rsign2_at (c : Int) (h0 : 0 ≤ c) (h1 : c ≤ 255) : rsign2 c = some (sgn letO c) := by
  have := of_decide_eq_true (of_range rsign2_fin c h0 (by omega))
  rwa [Int.toNat_of_nonneg h0] at this
theorem rplain_loop (s : ByteArray) (hs : s.size ≤ 1000000) (d : Nat) : ∀ (i k : Nat), i ≤ s.size → d = s.size - i → d < k → solsticeref09_Plain.l0 k s (i : Int) = some (((bts s).drop i).all (sgn letO)) := by
  induction d with
  | zero =>
    intro i k hi hd hk
    obtain ⟨k, rfl⟩ : ∃ m, k = m + 1 := ⟨k - 1, by omega⟩
    simp only [solsticeref09_Plain.l0]
    rw [if_neg (by omega), List.drop_eq_nil_of_le (by rw [bts_length]; omega)]
    rfl
  | succ d ih =>
    intro i k hi hd hk
    obtain ⟨k, rfl⟩ : ∃ m, k = m + 1 := ⟨k - 1, by omega⟩
    have hlt : i < s.size := by omega
    have b1 := bt_range s i
    have hr := rsign2_at (bt s i) b1.1 b1.2
    have hrec := ih (i + 1) k (by omega) (by omega) (by omega)
    simp only [solsticeref09_Plain.l0]
    rw [if_pos (by omega), if_pos (by omega), bts_drop s i hlt, List.all_cons, wrap_idd (by omega) (by omega), show ((i : Int) + 1) = ((i + 1 : Nat) : Int) from by omega, hrec]
    unfold rsign2 at hr
    cases e1 : solsticeref09_letter.f (bt s i) with
    | none => rw [e1] at hr; cases hr
    | some a =>
      rw [e1, Option.bind_some] at hr
      rw [Option.bind_some]
      cases a with
      | true => rw [if_pos rfl] at hr ⊢; rw [← Option.some.inj hr, Bool.true_and]
      | false =>
        rw [if_neg (by decide)] at hr ⊢
        cases e2 : solsticeref09_digit.f (bt s i) with
        | none => rw [e2] at hr; cases hr
        | some b =>
          rw [e2, Option.bind_some] at hr
          rw [Option.bind_some]
          cases b with
          | true => rw [if_pos rfl] at hr ⊢; rw [← Option.some.inj hr, Bool.true_and]
          | false =>
            rw [if_neg (by decide)] at hr ⊢
            by_cases h3 : bt s i = 43
            · rw [if_pos h3] at hr ⊢; rw [← Option.some.inj hr, Bool.true_and]
            · rw [if_neg h3] at hr ⊢
              rw [← Option.some.inj hr]
              by_cases h4 : bt s i = 45
              · rw [if_pos h4, h4]; rfl
              · have e4 : (bt s i == 45) = false := by simpa using h4
                rw [if_neg h4, e4, Bool.false_and]
theorem empty_of (s : ByteArray) (h : s.size = 0) : s = ⟨#[]⟩ := by
  apply ByteArray.ext
  exact Array.eq_empty_of_size_eq_zero h
theorem rletter_eq (s : ByteArray) (hs : s.size ≤ 1000) (k : Nat) (hk : 1100 < k) : solsticeref09_Letter.f k s = some (letterB s) := by
  obtain ⟨k, rfl⟩ : ∃ m, k = m + 1 := ⟨k - 1, by omega⟩
  have hl := rplain_loop s (by omega) s.size 0 k (by omega) (by omega) (by omega)
  rw [List.drop_zero] at hl
  have hl' : solsticeref09_Plain.l0 k s 0 = some ((bts s).all (sgn letO)) := hl
  unfold solsticeref09_Letter.f letterB
  by_cases h0 : (s.size : Int) = 0
  · rw [if_pos h0]
    obtain rfl := empty_of s (by omega)
    decide +kernel
  · rw [if_neg h0]
    by_cases h1 : s.toList = ([45] : List UInt8)
    · rw [if_pos h1]
      have : (s.toList != ([45] : List UInt8)) = false := by simpa using h1
      rw [this, Bool.and_false]
    · rw [if_neg h1]
      have e1 : (s.toList != ([45] : List UInt8)) = true := by simpa using h1
      rw [e1, Bool.and_true]
      unfold solsticeref09_Plain.f
      rw [if_neg (by omega)]
      simp only [solsticeref09_Plain.j0]
      by_cases h2 : (s.size : Int) > 6
      · rw [decide_eq_true h2, if_pos rfl, decide_eq_false (show ¬ s.size ≤ 6 by omega)]; rfl
      · rw [decide_eq_false h2, if_neg (by decide), hl', decide_eq_true (show s.size ≤ 6 by omega)]
        simp
theorem ron_eq (a b c : Int) (k : Nat) (hk : 2 ≤ k) : solsticeref01_On.f k a b c = some (onB a b c) := by
  obtain ⟨k, rfl⟩ : ∃ m, k = m + 1 := ⟨k - 1, by omega⟩
  unfold solsticeref01_On.f onB
  simp only [solsticeref01_On.j0, rIn_eq, Option.bind_some]
  by_cases h1 : a = 1
  · subst h1
    rw [if_pos rfl]
    cases (decide (1 ≤ c) && decide (c ≤ 31)) <;> simp
  · rw [if_neg h1]
    by_cases h2 : a = 2
    · subst h2
      rw [if_pos rfl]
      cases (decide (0 ≤ b) && decide (b ≤ 6)) <;> simp
    · rw [if_neg h2]
      by_cases h3 : a = 3
      · subst h3
        rw [if_pos rfl]
        cases (decide (0 ≤ b) && decide (b ≤ 6)) <;> simp
      · rw [if_neg h3]
        by_cases h4 : a = 4
        · subst h4
          cases (decide (0 ≤ b) && decide (b ≤ 6)) <;> simp
        · simp [h1, h2, h3, h4]
theorem rat_eq (a b : Int) : solsticeref01_At.f a b = some (atB a b) := by
  unfold solsticeref01_At.f atB
  simp only [rIn_eq, Option.bind_some]
  cases (decide (-345600 ≤ a) && decide (a ≤ 345600)) <;> simp
theorem rlen2000 : ((List.range 12).all fun m => decide (solsticeref01_Len.f 10 2000 ((m : Int) + 1) = some (lenM ((m : Int) + 1)))) = true := by decide +kernel
theorem rlen_eq (m : Int) (h0 : 1 ≤ m) (h1 : m ≤ 12) (k : Nat) (hk : 10 ≤ k) : solsticeref01_Len.f k 2000 m = some (lenM m) := by
  have := of_decide_eq_true (of_range rlen2000 (m - 1) (by omega) (by omega))
  rw [Int.toNat_of_nonneg (by omega), show m - 1 + 1 = m by omega] at this
  exact at_rounds (g := fun k => solsticeref01_Len.f k 2000 m) (fun k => solsticeref01_Len.mono 2000 m k) hk this
theorem rrule_eq (n : ByteArray) (f t m kd w d s ak sv : Int) (l : ByteArray) (hn : n.size ≤ 1000) (hl : l.size ≤ 1000) (k : Nat) (hk : 1200 < k) :
    solsticeref09_Rule.f k n f t m kd w d s ak sv l = some (rightB n f t m kd w d s ak sv l) := by
  obtain ⟨k, rfl⟩ : ∃ q, k = q + 1 := ⟨k - 1, by omega⟩
  unfold solsticeref09_Rule.f
  rw [rname_eq n hn _ (by omega), Option.bind_some]
  simp only [rin_eq, ron_eq kd w d (k + 1) (by omega), rat_eq, Option.bind_some, rletter_eq l hl (k + 1) (by omega), solsticeref09_day.f]
  have hf : solsticeref09_Rule.j0 (k + 1) true n f t m kd w d s ak sv l = some false := by simp only [solsticeref09_Rule.j0, if_true]
  unfold rightB
  have e1 : (decide (1 ≤ f) && decide (f ≤ 9999)) = true → (decide (f ≤ t) && decide (t ≤ 9999)) = true → (decide (1 ≤ f) && (decide (f ≤ t) && decide (t ≤ 9999))) = true := by intro h1 h2; simp at h1 h2 ⊢; omega
  have e2 : (decide (1 ≤ f) && (decide (f ≤ t) && decide (t ≤ 9999))) = true → (decide (1 ≤ f) && decide (f ≤ 9999)) = true ∧ (decide (f ≤ t) && decide (t ≤ 9999)) = true := by intro h; simp at h ⊢; omega
  have e3 : (decide (-86399 ≤ sv) && decide (sv ≤ 86399)) = (decide (-86400 < sv) && decide (sv < 86400)) := by
    rw [show decide (-86399 ≤ sv) = decide (-86400 < sv) from decide_eq_decide.mpr (by omega), show decide (sv ≤ 86399) = decide (sv < 86400) from decide_eq_decide.mpr (by omega)]
  rw [e3]
  generalize (decide (-86400 < sv) && decide (sv < 86400)) = X5
  generalize nameB n = X0
  cases X0 with
  | false => rw [if_neg (by decide), hf]; simp
  | true =>
    rw [if_pos rfl]
    by_cases hy : (decide (1 ≤ f) && (decide (f ≤ t) && decide (t ≤ 9999))) = true
    · obtain ⟨hy1, hy2⟩ := e2 hy
      rw [if_pos hy1, if_pos hy2, hy]
      by_cases hm : (decide (1 ≤ m) && decide (m ≤ 12)) = true
      · rw [if_pos hm, hm]
        have hm' : 1 ≤ m ∧ m ≤ 12 := by simpa using hm
        cases onB kd w d with
        | false => rw [if_neg (by decide), hf]; simp
        | true =>
          rw [if_pos rfl]
          cases atB s ak with
          | false => rw [if_neg (by decide), hf]; simp
          | true =>
            rw [if_pos rfl]
            cases X5 with
            | false => rw [if_neg (by decide), hf]; simp
            | true =>
              rw [if_pos rfl]
              cases letterB l with
              | false => rw [Bool.not_false, hf]; simp
              | true =>
                rw [Bool.not_true]
                simp only [solsticeref09_Rule.j0]
                rw [if_neg (by decide), rlen_eq m hm'.1 hm'.2 k (by omega), Option.bind_some]
                unfold dayB
                by_cases h2 : kd = 2
                · subst h2
                  by_cases h3 : m = 2
                  · rw [if_pos h3, if_neg (by decide)]; simp
                  · rw [if_neg h3]; simp
                · have e : (kd == 2) = false := by simpa using h2
                  rw [e, Bool.false_or]
                  by_cases h3 : m = 2
                  · rw [if_pos h3]
                    subst h3
                    by_cases h4 : kd = 1
                    · rw [if_pos h4]
                      by_cases h5 : t > f
                      · rw [if_pos h5, if_neg h2, if_pos ⟨rfl, h4, h5⟩]; simp
                      · rw [if_neg h5, if_neg h2, if_neg (by omega)]; simp
                    · rw [if_neg h4, if_neg h2, if_neg (by omega)]; simp
                  · rw [if_neg h3, if_neg h2, if_neg (by omega)]; simp
      · rw [if_neg hm, hf, Bool.eq_false_iff.mpr hm]; simp
    · rw [Bool.eq_false_iff.mpr hy]
      by_cases hy1 : (decide (1 ≤ f) && decide (f ≤ 9999)) = true
      · rw [if_pos hy1, if_neg (fun h => hy (e1 hy1 h)), hf]; simp
      · rw [if_neg hy1, hf]; simp
theorem wakes09b (k : Nat) (h : 700 ≤ k) : solsticelaw09_wakes.f k = some true := at_rounds (g := solsticelaw09_wakes.f) (solsticelaw09_wakes.mono) h (by kernel_rfl)
theorem text_bad (n : ByteArray) (f t m kd w d s ak sv : Int) (l : ByteArray) (hn : n.size ≤ 1000000) (hl : l.size ≤ 1000000) (k : Nat) (hk : 1010 < k) (h : rightB n f t m kd w d s ak sv l = false) :
    rule_Text.f k n f t m kd w d s ak sv l = some (⟨#[]⟩, 10) := by
  unfold rule_Text.f
  rw [check_eq n f t m kd w d s ak sv l hn hl k hk, h, Option.bind_some, if_neg (show ¬ ((if false = true then (0 : Int) else 10) = 0) by decide)]
  rfl
theorem bent_j1 (n : ByteArray) (f t m kd w d s ak sv : Int) (l : ByteArray) (n' : ByteArray) (f' t' m' kd' w' d' s' ak' sv' : Int) (l' : ByteArray) (hn : n.size ≤ 1000) (hl : l.size ≤ 1000) (hn' : n'.size ≤ 1000) (hl' : l'.size ≤ 1000)
    (h : rightB n f t m kd w d s ak sv l = true) (h' : rightB n' f' t' m' kd' w' d' s' ak' sv' l' = false) :
    solsticelaw09_RuleBent.j1 1300 n f t m kd w d s ak sv l n' f' t' m' kd' w' d' s' ak' sv' l' = some true := by
  simp only [solsticelaw09_RuleBent.j1]
  rw [text_bad n' f' t' m' kd' w' d' s' ak' sv' l' (by omega) (by omega) 1299 (by omega) h', Option.bind_some, check_eq n f t m kd w d s ak sv l (by omega) (by omega) 1299 (by omega), h, Option.bind_some, if_pos (show (if true = true then (0 : Int) else 10) = 0 from rfl),
    check_eq n' f' t' m' kd' w' d' s' ak' sv' l' (by omega) (by omega) 1299 (by omega), h', Option.bind_some, if_pos (show (if false = true then (0 : Int) else 10) = 10 from rfl), if_pos rfl, if_pos (show (⟨#[]⟩ : ByteArray).toList = ([] : List UInt8) from by decide +kernel), wakes09b 1299 (by omega)]
  rfl
theorem head_of (n : ByteArray) (h : nameB n = true) : n.size ≤ 40 := by
  unfold nameB at h
  simp only [Bool.and_eq_true, decide_eq_true_eq] at h
  exact h.1.1.2
theorem bt_cons (b : UInt8) (n : ByteArray) : bt ((⟨#[b]⟩ : ByteArray) ++ n) 0 = (b.toNat : Int) := by
  have e : (⟨#[b]⟩ : ByteArray) ++ n = ⟨(b :: n.data.toList).toArray⟩ := by
    apply ByteArray.ext
    rw [ByteArray.data_append]
    simp
  rw [e]
  exact bt_list (b :: n.data.toList) 0 (by simp)
theorem name_one (n : ByteArray) : nameB ((⟨#[49]⟩ : ByteArray) ++ n) = false := by
  unfold nameB
  rw [bt_cons, show headOk (((49 : UInt8).toNat : Int)) = false by decide, Bool.and_false]
theorem pure_RuleBent (n : ByteArray) (f t m kd w d s ak sv : Int) (l : ByteArray) (how : Int) (hf : -9223372036854775808 ≤ f ∧ f < 9223372036854775808) :
    ∃ k, solsticelaw09_RuleBent.f k n f t m kd w d s ak sv l how = some true := by
  refine ⟨1301, ?_⟩
  unfold solsticelaw09_RuleBent.f
  by_cases z1 : (n.size : Int) > 200
  · rw [if_pos z1]; simp only [solsticelaw09_RuleBent.j0, if_true]
  · rw [if_neg z1]
    by_cases z2 : (l.size : Int) > 200
    · rw [if_pos z2]; simp only [solsticelaw09_RuleBent.j0, if_true]
    · rw [if_neg z2, rrule_eq n f t m kd w d s ak sv l (by omega) (by omega) 1301 (by omega), Option.bind_some]
      cases h : rightB n f t m kd w d s ak sv l with
      | false => rw [Bool.not_false]; simp only [solsticelaw09_RuleBent.j0, if_true]
      | true =>
        have hr := h
        unfold rightB at hr
        simp only [Bool.and_eq_true, decide_eq_true_eq] at hr
        obtain ⟨⟨⟨⟨⟨⟨⟨hn, hy1, hy2, hy3⟩, hm⟩, ho⟩, hd⟩, ha⟩, hsv⟩, hl⟩ := hr
        have ln := head_of n hn
        simp only [solsticelaw09_RuleBent.j0]
        rw [Bool.not_true, if_neg (by decide)]
        generalize Int.tmod (IntKind.u64.wrap how) 9 = q
        by_cases c0 : q = 0
        · rw [if_pos c0]
          exact bent_j1 _ _ _ _ _ _ _ _ _ _ _ _ _ _ _ _ _ _ _ _ _ _ (by omega) (by omega) (by omega) (by omega) h (by unfold rightB; rw [show decide ((1 : Int) ≤ 0) = false by decide]; simp)
        · rw [if_neg c0]
          by_cases c1 : q = 1
          · rw [if_pos c1]
            refine bent_j1 _ _ _ _ _ _ _ _ _ _ _ _ _ _ _ _ _ _ _ _ _ _ (by omega) (by omega) (by omega) (by omega) h ?_
            rw [wrap_idd (by omega) (by omega)]
            unfold rightB
            rw [show decide (f ≤ f - 1) = false from decide_eq_false (by omega)]
            simp
          · rw [if_neg c1]
            by_cases c2 : q = 2
            · rw [if_pos c2]
              exact bent_j1 _ _ _ _ _ _ _ _ _ _ _ _ _ _ _ _ _ _ _ _ _ _ (by omega) (by omega) (by omega) (by omega) h (by unfold rightB; rw [show decide ((13 : Int) ≤ 12) = false by decide]; simp)
            · rw [if_neg c2]
              by_cases c3 : q = 3
              · rw [if_pos c3]
                refine bent_j1 _ _ _ _ _ _ _ _ _ _ _ _ _ _ _ _ _ _ _ _ _ _ (by omega) (by omega) (by omega) (by omega) h ?_
                unfold rightB
                have : dayB f t 4 1 31 = false := by unfold dayB lenM; simp
                rw [this]
                simp
              · rw [if_neg c3]
                by_cases c4 : q = 4
                · rw [if_pos c4]
                  exact bent_j1 _ _ _ _ _ _ _ _ _ _ _ _ _ _ _ _ _ _ _ _ _ _ (by omega) (by omega) (by omega) (by omega) h (by unfold rightB; rw [show decide ((86400 : Int) < 86400) = false by decide]; simp)
                · rw [if_neg c4]
                  by_cases c5 : q = 5
                  · rw [if_pos c5, if_pos (by omega)]
                    refine bent_j1 _ _ _ _ _ _ _ _ _ _ _ _ _ _ _ _ _ _ _ _ _ _ (by omega) (by omega) (by rw [ByteArray.size_append]; show 1 + n.size ≤ 1000; omega) (by omega) h ?_
                    unfold rightB
                    rw [name_one]
                    rfl
                  · rw [if_neg c5]
                    by_cases c6 : q = 6
                    · rw [if_pos c6]
                      refine bent_j1 _ _ _ _ _ _ _ _ _ _ _ _ _ _ _ _ _ _ _ _ _ _ (by omega) (by omega) (by omega) (by decide) h ?_
                      unfold rightB
                      rw [show letterB ⟨#[45]⟩ = false by decide +kernel, Bool.and_false]
                    · rw [if_neg c6]
                      by_cases c7 : q = 7
                      · rw [if_pos c7]
                        refine bent_j1 _ _ _ _ _ _ _ _ _ _ _ _ _ _ _ _ _ _ _ _ _ _ (by omega) (by omega) (by omega) (by omega) h ?_
                        unfold rightB
                        rw [show atB 345601 ak = false by unfold atB; simp]
                        simp
                      · rw [if_neg c7]
                        refine bent_j1 _ _ _ _ _ _ _ _ _ _ _ _ _ _ _ _ _ _ _ _ _ _ (by omega) (by omega) (by omega) (by omega) h ?_
                        unfold rightB
                        rw [show dayB 2000 2004 2 1 29 = false by decide]
                        simp
end Go.Proofs.YtfhemdnjoedioaaGreatDoor.X
end
