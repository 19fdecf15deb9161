-- written by wip/tools/xprint.py for this seat; Lean checks it
import Derived.Test.YtijekkoifhmdlaaDoorX
import Derived.Test.YtijekkoifhmdlaaDoorF12
import Derived.Test.YtijekkoifhmdlaaDoorF13
import Derived.Test.YtijekkoifhmdlaaDoorF14
import Derived.Test.YtijekkoifhmdlaaDoorF15
import Derived.Test.YtijekkoifhmdlaaDoorF8
namespace Go.Proofs.YtijekkoifhmdlaaDoor.X
open Go.RowKit Go.Proofs.YtijekkoifhmdlaaDoorW.PrintWords Go.Proofs.YtijekkoifhmdlaaDoorW.PrintLast Go.Proofs.YtijekkoifhmdlaaDoorW.PrintMore
attribute [local go_sem] max2_int min2_int max_two min_two max_three min_three max_four min_four
set_option linter.unusedVariables false
set_option linter.unusedSimpArgs false

/-! ### solsticelaw06_wakes: function 10 -/
def solsticelaw06_wakes.f (k : Nat)  : Option (Bool) := (words_Month.f k (⟨#[115, 69, 112]⟩ : ByteArray)).bind fun bt169 => ((words_Weekday.f k (⟨#[84, 104, 117, 114, 115]⟩ : ByteArray)).bind fun bt171 => ((words_Year.f k (⟨#[109]⟩ : ByteArray)).bind fun bt173 => ((words_Name.f 3 0).bind fun bt175 => ((words_Line.f k (⟨#[122]⟩ : ByteArray)).bind fun bt177 => (if bt169.2 = 0 then (if bt169.1 = 9 then (if bt171.2 = 0 then (if bt171.1 = 4 then (if bt173.2 = 7 then (if bt175.2 = 0 then (if bt175.1.toList = ([83, 117, 110, 100, 97, 121] : List UInt8) then (if bt177.2 = 0 then (some (bt177.1 == 2)) else (none)) else (none)) else (none)) else (none)) else (none)) else (none)) else (none)) else (none))))))
theorem solsticelaw06_wakes.mono : ∀ k, LeO (solsticelaw06_wakes.f k ) (solsticelaw06_wakes.f (k + 1) ) := by
 intro  k
 unfold solsticelaw06_wakes.f
 repeat' first
   | (with_reducible exact words_Line.mono _ _)
   | (with_reducible exact words_Month.mono _ _)
   | (with_reducible exact words_Weekday.mono _ _)
   | (with_reducible exact words_Year.mono _ _)
   | (with_reducible exact LeO.refl _)
   | (with_reducible exact LeO.none _)
   | (with_reducible refine LeO.ite ?_ ?_)
   | (with_reducible refine LeO.bind ?_ (fun _ => ?_))
   | exact words_Line.mono _ _
   | exact words_Month.mono _ _
   | exact words_Weekday.mono _ _
   | exact words_Year.mono _ _
   | exact LeO.none _
   | refine LeO.ite ?_ ?_
   | refine LeO.bind ?_ (fun _ => ?_)
set_option maxHeartbeats 8000000 in
set_option maxRecDepth 100000 in
theorem solsticelaw06_wakes.calls (k : Nat)  (r : Bool) (w : World) (hG : GW w) (h : solsticelaw06_wakes.f k  = some r) :
  Calls Tryd.prog 10 #[] w fun e w' => e = .returned (.bool r) ∧ Below w.heap.size w w' := by
 have HG := Aside0.mk hG
 clear hG
 have HB := Aside0.mk (Below.refl w.heap.size w)
 have H : ((words_Month.f k (⟨#[115, 69, 112]⟩ : ByteArray)).bind fun bt169 => ((words_Weekday.f k (⟨#[84, 104, 117, 114, 115]⟩ : ByteArray)).bind fun bt171 => ((words_Year.f k (⟨#[109]⟩ : ByteArray)).bind fun bt173 => ((words_Name.f 3 0).bind fun bt175 => ((words_Line.f k (⟨#[122]⟩ : ByteArray)).bind fun bt177 => (if bt169.2 = 0 then (if bt169.1 = 9 then (if bt171.2 = 0 then (if bt171.1 = 4 then (if bt173.2 = 7 then (if bt175.2 = 0 then (if bt175.1.toList = ([83, 117, 110, 100, 97, 121] : List UInt8) then (if bt177.2 = 0 then (some (bt177.1 == 2)) else (none)) else (none)) else (none)) else (none)) else (none)) else (none)) else (none)) else (none))))))) = some r := h
 clear h
 replace H := Option.bind_eq_some_iff.mp H
 obtain ⟨⟨t169, t170⟩, A10, H⟩ := H
 (try dsimp only at H)
 have A1 := Aside0.mk A10
 clear A10
 replace H := Option.bind_eq_some_iff.mp H
 obtain ⟨⟨t171, t172⟩, A20, H⟩ := H
 (try dsimp only at H)
 have A2 := Aside0.mk A20
 clear A20
 replace H := Option.bind_eq_some_iff.mp H
 obtain ⟨⟨t173, t174⟩, A30, H⟩ := H
 (try dsimp only at H)
 have A3 := Aside0.mk A30
 clear A30
 replace H := Option.bind_eq_some_iff.mp H
 obtain ⟨⟨t175, t176⟩, A40, H⟩ := H
 (try dsimp only at H)
 have A4 := Aside0.mk A40
 clear A40
 replace H := Option.bind_eq_some_iff.mp H
 obtain ⟨⟨t177, t178⟩, A50, H⟩ := H
 (try dsimp only at H)
 have A5 := Aside0.mk A50
 clear A50
 by_cases c6 : t170 = 0
 ·rw [if_pos c6] at H
  have c6b0 : (t170 == 0) = true := beq_iff_eq.mpr c6
  have c6b1 : (t170 != 0) = false := bne_eq_false_iff_eq.mpr c6
  clear c6
  by_cases c7 : t169 = 9
  ·rw [if_pos c7] at H
   have c7b0 : (t169 == 9) = true := beq_iff_eq.mpr c7
   have c7b1 : (t169 != 9) = false := bne_eq_false_iff_eq.mpr c7
   clear c7
   by_cases c8 : t172 = 0
   ·rw [if_pos c8] at H
    have c8b0 : (t172 == 0) = true := beq_iff_eq.mpr c8
    have c8b1 : (t172 != 0) = false := bne_eq_false_iff_eq.mpr c8
    clear c8
    by_cases c9 : t171 = 4
    ·rw [if_pos c9] at H
     have c9b0 : (t171 == 4) = true := beq_iff_eq.mpr c9
     have c9b1 : (t171 != 4) = false := bne_eq_false_iff_eq.mpr c9
     clear c9
     by_cases c10 : t174 = 7
     ·rw [if_pos c10] at H
      have c10b0 : (t174 == 7) = true := beq_iff_eq.mpr c10
      have c10b1 : (t174 != 7) = false := bne_eq_false_iff_eq.mpr c10
      clear c10
      by_cases c11 : t176 = 0
      ·rw [if_pos c11] at H
       have c11b0 : (t176 == 0) = true := beq_iff_eq.mpr c11
       have c11b1 : (t176 != 0) = false := bne_eq_false_iff_eq.mpr c11
       clear c11
       by_cases c12 : t175.toList = ([83, 117, 110, 100, 97, 121] : List UInt8)
       ·rw [if_pos c12] at H
        have c12b0 : (t175.toList == ([83, 117, 110, 100, 97, 121] : List UInt8)) = true := beq_iff_eq.mpr c12
        have c12b1 : (t175.toList != ([83, 117, 110, 100, 97, 121] : List UInt8)) = false := bne_eq_false_iff_eq.mpr c12
        clear c12
        by_cases c13 : t178 = 0
        ·rw [if_pos c13] at H
         have c13b0 : (t178 == 0) = true := beq_iff_eq.mpr c13
         have c13b1 : (t178 != 0) = false := bne_eq_false_iff_eq.mpr c13
         clear c13
         obtain rfl := Option.some.inj H
         go_enter Tryd.func10, Tryd.ntmps10
         go_wp2_with (first | ((with_reducible refine gate_callee (f := 13) rfl ?_); refine goesL_ (some 12) rfl rfl Tryd.func13 (by kernel_rfl) rfl #[.string (⟨#[115, 69, 112]⟩ : ByteArray)] rfl (by (try simp only [List.map_toArray, List.map_cons, List.map_nil]); first | done | rfl | (simp only [List.length_drop, List.length_take]; rfl)) ?_; (with_reducible refine (words_Month.calls k (⟨#[115, 69, 112]⟩ : ByteArray) t169 t170 _ ?side1 A1.out).mono ?_); (case side1 => exact GW.on HG.out (by repeat (first | (with_reducible first | exact HB.out | apply bA | apply bN | apply below_drew1) | exact HB.out))); rintro e w14 ⟨rfl, hb⟩; refine ⟨_, rfl, ?_⟩; have n0_ := Aside0.mk (below_step (by repeat (first | (with_reducible first | exact HB.out | apply bA | apply bN | apply below_drew1) | exact HB.out)) hb); clear HB; have HB := n0_; clear n0_; (try clear hb); (try clear hb2); (try clear hk); (try clear hi)) | ((with_reducible refine gate_callee (f := 14) rfl ?_); refine goesL_ (some 16) rfl rfl Tryd.func14 (by kernel_rfl) rfl #[.string (⟨#[84, 104, 117, 114, 115]⟩ : ByteArray)] rfl (by (try simp only [List.map_toArray, List.map_cons, List.map_nil]); first | done | rfl | (simp only [List.length_drop, List.length_take]; rfl)) ?_; (with_reducible refine (words_Weekday.calls k (⟨#[84, 104, 117, 114, 115]⟩ : ByteArray) t171 t172 _ ?side1 A2.out).mono ?_); (case side1 => exact GW.on HG.out (by repeat (first | (with_reducible first | exact HB.out | apply bA | apply bN | apply below_drew1) | exact HB.out))); rintro e w15 ⟨rfl, hb⟩; refine ⟨_, rfl, ?_⟩; have n0_ := Aside0.mk (below_step (by repeat (first | (with_reducible first | exact HB.out | apply bA | apply bN | apply below_drew1) | exact HB.out)) hb); clear HB; have HB := n0_; clear n0_; (try clear hb); (try clear hb2); (try clear hk); (try clear hi)) | ((with_reducible refine gate_callee (f := 15) rfl ?_); refine goesL_ (some 20) rfl rfl Tryd.func15 (by kernel_rfl) rfl #[.string (⟨#[109]⟩ : ByteArray)] rfl (by (try simp only [List.map_toArray, List.map_cons, List.map_nil]); first | done | rfl | (simp only [List.length_drop, List.length_take]; rfl)) ?_; (with_reducible refine (words_Year.calls k (⟨#[109]⟩ : ByteArray) t173 t174 _ ?side1 A3.out).mono ?_); (case side1 => exact GW.on HG.out (by repeat (first | (with_reducible first | exact HB.out | apply bA | apply bN | apply below_drew1) | exact HB.out))); rintro e w16 ⟨rfl, hb⟩; refine ⟨_, rfl, ?_⟩; have n0_ := Aside0.mk (below_step (by repeat (first | (with_reducible first | exact HB.out | apply bA | apply bN | apply below_drew1) | exact HB.out)) hb); clear HB; have HB := n0_; clear n0_; (try clear hb); (try clear hb2); (try clear hk); (try clear hi)) | ((with_reducible refine gate_callee (f := 8) rfl ?_); refine goesL_ (some 24) rfl rfl Tryd.func8 (by kernel_rfl) rfl #[.int .i64 3, .int .i64 0] rfl (by (try simp only [List.map_toArray, List.map_cons, List.map_nil]); first | done | rfl | (simp only [List.length_drop, List.length_take]; rfl)) ?_; (with_reducible refine (words_Name.calls 3 0 t175 t176 _ ?side1 A4.out).mono ?_); (case side1 => exact GW.on HG.out (by repeat (first | (with_reducible first | exact HB.out | apply bA | apply bN | apply below_drew1) | exact HB.out))); rintro e w17 ⟨rfl, hb⟩; refine ⟨_, rfl, ?_⟩; have n0_ := Aside0.mk (below_step (by repeat (first | (with_reducible first | exact HB.out | apply bA | apply bN | apply below_drew1) | exact HB.out)) hb); clear HB; have HB := n0_; clear n0_; (try clear hb); (try clear hb2); (try clear hk); (try clear hi)) | ((with_reducible refine gate_callee (f := 12) rfl ?_); refine goesL_ (some 28) rfl rfl Tryd.func12 (by kernel_rfl) rfl #[.string (⟨#[122]⟩ : ByteArray)] rfl (by (try simp only [List.map_toArray, List.map_cons, List.map_nil]); first | done | rfl | (simp only [List.length_drop, List.length_take]; rfl)) ?_; (with_reducible refine (words_Line.calls k (⟨#[122]⟩ : ByteArray) t177 t178 _ ?side1 A5.out).mono ?_); (case side1 => exact GW.on HG.out (by repeat (first | (with_reducible first | exact HB.out | apply bA | apply bN | apply below_drew1) | exact HB.out))); rintro e w18 ⟨rfl, hb⟩; refine ⟨_, rfl, ?_⟩; have n0_ := Aside0.mk (below_step (by repeat (first | (with_reducible first | exact HB.out | apply bA | apply bN | apply below_drew1) | exact HB.out)) hb); clear HB; have HB := n0_; clear n0_; (try clear hb); (try clear hb2); (try clear hk); (try clear hi)))
         go_ret
         exact ⟨by first | rfl | (simp [errW_none, errW_some] <;> rfl) | (simp [*, errW_none, errW_some] <;> rfl), by repeat (first | (with_reducible first | exact HB.out | apply bA | apply bN | apply below_drew1) | exact HB.out)⟩
        ·rw [if_neg c13] at H
         exact absurd H (by simp)
       ·rw [if_neg c12] at H
        exact absurd H (by simp)
      ·rw [if_neg c11] at H
       exact absurd H (by simp)
     ·rw [if_neg c10] at H
      exact absurd H (by simp)
    ·rw [if_neg c9] at H
     exact absurd H (by simp)
   ·rw [if_neg c8] at H
    exact absurd H (by simp)
  ·rw [if_neg c7] at H
   exact absurd H (by simp)
 ·rw [if_neg c6] at H
  exact absurd H (by simp)

end Go.Proofs.YtijekkoifhmdlaaDoor.X
