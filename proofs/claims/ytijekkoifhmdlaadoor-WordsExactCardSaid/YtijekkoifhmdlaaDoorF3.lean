-- written by wip/tools/xprint.py for this seat; Lean checks it
import Derived.Test.YtijekkoifhmdlaaDoorX
import Derived.Test.YtijekkoifhmdlaaDoorF10
import Derived.Test.YtijekkoifhmdlaaDoorF5
import Derived.Test.YtijekkoifhmdlaaDoorF6
import Derived.Test.YtijekkoifhmdlaaDoorF7
import Derived.Test.YtijekkoifhmdlaaDoorF8
import Derived.Test.YtijekkoifhmdlaaDoorF9
namespace Go.Proofs.YtijekkoifhmdlaaDoor.X
open Go.RowKit Go.Proofs.YtijekkoifhmdlaaDoorW.PrintWords Go.Proofs.YtijekkoifhmdlaaDoorW.PrintLast Go.Proofs.YtijekkoifhmdlaaDoorW.PrintMore
attribute [local go_sem] max2_int min2_int max_two min_two max_three min_three max_four min_four
set_option linter.unusedVariables false
set_option linter.unusedSimpArgs false

/-! ### solsticelaw06_WordsExact: function 3 -/
mutual
def solsticelaw06_WordsExact.l0 : Nat → ByteArray → Int → Int → Int → Option (Bool)
  | 0, _, _, _, _ => none
  | k + 1, x0, x1, x2, x7 => if x7 ≤ 4 then ((solsticelaw06_tell.f k x7 x0).bind fun bt179 => ((solsticeref01_Word.f k x7 x0).bind fun t181 => (if t181 < 0 then (if bt179.2 = 7 then (if bt179.1 = 0 then (if t181 ≥ 0 then (if bt179.2 = 0 then ((solsticelaw06_first.f x7).bind fun t182 => (if bt179.1 = (wrap64 (t181 + t182)) then (solsticelaw06_WordsExact.l0 k x0 x1 x2 (wrap64 (x7 + 1))) else (some false))) else (some false)) else (solsticelaw06_WordsExact.l0 k x0 x1 x2 (wrap64 (x7 + 1)))) else (some false)) else (some false)) else (if t181 ≥ 0 then (if bt179.2 = 0 then ((solsticelaw06_first.f x7).bind fun t183 => (if bt179.1 = (wrap64 (t181 + t183)) then (solsticelaw06_WordsExact.l0 k x0 x1 x2 (wrap64 (x7 + 1))) else (some false))) else (some false)) else (solsticelaw06_WordsExact.l0 k x0 x1 x2 (wrap64 (x7 + 1))))))) else ((words_Name.f x1 x2).bind fun bt184 => ((solsticeref01_Words.f x1).bind fun t186 => ((solsticelaw06_first.f x1).bind fun t189 => (if (t186.length : Int) = 0 then (solsticelaw06_WordsExact.j1 k bt184.1 bt184.2 t186 (wrap64 (x2 - t189)) true) else ((solsticelaw06_first.f x1).bind fun t190 => (if x2 < t190 then (solsticelaw06_WordsExact.j1 k bt184.1 bt184.2 t186 (wrap64 (x2 - t189)) true) else ((solsticelaw06_first.f x1).bind fun t191 => (if (wrap64 (x2 - t191)) ≥ (t186.length : Int) then (solsticelaw06_WordsExact.j1 k bt184.1 bt184.2 t186 (wrap64 (x2 - t189)) true) else (solsticelaw06_WordsExact.j1 k bt184.1 bt184.2 t186 (wrap64 (x2 - t189)) (decide (x2 > 100)))))))))))
def solsticelaw06_WordsExact.j1 : Nat → ByteArray → Int → List ByteArray → Int → Bool → Option (Bool)
  | 0, _, _, _, _, _ => none
  | k + 1, x11, x12, x13, x14, x90 => if x90 = true then (if x12 = 1 then (if x11.toList = ([] : List UInt8) then ((solsticelaw06_wakes.f k).bind fun t192 => (some t192)) else (some false)) else (some false)) else (if x12 = 0 then (if 0 ≤ x14 then (if x14 < (x13.length : Int) then (if x11.toList = (rdOf ByteArray.empty x13 x14).toList then ((solsticelaw06_wakes.f k).bind fun t194 => (some t194)) else (some false)) else (none)) else (none)) else (some false))
end
def solsticelaw06_WordsExact.f (k : Nat) (a0 : ByteArray) (a1 : Int) (a2 : Int) : Option (Bool) := if (a0.size : Int) > 60 then (some true) else (solsticelaw06_WordsExact.l0 k a0 a1 a2 1)
theorem solsticelaw06_WordsExact.mono_l : ∀ k, (∀ y0 y1 y2 y3, LeO (solsticelaw06_WordsExact.l0 k y0 y1 y2 y3) (solsticelaw06_WordsExact.l0 (k + 1) y0 y1 y2 y3)) ∧ (∀ y0 y1 y2 y3 y4, LeO (solsticelaw06_WordsExact.j1 k y0 y1 y2 y3 y4) (solsticelaw06_WordsExact.j1 (k + 1) y0 y1 y2 y3 y4))
  | 0 => ⟨fun _ _ _ _ r h => by simp [solsticelaw06_WordsExact.l0] at h, fun _ _ _ _ _ r h => by simp [solsticelaw06_WordsExact.j1] at h⟩
  | k + 1 => by
    obtain ⟨ih0, ih1⟩ := solsticelaw06_WordsExact.mono_l k
    refine ⟨?_, ?_⟩
    · intro y0 y1 y2 y3
      unfold solsticelaw06_WordsExact.l0
      repeat' first
      | (with_reducible exact ih0 _ _ _ _)
      | (with_reducible exact ih1 _ _ _ _ _)
      | (with_reducible exact solsticelaw06_tell.mono _ _ _)
      | (with_reducible exact solsticelaw06_wakes.mono _)
      | (with_reducible exact solsticeref01_Word.mono _ _ _)
      | (with_reducible exact LeO.refl _)
      | (with_reducible exact LeO.none _)
      | (with_reducible refine LeO.ite ?_ ?_)
      | (with_reducible refine LeO.bind ?_ (fun _ => ?_))
      | exact ih0 _ _ _ _
      | exact ih1 _ _ _ _ _
      | exact solsticelaw06_tell.mono _ _ _
      | exact solsticelaw06_wakes.mono _
      | exact solsticeref01_Word.mono _ _ _
      | exact LeO.none _
      | refine LeO.ite ?_ ?_
      | refine LeO.bind ?_ (fun _ => ?_)
    · intro y0 y1 y2 y3 y4
      unfold solsticelaw06_WordsExact.j1
      repeat' first
      | (with_reducible exact ih0 _ _ _ _)
      | (with_reducible exact ih1 _ _ _ _ _)
      | (with_reducible exact solsticelaw06_tell.mono _ _ _)
      | (with_reducible exact solsticelaw06_wakes.mono _)
      | (with_reducible exact solsticeref01_Word.mono _ _ _)
      | (with_reducible exact LeO.refl _)
      | (with_reducible exact LeO.none _)
      | (with_reducible refine LeO.ite ?_ ?_)
      | (with_reducible refine LeO.bind ?_ (fun _ => ?_))
      | exact ih0 _ _ _ _
      | exact ih1 _ _ _ _ _
      | exact solsticelaw06_tell.mono _ _ _
      | exact solsticelaw06_wakes.mono _
      | exact solsticeref01_Word.mono _ _ _
      | exact LeO.none _
      | refine LeO.ite ?_ ?_
      | refine LeO.bind ?_ (fun _ => ?_)
theorem solsticelaw06_WordsExact.mono : ∀ a0 a1 a2 k, LeO (solsticelaw06_WordsExact.f k a0 a1 a2) (solsticelaw06_WordsExact.f (k + 1) a0 a1 a2) := by
  intro a0 a1 a2 k
  obtain ⟨ih0, ih1⟩ := solsticelaw06_WordsExact.mono_l k
  unfold solsticelaw06_WordsExact.f
  repeat' first
      | (with_reducible exact ih0 _ _ _ _)
      | (with_reducible exact ih1 _ _ _ _ _)
      | (with_reducible exact solsticelaw06_tell.mono _ _ _)
      | (with_reducible exact solsticelaw06_wakes.mono _)
      | (with_reducible exact solsticeref01_Word.mono _ _ _)
      | (with_reducible exact LeO.refl _)
      | (with_reducible exact LeO.none _)
      | (with_reducible refine LeO.ite ?_ ?_)
      | (with_reducible refine LeO.bind ?_ (fun _ => ?_))
      | exact ih0 _ _ _ _
      | exact ih1 _ _ _ _ _
      | exact solsticelaw06_tell.mono _ _ _
      | exact solsticelaw06_wakes.mono _
      | exact solsticeref01_Word.mono _ _ _
      | exact LeO.none _
      | refine LeO.ite ?_ ?_
      | refine LeO.bind ?_ (fun _ => ?_)
set_option maxHeartbeats 8000000 in
set_option maxRecDepth 100000 in
theorem solsticelaw06_WordsExact.calls (k : Nat) (a0 : ByteArray) (a1 : Int) (a2 : Int) (r : Bool) (w : World) (hG : GW w) (h : solsticelaw06_WordsExact.f k a0 a1 a2 = some r) :
    Calls Tryd.prog 3 #[.string a0, .int .i64 a1, .int .i64 a2] w fun e w' => e = .returned (.bool r) ∧ Below w.heap.size w w' := by
  have HG := Aside0.mk hG
  clear hG
  have HB := Aside0.mk (Below.refl w.heap.size w)
  have H : (if (a0.size : Int) > 60 then (some true) else (solsticelaw06_WordsExact.l0 k a0 a1 a2 1)) = some r := h
  clear h
  by_cases c4 : (a0.size : Int) > 60
  · rw [if_pos c4] at H
    have c4b0 : decide (60 < (a0.size : Int)) = true := decide_eq_true c4
    have c4b1 : decide (60 < a0.size) = true := decide_eq_true (by omega)
    clear c4
    obtain rfl := Option.some.inj H
    go_enter Tryd.func3, Tryd.ntmps3
    go_wp2
    go_ret
    exact ⟨by first | rfl | (simp [errW_none, errW_some] <;> rfl) | (simp [*, errW_none, errW_some] <;> rfl), by repeat (first | (with_reducible first | exact HB.out | apply below_alloc | apply pw_below_drewN | apply below_drew1) | exact HB.out)⟩
  · rw [if_neg c4] at H
    have c4b0 : decide (60 < (a0.size : Int)) = false := decide_eq_false c4
    have c4b1 : decide (60 < a0.size) = false := decide_eq_false (by omega)
    clear c4
    have H' := Aside0.mk H
    clear H
    go_enter Tryd.func3, Tryd.ntmps3
    go_wp2
    go_loopg [7] k (fun kq v7 w' => ∃ (x7_1 : Int), v7 = .int .i64 x7_1 ∧ Aside0 (solsticelaw06_WordsExact.l0 kq a0 a1 a2 x7_1 = some r) ∧ Aside0 (kq ≤ k) ∧ Aside0 (Below w.heap.size w w'))
    case atStart => exact ⟨(1), (by first | rfl | (simp; done) | (simp [*]; done)), H', ⟨Nat.le_refl _⟩, ⟨by repeat (first | (with_reducible first | exact HB.out | apply below_alloc | apply pw_below_drewN | apply below_drew1) | exact HB.out)⟩⟩
    case round =>
      clear H'
      try clear p2
      try clear c3
      try clear c4
      try clear c4b0
      try clear c4b1
      obtain ⟨x7_1, rfl, HA, HK1, HB⟩ := hrel
      cases gk with
      | zero => exact absurd HA.out (by simp [solsticelaw06_WordsExact.l0])
      | succ k1 =>
        have H := HA.out
        clear HA
        simp only [solsticelaw06_WordsExact.l0] at H
        by_cases c5 : x7_1 ≤ 4
        · rw [if_pos c5] at H
          have c5b0 : decide (x7_1 ≤ 4) = true := decide_eq_true c5
          clear c5
          replace H := Option.bind_eq_some_iff.mp H
          obtain ⟨⟨t179, t180⟩, A60, H⟩ := H
          replace H : ((solsticeref01_Word.f k1 x7_1 a0).bind fun t181 => (if t181 < 0 then (if t180 = 7 then (if t179 = 0 then (if t181 ≥ 0 then (if t180 = 0 then ((solsticelaw06_first.f x7_1).bind fun t182 => (if t179 = (wrap64 (t181 + t182)) then (solsticelaw06_WordsExact.l0 k1 a0 a1 a2 (wrap64 (x7_1 + 1))) else (some false))) else (some false)) else (solsticelaw06_WordsExact.l0 k1 a0 a1 a2 (wrap64 (x7_1 + 1)))) else (some false)) else (some false)) else (if t181 ≥ 0 then (if t180 = 0 then ((solsticelaw06_first.f x7_1).bind fun t183 => (if t179 = (wrap64 (t181 + t183)) then (solsticelaw06_WordsExact.l0 k1 a0 a1 a2 (wrap64 (x7_1 + 1))) else (some false))) else (some false)) else (solsticelaw06_WordsExact.l0 k1 a0 a1 a2 (wrap64 (x7_1 + 1)))))) = some r := H
          have A6 := Aside0.mk A60
          clear A60
          replace H := Option.bind_eq_some_iff.mp H
          obtain ⟨t181, A70, H⟩ := H
          replace H : (if t181 < 0 then (if t180 = 7 then (if t179 = 0 then (if t181 ≥ 0 then (if t180 = 0 then ((solsticelaw06_first.f x7_1).bind fun t182 => (if t179 = (wrap64 (t181 + t182)) then (solsticelaw06_WordsExact.l0 k1 a0 a1 a2 (wrap64 (x7_1 + 1))) else (some false))) else (some false)) else (solsticelaw06_WordsExact.l0 k1 a0 a1 a2 (wrap64 (x7_1 + 1)))) else (some false)) else (some false)) else (if t181 ≥ 0 then (if t180 = 0 then ((solsticelaw06_first.f x7_1).bind fun t183 => (if t179 = (wrap64 (t181 + t183)) then (solsticelaw06_WordsExact.l0 k1 a0 a1 a2 (wrap64 (x7_1 + 1))) else (some false))) else (some false)) else (solsticelaw06_WordsExact.l0 k1 a0 a1 a2 (wrap64 (x7_1 + 1))))) = some r := H
          have A7 := Aside0.mk A70
          clear A70
          by_cases c8 : t181 < 0
          · rw [if_pos c8] at H
            have c8b0 : decide (t181 < 0) = true := decide_eq_true c8
            clear c8
            by_cases c9 : t180 = 7
            · rw [if_pos c9] at H
              have c9b0 : (t180 == 7) = true := beq_iff_eq.mpr c9
              have c9b1 : (t180 != 7) = false := bne_eq_false_iff_eq.mpr c9
              clear c9
              by_cases c10 : t179 = 0
              · rw [if_pos c10] at H
                have c10b0 : (t179 == 0) = true := beq_iff_eq.mpr c10
                have c10b1 : (t179 != 0) = false := bne_eq_false_iff_eq.mpr c10
                clear c10
                by_cases c11 : t181 ≥ 0
                · rw [if_pos c11] at H
                  have c11b0 : decide (0 ≤ t181) = true := decide_eq_true c11
                  clear c11
                  by_cases c12 : t180 = 0
                  · rw [if_pos c12] at H
                    have c12b0 : (t180 == 0) = true := beq_iff_eq.mpr c12
                    have c12b1 : (t180 != 0) = false := bne_eq_false_iff_eq.mpr c12
                    clear c12
                    replace H := Option.bind_eq_some_iff.mp H
                    obtain ⟨t182, A130, H⟩ := H
                    replace H : (if t179 = (wrap64 (t181 + t182)) then (solsticelaw06_WordsExact.l0 k1 a0 a1 a2 (wrap64 (x7_1 + 1))) else (some false)) = some r := H
                    have A13 := Aside0.mk A130
                    clear A130
                    by_cases c14 : t179 = (wrap64 (t181 + t182))
                    · rw [if_pos c14] at H
                      have c14b0 : (t179 == (wrap64 (t181 + t182))) = true := beq_iff_eq.mpr c14
                      have c14b1 : (t179 != (wrap64 (t181 + t182))) = false := bne_eq_false_iff_eq.mpr c14
                      clear c14
                      have H' := Aside0.mk H
                      clear H
                      go_wp2_with (first | ((with_reducible refine gate_callee (f := 5) rfl ?_); refine goesL_ (some 25) rfl rfl Tryd.func5 (by kernel_rfl) rfl #[.int .i64 x7_1, .string a0] rfl (by (try simp only [List.map_toArray, List.map_cons, List.map_nil]); first | done | rfl | (simp only [List.length_drop, List.length_take]; rfl)) ?_; (with_reducible refine (solsticelaw06_tell.calls k1 x7_1 a0 t179 t180 _ ?side1 A6.out).mono ?_); (case side1 => exact GW.on HG.out (by repeat (first | (with_reducible first | exact HB.out | apply below_alloc | apply pw_below_drewN | apply below_drew1) | exact HB.out))); rintro e w15 ⟨rfl, hb⟩; refine ⟨_, rfl, ?_⟩; have n0_ := Aside0.mk (below_step (by repeat (first | (with_reducible first | exact HB.out | apply below_alloc | apply pw_below_drewN | apply below_drew1) | exact HB.out)) hb); clear HB; have HB := n0_; clear n0_; (try clear hb); (try clear hb2); (try clear hk); (try clear hi)) | ((with_reducible refine gate_callee (f := 6) rfl ?_); refine goesL_ (some 30) rfl rfl Tryd.func6 (by kernel_rfl) rfl #[.int .i64 x7_1, .string a0] rfl (by (try simp only [List.map_toArray, List.map_cons, List.map_nil]); first | done | rfl | (simp only [List.length_drop, List.length_take]; rfl)) ?_; (with_reducible refine (solsticeref01_Word.calls k1 x7_1 a0 t181 _ A7.out).mono ?_); rintro e w16 ⟨rfl, hb⟩; refine ⟨_, rfl, ?_⟩; have n0_ := Aside0.mk (below_step (by repeat (first | (with_reducible first | exact HB.out | apply below_alloc | apply pw_below_drewN | apply below_drew1) | exact HB.out)) hb); clear HB; have HB := n0_; clear n0_; (try clear hb); (try clear hb2); (try clear hk); (try clear hi)) | (go_at_call 7; (with_reducible refine (solsticelaw06_first.calls x7_1 t182 _ A13.out).mono ?_); rintro e w' ⟨rfl, ⟨nd, rfl⟩⟩))
                      go_roundg k1
                      case measure => have := HK1.out; omega
                      case rel => exact ⟨(wrap64 (x7_1 + 1)), (by first | rfl | (simp; done) | (simp [*]; done)), H', ⟨by have := HK1.out; omega⟩, ⟨by repeat (first | (with_reducible first | exact HB.out | apply below_alloc | apply pw_below_drewN | apply below_drew1) | exact HB.out)⟩⟩
                    · rw [if_neg c14] at H
                      have c14b0 : (t179 == (wrap64 (t181 + t182))) = false := beq_eq_false_iff_ne.mpr c14
                      have c14b1 : (t179 != (wrap64 (t181 + t182))) = true := bne_iff_ne.mpr c14
                      obtain rfl := Option.some.inj H
                      go_wp2_with (first | ((with_reducible refine gate_callee (f := 5) rfl ?_); refine goesL_ (some 25) rfl rfl Tryd.func5 (by kernel_rfl) rfl #[.int .i64 x7_1, .string a0] rfl (by (try simp only [List.map_toArray, List.map_cons, List.map_nil]); first | done | rfl | (simp only [List.length_drop, List.length_take]; rfl)) ?_; (with_reducible refine (solsticelaw06_tell.calls k1 x7_1 a0 t179 t180 _ ?side1 A6.out).mono ?_); (case side1 => exact GW.on HG.out (by repeat (first | (with_reducible first | exact HB.out | apply below_alloc | apply pw_below_drewN | apply below_drew1) | exact HB.out))); rintro e w17 ⟨rfl, hb⟩; refine ⟨_, rfl, ?_⟩; have n0_ := Aside0.mk (below_step (by repeat (first | (with_reducible first | exact HB.out | apply below_alloc | apply pw_below_drewN | apply below_drew1) | exact HB.out)) hb); clear HB; have HB := n0_; clear n0_; (try clear hb); (try clear hb2); (try clear hk); (try clear hi)) | ((with_reducible refine gate_callee (f := 6) rfl ?_); refine goesL_ (some 30) rfl rfl Tryd.func6 (by kernel_rfl) rfl #[.int .i64 x7_1, .string a0] rfl (by (try simp only [List.map_toArray, List.map_cons, List.map_nil]); first | done | rfl | (simp only [List.length_drop, List.length_take]; rfl)) ?_; (with_reducible refine (solsticeref01_Word.calls k1 x7_1 a0 t181 _ A7.out).mono ?_); rintro e w18 ⟨rfl, hb⟩; refine ⟨_, rfl, ?_⟩; have n0_ := Aside0.mk (below_step (by repeat (first | (with_reducible first | exact HB.out | apply below_alloc | apply pw_below_drewN | apply below_drew1) | exact HB.out)) hb); clear HB; have HB := n0_; clear n0_; (try clear hb); (try clear hb2); (try clear hk); (try clear hi)) | (go_at_call 7; (with_reducible refine (solsticelaw06_first.calls x7_1 t182 _ A13.out).mono ?_); rintro e w' ⟨rfl, ⟨nd, rfl⟩⟩))
                      go_ret
                      exact ⟨by first | rfl | (simp [errW_none, errW_some] <;> rfl) | (simp [*, errW_none, errW_some] <;> rfl), by repeat (first | (with_reducible first | exact HB.out | apply below_alloc | apply pw_below_drewN | apply below_drew1) | exact HB.out)⟩
                  · rw [if_neg c12] at H
                    have c12b0 : (t180 == 0) = false := beq_eq_false_iff_ne.mpr c12
                    have c12b1 : (t180 != 0) = true := bne_iff_ne.mpr c12
                    obtain rfl := Option.some.inj H
                    go_wp2_with (first | ((with_reducible refine gate_callee (f := 5) rfl ?_); refine goesL_ (some 25) rfl rfl Tryd.func5 (by kernel_rfl) rfl #[.int .i64 x7_1, .string a0] rfl (by (try simp only [List.map_toArray, List.map_cons, List.map_nil]); first | done | rfl | (simp only [List.length_drop, List.length_take]; rfl)) ?_; (with_reducible refine (solsticelaw06_tell.calls k1 x7_1 a0 t179 t180 _ ?side1 A6.out).mono ?_); (case side1 => exact GW.on HG.out (by repeat (first | (with_reducible first | exact HB.out | apply below_alloc | apply pw_below_drewN | apply below_drew1) | exact HB.out))); rintro e w19 ⟨rfl, hb⟩; refine ⟨_, rfl, ?_⟩; have n0_ := Aside0.mk (below_step (by repeat (first | (with_reducible first | exact HB.out | apply below_alloc | apply pw_below_drewN | apply below_drew1) | exact HB.out)) hb); clear HB; have HB := n0_; clear n0_; (try clear hb); (try clear hb2); (try clear hk); (try clear hi)) | ((with_reducible refine gate_callee (f := 6) rfl ?_); refine goesL_ (some 30) rfl rfl Tryd.func6 (by kernel_rfl) rfl #[.int .i64 x7_1, .string a0] rfl (by (try simp only [List.map_toArray, List.map_cons, List.map_nil]); first | done | rfl | (simp only [List.length_drop, List.length_take]; rfl)) ?_; (with_reducible refine (solsticeref01_Word.calls k1 x7_1 a0 t181 _ A7.out).mono ?_); rintro e w20 ⟨rfl, hb⟩; refine ⟨_, rfl, ?_⟩; have n0_ := Aside0.mk (below_step (by repeat (first | (with_reducible first | exact HB.out | apply below_alloc | apply pw_below_drewN | apply below_drew1) | exact HB.out)) hb); clear HB; have HB := n0_; clear n0_; (try clear hb); (try clear hb2); (try clear hk); (try clear hi)))
                    go_ret
                    exact ⟨by first | rfl | (simp [errW_none, errW_some] <;> rfl) | (simp [*, errW_none, errW_some] <;> rfl), by repeat (first | (with_reducible first | exact HB.out | apply below_alloc | apply pw_below_drewN | apply below_drew1) | exact HB.out)⟩
                · rw [if_neg c11] at H
                  have c11b0 : decide (0 ≤ t181) = false := decide_eq_false c11
                  clear c11
                  have H' := Aside0.mk H
                  clear H
                  go_wp2_with (first | ((with_reducible refine gate_callee (f := 5) rfl ?_); refine goesL_ (some 25) rfl rfl Tryd.func5 (by kernel_rfl) rfl #[.int .i64 x7_1, .string a0] rfl (by (try simp only [List.map_toArray, List.map_cons, List.map_nil]); first | done | rfl | (simp only [List.length_drop, List.length_take]; rfl)) ?_; (with_reducible refine (solsticelaw06_tell.calls k1 x7_1 a0 t179 t180 _ ?side1 A6.out).mono ?_); (case side1 => exact GW.on HG.out (by repeat (first | (with_reducible first | exact HB.out | apply below_alloc | apply pw_below_drewN | apply below_drew1) | exact HB.out))); rintro e w21 ⟨rfl, hb⟩; refine ⟨_, rfl, ?_⟩; have n0_ := Aside0.mk (below_step (by repeat (first | (with_reducible first | exact HB.out | apply below_alloc | apply pw_below_drewN | apply below_drew1) | exact HB.out)) hb); clear HB; have HB := n0_; clear n0_; (try clear hb); (try clear hb2); (try clear hk); (try clear hi)) | ((with_reducible refine gate_callee (f := 6) rfl ?_); refine goesL_ (some 30) rfl rfl Tryd.func6 (by kernel_rfl) rfl #[.int .i64 x7_1, .string a0] rfl (by (try simp only [List.map_toArray, List.map_cons, List.map_nil]); first | done | rfl | (simp only [List.length_drop, List.length_take]; rfl)) ?_; (with_reducible refine (solsticeref01_Word.calls k1 x7_1 a0 t181 _ A7.out).mono ?_); rintro e w22 ⟨rfl, hb⟩; refine ⟨_, rfl, ?_⟩; have n0_ := Aside0.mk (below_step (by repeat (first | (with_reducible first | exact HB.out | apply below_alloc | apply pw_below_drewN | apply below_drew1) | exact HB.out)) hb); clear HB; have HB := n0_; clear n0_; (try clear hb); (try clear hb2); (try clear hk); (try clear hi)))
                  go_roundg k1
                  case measure => have := HK1.out; omega
                  case rel => exact ⟨(wrap64 (x7_1 + 1)), (by first | rfl | (simp; done) | (simp [*]; done)), H', ⟨by have := HK1.out; omega⟩, ⟨by repeat (first | (with_reducible first | exact HB.out | apply below_alloc | apply pw_below_drewN | apply below_drew1) | exact HB.out)⟩⟩
              · rw [if_neg c10] at H
                have c10b0 : (t179 == 0) = false := beq_eq_false_iff_ne.mpr c10
                have c10b1 : (t179 != 0) = true := bne_iff_ne.mpr c10
                obtain rfl := Option.some.inj H
                go_wp2_with (first | ((with_reducible refine gate_callee (f := 5) rfl ?_); refine goesL_ (some 25) rfl rfl Tryd.func5 (by kernel_rfl) rfl #[.int .i64 x7_1, .string a0] rfl (by (try simp only [List.map_toArray, List.map_cons, List.map_nil]); first | done | rfl | (simp only [List.length_drop, List.length_take]; rfl)) ?_; (with_reducible refine (solsticelaw06_tell.calls k1 x7_1 a0 t179 t180 _ ?side1 A6.out).mono ?_); (case side1 => exact GW.on HG.out (by repeat (first | (with_reducible first | exact HB.out | apply below_alloc | apply pw_below_drewN | apply below_drew1) | exact HB.out))); rintro e w23 ⟨rfl, hb⟩; refine ⟨_, rfl, ?_⟩; have n0_ := Aside0.mk (below_step (by repeat (first | (with_reducible first | exact HB.out | apply below_alloc | apply pw_below_drewN | apply below_drew1) | exact HB.out)) hb); clear HB; have HB := n0_; clear n0_; (try clear hb); (try clear hb2); (try clear hk); (try clear hi)) | ((with_reducible refine gate_callee (f := 6) rfl ?_); refine goesL_ (some 30) rfl rfl Tryd.func6 (by kernel_rfl) rfl #[.int .i64 x7_1, .string a0] rfl (by (try simp only [List.map_toArray, List.map_cons, List.map_nil]); first | done | rfl | (simp only [List.length_drop, List.length_take]; rfl)) ?_; (with_reducible refine (solsticeref01_Word.calls k1 x7_1 a0 t181 _ A7.out).mono ?_); rintro e w24 ⟨rfl, hb⟩; refine ⟨_, rfl, ?_⟩; have n0_ := Aside0.mk (below_step (by repeat (first | (with_reducible first | exact HB.out | apply below_alloc | apply pw_below_drewN | apply below_drew1) | exact HB.out)) hb); clear HB; have HB := n0_; clear n0_; (try clear hb); (try clear hb2); (try clear hk); (try clear hi)))
                go_ret
                exact ⟨by first | rfl | (simp [errW_none, errW_some] <;> rfl) | (simp [*, errW_none, errW_some] <;> rfl), by repeat (first | (with_reducible first | exact HB.out | apply below_alloc | apply pw_below_drewN | apply below_drew1) | exact HB.out)⟩
            · rw [if_neg c9] at H
              have c9b0 : (t180 == 7) = false := beq_eq_false_iff_ne.mpr c9
              have c9b1 : (t180 != 7) = true := bne_iff_ne.mpr c9
              obtain rfl := Option.some.inj H
              go_wp2_with (first | ((with_reducible refine gate_callee (f := 5) rfl ?_); refine goesL_ (some 25) rfl rfl Tryd.func5 (by kernel_rfl) rfl #[.int .i64 x7_1, .string a0] rfl (by (try simp only [List.map_toArray, List.map_cons, List.map_nil]); first | done | rfl | (simp only [List.length_drop, List.length_take]; rfl)) ?_; (with_reducible refine (solsticelaw06_tell.calls k1 x7_1 a0 t179 t180 _ ?side1 A6.out).mono ?_); (case side1 => exact GW.on HG.out (by repeat (first | (with_reducible first | exact HB.out | apply below_alloc | apply pw_below_drewN | apply below_drew1) | exact HB.out))); rintro e w25 ⟨rfl, hb⟩; refine ⟨_, rfl, ?_⟩; have n0_ := Aside0.mk (below_step (by repeat (first | (with_reducible first | exact HB.out | apply below_alloc | apply pw_below_drewN | apply below_drew1) | exact HB.out)) hb); clear HB; have HB := n0_; clear n0_; (try clear hb); (try clear hb2); (try clear hk); (try clear hi)) | ((with_reducible refine gate_callee (f := 6) rfl ?_); refine goesL_ (some 30) rfl rfl Tryd.func6 (by kernel_rfl) rfl #[.int .i64 x7_1, .string a0] rfl (by (try simp only [List.map_toArray, List.map_cons, List.map_nil]); first | done | rfl | (simp only [List.length_drop, List.length_take]; rfl)) ?_; (with_reducible refine (solsticeref01_Word.calls k1 x7_1 a0 t181 _ A7.out).mono ?_); rintro e w26 ⟨rfl, hb⟩; refine ⟨_, rfl, ?_⟩; have n0_ := Aside0.mk (below_step (by repeat (first | (with_reducible first | exact HB.out | apply below_alloc | apply pw_below_drewN | apply below_drew1) | exact HB.out)) hb); clear HB; have HB := n0_; clear n0_; (try clear hb); (try clear hb2); (try clear hk); (try clear hi)))
              go_ret
              exact ⟨by first | rfl | (simp [errW_none, errW_some] <;> rfl) | (simp [*, errW_none, errW_some] <;> rfl), by repeat (first | (with_reducible first | exact HB.out | apply below_alloc | apply pw_below_drewN | apply below_drew1) | exact HB.out)⟩
          · rw [if_neg c8] at H
            have c8b0 : decide (t181 < 0) = false := decide_eq_false c8
            clear c8
            by_cases c27 : t181 ≥ 0
            · rw [if_pos c27] at H
              have c27b0 : decide (0 ≤ t181) = true := decide_eq_true c27
              clear c27
              by_cases c28 : t180 = 0
              · rw [if_pos c28] at H
                have c28b0 : (t180 == 0) = true := beq_iff_eq.mpr c28
                have c28b1 : (t180 != 0) = false := bne_eq_false_iff_eq.mpr c28
                clear c28
                replace H := Option.bind_eq_some_iff.mp H
                obtain ⟨t183, A290, H⟩ := H
                replace H : (if t179 = (wrap64 (t181 + t183)) then (solsticelaw06_WordsExact.l0 k1 a0 a1 a2 (wrap64 (x7_1 + 1))) else (some false)) = some r := H
                have A29 := Aside0.mk A290
                clear A290
                by_cases c30 : t179 = (wrap64 (t181 + t183))
                · rw [if_pos c30] at H
                  have c30b0 : (t179 == (wrap64 (t181 + t183))) = true := beq_iff_eq.mpr c30
                  have c30b1 : (t179 != (wrap64 (t181 + t183))) = false := bne_eq_false_iff_eq.mpr c30
                  clear c30
                  have H' := Aside0.mk H
                  clear H
                  go_wp2_with (first | ((with_reducible refine gate_callee (f := 5) rfl ?_); refine goesL_ (some 25) rfl rfl Tryd.func5 (by kernel_rfl) rfl #[.int .i64 x7_1, .string a0] rfl (by (try simp only [List.map_toArray, List.map_cons, List.map_nil]); first | done | rfl | (simp only [List.length_drop, List.length_take]; rfl)) ?_; (with_reducible refine (solsticelaw06_tell.calls k1 x7_1 a0 t179 t180 _ ?side1 A6.out).mono ?_); (case side1 => exact GW.on HG.out (by repeat (first | (with_reducible first | exact HB.out | apply below_alloc | apply pw_below_drewN | apply below_drew1) | exact HB.out))); rintro e w31 ⟨rfl, hb⟩; refine ⟨_, rfl, ?_⟩; have n0_ := Aside0.mk (below_step (by repeat (first | (with_reducible first | exact HB.out | apply below_alloc | apply pw_below_drewN | apply below_drew1) | exact HB.out)) hb); clear HB; have HB := n0_; clear n0_; (try clear hb); (try clear hb2); (try clear hk); (try clear hi)) | ((with_reducible refine gate_callee (f := 6) rfl ?_); refine goesL_ (some 30) rfl rfl Tryd.func6 (by kernel_rfl) rfl #[.int .i64 x7_1, .string a0] rfl (by (try simp only [List.map_toArray, List.map_cons, List.map_nil]); first | done | rfl | (simp only [List.length_drop, List.length_take]; rfl)) ?_; (with_reducible refine (solsticeref01_Word.calls k1 x7_1 a0 t181 _ A7.out).mono ?_); rintro e w32 ⟨rfl, hb⟩; refine ⟨_, rfl, ?_⟩; have n0_ := Aside0.mk (below_step (by repeat (first | (with_reducible first | exact HB.out | apply below_alloc | apply pw_below_drewN | apply below_drew1) | exact HB.out)) hb); clear HB; have HB := n0_; clear n0_; (try clear hb); (try clear hb2); (try clear hk); (try clear hi)) | (go_at_call 7; (with_reducible refine (solsticelaw06_first.calls x7_1 t183 _ A29.out).mono ?_); rintro e w' ⟨rfl, ⟨nd, rfl⟩⟩))
                  go_roundg k1
                  case measure => have := HK1.out; omega
                  case rel => exact ⟨(wrap64 (x7_1 + 1)), (by first | rfl | (simp; done) | (simp [*]; done)), H', ⟨by have := HK1.out; omega⟩, ⟨by repeat (first | (with_reducible first | exact HB.out | apply below_alloc | apply pw_below_drewN | apply below_drew1) | exact HB.out)⟩⟩
                · rw [if_neg c30] at H
                  have c30b0 : (t179 == (wrap64 (t181 + t183))) = false := beq_eq_false_iff_ne.mpr c30
                  have c30b1 : (t179 != (wrap64 (t181 + t183))) = true := bne_iff_ne.mpr c30
                  obtain rfl := Option.some.inj H
                  go_wp2_with (first | ((with_reducible refine gate_callee (f := 5) rfl ?_); refine goesL_ (some 25) rfl rfl Tryd.func5 (by kernel_rfl) rfl #[.int .i64 x7_1, .string a0] rfl (by (try simp only [List.map_toArray, List.map_cons, List.map_nil]); first | done | rfl | (simp only [List.length_drop, List.length_take]; rfl)) ?_; (with_reducible refine (solsticelaw06_tell.calls k1 x7_1 a0 t179 t180 _ ?side1 A6.out).mono ?_); (case side1 => exact GW.on HG.out (by repeat (first | (with_reducible first | exact HB.out | apply below_alloc | apply pw_below_drewN | apply below_drew1) | exact HB.out))); rintro e w33 ⟨rfl, hb⟩; refine ⟨_, rfl, ?_⟩; have n0_ := Aside0.mk (below_step (by repeat (first | (with_reducible first | exact HB.out | apply below_alloc | apply pw_below_drewN | apply below_drew1) | exact HB.out)) hb); clear HB; have HB := n0_; clear n0_; (try clear hb); (try clear hb2); (try clear hk); (try clear hi)) | ((with_reducible refine gate_callee (f := 6) rfl ?_); refine goesL_ (some 30) rfl rfl Tryd.func6 (by kernel_rfl) rfl #[.int .i64 x7_1, .string a0] rfl (by (try simp only [List.map_toArray, List.map_cons, List.map_nil]); first | done | rfl | (simp only [List.length_drop, List.length_take]; rfl)) ?_; (with_reducible refine (solsticeref01_Word.calls k1 x7_1 a0 t181 _ A7.out).mono ?_); rintro e w34 ⟨rfl, hb⟩; refine ⟨_, rfl, ?_⟩; have n0_ := Aside0.mk (below_step (by repeat (first | (with_reducible first | exact HB.out | apply below_alloc | apply pw_below_drewN | apply below_drew1) | exact HB.out)) hb); clear HB; have HB := n0_; clear n0_; (try clear hb); (try clear hb2); (try clear hk); (try clear hi)) | (go_at_call 7; (with_reducible refine (solsticelaw06_first.calls x7_1 t183 _ A29.out).mono ?_); rintro e w' ⟨rfl, ⟨nd, rfl⟩⟩))
                  go_ret
                  exact ⟨by first | rfl | (simp [errW_none, errW_some] <;> rfl) | (simp [*, errW_none, errW_some] <;> rfl), by repeat (first | (with_reducible first | exact HB.out | apply below_alloc | apply pw_below_drewN | apply below_drew1) | exact HB.out)⟩
              · rw [if_neg c28] at H
                have c28b0 : (t180 == 0) = false := beq_eq_false_iff_ne.mpr c28
                have c28b1 : (t180 != 0) = true := bne_iff_ne.mpr c28
                obtain rfl := Option.some.inj H
                go_wp2_with (first | ((with_reducible refine gate_callee (f := 5) rfl ?_); refine goesL_ (some 25) rfl rfl Tryd.func5 (by kernel_rfl) rfl #[.int .i64 x7_1, .string a0] rfl (by (try simp only [List.map_toArray, List.map_cons, List.map_nil]); first | done | rfl | (simp only [List.length_drop, List.length_take]; rfl)) ?_; (with_reducible refine (solsticelaw06_tell.calls k1 x7_1 a0 t179 t180 _ ?side1 A6.out).mono ?_); (case side1 => exact GW.on HG.out (by repeat (first | (with_reducible first | exact HB.out | apply below_alloc | apply pw_below_drewN | apply below_drew1) | exact HB.out))); rintro e w35 ⟨rfl, hb⟩; refine ⟨_, rfl, ?_⟩; have n0_ := Aside0.mk (below_step (by repeat (first | (with_reducible first | exact HB.out | apply below_alloc | apply pw_below_drewN | apply below_drew1) | exact HB.out)) hb); clear HB; have HB := n0_; clear n0_; (try clear hb); (try clear hb2); (try clear hk); (try clear hi)) | ((with_reducible refine gate_callee (f := 6) rfl ?_); refine goesL_ (some 30) rfl rfl Tryd.func6 (by kernel_rfl) rfl #[.int .i64 x7_1, .string a0] rfl (by (try simp only [List.map_toArray, List.map_cons, List.map_nil]); first | done | rfl | (simp only [List.length_drop, List.length_take]; rfl)) ?_; (with_reducible refine (solsticeref01_Word.calls k1 x7_1 a0 t181 _ A7.out).mono ?_); rintro e w36 ⟨rfl, hb⟩; refine ⟨_, rfl, ?_⟩; have n0_ := Aside0.mk (below_step (by repeat (first | (with_reducible first | exact HB.out | apply below_alloc | apply pw_below_drewN | apply below_drew1) | exact HB.out)) hb); clear HB; have HB := n0_; clear n0_; (try clear hb); (try clear hb2); (try clear hk); (try clear hi)))
                go_ret
                exact ⟨by first | rfl | (simp [errW_none, errW_some] <;> rfl) | (simp [*, errW_none, errW_some] <;> rfl), by repeat (first | (with_reducible first | exact HB.out | apply below_alloc | apply pw_below_drewN | apply below_drew1) | exact HB.out)⟩
            · rw [if_neg c27] at H
              have c27b0 : decide (0 ≤ t181) = false := decide_eq_false c27
              clear c27
              have H' := Aside0.mk H
              clear H
              go_wp2_with (first | ((with_reducible refine gate_callee (f := 5) rfl ?_); refine goesL_ (some 25) rfl rfl Tryd.func5 (by kernel_rfl) rfl #[.int .i64 x7_1, .string a0] rfl (by (try simp only [List.map_toArray, List.map_cons, List.map_nil]); first | done | rfl | (simp only [List.length_drop, List.length_take]; rfl)) ?_; (with_reducible refine (solsticelaw06_tell.calls k1 x7_1 a0 t179 t180 _ ?side1 A6.out).mono ?_); (case side1 => exact GW.on HG.out (by repeat (first | (with_reducible first | exact HB.out | apply below_alloc | apply pw_below_drewN | apply below_drew1) | exact HB.out))); rintro e w37 ⟨rfl, hb⟩; refine ⟨_, rfl, ?_⟩; have n0_ := Aside0.mk (below_step (by repeat (first | (with_reducible first | exact HB.out | apply below_alloc | apply pw_below_drewN | apply below_drew1) | exact HB.out)) hb); clear HB; have HB := n0_; clear n0_; (try clear hb); (try clear hb2); (try clear hk); (try clear hi)) | ((with_reducible refine gate_callee (f := 6) rfl ?_); refine goesL_ (some 30) rfl rfl Tryd.func6 (by kernel_rfl) rfl #[.int .i64 x7_1, .string a0] rfl (by (try simp only [List.map_toArray, List.map_cons, List.map_nil]); first | done | rfl | (simp only [List.length_drop, List.length_take]; rfl)) ?_; (with_reducible refine (solsticeref01_Word.calls k1 x7_1 a0 t181 _ A7.out).mono ?_); rintro e w38 ⟨rfl, hb⟩; refine ⟨_, rfl, ?_⟩; have n0_ := Aside0.mk (below_step (by repeat (first | (with_reducible first | exact HB.out | apply below_alloc | apply pw_below_drewN | apply below_drew1) | exact HB.out)) hb); clear HB; have HB := n0_; clear n0_; (try clear hb); (try clear hb2); (try clear hk); (try clear hi)))
              go_roundg k1
              case measure => have := HK1.out; omega
              case rel => exact ⟨(wrap64 (x7_1 + 1)), (by first | rfl | (simp; done) | (simp [*]; done)), H', ⟨by have := HK1.out; omega⟩, ⟨by repeat (first | (with_reducible first | exact HB.out | apply below_alloc | apply pw_below_drewN | apply below_drew1) | exact HB.out)⟩⟩
        · rw [if_neg c5] at H
          have c5b0 : decide (x7_1 ≤ 4) = false := decide_eq_false c5
          clear c5
          replace H := Option.bind_eq_some_iff.mp H
          obtain ⟨⟨t184, t185⟩, A390, H⟩ := H
          replace H : ((solsticeref01_Words.f a1).bind fun t186 => ((solsticelaw06_first.f a1).bind fun t189 => (if (t186.length : Int) = 0 then (solsticelaw06_WordsExact.j1 k1 t184 t185 t186 (wrap64 (a2 - t189)) true) else ((solsticelaw06_first.f a1).bind fun t190 => (if a2 < t190 then (solsticelaw06_WordsExact.j1 k1 t184 t185 t186 (wrap64 (a2 - t189)) true) else ((solsticelaw06_first.f a1).bind fun t191 => (if (wrap64 (a2 - t191)) ≥ (t186.length : Int) then (solsticelaw06_WordsExact.j1 k1 t184 t185 t186 (wrap64 (a2 - t189)) true) else (solsticelaw06_WordsExact.j1 k1 t184 t185 t186 (wrap64 (a2 - t189)) (decide (a2 > 100)))))))))) = some r := H
          have A39 := Aside0.mk A390
          clear A390
          replace H := Option.bind_eq_some_iff.mp H
          obtain ⟨t186, A400, H⟩ := H
          replace H : ((solsticelaw06_first.f a1).bind fun t189 => (if (t186.length : Int) = 0 then (solsticelaw06_WordsExact.j1 k1 t184 t185 t186 (wrap64 (a2 - t189)) true) else ((solsticelaw06_first.f a1).bind fun t190 => (if a2 < t190 then (solsticelaw06_WordsExact.j1 k1 t184 t185 t186 (wrap64 (a2 - t189)) true) else ((solsticelaw06_first.f a1).bind fun t191 => (if (wrap64 (a2 - t191)) ≥ (t186.length : Int) then (solsticelaw06_WordsExact.j1 k1 t184 t185 t186 (wrap64 (a2 - t189)) true) else (solsticelaw06_WordsExact.j1 k1 t184 t185 t186 (wrap64 (a2 - t189)) (decide (a2 > 100))))))))) = some r := H
          have A40 := Aside0.mk A400
          clear A400
          replace H := Option.bind_eq_some_iff.mp H
          obtain ⟨t189, A410, H⟩ := H
          replace H : (if (t186.length : Int) = 0 then (solsticelaw06_WordsExact.j1 k1 t184 t185 t186 (wrap64 (a2 - t189)) true) else ((solsticelaw06_first.f a1).bind fun t190 => (if a2 < t190 then (solsticelaw06_WordsExact.j1 k1 t184 t185 t186 (wrap64 (a2 - t189)) true) else ((solsticelaw06_first.f a1).bind fun t191 => (if (wrap64 (a2 - t191)) ≥ (t186.length : Int) then (solsticelaw06_WordsExact.j1 k1 t184 t185 t186 (wrap64 (a2 - t189)) true) else (solsticelaw06_WordsExact.j1 k1 t184 t185 t186 (wrap64 (a2 - t189)) (decide (a2 > 100)))))))) = some r := H
          have A41 := Aside0.mk A410
          clear A410
          have HC42 := Aside0.mk H
          clear H
          go_upto_region 13 with (first | ((with_reducible refine gate_callee (f := 8) rfl ?_); refine goesL_ (some 60) rfl rfl Tryd.func8 (by kernel_rfl) rfl #[.int .i64 a1, .int .i64 a2] rfl (by (try simp only [List.map_toArray, List.map_cons, List.map_nil]); first | done | rfl | (simp only [List.length_drop, List.length_take]; rfl)) ?_; (with_reducible refine (words_Name.calls a1 a2 t184 t185 _ ?side1 A39.out).mono ?_); (case side1 => exact GW.on HG.out (by repeat (first | (with_reducible first | exact HB.out | apply below_alloc | apply pw_below_drewN | apply below_drew1) | exact HB.out))); rintro e w43 ⟨rfl, hb⟩; refine ⟨_, rfl, ?_⟩; have n0_ := Aside0.mk (below_step (by repeat (first | (with_reducible first | exact HB.out | apply below_alloc | apply pw_below_drewN | apply below_drew1) | exact HB.out)) hb); clear HB; have HB := n0_; clear n0_; (try clear hb); (try clear hb2); (try clear hk); (try clear hi)) | ((with_reducible refine gate_callee (f := 9) rfl ?_); refine goesL_ (some 64) rfl rfl Tryd.func9 (by kernel_rfl) rfl #[.int .i64 a1] rfl (by (try simp only [List.map_toArray, List.map_cons, List.map_nil]); first | done | rfl | (simp only [List.length_drop, List.length_take]; rfl)) ?_; (with_reducible refine (solsticeref01_Words.calls a1 t186 _ A40.out).mono ?_); rintro e w44 ⟨v187, rfl, ho0, hb⟩; refine ⟨_, rfl, ?_⟩; have n0_ := Aside0.mk (Kd.R_lower ho0 (below_size (by repeat (first | (with_reducible first | exact HB.out | apply below_alloc | apply pw_below_drewN | apply below_drew1) | exact HB.out)))); have n1_ := Aside0.mk (below_step (by repeat (first | (with_reducible first | exact HB.out | apply below_alloc | apply pw_below_drewN | apply below_drew1) | exact HB.out)) hb); clear HB; have HO188 := n0_; have HB := n1_; clear n0_ n1_; (try clear hb); (try clear hb2); (try clear hk); (try clear hi); (try clear ho0)) | ((with_reducible refine gate_callee (f := 7) rfl ?_); refine goesL_ (some 67) rfl rfl Tryd.func7 (by kernel_rfl) rfl #[.int .i64 a1] rfl (by (try simp only [List.map_toArray, List.map_cons, List.map_nil]); first | done | rfl | (simp only [List.length_drop, List.length_take]; rfl)) ?_; (with_reducible refine (solsticelaw06_first.calls a1 t189 _ A41.out).mono ?_); rintro e w' ⟨rfl, ⟨nd, rfl⟩⟩; refine ⟨_, rfl, ?_⟩))
          (try simp only [Act.put, List.setIfInBounds_toArray, List.set_cons_zero, List.set_cons_succ])
          go_cut [90] (fun v90 wc => ∃ (kq : Nat) (x90_41 : Bool), v90 = .bool x90_41 ∧ Aside0 (solsticelaw06_WordsExact.j1 kq t184 t185 t186 (wrap64 (a2 - t189)) x90_41 = some r) ∧ Aside0 (kq ≤ k1) ∧ Aside0 (Kd.R Kd.string 9 wc w.heap.size (fun _ => True) v187 t186) ∧ Aside0 (Below w.heap.size w wc))
          case first =>
            have H := HC42.out
            clear HC42
            by_cases c45 : (t186.length : Int) = 0
            · rw [if_pos c45] at H
              have c45b0 : ((t186.length : Int) == 0) = true := beq_iff_eq.mpr c45
              have c45b1 : ((t186.length : Int) != 0) = false := bne_eq_false_iff_eq.mpr c45
              clear c45
              (first | rw [c45b0] | (simp only [i64_w, i32_w]; rw [c45b0]) | skip)
              have H' := Aside0.mk H
              clear H
              obtain ⟨Ao46, co46, eo46⟩ := Kd.R_slice HO188.out
              subst eo46
              go_wp2
              go_meet
              case rel => exact ⟨_, (true), (by first | rfl | (simp; done) | (simp [*]; done)), H', ⟨by have := HK1.out; first | omega | exact Nat.le_refl _⟩, ⟨by (with_reducible repeat (first | apply Kd.R_alloc | apply Kd.R_drewN | apply Kd.R_drew)); exact HO188.out⟩, ⟨by repeat (first | (with_reducible first | exact HB.out | apply below_alloc | apply pw_below_drewN | apply below_drew1) | exact HB.out)⟩⟩
            · rw [if_neg c45] at H
              have c45b0 : ((t186.length : Int) == 0) = false := beq_eq_false_iff_ne.mpr c45
              have c45b1 : ((t186.length : Int) != 0) = true := bne_iff_ne.mpr c45
              have c45b2 : ¬ (t186 = []) := fun h_ => c45 (by rw [h_]; rfl)
              (first | rw [c45b0] | (simp only [i64_w, i32_w]; rw [c45b0]) | skip)
              replace H := Option.bind_eq_some_iff.mp H
              obtain ⟨t190, A470, H⟩ := H
              replace H : (if a2 < t190 then (solsticelaw06_WordsExact.j1 k1 t184 t185 t186 (wrap64 (a2 - t189)) true) else ((solsticelaw06_first.f a1).bind fun t191 => (if (wrap64 (a2 - t191)) ≥ (t186.length : Int) then (solsticelaw06_WordsExact.j1 k1 t184 t185 t186 (wrap64 (a2 - t189)) true) else (solsticelaw06_WordsExact.j1 k1 t184 t185 t186 (wrap64 (a2 - t189)) (decide (a2 > 100)))))) = some r := H
              have A47 := Aside0.mk A470
              clear A470
              by_cases c48 : a2 < t190
              · rw [if_pos c48] at H
                have c48b0 : decide (a2 < t190) = true := decide_eq_true c48
                clear c48
                have H' := Aside0.mk H
                clear H
                obtain ⟨Ao49, co49, eo49⟩ := Kd.R_slice HO188.out
                subst eo49
                go_wp2_with (first | (go_at_call 7; (with_reducible refine (solsticelaw06_first.calls a1 t190 _ A47.out).mono ?_); rintro e w' ⟨rfl, ⟨nd, rfl⟩⟩))
                go_meet
                case rel => exact ⟨_, (true), (by first | rfl | (simp; done) | (simp [*]; done)), H', ⟨by have := HK1.out; first | omega | exact Nat.le_refl _⟩, ⟨by (with_reducible repeat (first | apply Kd.R_alloc | apply Kd.R_drewN | apply Kd.R_drew)); exact HO188.out⟩, ⟨by repeat (first | (with_reducible first | exact HB.out | apply below_alloc | apply pw_below_drewN | apply below_drew1) | exact HB.out)⟩⟩
              · rw [if_neg c48] at H
                have c48b0 : decide (a2 < t190) = false := decide_eq_false c48
                clear c48
                replace H := Option.bind_eq_some_iff.mp H
                obtain ⟨t191, A500, H⟩ := H
                replace H : (if (wrap64 (a2 - t191)) ≥ (t186.length : Int) then (solsticelaw06_WordsExact.j1 k1 t184 t185 t186 (wrap64 (a2 - t189)) true) else (solsticelaw06_WordsExact.j1 k1 t184 t185 t186 (wrap64 (a2 - t189)) (decide (a2 > 100)))) = some r := H
                have A50 := Aside0.mk A500
                clear A500
                obtain rfl : t190 = t191 := Option.some.inj (A47.out.symm.trans A50.out)
                replace H : (if (wrap64 (a2 - t190)) ≥ (t186.length : Int) then (solsticelaw06_WordsExact.j1 k1 t184 t185 t186 (wrap64 (a2 - t189)) true) else (solsticelaw06_WordsExact.j1 k1 t184 t185 t186 (wrap64 (a2 - t189)) (decide (a2 > 100)))) = some r := H
                by_cases c51 : (wrap64 (a2 - t190)) ≥ (t186.length : Int)
                · rw [if_pos c51] at H
                  have c51b0 : decide ((t186.length : Int) ≤ (wrap64 (a2 - t190))) = true := decide_eq_true c51
                  clear c51
                  have H' := Aside0.mk H
                  clear H
                  obtain ⟨Ao52, co52, eo52⟩ := Kd.R_slice HO188.out
                  subst eo52
                  go_wp2_with (first | (go_at_call 7; (with_reducible refine (solsticelaw06_first.calls a1 t190 _ A47.out).mono ?_); rintro e w' ⟨rfl, ⟨nd, rfl⟩⟩) | (go_at_call 7; (with_reducible refine (solsticelaw06_first.calls a1 t190 _ A50.out).mono ?_); rintro e w' ⟨rfl, ⟨nd, rfl⟩⟩))
                  go_meet
                  case rel => exact ⟨_, (true), (by first | rfl | (simp; done) | (simp [*]; done)), H', ⟨by have := HK1.out; first | omega | exact Nat.le_refl _⟩, ⟨by (with_reducible repeat (first | apply Kd.R_alloc | apply Kd.R_drewN | apply Kd.R_drew)); exact HO188.out⟩, ⟨by repeat (first | (with_reducible first | exact HB.out | apply below_alloc | apply pw_below_drewN | apply below_drew1) | exact HB.out)⟩⟩
                · rw [if_neg c51] at H
                  have c51b0 : decide ((t186.length : Int) ≤ (wrap64 (a2 - t190))) = false := decide_eq_false c51
                  clear c51
                  have H' := Aside0.mk H
                  clear H
                  obtain ⟨Ao53, co53, eo53⟩ := Kd.R_slice HO188.out
                  subst eo53
                  go_wp2_with (first | (go_at_call 7; (with_reducible refine (solsticelaw06_first.calls a1 t190 _ A47.out).mono ?_); rintro e w' ⟨rfl, ⟨nd, rfl⟩⟩) | (go_at_call 7; (with_reducible refine (solsticelaw06_first.calls a1 t190 _ A50.out).mono ?_); rintro e w' ⟨rfl, ⟨nd, rfl⟩⟩))
                  go_meet
                  case rel => exact ⟨_, (decide (a2 > 100)), (by first | rfl | (simp; done) | (simp [*]; done)), H', ⟨by have := HK1.out; first | omega | exact Nat.le_refl _⟩, ⟨by (with_reducible repeat (first | apply Kd.R_alloc | apply Kd.R_drewN | apply Kd.R_drew)); exact HO188.out⟩, ⟨by repeat (first | (with_reducible first | exact HB.out | apply below_alloc | apply pw_below_drewN | apply below_drew1) | exact HB.out)⟩⟩
          case rest =>
            clear HC42
            try clear c1
            try clear c2
            try clear p2
            try clear c3
            try clear c4
            try clear c4b0
            try clear c4b1
            try clear c5
            try clear c5b0
            try clear c6
            try clear p6
            try clear c7
            try clear c8
            try clear c8b0
            try clear c9
            try clear c9b0
            try clear c9b1
            try clear c10
            try clear c10b0
            try clear c10b1
            try clear c11
            try clear c11b0
            try clear c12
            try clear c12b0
            try clear c12b1
            try clear c14
            try clear c14b0
            try clear c14b1
            try clear c27
            try clear c27b0
            try clear c28
            try clear c28b0
            try clear c28b1
            try clear c30
            try clear c30b0
            try clear c30b1
            try clear c45
            try clear c45b0
            try clear c45b1
            try clear c45b2
            try clear c48
            try clear c48b0
            try clear c51
            try clear c51b0
            try clear p2
            obtain ⟨kq, x90_41, rfl, HA, HJ41, HO_13, HB⟩ := hcut
            cases kq with
            | zero => exact absurd HA.out (by simp [solsticelaw06_WordsExact.j1])
            | succ kj41 =>
              have H := HA.out
              clear HA
              simp only [solsticelaw06_WordsExact.j1] at H
              by_cases c54 : x90_41 = true
              · subst c54
                have H1 : (if t185 = 1 then (if t184.toList = ([] : List UInt8) then ((solsticelaw06_wakes.f kj41).bind fun t192 => (some t192)) else (some false)) else (some false)) = some r := by rw [if_pos rfl] at H; exact H
                clear H
                have H := H1
                clear H1
                by_cases c55 : t185 = 1
                · rw [if_pos c55] at H
                  have c55b0 : (t185 == 1) = true := beq_iff_eq.mpr c55
                  have c55b1 : (t185 != 1) = false := bne_eq_false_iff_eq.mpr c55
                  clear c55
                  by_cases c56 : t184.toList = ([] : List UInt8)
                  · rw [if_pos c56] at H
                    have c56b0 : (t184.toList == ([] : List UInt8)) = true := beq_iff_eq.mpr c56
                    have c56b1 : (t184.toList != ([] : List UInt8)) = false := bne_eq_false_iff_eq.mpr c56
                    clear c56
                    replace H := Option.bind_eq_some_iff.mp H
                    obtain ⟨t192, A570, H⟩ := H
                    replace H : (some t192) = some r := H
                    have A57 := Aside0.mk A570
                    clear A570
                    obtain rfl := Option.some.inj H
                    go_wp2_with (first | (go_at_call 10; (with_reducible refine (solsticelaw06_wakes.calls kj41  t192 _ ?side1 A57.out).mono ?_); (case side1 => exact GW.on HG.out (by repeat (first | (with_reducible first | exact HB.out | apply below_alloc | apply pw_below_drewN | apply below_drew1) | exact HB.out))); rintro e w58 ⟨rfl, hb⟩; have n0_ := Aside0.mk (Kd.R_below (by (with_reducible repeat (first | apply Kd.R_alloc | apply Kd.R_drewN | apply Kd.R_drew)); exact HO_13.out) hb); have n1_ := Aside0.mk (below_step (by repeat (first | (with_reducible first | exact HB.out | apply below_alloc | apply pw_below_drewN | apply below_drew1) | exact HB.out)) hb); clear HO_13; clear HB; have HO_13 := n0_; have HB := n1_; clear n0_ n1_; (try clear hb); (try clear hb2); (try clear hk); (try clear hi)))
                    go_ret
                    exact ⟨by first | rfl | (simp [errW_none, errW_some] <;> rfl) | (simp [*, errW_none, errW_some] <;> rfl), by repeat (first | (with_reducible first | exact HB.out | apply below_alloc | apply pw_below_drewN | apply below_drew1) | exact HB.out)⟩
                  · rw [if_neg c56] at H
                    have c56b0 : (t184.toList == ([] : List UInt8)) = false := beq_eq_false_iff_ne.mpr c56
                    have c56b1 : (t184.toList != ([] : List UInt8)) = true := bne_iff_ne.mpr c56
                    obtain rfl := Option.some.inj H
                    go_wp2
                    go_ret
                    exact ⟨by first | rfl | (simp [errW_none, errW_some] <;> rfl) | (simp [*, errW_none, errW_some] <;> rfl), by repeat (first | (with_reducible first | exact HB.out | apply below_alloc | apply pw_below_drewN | apply below_drew1) | exact HB.out)⟩
                · rw [if_neg c55] at H
                  have c55b0 : (t185 == 1) = false := beq_eq_false_iff_ne.mpr c55
                  have c55b1 : (t185 != 1) = true := bne_iff_ne.mpr c55
                  obtain rfl := Option.some.inj H
                  go_wp2
                  go_ret
                  exact ⟨by first | rfl | (simp [errW_none, errW_some] <;> rfl) | (simp [*, errW_none, errW_some] <;> rfl), by repeat (first | (with_reducible first | exact HB.out | apply below_alloc | apply pw_below_drewN | apply below_drew1) | exact HB.out)⟩
              · replace c54 := Bool.eq_false_iff.mpr c54
                subst c54
                have H1 : (if t185 = 0 then (if 0 ≤ (wrap64 (a2 - t189)) then (if (wrap64 (a2 - t189)) < (t186.length : Int) then (if t184.toList = (rdOf ByteArray.empty t186 (wrap64 (a2 - t189))).toList then ((solsticelaw06_wakes.f kj41).bind fun t194 => (some t194)) else (some false)) else (none)) else (none)) else (some false)) = some r := by rw [if_neg (show ¬ (false = true) by decide)] at H; exact H
                clear H
                have H := H1
                clear H1
                by_cases c59 : t185 = 0
                · rw [if_pos c59] at H
                  have c59b0 : (t185 == 0) = true := beq_iff_eq.mpr c59
                  have c59b1 : (t185 != 0) = false := bne_eq_false_iff_eq.mpr c59
                  clear c59
                  obtain ⟨ji60, hji60⟩ : ∃ j_ : Int, (wrap64 (a2 - t189)) = j_ := ⟨_, rfl⟩
                  replace H : (if 0 ≤ (ji60) then (if (ji60) < (t186.length : Int) then (if t184.toList = (rdOf ByteArray.empty t186 (ji60)).toList then ((solsticelaw06_wakes.f kj41).bind fun t194 => (some t194)) else (some false)) else (none)) else (none)) = some r := by first | (rw [hji60] at H; exact H) | (simp only [hji60] at H ⊢; exact H)
                  have hji60w : (IntKind.i64.wrap (a2 - t189)) = ji60 := (i64_w _).trans hji60
                  by_cases c61 : 0 ≤ (ji60)
                  · rw [if_pos c61] at H
                    have c61b0 : decide (0 ≤ (ji60)) = true := decide_eq_true c61
                    clear c61
                    by_cases c62 : (ji60) < (t186.length : Int)
                    · rw [if_pos c62] at H
                      have c62b0 : decide ((ji60) < (t186.length : Int)) = true := decide_eq_true c62
                      clear c62
                      by_cases c63 : t184.toList = (rdOf ByteArray.empty t186 (ji60)).toList
                      · rw [if_pos c63] at H
                        have c63b0 : (t184.toList == (rdOf ByteArray.empty t186 (ji60)).toList) = true := beq_iff_eq.mpr c63
                        have c63b1 : (t184.toList != (rdOf ByteArray.empty t186 (ji60)).toList) = false := bne_eq_false_iff_eq.mpr c63
                        clear c63
                        replace H := Option.bind_eq_some_iff.mp H
                        obtain ⟨t194, A640, H⟩ := H
                        replace H : (some t194) = some r := H
                        have A64 := Aside0.mk A640
                        clear A640
                        obtain rfl := Option.some.inj H
                        obtain ⟨Ao65, co65, eo65⟩ := Kd.R_slice HO_13.out
                        subst eo65
                        have p193 : 0 ≤ ((ji60) : Int) := of_decide_eq_true (by first | (with_reducible assumption) | assumption)
                        have q193 : (ji60) < (t186.length : Int) := of_decide_eq_true (by first | (with_reducible assumption) | assumption)
                        obtain ⟨ad193, e193, hx193_0⟩ := Kd.at_string (Kd.R_reads' HO_13.out).2.2 (ji60) p193 q193
                        cases e193
                        replace p193 := eq_true p193
                        replace q193 := eq_true q193
                        go_wp2_with (first | (go_at_call 10; (with_reducible refine (solsticelaw06_wakes.calls kj41  t194 _ ?side1 A64.out).mono ?_); (case side1 => exact GW.on HG.out (by repeat (first | (with_reducible first | exact HB.out | apply below_alloc | apply pw_below_drewN | apply below_drew1) | exact HB.out))); rintro e w66 ⟨rfl, hb⟩; have n0_ := Aside0.mk (Kd.R_below (by (with_reducible repeat (first | apply Kd.R_alloc | apply Kd.R_drewN | apply Kd.R_drew)); exact HO_13.out) hb); have n1_ := Aside0.mk (below_step (by repeat (first | (with_reducible first | exact HB.out | apply below_alloc | apply pw_below_drewN | apply below_drew1) | exact HB.out)) hb); clear HO_13; clear HB; have HO_13 := n0_; have HB := n1_; clear n0_ n1_; (try clear hb); (try clear hb2); (try clear hk); (try clear hi)))
                        go_ret
                        exact ⟨by first | rfl | (simp [errW_none, errW_some] <;> rfl) | (simp only [← hji60]; first | rfl | (simp [errW_none, errW_some] <;> rfl)) | (simp [*, errW_none, errW_some] <;> rfl), by repeat (first | (with_reducible first | exact HB.out | apply below_alloc | apply pw_below_drewN | apply below_drew1) | exact HB.out)⟩
                      · rw [if_neg c63] at H
                        have c63b0 : (t184.toList == (rdOf ByteArray.empty t186 (ji60)).toList) = false := beq_eq_false_iff_ne.mpr c63
                        have c63b1 : (t184.toList != (rdOf ByteArray.empty t186 (ji60)).toList) = true := bne_iff_ne.mpr c63
                        obtain rfl := Option.some.inj H
                        obtain ⟨Ao67, co67, eo67⟩ := Kd.R_slice HO_13.out
                        subst eo67
                        have p193 : 0 ≤ ((ji60) : Int) := of_decide_eq_true (by first | (with_reducible assumption) | assumption)
                        have q193 : (ji60) < (t186.length : Int) := of_decide_eq_true (by first | (with_reducible assumption) | assumption)
                        obtain ⟨ad193, e193, hx193_0⟩ := Kd.at_string (Kd.R_reads' HO_13.out).2.2 (ji60) p193 q193
                        cases e193
                        replace p193 := eq_true p193
                        replace q193 := eq_true q193
                        go_wp2
                        go_ret
                        exact ⟨by first | rfl | (simp [errW_none, errW_some] <;> rfl) | (simp only [← hji60]; first | rfl | (simp [errW_none, errW_some] <;> rfl)) | (simp [*, errW_none, errW_some] <;> rfl), by repeat (first | (with_reducible first | exact HB.out | apply below_alloc | apply pw_below_drewN | apply below_drew1) | exact HB.out)⟩
                    · rw [if_neg c62] at H
                      exact absurd H (by simp)
                  · rw [if_neg c61] at H
                    exact absurd H (by simp)
                · rw [if_neg c59] at H
                  have c59b0 : (t185 == 0) = false := beq_eq_false_iff_ne.mpr c59
                  have c59b1 : (t185 != 0) = true := bne_iff_ne.mpr c59
                  obtain rfl := Option.some.inj H
                  go_wp2
                  go_ret
                  exact ⟨by first | rfl | (simp [errW_none, errW_some] <;> rfl) | (simp [*, errW_none, errW_some] <;> rfl), by repeat (first | (with_reducible first | exact HB.out | apply below_alloc | apply pw_below_drewN | apply below_drew1) | exact HB.out)⟩

end Go.Proofs.YtijekkoifhmdlaaDoor.X
