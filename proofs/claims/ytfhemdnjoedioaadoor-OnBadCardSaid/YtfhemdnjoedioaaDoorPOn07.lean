import Derived.Test.YtfhemdnjoedioaaDoorF3
import Derived.Test.YtfhemdnjoedioaaDoorF4
/- The plain statements of OnBack and OnBad: finitely many forms and texts, reckoned. -/
namespace Go.Proofs.YtfhemdnjoedioaaDoor.X
open Go.RowKit Go.Proofs.YtfhemdnjoedioaaDoorW.PrintWords Go.Proofs.YtfhemdnjoedioaaDoorW.PrintLast Go.Proofs.YtfhemdnjoedioaaDoorW.PrintMore
set_option linter.unusedVariables false
set_option linter.unusedSimpArgs false
theorem wakes07 (k : Nat) (h : 60 ≤ k) : solsticelaw07_wakes.f k = some true := at_rounds (g := solsticelaw07_wakes.f) (solsticelaw07_wakes.mono) h (by kernel_rfl)
theorem wrap_id (x : Int) (h0 : -9223372036854775808 ≤ x) (h1 : x < 9223372036854775808) : wrap64 x = x := by unfold wrap64; omega
theorem umod_at (x n : Int) (h0 : 0 < n) (h1 : n < 1000) : 0 ≤ umod x n ∧ umod x n < n := by
  have hu : 0 ≤ IntKind.u64.wrap x := by
    simp [IntKind.wrap, IntKind.signed, IntKind.bits]
    omega
  have h2 : Int.tmod (IntKind.u64.wrap x) n = IntKind.u64.wrap x % n := Int.tmod_eq_emod_of_nonneg hu
  have h3 := Int.emod_nonneg (IntKind.u64.wrap x) (show n ≠ 0 by omega)
  have h4 := Int.emod_lt_of_pos (IntKind.u64.wrap x) h0
  unfold umod
  rw [h2, wrap_id _ (by omega) (by omega)]
  exact ⟨h3, h4⟩
/-- All right forms. -/
def forms : List (Int × Int × Int) :=
  ((List.range 31).map fun (d : Nat) => (1, 0, ((d : Int) + 1))) ++ ((List.range 7).map fun (w : Nat) => (2, (w : Int), 0)) ++
  ((List.range 7).flatMap fun (w : Nat) => (List.range 31).map fun (d : Nat) => (3, (w : Int), ((d : Int) + 1))) ++ ((List.range 7).flatMap fun (w : Nat) => (List.range 31).map fun (d : Nat) => (4, (w : Int), ((d : Int) + 1)))
def backs (x : Int × Int × Int) : Bool := match onform_Text.f 60 x.1 x.2.1 x.2.2 with
  | some (t, e) => decide (e = 0 ∧ onform_Parse.f 60 t = some (x.1, x.2.1, x.2.2, 0))
  | none => false
set_option maxRecDepth 100000 in
theorem all_back : forms.all backs = true := by decide +kernel
theorem some_mem (a b c : Int) : ∃ x ∈ forms, solsticelaw07_Some.f a b c = some x := by
  obtain ⟨k0, k1⟩ := umod_at a 4 (by decide) (by decide)
  obtain ⟨w0, w1⟩ := umod_at b 7 (by decide) (by decide)
  obtain ⟨d0, d1⟩ := umod_at c 31 (by decide) (by decide)
  unfold solsticelaw07_Some.f
  generalize umod a 4 = k at *
  generalize umod b 7 = w at *
  generalize umod c 31 = d at *
  rw [wrap_id (1 + d) (by omega) (by omega)]
  have hd' : ((d.toNat : Int) + 1) = 1 + d := by omega
  have hw' : ((w.toNat : Nat) : Int) = w := by omega
  have md : d.toNat ∈ List.range 31 := List.mem_range.mpr (by omega)
  have mw : w.toNat ∈ List.range 7 := List.mem_range.mpr (by omega)
  unfold forms
  have hc : k = 0 ∨ k = 1 ∨ k = 2 ∨ k = 3 := by omega
  rcases hc with rfl | rfl | rfl | rfl
  · refine ⟨(1, 0, 1 + d), ?_, by rw [if_pos rfl]⟩
    refine List.mem_append_left _ (List.mem_append_left _ (List.mem_append_left _ (List.mem_map.mpr ⟨d.toNat, md, by rw [hd']⟩)))
  · refine ⟨(2, w, 0), ?_, by rw [if_neg (by decide), if_pos rfl]⟩
    refine List.mem_append_left _ (List.mem_append_left _ (List.mem_append_right _ (List.mem_map.mpr ⟨w.toNat, mw, by rw [hw']⟩)))
  · refine ⟨(3, w, 1 + d), ?_, by rw [if_neg (by decide), if_neg (by decide), if_pos rfl]⟩
    refine List.mem_append_left _ (List.mem_append_right _ (List.mem_flatMap.mpr ⟨w.toNat, mw, List.mem_map.mpr ⟨d.toNat, md, by rw [hd', hw']⟩⟩))
  · refine ⟨(4, w, 1 + d), ?_, by rw [if_neg (by decide), if_neg (by decide), if_neg (by decide), if_pos rfl]⟩
    refine List.mem_append_right _ (List.mem_flatMap.mpr ⟨w.toNat, mw, List.mem_map.mpr ⟨d.toNat, md, by rw [hd', hw']⟩⟩)
theorem form_back {x : Int × Int × Int} (h : x ∈ forms) : ∃ t, onform_Text.f 60 x.1 x.2.1 x.2.2 = some (t, 0) ∧ onform_Parse.f 60 t = some (x.1, x.2.1, x.2.2, 0) := by
  have := List.all_eq_true.mp all_back x h
  unfold backs at this
  split at this
  · rename_i t e he
    obtain ⟨h1, h2⟩ := of_decide_eq_true this
    subst h1
    exact ⟨t, he, h2⟩
  · cases this
/-- OnBack answers true. -/
theorem pure_OnBack (a0 a1 a2 a3 a4 a5 : Int) : ∃ k, solsticelaw07_OnBack.f k a0 a1 a2 a3 a4 a5 = some true := by
  refine ⟨60, ?_⟩
  obtain ⟨x, hx, ex⟩ := some_mem a0 a1 a2
  obtain ⟨y, hy, ey⟩ := some_mem a3 a4 a5
  obtain ⟨t, t1, t2⟩ := form_back hx
  obtain ⟨u, u1, u2⟩ := form_back hy
  obtain ⟨x1, x2, x3⟩ := x
  obtain ⟨y1, y2, y3⟩ := y
  simp only at t1 t2 u1 u2
  unfold solsticelaw07_OnBack.f
  rw [ex, Option.bind_some, ey, Option.bind_some, t1, Option.bind_some, u1, Option.bind_some, t2, Option.bind_some, wakes07 60 (by decide)]
  rw [if_pos rfl, if_pos rfl, if_pos rfl, if_pos (by simp)]
  have e : ((t.toList == u.toList) == (x1 == y1 && (x2 == y2 && (x3 == y3)))) = true := by
    by_cases h : (x1, x2, x3) = (y1, y2, y3)
    · injection h with h1 h
      injection h with h2 h3
      subst h1 h2 h3
      have : t = u := by
        have := Option.some.inj (t1.symm.trans u1)
        injection this
      subst this
      simp
    · have h1 : ¬ t.toList = u.toList := by
        intro ht
        have htu : t = u := by
          rw [ByteArray.toList_eq, ByteArray.toList_eq] at ht
          exact ByteArray.ext (Array.toList_inj.mp ht)
        subst htu
        have := Option.some.inj (t2.symm.trans u2)
        injection this with e1 this
        injection this with e2 this
        injection this with e3 this
        exact h (by rw [e1, e2, e3])
      have h2 : (t.toList == u.toList) = false := by simpa using h1
      have h3 : (x1 == y1 && (x2 == y2 && (x3 == y3))) = false := by
        rw [Bool.eq_false_iff]
        intro h'
        simp at h'
        exact h (by rw [h'.1, h'.2.1, h'.2.2])
      rw [h2, h3]
      rfl
  rw [if_pos e]
  rfl
def badTexts : List ByteArray := [⟨#[]⟩, ⟨#[48]⟩, ⟨#[51, 50]⟩, ⟨#[83, 117, 62, 61, 56]⟩, ⟨#[108, 97, 115, 116, 83, 117]⟩, ⟨#[108, 97, 115, 116]⟩, ⟨#[83, 117, 110, 62, 61]⟩, ⟨#[83, 117, 110, 62, 61, 48]⟩, ⟨#[83, 117, 110, 62, 61, 51, 50]⟩, ⟨#[83, 117, 110, 62, 56]⟩, ⟨#[83, 117, 110, 60, 61, 48, 48, 56]⟩, ⟨#[49, 50, 51]⟩, ⟨#[45, 49]⟩, ⟨#[83, 117, 110, 62, 61, 32, 56]⟩, ⟨#[62, 61, 56]⟩, ⟨#[108, 97, 115, 116, 83, 117, 110, 62, 61, 56]⟩, ⟨#[56, 83, 117, 110]⟩]
set_option maxRecDepth 100000 in
theorem all_bad : (badTexts.all fun t => decide (onform_Parse.f 60 t = some (0, 0, 0, 8))) = true := by decide +kernel
theorem good_one : onform_Parse.f 60 ⟨#[115, 85, 78, 100, 97, 121, 60, 61, 48, 55]⟩ = some (4, 0, 7, 0) := by kernel_rfl
/-- OnBad answers true. -/
theorem pure_OnBad (a0 : Int) : ∃ k, solsticelaw07_OnBad.f k a0 = some true := by
  refine ⟨60, ?_⟩
  obtain ⟨r0, r1⟩ := umod_at a0 17 (by decide) (by decide)
  have hr : wrap64 (Int.tmod (IntKind.u64.wrap a0) 17) = umod a0 17 := rfl
  generalize umod a0 17 = r at *
  have e17 : IntKind.u64.wrap ((badTexts.length : Int)) = 17 := by decide
  have hm : rdOf ByteArray.empty badTexts r ∈ badTexts := by
    have hl : r.toNat < badTexts.length := by have : badTexts.length = 17 := rfl; omega
    unfold rdOf
    rw [List.getD_eq_getElem?_getD, List.getElem?_eq_getElem hl]
    exact List.getElem_mem hl
  have hb := of_decide_eq_true (List.all_eq_true.mp all_bad _ hm)
  show ((some badTexts).bind fun y204 => _) = _
  rw [Option.bind_some, e17, hr, if_neg (by decide), if_pos r0, if_pos (show r < (badTexts.length : Int) from r1), hb, Option.bind_some, good_one, Option.bind_some, wakes07 60 (by decide)]
  rfl
end Go.Proofs.YtfhemdnjoedioaaDoor.X
