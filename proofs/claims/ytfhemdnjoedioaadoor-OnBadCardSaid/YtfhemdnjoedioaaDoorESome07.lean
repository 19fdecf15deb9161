import Derived.Test.YtfhemdnjoedioaaDoorX
namespace Go.Proofs.YtfhemdnjoedioaaDoor.X
open Go.RowKit Go.Proofs.YtfhemdnjoedioaaDoorW.PrintWords Go.Proofs.YtfhemdnjoedioaaDoorW.PrintLast Go.Proofs.YtfhemdnjoedioaaDoorW.PrintMore
set_option linter.unusedVariables false
set_option linter.unusedSimpArgs false
/-- 'int(uint(x) % n)'. -/
def umod (x n : Int) : Int := wrap64 (Int.tmod (IntKind.u64.wrap x) n)
/-- A right form, of any numbers. -/
def solsticelaw07_Some.f (a0 a1 a2 : Int) : Option (Int × Int × Int) :=
  if umod a0 4 = 0 then some (1, 0, wrap64 (1 + umod a2 31)) else if umod a0 4 = 1 then some (2, umod a1 7, 0) else if umod a0 4 = 2 then some (3, umod a1 7, wrap64 (1 + umod a2 31)) else if umod a0 4 = 3 then some (4, umod a1 7, wrap64 (1 + umod a2 31)) else none
set_option maxHeartbeats 1000000 in
theorem some_walk0 (a0 a1 a2 u v : Int) (w : World) (hq : wrap64 (Int.tmod (IntKind.u64.wrap a0) 4) = 0) (hu : wrap64 (Int.tmod (IntKind.u64.wrap a1) 7) = u) (hv : wrap64 (Int.tmod (IntKind.u64.wrap a2) 31) = v) :
    Calls Tryd.prog 5 #[.int .i64 a0, .int .i64 a1, .int .i64 a2] w fun e w' => e = .returned (.agg #[.int .i64 1, .int .i64 (0), .int .i64 (wrap64 (1 + v))]) ∧ Below w.heap.size w w' := by
  go_enter Tryd.func5, Tryd.ntmps5
  go_wp2
  refine bodyPost_ret (v := .agg #[.int .i64 1, .int .i64 (0), .int .i64 (wrap64 (1 + v))]) (by simp [results, Tryd.results5, go_sem]) rfl ⟨rfl, ?_⟩
  exact ((Below.refl _ _).alloc (Nat.le_refl _) _).alloc (by simp) _
set_option maxHeartbeats 1000000 in
theorem some_walk1 (a0 a1 a2 u v : Int) (w : World) (hq : wrap64 (Int.tmod (IntKind.u64.wrap a0) 4) = 1) (hu : wrap64 (Int.tmod (IntKind.u64.wrap a1) 7) = u) (hv : wrap64 (Int.tmod (IntKind.u64.wrap a2) 31) = v) :
    Calls Tryd.prog 5 #[.int .i64 a0, .int .i64 a1, .int .i64 a2] w fun e w' => e = .returned (.agg #[.int .i64 2, .int .i64 (u), .int .i64 (0)]) ∧ Below w.heap.size w w' := by
  go_enter Tryd.func5, Tryd.ntmps5
  go_wp2
  refine bodyPost_ret (v := .agg #[.int .i64 2, .int .i64 (u), .int .i64 (0)]) (by simp [results, Tryd.results5, go_sem]) rfl ⟨rfl, ?_⟩
  exact ((Below.refl _ _).alloc (Nat.le_refl _) _).alloc (by simp) _
set_option maxHeartbeats 1000000 in
theorem some_walk2 (a0 a1 a2 u v : Int) (w : World) (hq : wrap64 (Int.tmod (IntKind.u64.wrap a0) 4) = 2) (hu : wrap64 (Int.tmod (IntKind.u64.wrap a1) 7) = u) (hv : wrap64 (Int.tmod (IntKind.u64.wrap a2) 31) = v) :
    Calls Tryd.prog 5 #[.int .i64 a0, .int .i64 a1, .int .i64 a2] w fun e w' => e = .returned (.agg #[.int .i64 3, .int .i64 (u), .int .i64 (wrap64 (1 + v))]) ∧ Below w.heap.size w w' := by
  go_enter Tryd.func5, Tryd.ntmps5
  go_wp2
  refine bodyPost_ret (v := .agg #[.int .i64 3, .int .i64 (u), .int .i64 (wrap64 (1 + v))]) (by simp [results, Tryd.results5, go_sem]) rfl ⟨rfl, ?_⟩
  exact ((Below.refl _ _).alloc (Nat.le_refl _) _).alloc (by simp) _
set_option maxHeartbeats 1000000 in
theorem some_walk3 (a0 a1 a2 u v : Int) (w : World) (hq : wrap64 (Int.tmod (IntKind.u64.wrap a0) 4) = 3) (hu : wrap64 (Int.tmod (IntKind.u64.wrap a1) 7) = u) (hv : wrap64 (Int.tmod (IntKind.u64.wrap a2) 31) = v) :
    Calls Tryd.prog 5 #[.int .i64 a0, .int .i64 a1, .int .i64 a2] w fun e w' => e = .returned (.agg #[.int .i64 4, .int .i64 (u), .int .i64 (wrap64 (1 + v))]) ∧ Below w.heap.size w w' := by
  go_enter Tryd.func5, Tryd.ntmps5
  go_wp2
  refine bodyPost_ret (v := .agg #[.int .i64 4, .int .i64 (u), .int .i64 (wrap64 (1 + v))]) (by simp [results, Tryd.results5, go_sem]) rfl ⟨rfl, ?_⟩
  exact ((Below.refl _ _).alloc (Nat.le_refl _) _).alloc (by simp) _
theorem solsticelaw07_Some.calls (a0 : Int) (a1 : Int) (a2 : Int) (r1 : Int) (r2 : Int) (r3 : Int) (w : World) (h : solsticelaw07_Some.f a0 a1 a2 = some (r1, r2, r3)) :
    Calls Tryd.prog 5 #[.int .i64 a0, .int .i64 a1, .int .i64 a2] w fun e w' => e = .returned (.agg #[.int .i64 r1, .int .i64 r2, .int .i64 r3]) ∧ Below w.heap.size w w' := by
  unfold solsticelaw07_Some.f at h
  by_cases h0 : umod a0 4 = 0
  · rw [if_pos h0] at h
    simp only [Option.some.injEq, Prod.mk.injEq] at h
    obtain ⟨rfl, rfl, rfl⟩ := h
    exact some_walk0 a0 a1 a2 _ _ w h0 rfl rfl
  · rw [if_neg h0] at h
    by_cases h1 : umod a0 4 = 1
    · rw [if_pos h1] at h
      simp only [Option.some.injEq, Prod.mk.injEq] at h
      obtain ⟨rfl, rfl, rfl⟩ := h
      exact some_walk1 a0 a1 a2 _ _ w h1 rfl rfl
    · rw [if_neg h1] at h
      by_cases h2 : umod a0 4 = 2
      · rw [if_pos h2] at h
        simp only [Option.some.injEq, Prod.mk.injEq] at h
        obtain ⟨rfl, rfl, rfl⟩ := h
        exact some_walk2 a0 a1 a2 _ _ w h2 rfl rfl
      · rw [if_neg h2] at h
        by_cases h3 : umod a0 4 = 3
        · rw [if_pos h3] at h
          simp only [Option.some.injEq, Prod.mk.injEq] at h
          obtain ⟨rfl, rfl, rfl⟩ := h
          exact some_walk3 a0 a1 a2 _ _ w h3 rfl rfl
        · rw [if_neg h3] at h; cases h
end Go.Proofs.YtfhemdnjoedioaaDoor.X
