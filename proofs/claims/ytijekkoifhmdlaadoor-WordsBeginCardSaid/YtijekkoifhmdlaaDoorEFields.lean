import Derived.Test.YtijekkoifhmdlaaDoorX
import Derived.Test.YtijekkoifhmdlaaDoorS
namespace Go.Proofs.YtijekkoifhmdlaaDoor.X
open Go.RowKit Go.Proofs.YtijekkoifhmdlaaDoorW.PrintWords Go.Proofs.YtijekkoifhmdlaaDoorW.PrintLast Go.Proofs.YtijekkoifhmdlaaDoorW.PrintMore
set_option linter.unusedVariables false
set_option linter.unusedSimpArgs false
theorem cntF_le : ∀ (l : List UInt8) (b : Bool), Lib.cntF b l ≤ l.length
  | [], b => by simp [Lib.cntF]
  | x :: l, b => by
    have := cntF_le l (Lib.isSp x)
    simp only [Lib.cntF, List.length_cons]
    split <;> omega
/-- strings.Fields of ASCII text. -/
def strings_Fields.f (a0 : ByteArray) : Option (List ByteArray) :=
  if a0.size < 4294967281 then (if a0.data.toList.all (fun b => decide (b.toNat < 128)) = true then some ((Lib.fields a0.data.toList).map fun l => (⟨l.toArray⟩ : ByteArray)) else none) else none
theorem strings_Fields.calls (a0 : ByteArray) (r : List ByteArray) (w : World) (hG : GW w) (h : strings_Fields.f a0 = some r) :
    Calls Tryd.prog 19 #[.string a0] w fun e w' => ∃ v0_ : Value, e = .returned (v0_) ∧ Kd.R Kd.string 9 w' w.heap.size (fun _ => True) v0_ r ∧ Below w.heap.size w w' := by
  unfold strings_Fields.f at h
  by_cases h1 : a0.size < 4294967281
  · rw [if_pos h1] at h
    by_cases h2 : a0.data.toList.all (fun b => decide (b.toNat < 128)) = true
    · rw [if_pos h2] at h
      obtain rfl := Option.some.inj h
      refine (Tryd.strings_Fields a0 w h1 (fun j b hb => ?_) hG.space).mono ?_
      · have := List.all_eq_true.mp h2 b (List.mem_of_getElem? hb)
        exact of_decide_eq_true this
      · rintro e w' ⟨rfl, rfl⟩
        have hlen : (Lib.fields a0.data.toList).length ≤ 9223372036854775807 := by
          have := Lib.fields_length a0.data.toList
          have := cntF_le a0.data.toList true
          have e : a0.data.toList.length = a0.size := (Lib.size_eq a0).symm
          omega
        refine ⟨_, rfl, ?_, (Below.refl _ _).alloc (Nat.le_refl _) _⟩
        have ho := own_lit_of (enc := Value.string) w w.heap.size 9 ((Lib.fields a0.data.toList).map fun l => (⟨l.toArray⟩ : ByteArray)) (Nat.le_refl _) (by rw [List.length_map]; exact hlen)
        rw [List.length_map] at ho
        have hr := Kd.R_of_own (enc := Value.string) (h1 := fun _ => rfl) (ok := fun _ => True) (xs := (Lib.fields a0.data.toList).map fun l => (⟨l.toArray⟩ : ByteArray)) (by rw [List.length_map]; exact ho) (fun _ _ => trivial)
        simp only [encs, List.map_map, Function.comp_def] at hr
        exact hr
    · rw [if_neg h2] at h; cases h
  · rw [if_neg h1] at h; cases h
end Go.Proofs.YtijekkoifhmdlaaDoor.X
