import Derived.Test.YtfhemdnjoedioaaDoorX
import Derived.Test.YtfhemdnjoedioaaDoorS
namespace Go.Proofs.YtfhemdnjoedioaaDoor.X
open Go.RowKit Go.Proofs.YtfhemdnjoedioaaDoorW.PrintWords Go.Proofs.YtfhemdnjoedioaaDoorW.PrintLast Go.Proofs.YtfhemdnjoedioaaDoorW.PrintMore
set_option linter.unusedVariables false
set_option linter.unusedSimpArgs false
/-- strings.EqualFold of ASCII texts. -/
def strings_EqualFold.f (a0 : ByteArray) (a1 : ByteArray) : Option Bool :=
  if a0.size < 4294967281 then (if a0.data.toList.all (fun b => decide (b.toNat < 128)) = true then (if a1.data.toList.all (fun b => decide (b.toNat < 128)) = true then some (Lib.equalFold a0.data.toList a1.data.toList) else none) else none) else none
theorem strings_EqualFold.calls (a0 : ByteArray) (a1 : ByteArray) (r : Bool) (w : World) (h : strings_EqualFold.f a0 a1 = some r) :
    Calls Tryd.prog 13 #[.string a0, .string a1] w fun e w' => e = .returned (.bool r) ∧ Drawn0 w w' := by
  unfold strings_EqualFold.f at h
  by_cases h1 : a0.size < 4294967281
  · rw [if_pos h1] at h
    by_cases h2 : a0.data.toList.all (fun b => decide (b.toNat < 128)) = true
    · rw [if_pos h2] at h
      by_cases h3 : a1.data.toList.all (fun b => decide (b.toNat < 128)) = true
      · rw [if_pos h3] at h
        obtain rfl := Option.some.inj h
        exact (Tryd.strings_EqualFold a0 a1 w h1 (fun j b hb => of_decide_eq_true (List.all_eq_true.mp h2 b (List.mem_of_getElem? hb))) (fun j b hb => of_decide_eq_true (List.all_eq_true.mp h3 b (List.mem_of_getElem? hb)))).mono fun e w' ⟨he, hw⟩ => ⟨he, hw ▸ Drawn0.refl _⟩
      · rw [if_neg h3] at h; cases h
    · rw [if_neg h2] at h; cases h
  · rw [if_neg h1] at h; cases h
end Go.Proofs.YtfhemdnjoedioaaDoor.X
