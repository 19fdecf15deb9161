import Derived.Test.YtfhemdnjoedioaaDoorX
import Derived.Test.YtfhemdnjoedioaaDoorS
namespace Go.Proofs.YtfhemdnjoedioaaDoor.X
open Go.RowKit Go.Proofs.YtfhemdnjoedioaaDoorW.PrintWords Go.Proofs.YtfhemdnjoedioaaDoorW.PrintLast Go.Proofs.YtfhemdnjoedioaaDoorW.PrintMore
set_option linter.unusedVariables false
set_option linter.unusedSimpArgs false
/-- strings.Cut. -/
def strings_Cut.f (a0 : ByteArray) (a1 : ByteArray) : Option (ByteArray × ByteArray × Bool) :=
  if a0.size < 4294967281 then some ((⟨(Lib.cut a0.data.toList a1.data.toList).1.toArray⟩ : ByteArray), (⟨(Lib.cut a0.data.toList a1.data.toList).2.1.toArray⟩ : ByteArray), (Lib.cut a0.data.toList a1.data.toList).2.2) else none
theorem strings_Cut.calls (a0 : ByteArray) (a1 : ByteArray) (r1 : ByteArray) (r2 : ByteArray) (r3 : Bool) (w : World) (hG : GW w) (h : strings_Cut.f a0 a1 = some (r1, r2, r3)) :
    Calls Tryd.prog 24 #[.string a0, .string a1] w fun e w' => e = .returned (.tuple #[.string r1, .string r2, .bool r3]) ∧ Below w.heap.size w w' := by
  unfold strings_Cut.f at h
  by_cases h1 : a0.size < 4294967281
  · rw [if_pos h1] at h
    have h2 := Option.some.inj h
    injection h2 with e1 h3
    injection h3 with e2 e3
    subst e1 e2 e3
    obtain ⟨m, hm⟩ := hG.most
    refine (Tryd.strings_Cut a0 a1 m w h1 hm).mono fun e w' ⟨he, n, hw⟩ => ⟨he, ?_⟩
    subst hw
    exact pw_below_drewN (Below.refl _ _) n
  · rw [if_neg h1] at h; cases h
end Go.Proofs.YtfhemdnjoedioaaDoor.X
