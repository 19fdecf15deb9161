/-
  DERIVED. GIVEN WITH THE SEED: THE CARDS: each row of YtfhemdnjoedioaaDoorRows.lean that lists a variable, with what it lists TIED to the program's text (the seventh form; the later family's looks); each row that meets fmt, with fmt's text TOLD by the authors' own Lean function (tested against real Go, not proved from fmt's source: count such statements apart). THE CARD IS WHAT COUNTS. Prove the row's statement (the work); the ties are given (YtfhemdnjoedioaaDoorTie.lean); close each card by the builder's one call (the guide's Derived/Test/ToyasCard.lean, 'card_holds'). Laid BY PROGRAM, IN A SANDBOX (cutbox-door.mjs). By AI agents, Wed Nov 11 2026. No macro, syntax, notation, axiom, sorry.
-/
import Derived.Test.YtfhemdnjoedioaaDoorRows
import GoSem.ClaimSeven
namespace Go.Proofs.YtfhemdnjoedioaaDoor
namespace Rows

/-- THE TIED CARD OF 'solsticelaw07.OnBack'. -/
def onBackCard : Claim7 := { stood := { row := onBackRow, standIns := [], harness := (true, "d5bca9c7fb50ef5446e2294c052dfaf662939264e8df4b07fe299690528e84ca"), looks := false }, kinds := [], alts := [], laidByText := true, laidKinds := [.data, .data, .data], laidTests := true, laidLooks := .later }
def OnBackCardSaid : Prop := Claim7.holds Tryd.pinned (.plain (OpenSpec.ofChange onBackSpec)) onBackCard

/-- THE TIED CARD OF 'solsticelaw07.OnBad'. -/
def onBadCard : Claim7 := { stood := { row := onBadRow, standIns := [], harness := (true, "d5bca9c7fb50ef5446e2294c052dfaf662939264e8df4b07fe299690528e84ca"), looks := false }, kinds := [], alts := [], laidByText := true, laidKinds := [.data, .data, .data], laidTests := true, laidLooks := .later }
def OnBadCardSaid : Prop := Claim7.holds Tryd.pinned (.plain (OpenSpec.ofChange onBadSpec)) onBadCard

/-- THE SECOND FORM's CARD OF 'solsticelaw07.OnBack'. -/
def onBackUptoCard : Claim7 := { stood := { row := onBackUptoRow, standIns := [], harness := (true, "d5bca9c7fb50ef5446e2294c052dfaf662939264e8df4b07fe299690528e84ca"), looks := false }, kinds := [], alts := [], laidByText := true, laidKinds := [.data, .data, .data], laidTests := true, laidLooks := .later }
def OnBackUptoCardSaid : Prop := Claim7.holds Tryd.pinned (.plain (OpenSpec.upto onBackSpec)) onBackUptoCard

/-- THE SECOND FORM's CARD OF 'solsticelaw07.OnBad'. -/
def onBadUptoCard : Claim7 := { stood := { row := onBadUptoRow, standIns := [], harness := (true, "d5bca9c7fb50ef5446e2294c052dfaf662939264e8df4b07fe299690528e84ca"), looks := false }, kinds := [], alts := [], laidByText := true, laidKinds := [.data, .data, .data], laidTests := true, laidLooks := .later }
def OnBadUptoCardSaid : Prop := Claim7.holds Tryd.pinned (.plain (OpenSpec.upto onBadSpec)) onBadUptoCard
end Rows
end Go.Proofs.YtfhemdnjoedioaaDoor
