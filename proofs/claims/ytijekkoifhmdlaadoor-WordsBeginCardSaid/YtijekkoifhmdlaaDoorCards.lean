/-
  DERIVED. GIVEN WITH THE SEED: THE CARDS: each row of YtijekkoifhmdlaaDoorRows.lean that lists a variable, with what it lists TIED to the program's text (the seventh form; the later family's looks); each row that meets fmt, with fmt's text TOLD by the authors' own Lean function (tested against real Go, not proved from fmt's source: count such statements apart). THE CARD IS WHAT COUNTS. Prove the row's statement (the work); the ties are given (YtijekkoifhmdlaaDoorTie.lean); close each card by the builder's one call (the guide's Derived/Test/ToyasCard.lean, 'card_holds'). Laid BY PROGRAM, IN A SANDBOX (cutbox-door.mjs). By AI agents, Wed Nov 11 2026. No macro, syntax, notation, axiom, sorry.
-/
import Derived.Test.YtijekkoifhmdlaaDoorRows
import GoSem.ClaimSeven
namespace Go.Proofs.YtijekkoifhmdlaaDoor
namespace Rows

/-- THE TIED CARD OF 'solsticelaw06.WordsExact'. -/
def wordsExactCard : Claim7 := { stood := { row := wordsExactRow, standIns := [], harness := (true, "d07b66dcbfae9faa1cb89740ed5df482e7e2a3b4557e5d4c0ef7708a5a5d7314"), looks := false }, kinds := [], alts := [], laidByText := true, laidKinds := [.listed, .data], laidTests := true, laidLooks := .later }
def WordsExactCardSaid : Prop := Claim7.holds Tryd.pinned (.plain (OpenSpec.ofChange wordsExactSpec)) wordsExactCard

/-- THE TIED CARD OF 'solsticelaw06.WordsBegin'. -/
def wordsBeginCard : Claim7 := { stood := { row := wordsBeginRow, standIns := [], harness := (true, "d07b66dcbfae9faa1cb89740ed5df482e7e2a3b4557e5d4c0ef7708a5a5d7314"), looks := false }, kinds := [], alts := [], laidByText := true, laidKinds := [.listed, .data], laidTests := true, laidLooks := .later }
def WordsBeginCardSaid : Prop := Claim7.holds Tryd.pinned (.plain (OpenSpec.ofChange wordsBeginSpec)) wordsBeginCard

/-- THE SECOND FORM's CARD OF 'solsticelaw06.WordsExact'. -/
def wordsExactUptoCard : Claim7 := { stood := { row := wordsExactUptoRow, standIns := [], harness := (true, "d07b66dcbfae9faa1cb89740ed5df482e7e2a3b4557e5d4c0ef7708a5a5d7314"), looks := false }, kinds := [], alts := [], laidByText := true, laidKinds := [.listed, .data], laidTests := true, laidLooks := .later }
def WordsExactUptoCardSaid : Prop := Claim7.holds Tryd.pinned (.plain (OpenSpec.upto wordsExactSpec)) wordsExactUptoCard

/-- THE SECOND FORM's CARD OF 'solsticelaw06.WordsBegin'. -/
def wordsBeginUptoCard : Claim7 := { stood := { row := wordsBeginUptoRow, standIns := [], harness := (true, "d07b66dcbfae9faa1cb89740ed5df482e7e2a3b4557e5d4c0ef7708a5a5d7314"), looks := false }, kinds := [], alts := [], laidByText := true, laidKinds := [.listed, .data], laidTests := true, laidLooks := .later }
def WordsBeginUptoCardSaid : Prop := Claim7.holds Tryd.pinned (.plain (OpenSpec.upto wordsBeginSpec)) wordsBeginUptoCard
end Rows
end Go.Proofs.YtijekkoifhmdlaaDoor
