/-
  DERIVED. GIVEN WITH THE SEED: THE CARDS: each row of YtfhemdnjoedioaaGreatDoorRows.lean that lists a variable, with what it lists TIED to the program's text (the seventh form; the later family's looks); each row that meets fmt, with fmt's text TOLD by the authors' own Lean function (tested against real Go, not proved from fmt's source: count such statements apart). THE CARD IS WHAT COUNTS. Prove the row's statement (the work); the ties are given (YtfhemdnjoedioaaGreatDoorTie.lean); close each card by the builder's one call (the guide's Derived/Test/ToyasCard.lean, 'card_holds'). Laid BY PROGRAM, IN A SANDBOX (cutbox-door.mjs). By AI agents, Wed Nov 11 2026. No macro, syntax, notation, axiom, sorry.
-/
import Derived.Test.YtfhemdnjoedioaaGreatDoorRows
import GoSem.ClaimSeven
namespace Go.Proofs.YtfhemdnjoedioaaGreatDoor
namespace Rows

/-- THE TIED CARD OF 'solsticelaw09.RuleBack'. -/
def ruleBackCard : Claim7 := { stood := { row := ruleBackRow, standIns := [], harness := (true, "2241d0d469745492fa383d51eb312b076204c99991804f5c7e5ee3efd226ecab"), looks := false }, kinds := [], alts := [], laidByText := true, laidKinds := [.data, .data, .data, .data], laidTests := true, laidLooks := .later }
def RuleBackCardSaid : Prop := Claim7.holds Tryz.pinned (.plain (OpenSpec.ofChange ruleBackSpec)) ruleBackCard

/-- THE TIED CARD OF 'solsticelaw09.RuleBent'. -/
def ruleBentCard : Claim7 := { stood := { row := ruleBentRow, standIns := [], harness := (true, "2241d0d469745492fa383d51eb312b076204c99991804f5c7e5ee3efd226ecab"), looks := false }, kinds := [], alts := [], laidByText := true, laidKinds := [.data, .data, .data, .data], laidTests := true, laidLooks := .later }
def RuleBentCardSaid : Prop := Claim7.holds Tryz.pinned (.plain (OpenSpec.ofChange ruleBentSpec)) ruleBentCard

/-- THE TIED CARD OF 'solsticelaw09.RuleYears'. -/
def ruleYearsCard : Claim7 := { stood := { row := ruleYearsRow, standIns := [], harness := (true, "2241d0d469745492fa383d51eb312b076204c99991804f5c7e5ee3efd226ecab"), looks := false }, kinds := [], alts := [], laidByText := true, laidKinds := [.data, .data, .data, .data], laidTests := true, laidLooks := .later }
def RuleYearsCardSaid : Prop := Claim7.holds Tryz.pinned (.plain (OpenSpec.ofChange ruleYearsSpec)) ruleYearsCard

/-- THE TIED CARD OF 'solsticelaw10.ZoneBack'. -/
def zoneBackCard : Claim7 := { stood := { row := zoneBackRow, standIns := [], harness := (true, "2241d0d469745492fa383d51eb312b076204c99991804f5c7e5ee3efd226ecab"), looks := false }, kinds := [], alts := [], laidByText := true, laidKinds := [.data, .data, .data, .data], laidTests := true, laidLooks := .later }
def ZoneBackCardSaid : Prop := Claim7.holds Tryz.pinned (.plain (OpenSpec.ofChange zoneBackSpec)) zoneBackCard

/-- THE TIED CARD OF 'solsticelaw10.ZoneLeft'. -/
def zoneLeftCard : Claim7 := { stood := { row := zoneLeftRow, standIns := [], harness := (true, "2241d0d469745492fa383d51eb312b076204c99991804f5c7e5ee3efd226ecab"), looks := false }, kinds := [], alts := [], laidByText := true, laidKinds := [.data, .data, .data, .data], laidTests := true, laidLooks := .later }
def ZoneLeftCardSaid : Prop := Claim7.holds Tryz.pinned (.plain (OpenSpec.ofChange zoneLeftSpec)) zoneLeftCard

/-- THE TIED CARD OF 'solsticelaw10.ZoneBent'. -/
def zoneBentCard : Claim7 := { stood := { row := zoneBentRow, standIns := [], harness := (true, "2241d0d469745492fa383d51eb312b076204c99991804f5c7e5ee3efd226ecab"), looks := false }, kinds := [], alts := [], laidByText := true, laidKinds := [.data, .data], laidTests := true, laidLooks := .later }
def ZoneBentCardSaid : Prop := Claim7.holds Tryz.pinned (.plain (OpenSpec.ofChange zoneBentSpec)) zoneBentCard

/-- THE TIED CARD OF 'solsticelaw10.ZoneFormats'. -/
def zoneFormatsCard : Claim7 := { stood := { row := zoneFormatsRow, standIns := [], harness := (true, "2241d0d469745492fa383d51eb312b076204c99991804f5c7e5ee3efd226ecab"), looks := false }, kinds := [], alts := [], laidByText := true, laidKinds := [.data, .data, .data, .data], laidTests := true, laidLooks := .later }
def ZoneFormatsCardSaid : Prop := Claim7.holds Tryz.pinned (.plain (OpenSpec.ofChange zoneFormatsSpec)) zoneFormatsCard

/-- THE TIED CARD OF 'solsticelaw10.ZoneKinds'. -/
def zoneKindsCard : Claim7 := { stood := { row := zoneKindsRow, standIns := [], harness := (true, "2241d0d469745492fa383d51eb312b076204c99991804f5c7e5ee3efd226ecab"), looks := false }, kinds := [], alts := [], laidByText := true, laidKinds := [.data, .data, .data, .data], laidTests := true, laidLooks := .later }
def ZoneKindsCardSaid : Prop := Claim7.holds Tryz.pinned (.plain (OpenSpec.ofChange zoneKindsSpec)) zoneKindsCard

/-- THE TIED CARD OF 'solsticelaw11.SourceBack'. -/
def sourceBackCard : Claim7 := { stood := { row := sourceBackRow, standIns := [], harness := (true, "2241d0d469745492fa383d51eb312b076204c99991804f5c7e5ee3efd226ecab"), looks := false }, kinds := [], alts := [], laidByText := true, laidKinds := [.data, .data, .data, .data], laidTests := true, laidLooks := .later }
def SourceBackCardSaid : Prop := Claim7.holds Tryz.pinned (.plain (OpenSpec.ofChange sourceBackSpec)) sourceBackCard

/-- THE TIED CARD OF 'solsticelaw11.SourceLinks'. -/
def sourceLinksCard : Claim7 := { stood := { row := sourceLinksRow, standIns := [], harness := (true, "2241d0d469745492fa383d51eb312b076204c99991804f5c7e5ee3efd226ecab"), looks := false }, kinds := [], alts := [], laidByText := true, laidKinds := [.data, .data, .data, .data], laidTests := true, laidLooks := .later }
def SourceLinksCardSaid : Prop := Claim7.holds Tryz.pinned (.plain (OpenSpec.ofChange sourceLinksSpec)) sourceLinksCard

/-- THE TIED CARD OF 'solsticelaw11.SourceTold'. -/
def sourceToldCard : Claim7 := { stood := { row := sourceToldRow, standIns := [], harness := (true, "2241d0d469745492fa383d51eb312b076204c99991804f5c7e5ee3efd226ecab"), looks := false }, kinds := [], alts := [], laidByText := true, laidKinds := [.data, .data, .data, .data], laidTests := true, laidLooks := .later }
def SourceToldCardSaid : Prop := Claim7.holds Tryz.pinned (.plain (OpenSpec.ofChange sourceToldSpec)) sourceToldCard

/-- THE TIED CARD OF 'solsticelaw11.SourceLoose'. -/
def sourceLooseCard : Claim7 := { stood := { row := sourceLooseRow, standIns := [], harness := (true, "2241d0d469745492fa383d51eb312b076204c99991804f5c7e5ee3efd226ecab"), looks := false }, kinds := [], alts := [], laidByText := true, laidKinds := [.data, .data, .data, .data], laidTests := true, laidLooks := .later }
def SourceLooseCardSaid : Prop := Claim7.holds Tryz.pinned (.plain (OpenSpec.ofChange sourceLooseSpec)) sourceLooseCard

/-- THE TIED CARD OF 'solsticelaw11.SourceTwice'. -/
def sourceTwiceCard : Claim7 := { stood := { row := sourceTwiceRow, standIns := [], harness := (true, "2241d0d469745492fa383d51eb312b076204c99991804f5c7e5ee3efd226ecab"), looks := false }, kinds := [], alts := [], laidByText := true, laidKinds := [.data, .data, .data, .data], laidTests := true, laidLooks := .later }
def SourceTwiceCardSaid : Prop := Claim7.holds Tryz.pinned (.plain (OpenSpec.ofChange sourceTwiceSpec)) sourceTwiceCard

/-- THE SECOND FORM's CARD OF 'solsticelaw09.RuleBack'. -/
def ruleBackUptoCard : Claim7 := { stood := { row := ruleBackUptoRow, standIns := [], harness := (true, "2241d0d469745492fa383d51eb312b076204c99991804f5c7e5ee3efd226ecab"), looks := false }, kinds := [], alts := [], laidByText := true, laidKinds := [.data, .data, .data, .data], laidTests := true, laidLooks := .later }
def RuleBackUptoCardSaid : Prop := Claim7.holds Tryz.pinned (.plain (OpenSpec.upto ruleBackSpec)) ruleBackUptoCard

/-- THE SECOND FORM's CARD OF 'solsticelaw09.RuleBent'. -/
def ruleBentUptoCard : Claim7 := { stood := { row := ruleBentUptoRow, standIns := [], harness := (true, "2241d0d469745492fa383d51eb312b076204c99991804f5c7e5ee3efd226ecab"), looks := false }, kinds := [], alts := [], laidByText := true, laidKinds := [.data, .data, .data, .data], laidTests := true, laidLooks := .later }
def RuleBentUptoCardSaid : Prop := Claim7.holds Tryz.pinned (.plain (OpenSpec.upto ruleBentSpec)) ruleBentUptoCard

/-- THE SECOND FORM's CARD OF 'solsticelaw09.RuleYears'. -/
def ruleYearsUptoCard : Claim7 := { stood := { row := ruleYearsUptoRow, standIns := [], harness := (true, "2241d0d469745492fa383d51eb312b076204c99991804f5c7e5ee3efd226ecab"), looks := false }, kinds := [], alts := [], laidByText := true, laidKinds := [.data, .data, .data, .data], laidTests := true, laidLooks := .later }
def RuleYearsUptoCardSaid : Prop := Claim7.holds Tryz.pinned (.plain (OpenSpec.upto ruleYearsSpec)) ruleYearsUptoCard

/-- THE SECOND FORM's CARD OF 'solsticelaw10.ZoneBack'. -/
def zoneBackUptoCard : Claim7 := { stood := { row := zoneBackUptoRow, standIns := [], harness := (true, "2241d0d469745492fa383d51eb312b076204c99991804f5c7e5ee3efd226ecab"), looks := false }, kinds := [], alts := [], laidByText := true, laidKinds := [.data, .data, .data, .data], laidTests := true, laidLooks := .later }
def ZoneBackUptoCardSaid : Prop := Claim7.holds Tryz.pinned (.plain (OpenSpec.upto zoneBackSpec)) zoneBackUptoCard

/-- THE SECOND FORM's CARD OF 'solsticelaw10.ZoneLeft'. -/
def zoneLeftUptoCard : Claim7 := { stood := { row := zoneLeftUptoRow, standIns := [], harness := (true, "2241d0d469745492fa383d51eb312b076204c99991804f5c7e5ee3efd226ecab"), looks := false }, kinds := [], alts := [], laidByText := true, laidKinds := [.data, .data, .data, .data], laidTests := true, laidLooks := .later }
def ZoneLeftUptoCardSaid : Prop := Claim7.holds Tryz.pinned (.plain (OpenSpec.upto zoneLeftSpec)) zoneLeftUptoCard

/-- THE SECOND FORM's CARD OF 'solsticelaw10.ZoneBent'. -/
def zoneBentUptoCard : Claim7 := { stood := { row := zoneBentUptoRow, standIns := [], harness := (true, "2241d0d469745492fa383d51eb312b076204c99991804f5c7e5ee3efd226ecab"), looks := false }, kinds := [], alts := [], laidByText := true, laidKinds := [.data, .data], laidTests := true, laidLooks := .later }
def ZoneBentUptoCardSaid : Prop := Claim7.holds Tryz.pinned (.plain (OpenSpec.upto zoneBentSpec)) zoneBentUptoCard

/-- THE SECOND FORM's CARD OF 'solsticelaw10.ZoneFormats'. -/
def zoneFormatsUptoCard : Claim7 := { stood := { row := zoneFormatsUptoRow, standIns := [], harness := (true, "2241d0d469745492fa383d51eb312b076204c99991804f5c7e5ee3efd226ecab"), looks := false }, kinds := [], alts := [], laidByText := true, laidKinds := [.data, .data, .data, .data], laidTests := true, laidLooks := .later }
def ZoneFormatsUptoCardSaid : Prop := Claim7.holds Tryz.pinned (.plain (OpenSpec.upto zoneFormatsSpec)) zoneFormatsUptoCard

/-- THE SECOND FORM's CARD OF 'solsticelaw10.ZoneKinds'. -/
def zoneKindsUptoCard : Claim7 := { stood := { row := zoneKindsUptoRow, standIns := [], harness := (true, "2241d0d469745492fa383d51eb312b076204c99991804f5c7e5ee3efd226ecab"), looks := false }, kinds := [], alts := [], laidByText := true, laidKinds := [.data, .data, .data, .data], laidTests := true, laidLooks := .later }
def ZoneKindsUptoCardSaid : Prop := Claim7.holds Tryz.pinned (.plain (OpenSpec.upto zoneKindsSpec)) zoneKindsUptoCard

/-- THE SECOND FORM's CARD OF 'solsticelaw11.SourceBack'. -/
def sourceBackUptoCard : Claim7 := { stood := { row := sourceBackUptoRow, standIns := [], harness := (true, "2241d0d469745492fa383d51eb312b076204c99991804f5c7e5ee3efd226ecab"), looks := false }, kinds := [], alts := [], laidByText := true, laidKinds := [.data, .data, .data, .data], laidTests := true, laidLooks := .later }
def SourceBackUptoCardSaid : Prop := Claim7.holds Tryz.pinned (.plain (OpenSpec.upto sourceBackSpec)) sourceBackUptoCard

/-- THE SECOND FORM's CARD OF 'solsticelaw11.SourceLinks'. -/
def sourceLinksUptoCard : Claim7 := { stood := { row := sourceLinksUptoRow, standIns := [], harness := (true, "2241d0d469745492fa383d51eb312b076204c99991804f5c7e5ee3efd226ecab"), looks := false }, kinds := [], alts := [], laidByText := true, laidKinds := [.data, .data, .data, .data], laidTests := true, laidLooks := .later }
def SourceLinksUptoCardSaid : Prop := Claim7.holds Tryz.pinned (.plain (OpenSpec.upto sourceLinksSpec)) sourceLinksUptoCard

/-- THE SECOND FORM's CARD OF 'solsticelaw11.SourceTold'. -/
def sourceToldUptoCard : Claim7 := { stood := { row := sourceToldUptoRow, standIns := [], harness := (true, "2241d0d469745492fa383d51eb312b076204c99991804f5c7e5ee3efd226ecab"), looks := false }, kinds := [], alts := [], laidByText := true, laidKinds := [.data, .data, .data, .data], laidTests := true, laidLooks := .later }
def SourceToldUptoCardSaid : Prop := Claim7.holds Tryz.pinned (.plain (OpenSpec.upto sourceToldSpec)) sourceToldUptoCard

/-- THE SECOND FORM's CARD OF 'solsticelaw11.SourceTwice'. -/
def sourceTwiceUptoCard : Claim7 := { stood := { row := sourceTwiceUptoRow, standIns := [], harness := (true, "2241d0d469745492fa383d51eb312b076204c99991804f5c7e5ee3efd226ecab"), looks := false }, kinds := [], alts := [], laidByText := true, laidKinds := [.data, .data, .data, .data], laidTests := true, laidLooks := .later }
def SourceTwiceUptoCardSaid : Prop := Claim7.holds Tryz.pinned (.plain (OpenSpec.upto sourceTwiceSpec)) sourceTwiceUptoCard
end Rows
end Go.Proofs.YtfhemdnjoedioaaGreatDoor
