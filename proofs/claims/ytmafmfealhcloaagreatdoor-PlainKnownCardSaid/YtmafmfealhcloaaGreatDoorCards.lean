/-
  DERIVED. GIVEN WITH THE SEED: THE CARDS: each row of YtmafmfealhcloaaGreatDoorRows.lean that lists a variable, with what it lists TIED to the program's text (the seventh form; the later family's looks); each row that meets fmt, with fmt's text TOLD by the authors' own Lean function (tested against real Go, not proved from fmt's source: count such statements apart). THE CARD IS WHAT COUNTS. Prove the row's statement (the work); the ties are given (YtmafmfealhcloaaGreatDoorTie.lean); close each card by the builder's one call (the guide's Derived/Test/ToyasCard.lean, 'card_holds'). Laid BY PROGRAM, IN A SANDBOX (cutbox-door.mjs). By AI agents, Wed Nov 11 2026. No macro, syntax, notation, axiom, sorry.
-/
import Derived.Test.YtmafmfealhcloaaGreatDoorRows
import GoSem.ClaimSeven
namespace Go.Proofs.YtmafmfealhcloaaGreatDoor
namespace Rows

/-- THE TIED CARD OF 'escritoirelaw26.PlainKnown'. -/
def plainKnownCard : Claim7 := { stood := { row := plainKnownRow, standIns := [], harness := (true, "38e4298a496c186ad16fabd06bafa4b0abb37bc19708edff7dacb9d45125b3ff"), looks := true }, kinds := [], alts := [], laidByText := true, laidKinds := [.data, .data, .widerDeep, .widerDeep, .data, .data, .data, .data, .data, .data, .sentinel, .sentinel, .pinned, .pinned, .pinned, .pinned], laidTests := true, laidLooks := .later }
def PlainKnownCardSaid : Prop := Claim7.holds Tryz.pinned (.plain (OpenSpec.ofChange plainKnownSpec)) plainKnownCard

/-- THE TIED CARD OF 'escritoirelaw26.PlainTurns'. -/
def plainTurnsCard : Claim7 := { stood := { row := plainTurnsRow, standIns := [], harness := (true, "38e4298a496c186ad16fabd06bafa4b0abb37bc19708edff7dacb9d45125b3ff"), looks := true }, kinds := [], alts := [], laidByText := true, laidKinds := [.data, .data, .widerDeep, .widerDeep, .data, .data, .data, .data, .data, .data, .sentinel, .sentinel, .pinned, .pinned, .pinned, .pinned], laidTests := true, laidLooks := .later }
def PlainTurnsCardSaid : Prop := Claim7.holds Tryz.pinned (.plain (OpenSpec.ofChange plainTurnsSpec)) plainTurnsCard

/-- THE TIED CARD OF 'escritoirelaw26.PlainPuts'. -/
def plainPutsCard : Claim7 := { stood := { row := plainPutsRow, standIns := [], harness := (true, "38e4298a496c186ad16fabd06bafa4b0abb37bc19708edff7dacb9d45125b3ff"), looks := true }, kinds := [], alts := [], laidByText := true, laidKinds := [.data, .data, .widerDeep, .widerDeep, .data, .data, .data, .data, .data, .data, .sentinel, .sentinel, .pinned, .pinned, .pinned, .pinned], laidTests := true, laidLooks := .later }
def PlainPutsCardSaid : Prop := Claim7.holds Tryz.pinned (.plain (OpenSpec.ofChange plainPutsSpec)) plainPutsCard

/-- THE TIED CARD OF 'escritoirelaw26.PlainSubsts'. -/
def plainSubstsCard : Claim7 := { stood := { row := plainSubstsRow, standIns := [], harness := (true, "38e4298a496c186ad16fabd06bafa4b0abb37bc19708edff7dacb9d45125b3ff"), looks := true }, kinds := [], alts := [], laidByText := true, laidKinds := [.data, .data, .widerDeep, .widerDeep, .data, .data, .data, .data, .data, .data, .sentinel, .sentinel, .pinned, .pinned, .pinned, .pinned], laidTests := true, laidLooks := .later }
def PlainSubstsCardSaid : Prop := Claim7.holds Tryz.pinned (.plain (OpenSpec.ofChange plainSubstsSpec)) plainSubstsCard

/-- THE TIED CARD OF 'escritoirelaw26.PlainSearches'. -/
def plainSearchesCard : Claim7 := { stood := { row := plainSearchesRow, standIns := [], harness := (true, "38e4298a496c186ad16fabd06bafa4b0abb37bc19708edff7dacb9d45125b3ff"), looks := true }, kinds := [], alts := [], laidByText := true, laidKinds := [.data, .data, .widerDeep, .widerDeep, .data, .data, .data, .data, .data, .data, .sentinel, .sentinel, .pinned, .pinned, .pinned, .pinned], laidTests := true, laidLooks := .later }
def PlainSearchesCardSaid : Prop := Claim7.holds Tryz.pinned (.plain (OpenSpec.ofChange plainSearchesSpec)) plainSearchesCard

/-- THE TIED CARD OF 'escritoirelaw26.PlainMoves'. -/
def plainMovesCard : Claim7 := { stood := { row := plainMovesRow, standIns := [], harness := (true, "38e4298a496c186ad16fabd06bafa4b0abb37bc19708edff7dacb9d45125b3ff"), looks := true }, kinds := [], alts := [], laidByText := true, laidKinds := [.data, .data, .widerDeep, .widerDeep, .data, .data, .data, .data, .data, .data, .sentinel, .sentinel, .pinned, .pinned, .pinned, .pinned], laidTests := true, laidLooks := .later }
def PlainMovesCardSaid : Prop := Claim7.holds Tryz.pinned (.plain (OpenSpec.ofChange plainMovesSpec)) plainMovesCard

/-- THE TIED CARD OF 'escritoirelaw26.PlainCounts'. -/
def plainCountsCard : Claim7 := { stood := { row := plainCountsRow, standIns := [], harness := (true, "38e4298a496c186ad16fabd06bafa4b0abb37bc19708edff7dacb9d45125b3ff"), looks := true }, kinds := [], alts := [], laidByText := true, laidKinds := [.data, .data, .widerDeep, .widerDeep, .data, .data, .data, .data, .data, .data, .sentinel, .sentinel, .pinned, .pinned, .pinned, .pinned], laidTests := true, laidLooks := .later }
def PlainCountsCardSaid : Prop := Claim7.holds Tryz.pinned (.plain (OpenSpec.ofChange plainCountsSpec)) plainCountsCard

/-- THE TIED CARD OF 'escritoirelaw26.PlainVisuals'. -/
def plainVisualsCard : Claim7 := { stood := { row := plainVisualsRow, standIns := [], harness := (true, "38e4298a496c186ad16fabd06bafa4b0abb37bc19708edff7dacb9d45125b3ff"), looks := true }, kinds := [], alts := [], laidByText := true, laidKinds := [.data, .data, .widerDeep, .widerDeep, .data, .data, .data, .data, .data, .data, .sentinel, .sentinel, .pinned, .pinned, .pinned, .pinned], laidTests := true, laidLooks := .later }
def PlainVisualsCardSaid : Prop := Claim7.holds Tryz.pinned (.plain (OpenSpec.ofChange plainVisualsSpec)) plainVisualsCard

/-- THE TIED CARD OF 'escritoirelaw26.PlainTypes'. -/
def plainTypesCard : Claim7 := { stood := { row := plainTypesRow, standIns := [], harness := (true, "38e4298a496c186ad16fabd06bafa4b0abb37bc19708edff7dacb9d45125b3ff"), looks := true }, kinds := [], alts := [], laidByText := true, laidKinds := [.data, .data, .widerDeep, .widerDeep, .data, .data, .data, .data, .data, .data, .sentinel, .sentinel, .pinned, .pinned, .pinned, .pinned], laidTests := true, laidLooks := .later }
def PlainTypesCardSaid : Prop := Claim7.holds Tryz.pinned (.plain (OpenSpec.ofChange plainTypesSpec)) plainTypesCard

/-- THE TIED CARD OF 'escritoirelaw26.PlainDots'. -/
def plainDotsCard : Claim7 := { stood := { row := plainDotsRow, standIns := [], harness := (true, "38e4298a496c186ad16fabd06bafa4b0abb37bc19708edff7dacb9d45125b3ff"), looks := true }, kinds := [], alts := [], laidByText := true, laidKinds := [.data, .data, .widerDeep, .widerDeep, .data, .data, .data, .data, .data, .data, .sentinel, .sentinel, .pinned, .pinned, .pinned, .pinned], laidTests := true, laidLooks := .later }
def PlainDotsCardSaid : Prop := Claim7.holds Tryz.pinned (.plain (OpenSpec.ofChange plainDotsSpec)) plainDotsCard

/-- THE SECOND FORM's CARD OF 'escritoirelaw26.PlainKnown'. -/
def plainKnownUptoCard : Claim7 := { stood := { row := plainKnownUptoRow, standIns := [], harness := (true, "38e4298a496c186ad16fabd06bafa4b0abb37bc19708edff7dacb9d45125b3ff"), looks := true }, kinds := [], alts := [], laidByText := true, laidKinds := [.data, .data, .widerDeep, .widerDeep, .data, .data, .data, .data, .data, .data, .sentinel, .sentinel, .pinned, .pinned, .pinned, .pinned], laidTests := true, laidLooks := .later }
def PlainKnownUptoCardSaid : Prop := Claim7.holds Tryz.pinned (.plain (OpenSpec.upto plainKnownSpec)) plainKnownUptoCard

/-- THE SECOND FORM's CARD OF 'escritoirelaw26.PlainTurns'. -/
def plainTurnsUptoCard : Claim7 := { stood := { row := plainTurnsUptoRow, standIns := [], harness := (true, "38e4298a496c186ad16fabd06bafa4b0abb37bc19708edff7dacb9d45125b3ff"), looks := true }, kinds := [], alts := [], laidByText := true, laidKinds := [.data, .data, .widerDeep, .widerDeep, .data, .data, .data, .data, .data, .data, .sentinel, .sentinel, .pinned, .pinned, .pinned, .pinned], laidTests := true, laidLooks := .later }
def PlainTurnsUptoCardSaid : Prop := Claim7.holds Tryz.pinned (.plain (OpenSpec.upto plainTurnsSpec)) plainTurnsUptoCard

/-- THE SECOND FORM's CARD OF 'escritoirelaw26.PlainPuts'. -/
def plainPutsUptoCard : Claim7 := { stood := { row := plainPutsUptoRow, standIns := [], harness := (true, "38e4298a496c186ad16fabd06bafa4b0abb37bc19708edff7dacb9d45125b3ff"), looks := true }, kinds := [], alts := [], laidByText := true, laidKinds := [.data, .data, .widerDeep, .widerDeep, .data, .data, .data, .data, .data, .data, .sentinel, .sentinel, .pinned, .pinned, .pinned, .pinned], laidTests := true, laidLooks := .later }
def PlainPutsUptoCardSaid : Prop := Claim7.holds Tryz.pinned (.plain (OpenSpec.upto plainPutsSpec)) plainPutsUptoCard

/-- THE SECOND FORM's CARD OF 'escritoirelaw26.PlainSubsts'. -/
def plainSubstsUptoCard : Claim7 := { stood := { row := plainSubstsUptoRow, standIns := [], harness := (true, "38e4298a496c186ad16fabd06bafa4b0abb37bc19708edff7dacb9d45125b3ff"), looks := true }, kinds := [], alts := [], laidByText := true, laidKinds := [.data, .data, .widerDeep, .widerDeep, .data, .data, .data, .data, .data, .data, .sentinel, .sentinel, .pinned, .pinned, .pinned, .pinned], laidTests := true, laidLooks := .later }
def PlainSubstsUptoCardSaid : Prop := Claim7.holds Tryz.pinned (.plain (OpenSpec.upto plainSubstsSpec)) plainSubstsUptoCard

/-- THE SECOND FORM's CARD OF 'escritoirelaw26.PlainSearches'. -/
def plainSearchesUptoCard : Claim7 := { stood := { row := plainSearchesUptoRow, standIns := [], harness := (true, "38e4298a496c186ad16fabd06bafa4b0abb37bc19708edff7dacb9d45125b3ff"), looks := true }, kinds := [], alts := [], laidByText := true, laidKinds := [.data, .data, .widerDeep, .widerDeep, .data, .data, .data, .data, .data, .data, .sentinel, .sentinel, .pinned, .pinned, .pinned, .pinned], laidTests := true, laidLooks := .later }
def PlainSearchesUptoCardSaid : Prop := Claim7.holds Tryz.pinned (.plain (OpenSpec.upto plainSearchesSpec)) plainSearchesUptoCard

/-- THE SECOND FORM's CARD OF 'escritoirelaw26.PlainMoves'. -/
def plainMovesUptoCard : Claim7 := { stood := { row := plainMovesUptoRow, standIns := [], harness := (true, "38e4298a496c186ad16fabd06bafa4b0abb37bc19708edff7dacb9d45125b3ff"), looks := true }, kinds := [], alts := [], laidByText := true, laidKinds := [.data, .data, .widerDeep, .widerDeep, .data, .data, .data, .data, .data, .data, .sentinel, .sentinel, .pinned, .pinned, .pinned, .pinned], laidTests := true, laidLooks := .later }
def PlainMovesUptoCardSaid : Prop := Claim7.holds Tryz.pinned (.plain (OpenSpec.upto plainMovesSpec)) plainMovesUptoCard

/-- THE SECOND FORM's CARD OF 'escritoirelaw26.PlainCounts'. -/
def plainCountsUptoCard : Claim7 := { stood := { row := plainCountsUptoRow, standIns := [], harness := (true, "38e4298a496c186ad16fabd06bafa4b0abb37bc19708edff7dacb9d45125b3ff"), looks := true }, kinds := [], alts := [], laidByText := true, laidKinds := [.data, .data, .widerDeep, .widerDeep, .data, .data, .data, .data, .data, .data, .sentinel, .sentinel, .pinned, .pinned, .pinned, .pinned], laidTests := true, laidLooks := .later }
def PlainCountsUptoCardSaid : Prop := Claim7.holds Tryz.pinned (.plain (OpenSpec.upto plainCountsSpec)) plainCountsUptoCard

/-- THE SECOND FORM's CARD OF 'escritoirelaw26.PlainVisuals'. -/
def plainVisualsUptoCard : Claim7 := { stood := { row := plainVisualsUptoRow, standIns := [], harness := (true, "38e4298a496c186ad16fabd06bafa4b0abb37bc19708edff7dacb9d45125b3ff"), looks := true }, kinds := [], alts := [], laidByText := true, laidKinds := [.data, .data, .widerDeep, .widerDeep, .data, .data, .data, .data, .data, .data, .sentinel, .sentinel, .pinned, .pinned, .pinned, .pinned], laidTests := true, laidLooks := .later }
def PlainVisualsUptoCardSaid : Prop := Claim7.holds Tryz.pinned (.plain (OpenSpec.upto plainVisualsSpec)) plainVisualsUptoCard

/-- THE SECOND FORM's CARD OF 'escritoirelaw26.PlainTypes'. -/
def plainTypesUptoCard : Claim7 := { stood := { row := plainTypesUptoRow, standIns := [], harness := (true, "38e4298a496c186ad16fabd06bafa4b0abb37bc19708edff7dacb9d45125b3ff"), looks := true }, kinds := [], alts := [], laidByText := true, laidKinds := [.data, .data, .widerDeep, .widerDeep, .data, .data, .data, .data, .data, .data, .sentinel, .sentinel, .pinned, .pinned, .pinned, .pinned], laidTests := true, laidLooks := .later }
def PlainTypesUptoCardSaid : Prop := Claim7.holds Tryz.pinned (.plain (OpenSpec.upto plainTypesSpec)) plainTypesUptoCard

/-- THE SECOND FORM's CARD OF 'escritoirelaw26.PlainDots'. -/
def plainDotsUptoCard : Claim7 := { stood := { row := plainDotsUptoRow, standIns := [], harness := (true, "38e4298a496c186ad16fabd06bafa4b0abb37bc19708edff7dacb9d45125b3ff"), looks := true }, kinds := [], alts := [], laidByText := true, laidKinds := [.data, .data, .widerDeep, .widerDeep, .data, .data, .data, .data, .data, .data, .sentinel, .sentinel, .pinned, .pinned, .pinned, .pinned], laidTests := true, laidLooks := .later }
def PlainDotsUptoCardSaid : Prop := Claim7.holds Tryz.pinned (.plain (OpenSpec.upto plainDotsSpec)) plainDotsUptoCard
end Rows
end Go.Proofs.YtmafmfealhcloaaGreatDoor
