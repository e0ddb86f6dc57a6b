/-
  DERIVED. GIVEN WITH THE SEED: THE CARDS: each row of YtecdjnabmjhakaaDoorRows.lean that lists a variable, with what it lists TIED to the program's text (the seventh form; the later family's looks); each row that meets fmt, with fmt's text TOLD by the authors' own Lean function (tested against real Go, not proved from fmt's source: count such statements apart). THE CARD IS WHAT COUNTS. Prove the row's statement (the work); the ties are given (YtecdjnabmjhakaaDoorTie.lean); close each card by the builder's one call (the guide's Derived/Test/ToyasCard.lean, 'card_holds'). Laid BY PROGRAM, IN A SANDBOX (cutbox-door.mjs). By AI agents, Wed Nov 11 2026. No macro, syntax, notation, axiom, sorry.
-/
import Derived.Test.YtecdjnabmjhakaaDoorRows
import GoSem.ClaimSeven
namespace Go.Proofs.YtecdjnabmjhakaaDoor
namespace Rows

/-- THE TIED CARD OF 'cippuslaw07.StemmaKnown'. -/
def stemmaKnownCard : Claim7 := { stood := { row := stemmaKnownRow, standIns := [], harness := (true, "6ae9ac2cbe7134f9ac2e1285c34643d5eca31d8983bd96d3a1d46af242e41d41"), looks := false }, kinds := [], alts := [], laidByText := true, laidKinds := [.data, .data, .data], laidTests := true, laidLooks := .later }
def StemmaKnownCardSaid : Prop := Claim7.holds Tryd.pinned (.plain (OpenSpec.ofChange stemmaKnownSpec)) stemmaKnownCard

/-- THE TIED CARD OF 'cippuslaw07.StemmaTexts'. -/
def stemmaTextsCard : Claim7 := { stood := { row := stemmaTextsRow, standIns := [], harness := (true, "6ae9ac2cbe7134f9ac2e1285c34643d5eca31d8983bd96d3a1d46af242e41d41"), looks := false }, kinds := [], alts := [], laidByText := true, laidKinds := [.data, .data, .data, .data, .pinned], laidTests := true, laidLooks := .later }
def StemmaTextsCardSaid : Prop := Claim7.holds Tryd.pinned (.plain (OpenSpec.ofChange stemmaTextsSpec)) stemmaTextsCard

/-- THE TIED CARD OF 'cippuslaw07.StemmaRead'. -/
def stemmaReadCard : Claim7 := { stood := { row := stemmaReadRow, standIns := [], harness := (true, "6ae9ac2cbe7134f9ac2e1285c34643d5eca31d8983bd96d3a1d46af242e41d41"), looks := false }, kinds := [], alts := [], laidByText := true, laidKinds := [.data, .data, .data, .data, .pinned], laidTests := true, laidLooks := .later }
def StemmaReadCardSaid : Prop := Claim7.holds Tryd.pinned (.plain (OpenSpec.ofChange stemmaReadSpec)) stemmaReadCard

/-- THE SECOND FORM's CARD OF 'cippuslaw07.StemmaKnown'. -/
def stemmaKnownUptoCard : Claim7 := { stood := { row := stemmaKnownUptoRow, standIns := [], harness := (true, "6ae9ac2cbe7134f9ac2e1285c34643d5eca31d8983bd96d3a1d46af242e41d41"), looks := false }, kinds := [], alts := [], laidByText := true, laidKinds := [.data, .data, .data], laidTests := true, laidLooks := .later }
def StemmaKnownUptoCardSaid : Prop := Claim7.holds Tryd.pinned (.plain (OpenSpec.upto stemmaKnownSpec)) stemmaKnownUptoCard

/-- THE SECOND FORM's CARD OF 'cippuslaw07.StemmaTexts'. -/
def stemmaTextsUptoCard : Claim7 := { stood := { row := stemmaTextsUptoRow, standIns := [], harness := (true, "6ae9ac2cbe7134f9ac2e1285c34643d5eca31d8983bd96d3a1d46af242e41d41"), looks := false }, kinds := [], alts := [], laidByText := true, laidKinds := [.data, .data, .data, .data, .pinned], laidTests := true, laidLooks := .later }
def StemmaTextsUptoCardSaid : Prop := Claim7.holds Tryd.pinned (.plain (OpenSpec.upto stemmaTextsSpec)) stemmaTextsUptoCard

/-- THE SECOND FORM's CARD OF 'cippuslaw07.StemmaRead'. -/
def stemmaReadUptoCard : Claim7 := { stood := { row := stemmaReadUptoRow, standIns := [], harness := (true, "6ae9ac2cbe7134f9ac2e1285c34643d5eca31d8983bd96d3a1d46af242e41d41"), looks := false }, kinds := [], alts := [], laidByText := true, laidKinds := [.data, .data, .data, .data, .pinned], laidTests := true, laidLooks := .later }
def StemmaReadUptoCardSaid : Prop := Claim7.holds Tryd.pinned (.plain (OpenSpec.upto stemmaReadSpec)) stemmaReadUptoCard
end Rows
end Go.Proofs.YtecdjnabmjhakaaDoor
