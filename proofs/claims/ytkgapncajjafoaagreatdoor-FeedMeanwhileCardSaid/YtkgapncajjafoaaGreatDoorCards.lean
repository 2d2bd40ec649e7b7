/-
  DERIVED. GIVEN WITH THE SEED: THE CARDS: each row of YtkgapncajjafoaaGreatDoorRows.lean that lists a variable, with what it lists TIED to the program's text (the seventh form; the later family's looks); each row that meets fmt, with fmt's text TOLD by the authors' own Lean function (tested against real Go, not proved from fmt's source: count such statements apart). THE CARD IS WHAT COUNTS. Prove the row's statement (the work); the ties are given (YtkgapncajjafoaaGreatDoorTie.lean); close each card by the builder's one call (the guide's Derived/Test/ToyasCard.lean, 'card_holds'). Laid BY PROGRAM, IN A SANDBOX (cutbox-door.mjs). By AI agents, Wed Nov 11 2026. No macro, syntax, notation, axiom, sorry.
-/
import Derived.Test.YtkgapncajjafoaaGreatDoorRows
import GoSem.ClaimSeven
namespace Go.Proofs.YtkgapncajjafoaaGreatDoor
namespace Rows

/-- THE TIED CARD OF 'davenportlaw21.FeedTokens'. -/
def feedTokensCard : Claim7 := { stood := { row := feedTokensRow, standIns := [], harness := (true, "457f442fcf09707aa9513db520ad357a75ab57538922e8738d6a559993541667"), looks := true }, kinds := [], alts := [], laidByText := true, laidKinds := [.data], laidTests := true, laidLooks := .later }
def FeedTokensCardSaid : Prop := Claim7.holds Tryz.pinned (.plain (OpenSpec.ofChange feedTokensSpec)) feedTokensCard

/-- THE TIED CARD OF 'davenportlaw21.FeedTells'. -/
def feedTellsCard : Claim7 := { stood := { row := feedTellsRow, standIns := [], harness := (true, "457f442fcf09707aa9513db520ad357a75ab57538922e8738d6a559993541667"), looks := true }, kinds := [], alts := [], laidByText := true, laidKinds := [.data], laidTests := true, laidLooks := .later }
def FeedTellsCardSaid : Prop := Claim7.holds Tryz.pinned (.plain (OpenSpec.ofChange feedTellsSpec)) feedTellsCard

/-- THE TIED CARD OF 'davenportlaw21.FeedWhole'. -/
def feedWholeCard : Claim7 := { stood := { row := feedWholeRow, standIns := [], harness := (true, "457f442fcf09707aa9513db520ad357a75ab57538922e8738d6a559993541667"), looks := true }, kinds := [], alts := [], laidByText := true, laidKinds := [.data], laidTests := true, laidLooks := .later }
def FeedWholeCardSaid : Prop := Claim7.holds Tryz.pinned (.plain (OpenSpec.ofChange feedWholeSpec)) feedWholeCard

/-- THE TIED CARD OF 'davenportlaw21.FeedMeanwhile'. -/
def feedMeanwhileCard : Claim7 := { stood := { row := feedMeanwhileRow, standIns := [], harness := (true, "457f442fcf09707aa9513db520ad357a75ab57538922e8738d6a559993541667"), looks := true }, kinds := [], alts := [], laidByText := true, laidKinds := [.data], laidTests := true, laidLooks := .later }
def FeedMeanwhileCardSaid : Prop := Claim7.holds Tryz.pinned (.plain (OpenSpec.ofChange feedMeanwhileSpec)) feedMeanwhileCard

/-- THE TIED CARD OF 'davenportlaw21.FeedResumes'. -/
def feedResumesCard : Claim7 := { stood := { row := feedResumesRow, standIns := [], harness := (true, "457f442fcf09707aa9513db520ad357a75ab57538922e8738d6a559993541667"), looks := true }, kinds := [], alts := [], laidByText := true, laidKinds := [.data], laidTests := true, laidLooks := .later }
def FeedResumesCardSaid : Prop := Claim7.holds Tryz.pinned (.plain (OpenSpec.ofChange feedResumesSpec)) feedResumesCard

/-- THE TIED CARD OF 'davenportlaw21.FeedOne'. -/
def feedOneCard : Claim7 := { stood := { row := feedOneRow, standIns := [], harness := (true, "457f442fcf09707aa9513db520ad357a75ab57538922e8738d6a559993541667"), looks := true }, kinds := [], alts := [], laidByText := true, laidKinds := [.data], laidTests := true, laidLooks := .later }
def FeedOneCardSaid : Prop := Claim7.holds Tryz.pinned (.plain (OpenSpec.ofChange feedOneSpec)) feedOneCard

/-- THE SECOND FORM's CARD OF 'davenportlaw21.FeedTokens'. -/
def feedTokensUptoCard : Claim7 := { stood := { row := feedTokensUptoRow, standIns := [], harness := (true, "457f442fcf09707aa9513db520ad357a75ab57538922e8738d6a559993541667"), looks := true }, kinds := [], alts := [], laidByText := true, laidKinds := [.data], laidTests := true, laidLooks := .later }
def FeedTokensUptoCardSaid : Prop := Claim7.holds Tryz.pinned (.plain (OpenSpec.upto feedTokensSpec)) feedTokensUptoCard

/-- THE SECOND FORM's CARD OF 'davenportlaw21.FeedTells'. -/
def feedTellsUptoCard : Claim7 := { stood := { row := feedTellsUptoRow, standIns := [], harness := (true, "457f442fcf09707aa9513db520ad357a75ab57538922e8738d6a559993541667"), looks := true }, kinds := [], alts := [], laidByText := true, laidKinds := [.data], laidTests := true, laidLooks := .later }
def FeedTellsUptoCardSaid : Prop := Claim7.holds Tryz.pinned (.plain (OpenSpec.upto feedTellsSpec)) feedTellsUptoCard

/-- THE SECOND FORM's CARD OF 'davenportlaw21.FeedWhole'. -/
def feedWholeUptoCard : Claim7 := { stood := { row := feedWholeUptoRow, standIns := [], harness := (true, "457f442fcf09707aa9513db520ad357a75ab57538922e8738d6a559993541667"), looks := true }, kinds := [], alts := [], laidByText := true, laidKinds := [.data], laidTests := true, laidLooks := .later }
def FeedWholeUptoCardSaid : Prop := Claim7.holds Tryz.pinned (.plain (OpenSpec.upto feedWholeSpec)) feedWholeUptoCard

/-- THE SECOND FORM's CARD OF 'davenportlaw21.FeedMeanwhile'. -/
def feedMeanwhileUptoCard : Claim7 := { stood := { row := feedMeanwhileUptoRow, standIns := [], harness := (true, "457f442fcf09707aa9513db520ad357a75ab57538922e8738d6a559993541667"), looks := true }, kinds := [], alts := [], laidByText := true, laidKinds := [.data], laidTests := true, laidLooks := .later }
def FeedMeanwhileUptoCardSaid : Prop := Claim7.holds Tryz.pinned (.plain (OpenSpec.upto feedMeanwhileSpec)) feedMeanwhileUptoCard

/-- THE SECOND FORM's CARD OF 'davenportlaw21.FeedResumes'. -/
def feedResumesUptoCard : Claim7 := { stood := { row := feedResumesUptoRow, standIns := [], harness := (true, "457f442fcf09707aa9513db520ad357a75ab57538922e8738d6a559993541667"), looks := true }, kinds := [], alts := [], laidByText := true, laidKinds := [.data], laidTests := true, laidLooks := .later }
def FeedResumesUptoCardSaid : Prop := Claim7.holds Tryz.pinned (.plain (OpenSpec.upto feedResumesSpec)) feedResumesUptoCard

/-- THE SECOND FORM's CARD OF 'davenportlaw21.FeedOne'. -/
def feedOneUptoCard : Claim7 := { stood := { row := feedOneUptoRow, standIns := [], harness := (true, "457f442fcf09707aa9513db520ad357a75ab57538922e8738d6a559993541667"), looks := true }, kinds := [], alts := [], laidByText := true, laidKinds := [.data], laidTests := true, laidLooks := .later }
def FeedOneUptoCardSaid : Prop := Claim7.holds Tryz.pinned (.plain (OpenSpec.upto feedOneSpec)) feedOneUptoCard
end Rows
end Go.Proofs.YtkgapncajjafoaaGreatDoor
