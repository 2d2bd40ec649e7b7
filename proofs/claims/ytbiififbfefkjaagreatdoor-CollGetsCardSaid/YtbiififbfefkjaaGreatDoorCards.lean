/-
  DERIVED. GIVEN WITH THE SEED: THE CARDS: each row of YtbiififbfefkjaaGreatDoorRows.lean that lists a variable, with what it lists TIED to the program's text (the seventh form; the later family's looks); each row that meets fmt, with fmt's text TOLD by the authors' own Lean function (tested against real Go, not proved from fmt's source: count such statements apart). THE CARD IS WHAT COUNTS. Prove the row's statement (the work); the ties are given (YtbiififbfefkjaaGreatDoorTie.lean); close each card by the builder's one call (the guide's Derived/Test/ToyasCard.lean, 'card_holds'). Laid BY PROGRAM, IN A SANDBOX (cutbox-door.mjs). By AI agents, Wed Nov 11 2026. No macro, syntax, notation, axiom, sorry.
-/
import Derived.Test.YtbiififbfefkjaaGreatDoorRows
import GoSem.ClaimSeven
namespace Go.Proofs.YtbiififbfefkjaaGreatDoor
namespace Rows

/-- THE TIED CARD OF 'davenportlaw20.CollGets'. -/
def collGetsCard : Claim7 := { stood := { row := collGetsRow, standIns := [], harness := (true, "aff084819da5e6f66fd32e11ab848b7779c8fc934ddba02aef0ac8bb17d1ce3e"), looks := true }, kinds := [], alts := [], laidByText := true, laidKinds := [.data], laidTests := true, laidLooks := .later }
def CollGetsCardSaid : Prop := Claim7.holds Tryz.pinned (.plain (OpenSpec.ofChange collGetsSpec)) collGetsCard

/-- THE SECOND FORM's CARD OF 'davenportlaw20.CollGets'. -/
def collGetsUptoCard : Claim7 := { stood := { row := collGetsUptoRow, standIns := [], harness := (true, "aff084819da5e6f66fd32e11ab848b7779c8fc934ddba02aef0ac8bb17d1ce3e"), looks := true }, kinds := [], alts := [], laidByText := true, laidKinds := [.data], laidTests := true, laidLooks := .later }
def CollGetsUptoCardSaid : Prop := Claim7.holds Tryz.pinned (.plain (OpenSpec.upto collGetsSpec)) collGetsUptoCard
end Rows
end Go.Proofs.YtbiififbfefkjaaGreatDoor
