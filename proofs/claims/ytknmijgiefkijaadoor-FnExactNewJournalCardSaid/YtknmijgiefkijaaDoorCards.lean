/-
  DERIVED. GIVEN WITH THE SEED: THE CARDS: each row of YtknmijgiefkijaaDoorRows.lean that lists a variable, with what it lists TIED to the program's text (the seventh form; the later family's looks); each row that meets fmt, with fmt's text TOLD by the authors' own Lean function (tested against real Go, not proved from fmt's source: count such statements apart). THE CARD IS WHAT COUNTS. Prove the row's statement (the work); the ties are given (YtknmijgiefkijaaDoorTie.lean); close each card by the builder's one call (the guide's Derived/Test/ToyasCard.lean, 'card_holds'). Laid BY PROGRAM, IN A SANDBOX (cutbox-door.mjs). By AI agents, Wed Nov 11 2026. No macro, syntax, notation, axiom, sorry.
-/
import Derived.Test.YtknmijgiefkijaaDoorRows
import GoSem.ClaimSeven
namespace Go.Proofs.YtknmijgiefkijaaDoor
namespace Rows

/-- THE TIED CARD OF 'laws.FnExactNewJournal'. -/
def fnExactNewJournalCard : Claim7 := { stood := { row := fnExactNewJournalRow, standIns := [], harness := (true, "c88e9463120d88202f97f219e50235dbd90f4dc08a9ac55328ce1862e406c07c"), looks := false }, kinds := [], alts := [], laidByText := true, laidKinds := [.data, .data, .data], laidTests := true, laidLooks := .later }
def FnExactNewJournalCardSaid : Prop := Claim7.holds Tryd.pinned (.plain (OpenSpec.ofChange fnExactNewJournalSpec)) fnExactNewJournalCard

/-- THE SECOND FORM's CARD OF 'laws.FnExactNewJournal'. -/
def fnExactNewJournalUptoCard : Claim7 := { stood := { row := fnExactNewJournalUptoRow, standIns := [], harness := (true, "c88e9463120d88202f97f219e50235dbd90f4dc08a9ac55328ce1862e406c07c"), looks := false }, kinds := [], alts := [], laidByText := true, laidKinds := [.data, .data, .data], laidTests := true, laidLooks := .later }
def FnExactNewJournalUptoCardSaid : Prop := Claim7.holds Tryd.pinned (.plain (OpenSpec.upto fnExactNewJournalSpec)) fnExactNewJournalUptoCard
end Rows
end Go.Proofs.YtknmijgiefkijaaDoor
