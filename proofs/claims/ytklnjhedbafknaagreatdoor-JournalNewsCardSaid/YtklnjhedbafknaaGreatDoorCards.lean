/-
  DERIVED. GIVEN WITH THE SEED: THE CARDS: each row of YtklnjhedbafknaaGreatDoorRows.lean that lists a variable, with what it lists TIED to the program's text (the seventh form; the later family's looks); each row that meets fmt, with fmt's text TOLD by the authors' own Lean function (tested against real Go, not proved from fmt's source: count such statements apart). THE CARD IS WHAT COUNTS. Prove the row's statement (the work); the ties are given (YtklnjhedbafknaaGreatDoorTie.lean); close each card by the builder's one call (the guide's Derived/Test/ToyasCard.lean, 'card_holds'). Laid BY PROGRAM, IN A SANDBOX (cutbox-door.mjs). By AI agents, Wed Nov 11 2026. No macro, syntax, notation, axiom, sorry.
-/
import Derived.Test.YtklnjhedbafknaaGreatDoorRows
import GoSem.ClaimSeven
namespace Go.Proofs.YtklnjhedbafknaaGreatDoor
namespace Rows

/-- THE TIED CARD OF 'zelligelaw38.JournalNews'. -/
def journalNewsCard : Claim7 := { stood := { row := journalNewsRow, standIns := [], harness := (true, "d57de053f363e46406a7a17e6e672beed16c10346c4b30ba772b829b9a2ecd09"), looks := true }, kinds := [], alts := [], laidByText := true, laidKinds := [.data, .data, .data], laidTests := true, laidLooks := .later }
def JournalNewsCardSaid : Prop := Claim7.holds Tryz.pinned (.plain (OpenSpec.ofChange journalNewsSpec)) journalNewsCard

/-- THE SECOND FORM's CARD OF 'zelligelaw38.JournalNews'. -/
def journalNewsUptoCard : Claim7 := { stood := { row := journalNewsUptoRow, standIns := [], harness := (true, "d57de053f363e46406a7a17e6e672beed16c10346c4b30ba772b829b9a2ecd09"), looks := true }, kinds := [], alts := [], laidByText := true, laidKinds := [.data, .data, .data], laidTests := true, laidLooks := .later }
def JournalNewsUptoCardSaid : Prop := Claim7.holds Tryz.pinned (.plain (OpenSpec.upto journalNewsSpec)) journalNewsUptoCard
end Rows
end Go.Proofs.YtklnjhedbafknaaGreatDoor
