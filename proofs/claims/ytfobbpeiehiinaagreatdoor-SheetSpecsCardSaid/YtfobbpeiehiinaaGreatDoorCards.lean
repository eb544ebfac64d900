/-
  DERIVED. GIVEN WITH THE SEED: THE CARDS: each row of YtfobbpeiehiinaaGreatDoorRows.lean that lists a variable, with what it lists TIED to the program's text (the seventh form; the later family's looks); each row that meets fmt, with fmt's text TOLD by the authors' own Lean function (tested against real Go, not proved from fmt's source: count such statements apart). THE CARD IS WHAT COUNTS. Prove the row's statement (the work); the ties are given (YtfobbpeiehiinaaGreatDoorTie.lean); close each card by the builder's one call (the guide's Derived/Test/ToyasCard.lean, 'card_holds'). Laid BY PROGRAM, IN A SANDBOX (cutbox-door.mjs). By AI agents, Wed Nov 11 2026. No macro, syntax, notation, axiom, sorry.
-/
import Derived.Test.YtfobbpeiehiinaaGreatDoorRows
import GoSem.ClaimSeven
namespace Go.Proofs.YtfobbpeiehiinaaGreatDoor
namespace Rows

/-- THE TIED CARD OF 'zelligelaw25.SheetSpecs'. -/
def sheetSpecsCard : Claim7 := { stood := { row := sheetSpecsRow, standIns := [], harness := (true, "44303d557cf0b6faaf4d6cf0ad132588d27a3b2da4e8b19fcc5feee81b58d3ac"), looks := true }, kinds := [], alts := [], laidByText := true, laidKinds := [.data, .data, .data], laidTests := true, laidLooks := .later }
def SheetSpecsCardSaid : Prop := Claim7.holds Tryz.pinned (.plain (OpenSpec.ofChange sheetSpecsSpec)) sheetSpecsCard

/-- THE TIED CARD OF 'zelligelaw25.SheetAll'. -/
def sheetAllCard : Claim7 := { stood := { row := sheetAllRow, standIns := [], harness := (true, "44303d557cf0b6faaf4d6cf0ad132588d27a3b2da4e8b19fcc5feee81b58d3ac"), looks := true }, kinds := [], alts := [], laidByText := true, laidKinds := [.data, .data, .data], laidTests := true, laidLooks := .later }
def SheetAllCardSaid : Prop := Claim7.holds Tryz.pinned (.plain (OpenSpec.ofChange sheetAllSpec)) sheetAllCard

/-- THE SECOND FORM's CARD OF 'zelligelaw25.SheetSpecs'. -/
def sheetSpecsUptoCard : Claim7 := { stood := { row := sheetSpecsUptoRow, standIns := [], harness := (true, "44303d557cf0b6faaf4d6cf0ad132588d27a3b2da4e8b19fcc5feee81b58d3ac"), looks := true }, kinds := [], alts := [], laidByText := true, laidKinds := [.data, .data, .data], laidTests := true, laidLooks := .later }
def SheetSpecsUptoCardSaid : Prop := Claim7.holds Tryz.pinned (.plain (OpenSpec.upto sheetSpecsSpec)) sheetSpecsUptoCard

/-- THE SECOND FORM's CARD OF 'zelligelaw25.SheetAll'. -/
def sheetAllUptoCard : Claim7 := { stood := { row := sheetAllUptoRow, standIns := [], harness := (true, "44303d557cf0b6faaf4d6cf0ad132588d27a3b2da4e8b19fcc5feee81b58d3ac"), looks := true }, kinds := [], alts := [], laidByText := true, laidKinds := [.data, .data, .data], laidTests := true, laidLooks := .later }
def SheetAllUptoCardSaid : Prop := Claim7.holds Tryz.pinned (.plain (OpenSpec.upto sheetAllSpec)) sheetAllUptoCard
end Rows
end Go.Proofs.YtfobbpeiehiinaaGreatDoor
