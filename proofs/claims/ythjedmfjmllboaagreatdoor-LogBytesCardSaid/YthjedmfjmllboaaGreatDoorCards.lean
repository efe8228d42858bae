/-
  DERIVED. GIVEN WITH THE SEED: THE CARDS: each row of YthjedmfjmllboaaGreatDoorRows.lean that lists a variable, with what it lists TIED to the program's text (the seventh form; the later family's looks); each row that meets fmt, with fmt's text TOLD by the authors' own Lean function (tested against real Go, not proved from fmt's source: count such statements apart). THE CARD IS WHAT COUNTS. Prove the row's statement (the work); the ties are given (YthjedmfjmllboaaGreatDoorTie.lean); close each card by the builder's one call (the guide's Derived/Test/ToyasCard.lean, 'card_holds'). Laid BY PROGRAM, IN A SANDBOX (cutbox-door.mjs). By AI agents, Wed Nov 11 2026. No macro, syntax, notation, axiom, sorry.
-/
import Derived.Test.YthjedmfjmllboaaGreatDoorRows
import GoSem.ClaimSeven
namespace Go.Proofs.YthjedmfjmllboaaGreatDoor
namespace Rows

/-- THE TIED CARD OF 'ripostelaw26.LogBytes'. -/
def logBytesCard : Claim7 := { stood := { row := logBytesRow, standIns := [], harness := (true, "01b71c19434d616458fca5cee8fd3043c68b2d75aeeb58ec24c4536ffdd4509b"), looks := true }, kinds := [], alts := [], laidByText := true, laidKinds := [.data, .pinned, .data, .listed, .sentinel, .sentinel, .data, .data, .data], laidTests := true, laidLooks := .later }
def LogBytesCardSaid : Prop := Claim7.holds Tryz.pinned (.plain (OpenSpec.ofChange logBytesSpec)) logBytesCard

/-- THE TIED CARD OF 'ripostelaw26.LogNames'. -/
def logNamesCard : Claim7 := { stood := { row := logNamesRow, standIns := [], harness := (true, "01b71c19434d616458fca5cee8fd3043c68b2d75aeeb58ec24c4536ffdd4509b"), looks := true }, kinds := [], alts := [], laidByText := true, laidKinds := [.data, .pinned, .data, .listed, .sentinel, .sentinel, .data, .data, .data], laidTests := true, laidLooks := .later }
def LogNamesCardSaid : Prop := Claim7.holds Tryz.pinned (.plain (OpenSpec.ofChange logNamesSpec)) logNamesCard

/-- THE SECOND FORM's CARD OF 'ripostelaw26.LogBytes'. -/
def logBytesUptoCard : Claim7 := { stood := { row := logBytesUptoRow, standIns := [], harness := (true, "01b71c19434d616458fca5cee8fd3043c68b2d75aeeb58ec24c4536ffdd4509b"), looks := true }, kinds := [], alts := [], laidByText := true, laidKinds := [.data, .pinned, .data, .listed, .sentinel, .sentinel, .data, .data, .data], laidTests := true, laidLooks := .later }
def LogBytesUptoCardSaid : Prop := Claim7.holds Tryz.pinned (.plain (OpenSpec.upto logBytesSpec)) logBytesUptoCard

/-- THE SECOND FORM's CARD OF 'ripostelaw26.LogNames'. -/
def logNamesUptoCard : Claim7 := { stood := { row := logNamesUptoRow, standIns := [], harness := (true, "01b71c19434d616458fca5cee8fd3043c68b2d75aeeb58ec24c4536ffdd4509b"), looks := true }, kinds := [], alts := [], laidByText := true, laidKinds := [.data, .pinned, .data, .listed, .sentinel, .sentinel, .data, .data, .data], laidTests := true, laidLooks := .later }
def LogNamesUptoCardSaid : Prop := Claim7.holds Tryz.pinned (.plain (OpenSpec.upto logNamesSpec)) logNamesUptoCard
end Rows
end Go.Proofs.YthjedmfjmllboaaGreatDoor
