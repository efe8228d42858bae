/-
  DERIVED. GIVEN WITH THE SEED: THE CARDS: each row of YtiimhfmdhofffaaGreatDoorRows.lean that lists a variable, with what it lists TIED to the program's text (the seventh form; the later family's looks); each row that meets fmt, with fmt's text TOLD by the authors' own Lean function (tested against real Go, not proved from fmt's source: count such statements apart). THE CARD IS WHAT COUNTS. Prove the row's statement (the work); the ties are given (YtiimhfmdhofffaaGreatDoorTie.lean); close each card by the builder's one call (the guide's Derived/Test/ToyasCard.lean, 'card_holds'). Laid BY PROGRAM, IN A SANDBOX (cutbox-door.mjs). By AI agents, Wed Nov 11 2026. No macro, syntax, notation, axiom, sorry.
-/
import Derived.Test.YtiimhfmdhofffaaGreatDoorRows
import GoSem.ClaimSeven
namespace Go.Proofs.YtiimhfmdhofffaaGreatDoor
namespace Rows

/-- THE TIED CARD OF 'ripostelaw17.TokenNames'. -/
def tokenNamesCard : Claim7 := { stood := { row := tokenNamesRow, standIns := [], harness := (true, "1c247120b2fbd1d37df52aa8c4bcf7770c9ac2cb70110334e1454795b16cf85d"), looks := true }, kinds := [], alts := [], laidByText := true, laidKinds := [.data, .pinned, .data, .listed, .sentinel, .sentinel, .data, .data, .data], laidTests := true, laidLooks := .later }
def TokenNamesCardSaid : Prop := Claim7.holds Tryz.pinned (.plain (OpenSpec.ofChange tokenNamesSpec)) tokenNamesCard

/-- THE TIED CARD OF 'ripostelaw24.SiteNames'. -/
def siteNamesCard : Claim7 := { stood := { row := siteNamesRow, standIns := [], harness := (true, "1c247120b2fbd1d37df52aa8c4bcf7770c9ac2cb70110334e1454795b16cf85d"), looks := true }, kinds := [], alts := [], laidByText := true, laidKinds := [.data, .pinned, .data, .listed, .sentinel, .sentinel, .data, .data, .data], laidTests := true, laidLooks := .later }
def SiteNamesCardSaid : Prop := Claim7.holds Tryz.pinned (.plain (OpenSpec.ofChange siteNamesSpec)) siteNamesCard

/-- THE SECOND FORM's CARD OF 'ripostelaw17.TokenNames'. -/
def tokenNamesUptoCard : Claim7 := { stood := { row := tokenNamesUptoRow, standIns := [], harness := (true, "1c247120b2fbd1d37df52aa8c4bcf7770c9ac2cb70110334e1454795b16cf85d"), looks := true }, kinds := [], alts := [], laidByText := true, laidKinds := [.data, .pinned, .data, .listed, .sentinel, .sentinel, .data, .data, .data], laidTests := true, laidLooks := .later }
def TokenNamesUptoCardSaid : Prop := Claim7.holds Tryz.pinned (.plain (OpenSpec.upto tokenNamesSpec)) tokenNamesUptoCard

/-- THE SECOND FORM's CARD OF 'ripostelaw24.SiteNames'. -/
def siteNamesUptoCard : Claim7 := { stood := { row := siteNamesUptoRow, standIns := [], harness := (true, "1c247120b2fbd1d37df52aa8c4bcf7770c9ac2cb70110334e1454795b16cf85d"), looks := true }, kinds := [], alts := [], laidByText := true, laidKinds := [.data, .pinned, .data, .listed, .sentinel, .sentinel, .data, .data, .data], laidTests := true, laidLooks := .later }
def SiteNamesUptoCardSaid : Prop := Claim7.holds Tryz.pinned (.plain (OpenSpec.upto siteNamesSpec)) siteNamesUptoCard
end Rows
end Go.Proofs.YtiimhfmdhofffaaGreatDoor
