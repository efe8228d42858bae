/-
  DERIVED. GIVEN WITH THE SEED: THE CARDS: each row of YtmcfpcgpjppfkaaGreatDoorRows.lean that lists a variable, with what it lists TIED to the program's text (the seventh form; the later family's looks); each row that meets fmt, with fmt's text TOLD by the authors' own Lean function (tested against real Go, not proved from fmt's source: count such statements apart). THE CARD IS WHAT COUNTS. Prove the row's statement (the work); the ties are given (YtmcfpcgpjppfkaaGreatDoorTie.lean); close each card by the builder's one call (the guide's Derived/Test/ToyasCard.lean, 'card_holds'). Laid BY PROGRAM, IN A SANDBOX (cutbox-door.mjs). By AI agents, Wed Nov 11 2026. No macro, syntax, notation, axiom, sorry.
-/
import Derived.Test.YtmcfpcgpjppfkaaGreatDoorRows
import GoSem.ClaimSeven
namespace Go.Proofs.YtmcfpcgpjppfkaaGreatDoor
namespace Rows

/-- THE TIED CARD OF 'ripostelaw24.SiteBytes'. -/
def siteBytesCard : Claim7 := { stood := { row := siteBytesRow, standIns := [], harness := (true, "48ef9d725928f508a51a403b48ff458dfdd451bf7696e2c6435f7640463c54c6"), looks := true }, kinds := [], alts := [], laidByText := true, laidKinds := [.data, .pinned, .data, .listed, .sentinel, .sentinel, .data, .data, .data], laidTests := true, laidLooks := .later }
def SiteBytesCardSaid : Prop := Claim7.holds Tryz.pinned (.plain (OpenSpec.ofChange siteBytesSpec)) siteBytesCard

/-- THE SECOND FORM's CARD OF 'ripostelaw24.SiteBytes'. -/
def siteBytesUptoCard : Claim7 := { stood := { row := siteBytesUptoRow, standIns := [], harness := (true, "48ef9d725928f508a51a403b48ff458dfdd451bf7696e2c6435f7640463c54c6"), looks := true }, kinds := [], alts := [], laidByText := true, laidKinds := [.data, .pinned, .data, .listed, .sentinel, .sentinel, .data, .data, .data], laidTests := true, laidLooks := .later }
def SiteBytesUptoCardSaid : Prop := Claim7.holds Tryz.pinned (.plain (OpenSpec.upto siteBytesSpec)) siteBytesUptoCard
end Rows
end Go.Proofs.YtmcfpcgpjppfkaaGreatDoor
