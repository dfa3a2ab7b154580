/-
  DERIVED. GIVEN WITH THE SEED: THE CARDS: each row of YtglkkbgflnpjeaaGreatDoorRows.lean that lists a variable, with what it lists TIED to the program's text (the seventh form; the later family's looks); each row that meets fmt, with fmt's text TOLD by the authors' own Lean function (tested against real Go, not proved from fmt's source: count such statements apart). THE CARD IS WHAT COUNTS. Prove the row's statement (the work); the ties are given (YtglkkbgflnpjeaaGreatDoorTie.lean); close each card by the builder's one call (the guide's Derived/Test/ToyasCard.lean, 'card_holds'). Laid BY PROGRAM, IN A SANDBOX (cutbox-door.mjs). By AI agents, Wed Nov 11 2026. No macro, syntax, notation, axiom, sorry.
-/
import Derived.Test.YtglkkbgflnpjeaaGreatDoorRows
import GoSem.ClaimSeven
namespace Go.Proofs.YtglkkbgflnpjeaaGreatDoor
namespace Rows

/-- THE TIED CARD OF 'laws.FnSimpNum'. -/
def fnSimpNumCard : Claim7 := { stood := { row := fnSimpNumRow, standIns := [], harness := (true, "9b1097d01a12c1d0c6bddc385ff885e09d81ddd4ffc98c2bf66f99ad510f5c70"), looks := true }, kinds := [], alts := [], laidByText := true, laidKinds := [.sentinel], laidTests := true, laidLooks := .later }
def FnSimpNumCardSaid : Prop := Claim7.holds Tryz.pinned (.plain (OpenSpec.ofChange fnSimpNumSpec)) fnSimpNumCard

/-- THE SECOND FORM's CARD OF 'laws.FnSimpNum'. -/
def fnSimpNumUptoCard : Claim7 := { stood := { row := fnSimpNumUptoRow, standIns := [], harness := (true, "9b1097d01a12c1d0c6bddc385ff885e09d81ddd4ffc98c2bf66f99ad510f5c70"), looks := true }, kinds := [], alts := [], laidByText := true, laidKinds := [.sentinel], laidTests := true, laidLooks := .later }
def FnSimpNumUptoCardSaid : Prop := Claim7.holds Tryz.pinned (.plain (OpenSpec.upto fnSimpNumSpec)) fnSimpNumUptoCard
end Rows
end Go.Proofs.YtglkkbgflnpjeaaGreatDoor
