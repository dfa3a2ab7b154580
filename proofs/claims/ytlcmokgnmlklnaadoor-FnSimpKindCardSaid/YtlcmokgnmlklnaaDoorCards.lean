/-
  DERIVED. GIVEN WITH THE SEED: THE CARDS: each row of YtlcmokgnmlklnaaDoorRows.lean that lists a variable, with what it lists TIED to the program's text (the seventh form; the later family's looks); each row that meets fmt, with fmt's text TOLD by the authors' own Lean function (tested against real Go, not proved from fmt's source: count such statements apart). THE CARD IS WHAT COUNTS. Prove the row's statement (the work); the ties are given (YtlcmokgnmlklnaaDoorTie.lean); close each card by the builder's one call (the guide's Derived/Test/ToyasCard.lean, 'card_holds'). Laid BY PROGRAM, IN A SANDBOX (cutbox-door.mjs). By AI agents, Wed Nov 11 2026. No macro, syntax, notation, axiom, sorry.
-/
import Derived.Test.YtlcmokgnmlklnaaDoorRows
import GoSem.ClaimSeven
namespace Go.Proofs.YtlcmokgnmlklnaaDoor
namespace Rows

/-- THE TIED CARD OF 'laws.FnSimpKind'. -/
def fnSimpKindCard : Claim7 := { stood := { row := fnSimpKindRow, standIns := [], harness := (true, "0482e75dd4b8abaddf3e6ace281d0a371e8179bcacbd180b156089e95c897eb2"), looks := true }, kinds := [], alts := [], laidByText := true, laidKinds := [.sentinel, .sentinel], laidTests := true, laidLooks := .later }
def FnSimpKindCardSaid : Prop := Claim7.holds Tryd.pinned (.plain (OpenSpec.ofChange fnSimpKindSpec)) fnSimpKindCard

/-- THE SECOND FORM's CARD OF 'laws.FnSimpKind'. -/
def fnSimpKindUptoCard : Claim7 := { stood := { row := fnSimpKindUptoRow, standIns := [], harness := (true, "0482e75dd4b8abaddf3e6ace281d0a371e8179bcacbd180b156089e95c897eb2"), looks := true }, kinds := [], alts := [], laidByText := true, laidKinds := [.sentinel, .sentinel], laidTests := true, laidLooks := .later }
def FnSimpKindUptoCardSaid : Prop := Claim7.holds Tryd.pinned (.plain (OpenSpec.upto fnSimpKindSpec)) fnSimpKindUptoCard
end Rows
end Go.Proofs.YtlcmokgnmlklnaaDoor
