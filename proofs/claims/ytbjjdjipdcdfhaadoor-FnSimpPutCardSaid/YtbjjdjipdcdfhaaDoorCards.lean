/-
  DERIVED. GIVEN WITH THE SEED: THE CARDS: each row of YtbjjdjipdcdfhaaDoorRows.lean that lists a variable, with what it lists TIED to the program's text (the seventh form; the later family's looks); each row that meets fmt, with fmt's text TOLD by the authors' own Lean function (tested against real Go, not proved from fmt's source: count such statements apart). THE CARD IS WHAT COUNTS. Prove the row's statement (the work); the ties are given (YtbjjdjipdcdfhaaDoorTie.lean); close each card by the builder's one call (the guide's Derived/Test/ToyasCard.lean, 'card_holds'). Laid BY PROGRAM, IN A SANDBOX (cutbox-door.mjs). By AI agents, Wed Nov 11 2026. No macro, syntax, notation, axiom, sorry.
-/
import Derived.Test.YtbjjdjipdcdfhaaDoorRows
import GoSem.ClaimSeven
namespace Go.Proofs.YtbjjdjipdcdfhaaDoor
namespace Rows

/-- THE TIED CARD OF 'laws.FnSimpTwice'. -/
def fnSimpTwiceCard : Claim7 := { stood := { row := fnSimpTwiceRow, standIns := [], harness := (true, "8cfc57e93b4f89faba149abb281970eebf1fcfcde33b1eaf7a6ca6324ba5ab67"), looks := true }, kinds := [], alts := [], laidByText := true, laidKinds := [.sentinel], laidTests := true, laidLooks := .later }
def FnSimpTwiceCardSaid : Prop := Claim7.holds Tryd.pinned (.plain (OpenSpec.ofChange fnSimpTwiceSpec)) fnSimpTwiceCard

/-- THE TIED CARD OF 'laws.FnSimpNames'. -/
def fnSimpNamesCard : Claim7 := { stood := { row := fnSimpNamesRow, standIns := [], harness := (true, "8cfc57e93b4f89faba149abb281970eebf1fcfcde33b1eaf7a6ca6324ba5ab67"), looks := true }, kinds := [], alts := [], laidByText := true, laidKinds := [.sentinel], laidTests := true, laidLooks := .later }
def FnSimpNamesCardSaid : Prop := Claim7.holds Tryd.pinned (.plain (OpenSpec.ofChange fnSimpNamesSpec)) fnSimpNamesCard

/-- THE TIED CARD OF 'laws.FnSimpPart'. -/
def fnSimpPartCard : Claim7 := { stood := { row := fnSimpPartRow, standIns := [], harness := (true, "8cfc57e93b4f89faba149abb281970eebf1fcfcde33b1eaf7a6ca6324ba5ab67"), looks := true }, kinds := [], alts := [], laidByText := true, laidKinds := [.sentinel], laidTests := true, laidLooks := .later }
def FnSimpPartCardSaid : Prop := Claim7.holds Tryd.pinned (.plain (OpenSpec.ofChange fnSimpPartSpec)) fnSimpPartCard

/-- THE TIED CARD OF 'laws.FnSimpPut'. -/
def fnSimpPutCard : Claim7 := { stood := { row := fnSimpPutRow, standIns := [], harness := (true, "8cfc57e93b4f89faba149abb281970eebf1fcfcde33b1eaf7a6ca6324ba5ab67"), looks := true }, kinds := [], alts := [], laidByText := true, laidKinds := [.sentinel], laidTests := true, laidLooks := .later }
def FnSimpPutCardSaid : Prop := Claim7.holds Tryd.pinned (.plain (OpenSpec.ofChange fnSimpPutSpec)) fnSimpPutCard

/-- THE SECOND FORM's CARD OF 'laws.FnSimpTwice'. -/
def fnSimpTwiceUptoCard : Claim7 := { stood := { row := fnSimpTwiceUptoRow, standIns := [], harness := (true, "8cfc57e93b4f89faba149abb281970eebf1fcfcde33b1eaf7a6ca6324ba5ab67"), looks := true }, kinds := [], alts := [], laidByText := true, laidKinds := [.sentinel], laidTests := true, laidLooks := .later }
def FnSimpTwiceUptoCardSaid : Prop := Claim7.holds Tryd.pinned (.plain (OpenSpec.upto fnSimpTwiceSpec)) fnSimpTwiceUptoCard

/-- THE SECOND FORM's CARD OF 'laws.FnSimpNames'. -/
def fnSimpNamesUptoCard : Claim7 := { stood := { row := fnSimpNamesUptoRow, standIns := [], harness := (true, "8cfc57e93b4f89faba149abb281970eebf1fcfcde33b1eaf7a6ca6324ba5ab67"), looks := true }, kinds := [], alts := [], laidByText := true, laidKinds := [.sentinel], laidTests := true, laidLooks := .later }
def FnSimpNamesUptoCardSaid : Prop := Claim7.holds Tryd.pinned (.plain (OpenSpec.upto fnSimpNamesSpec)) fnSimpNamesUptoCard

/-- THE SECOND FORM's CARD OF 'laws.FnSimpPart'. -/
def fnSimpPartUptoCard : Claim7 := { stood := { row := fnSimpPartUptoRow, standIns := [], harness := (true, "8cfc57e93b4f89faba149abb281970eebf1fcfcde33b1eaf7a6ca6324ba5ab67"), looks := true }, kinds := [], alts := [], laidByText := true, laidKinds := [.sentinel], laidTests := true, laidLooks := .later }
def FnSimpPartUptoCardSaid : Prop := Claim7.holds Tryd.pinned (.plain (OpenSpec.upto fnSimpPartSpec)) fnSimpPartUptoCard

/-- THE SECOND FORM's CARD OF 'laws.FnSimpPut'. -/
def fnSimpPutUptoCard : Claim7 := { stood := { row := fnSimpPutUptoRow, standIns := [], harness := (true, "8cfc57e93b4f89faba149abb281970eebf1fcfcde33b1eaf7a6ca6324ba5ab67"), looks := true }, kinds := [], alts := [], laidByText := true, laidKinds := [.sentinel], laidTests := true, laidLooks := .later }
def FnSimpPutUptoCardSaid : Prop := Claim7.holds Tryd.pinned (.plain (OpenSpec.upto fnSimpPutSpec)) fnSimpPutUptoCard
end Rows
end Go.Proofs.YtbjjdjipdcdfhaaDoor
