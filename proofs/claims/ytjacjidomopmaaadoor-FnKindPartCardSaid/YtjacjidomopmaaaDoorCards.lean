/-
  DERIVED. GIVEN WITH THE SEED: THE CARDS: each row of YtjacjidomopmaaaDoorRows.lean that lists a variable, with what it lists TIED to the program's text (the seventh form; the later family's looks); each row that meets fmt, with fmt's text TOLD by the authors' own Lean function (tested against real Go, not proved from fmt's source: count such statements apart). THE CARD IS WHAT COUNTS. Prove the row's statement (the work); the ties are given (YtjacjidomopmaaaDoorTie.lean); close each card by the builder's one call (the guide's Derived/Test/ToyasCard.lean, 'card_holds'). Laid BY PROGRAM, IN A SANDBOX (cutbox-door.mjs). By AI agents, Wed Nov 11 2026. No macro, syntax, notation, axiom, sorry.
-/
import Derived.Test.YtjacjidomopmaaaDoorRows
import GoSem.ClaimSeven
namespace Go.Proofs.YtjacjidomopmaaaDoor
namespace Rows

/-- THE TIED CARD OF 'laws.FnKindMore'. -/
def fnKindMoreCard : Claim7 := { stood := { row := fnKindMoreRow, standIns := [], harness := (true, "ccd76ed37a0188e96d500f81bd3964526dfde6c9ecb9c99eaa301ebac6a220d4"), looks := true }, kinds := [], alts := [], laidByText := true, laidKinds := [.sentinel], laidTests := true, laidLooks := .later }
def FnKindMoreCardSaid : Prop := Claim7.holds Tryd.pinned (.plain (OpenSpec.ofChange fnKindMoreSpec)) fnKindMoreCard

/-- THE TIED CARD OF 'laws.FnKindTerm'. -/
def fnKindTermCard : Claim7 := { stood := { row := fnKindTermRow, standIns := [], harness := (true, "ccd76ed37a0188e96d500f81bd3964526dfde6c9ecb9c99eaa301ebac6a220d4"), looks := true }, kinds := [], alts := [], laidByText := true, laidKinds := [.sentinel], laidTests := true, laidLooks := .later }
def FnKindTermCardSaid : Prop := Claim7.holds Tryd.pinned (.plain (OpenSpec.ofChange fnKindTermSpec)) fnKindTermCard

/-- THE TIED CARD OF 'laws.FnKindPart'. -/
def fnKindPartCard : Claim7 := { stood := { row := fnKindPartRow, standIns := [], harness := (true, "ccd76ed37a0188e96d500f81bd3964526dfde6c9ecb9c99eaa301ebac6a220d4"), looks := true }, kinds := [], alts := [], laidByText := true, laidKinds := [.sentinel], laidTests := true, laidLooks := .later }
def FnKindPartCardSaid : Prop := Claim7.holds Tryd.pinned (.plain (OpenSpec.ofChange fnKindPartSpec)) fnKindPartCard

/-- THE SECOND FORM's CARD OF 'laws.FnKindMore'. -/
def fnKindMoreUptoCard : Claim7 := { stood := { row := fnKindMoreUptoRow, standIns := [], harness := (true, "ccd76ed37a0188e96d500f81bd3964526dfde6c9ecb9c99eaa301ebac6a220d4"), looks := true }, kinds := [], alts := [], laidByText := true, laidKinds := [.sentinel], laidTests := true, laidLooks := .later }
def FnKindMoreUptoCardSaid : Prop := Claim7.holds Tryd.pinned (.plain (OpenSpec.upto fnKindMoreSpec)) fnKindMoreUptoCard

/-- THE SECOND FORM's CARD OF 'laws.FnKindTerm'. -/
def fnKindTermUptoCard : Claim7 := { stood := { row := fnKindTermUptoRow, standIns := [], harness := (true, "ccd76ed37a0188e96d500f81bd3964526dfde6c9ecb9c99eaa301ebac6a220d4"), looks := true }, kinds := [], alts := [], laidByText := true, laidKinds := [.sentinel], laidTests := true, laidLooks := .later }
def FnKindTermUptoCardSaid : Prop := Claim7.holds Tryd.pinned (.plain (OpenSpec.upto fnKindTermSpec)) fnKindTermUptoCard

/-- THE SECOND FORM's CARD OF 'laws.FnKindPart'. -/
def fnKindPartUptoCard : Claim7 := { stood := { row := fnKindPartUptoRow, standIns := [], harness := (true, "ccd76ed37a0188e96d500f81bd3964526dfde6c9ecb9c99eaa301ebac6a220d4"), looks := true }, kinds := [], alts := [], laidByText := true, laidKinds := [.sentinel], laidTests := true, laidLooks := .later }
def FnKindPartUptoCardSaid : Prop := Claim7.holds Tryd.pinned (.plain (OpenSpec.upto fnKindPartSpec)) fnKindPartUptoCard
end Rows
end Go.Proofs.YtjacjidomopmaaaDoor
