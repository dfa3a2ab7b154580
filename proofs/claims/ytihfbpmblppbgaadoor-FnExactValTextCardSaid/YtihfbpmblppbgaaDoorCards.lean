/-
  DERIVED. GIVEN WITH THE SEED: THE CARDS: each row of YtihfbpmblppbgaaDoorRows.lean that lists a variable, with what it lists TIED to the program's text (the seventh form; the later family's looks); each row that meets fmt, with fmt's text TOLD by the authors' own Lean function (tested against real Go, not proved from fmt's source: count such statements apart). THE CARD IS WHAT COUNTS. Prove the row's statement (the work); the ties are given (YtihfbpmblppbgaaDoorTie.lean); close each card by the builder's one call (the guide's Derived/Test/ToyasCard.lean, 'card_holds'). Laid BY PROGRAM, IN A SANDBOX (cutbox-door.mjs). By AI agents, Wed Nov 11 2026. No macro, syntax, notation, axiom, sorry.
-/
import Derived.Test.YtihfbpmblppbgaaDoorRows
import GoSem.ClaimSeven
namespace Go.Proofs.YtihfbpmblppbgaaDoor
namespace Rows

/-- THE TIED CARD OF 'laws.FnValDeep'. -/
def fnValDeepCard : Claim7 := { stood := { row := fnValDeepRow, standIns := [], harness := (true, "a07b6d3d28acb34c1de5728bde9dbfe512a8988594525e74e366f2e6260a8b10"), looks := false }, kinds := [], alts := [], laidByText := true, laidKinds := [.data, .data, .data], laidTests := true, laidLooks := .later }
def FnValDeepCardSaid : Prop := Claim7.holds Tryd.pinned (.plain (OpenSpec.ofChange fnValDeepSpec)) fnValDeepCard

/-- THE TIED CARD OF 'laws.FnValTextPair'. -/
def fnValTextPairCard : Claim7 := { stood := { row := fnValTextPairRow, standIns := [], harness := (true, "a07b6d3d28acb34c1de5728bde9dbfe512a8988594525e74e366f2e6260a8b10"), looks := false }, kinds := [], alts := [], laidByText := true, laidKinds := [.data, .data, .data], laidTests := true, laidLooks := .later }
def FnValTextPairCardSaid : Prop := Claim7.holds Tryd.pinned (.plain (OpenSpec.ofChange fnValTextPairSpec)) fnValTextPairCard

/-- THE TIED CARD OF 'laws.FnExactValText'. -/
def fnExactValTextCard : Claim7 := { stood := { row := fnExactValTextRow, standIns := [], harness := (true, "a07b6d3d28acb34c1de5728bde9dbfe512a8988594525e74e366f2e6260a8b10"), looks := false }, kinds := [], alts := [], laidByText := true, laidKinds := [.data, .data, .data], laidTests := true, laidLooks := .later }
def FnExactValTextCardSaid : Prop := Claim7.holds Tryd.pinned (.plain (OpenSpec.ofChange fnExactValTextSpec)) fnExactValTextCard

/-- THE SECOND FORM's CARD OF 'laws.FnValDeep'. -/
def fnValDeepUptoCard : Claim7 := { stood := { row := fnValDeepUptoRow, standIns := [], harness := (true, "a07b6d3d28acb34c1de5728bde9dbfe512a8988594525e74e366f2e6260a8b10"), looks := false }, kinds := [], alts := [], laidByText := true, laidKinds := [.data, .data, .data], laidTests := true, laidLooks := .later }
def FnValDeepUptoCardSaid : Prop := Claim7.holds Tryd.pinned (.plain (OpenSpec.upto fnValDeepSpec)) fnValDeepUptoCard

/-- THE SECOND FORM's CARD OF 'laws.FnValTextPair'. -/
def fnValTextPairUptoCard : Claim7 := { stood := { row := fnValTextPairUptoRow, standIns := [], harness := (true, "a07b6d3d28acb34c1de5728bde9dbfe512a8988594525e74e366f2e6260a8b10"), looks := false }, kinds := [], alts := [], laidByText := true, laidKinds := [.data, .data, .data], laidTests := true, laidLooks := .later }
def FnValTextPairUptoCardSaid : Prop := Claim7.holds Tryd.pinned (.plain (OpenSpec.upto fnValTextPairSpec)) fnValTextPairUptoCard

/-- THE SECOND FORM's CARD OF 'laws.FnExactValText'. -/
def fnExactValTextUptoCard : Claim7 := { stood := { row := fnExactValTextUptoRow, standIns := [], harness := (true, "a07b6d3d28acb34c1de5728bde9dbfe512a8988594525e74e366f2e6260a8b10"), looks := false }, kinds := [], alts := [], laidByText := true, laidKinds := [.data, .data, .data], laidTests := true, laidLooks := .later }
def FnExactValTextUptoCardSaid : Prop := Claim7.holds Tryd.pinned (.plain (OpenSpec.upto fnExactValTextSpec)) fnExactValTextUptoCard
end Rows
end Go.Proofs.YtihfbpmblppbgaaDoor
