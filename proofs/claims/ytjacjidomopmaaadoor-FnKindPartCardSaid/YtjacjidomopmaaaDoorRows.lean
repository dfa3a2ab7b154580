/-
  NARROWER THAN 'FOR EVERY INPUT', by the rows' own cells (each row's printed sentence says how): FnKindMore: ifaces, laid · FnKindTerm: ifaces, laid · FnKindPart: ifaces, laid.
  DERIVED. THE GIVEN ROWS OF THIS SEAT. 3 by the template 'for every input the law returns true; each argument reads behind the call as it read before'; 0 by the template 'total and deterministic' (their statements: YtjacjidomopmaaaDoorTotals.lean).
  GIVEN WITH THE SEED: the statements are not yours to turn. If you find one false, say at which input.
  Laid BY PROGRAM, IN A SANDBOX (cutbox-rows.mjs): the forced cells as the released guide's own fill.sh prints them over the translation ef1b324bc4cc0212… (all of the seat's roots in one cut). By AI agents, Wed Nov 11 2026. No macro, syntax, notation, axiom, sorry.
-/
import Derived.Test.YtjacjidomopmaaaDoorChecked
import GoSem.Claim
import GoSem.ClaimJoined
import GoSem.ClaimMapViews
import Derived.JoinedTies
import Derived.KernelRfl
namespace Go.Proofs.YtjacjidomopmaaaDoor
/- THE CELL 'sum', in the pinned program and in every row, IS THE sha256 OF THE DUMP (.gsa) THAT YtjacjidomopmaaaDoorProg.lean LOADS. Nothing in Lean hashes anything: it is a label: what it is worth is what the hold of that sum in a sandbox is worth. -/
noncomputable def Tryd.pinned : Pinned := { name := "ytjacjidomopmaaadoor", sum := "ef1b324bc4cc021230be3216ef8ab6c5b3cea0f8bb9ab31056a9c640c4d6993a", checked := Tryd.checked }
namespace Rows
def none {H : Type} : Left H := { results := [], args := [] }

/- WHAT THE LISTED PACKAGE-LEVEL VARIABLES READ AS WHEN THE CALL BEGINS. Each datum BY PROGRAM (the guide's laid-datum.mjs) off the statement by which the dump's own 'gosem.cut.vars' lays the variable. In a bare row this is a premise. The card (YtjacjidomopmaaaDoorCards.lean) ties it to the program's text. -/
def laid_loop_example_handfast_impl_errKindNone {H : Type} : DataW H := .iface "*errors.errorString" (.ptr (.agg [.lit (.string [105, 116, 32, 105, 115, 32, 111, 102, 32, 110, 111, 32, 116, 121, 112, 101])]))

/-- 'laws.FnKindMore': WHATEVER THE INPUT: true; the input reads as it did. -/
def fnKindMoreSpec : ChangeSpec := { name := "fnKindMore", vars := ["loop.example/handfast/impl.errKindNone"], fn := fun _ => fun
  | [d, g1] => { results := [.lit (.bool true)], args := [d], vars := [g1] }
  | _ => none }
def fnKindMoreRow : OpenClaim := { program := "ytjacjidomopmaaadoor", sum := "ef1b324bc4cc021230be3216ef8ab6c5b3cea0f8bb9ab31056a9c640c4d6993a", func := "loop.example/handfast/laws.FnKindMore", spec := "fnKindMore", inPlace := ["internal/reflectlite.TypeOf"], unfollowed := true, recurses := true, named := ["loop.example/handfast/impl.errKindNone"], ifaces := true, apart := false, laid := [("loop.example/handfast/impl.errKindNone", laid_loop_example_handfast_impl_errKindNone)] }
def FnKindMoreSaid : Prop := fnKindMoreRow.holds Tryd.pinned (OpenSpec.ofChange fnKindMoreSpec)

/-- ITS FALSE NEIGHBOUR: 'it returns false'. Refute it at one input. -/
def fnKindMoreWrong : ChangeSpec := { name := "fnKindMore", vars := ["loop.example/handfast/impl.errKindNone"], fn := fun _ => fun
  | [d, g1] => { results := [.lit (.bool false)], args := [d], vars := [g1] }
  | _ => none }
def FnKindMoreWrongFalsely : Prop := fnKindMoreRow.holds Tryd.pinned (OpenSpec.ofChange fnKindMoreWrong)

/-- 'laws.FnKindTerm': WHATEVER THE INPUT: true; the input reads as it did. -/
def fnKindTermSpec : ChangeSpec := { name := "fnKindTerm", vars := ["loop.example/handfast/impl.errKindNone"], fn := fun _ => fun
  | [d, g1] => { results := [.lit (.bool true)], args := [d], vars := [g1] }
  | _ => none }
def fnKindTermRow : OpenClaim := { program := "ytjacjidomopmaaadoor", sum := "ef1b324bc4cc021230be3216ef8ab6c5b3cea0f8bb9ab31056a9c640c4d6993a", func := "loop.example/handfast/laws.FnKindTerm", spec := "fnKindTerm", inPlace := ["internal/reflectlite.TypeOf"], unfollowed := true, recurses := true, named := ["loop.example/handfast/impl.errKindNone"], ifaces := true, apart := false, laid := [("loop.example/handfast/impl.errKindNone", laid_loop_example_handfast_impl_errKindNone)] }
def FnKindTermSaid : Prop := fnKindTermRow.holds Tryd.pinned (OpenSpec.ofChange fnKindTermSpec)

/-- ITS FALSE NEIGHBOUR: 'it returns false'. Refute it at one input. -/
def fnKindTermWrong : ChangeSpec := { name := "fnKindTerm", vars := ["loop.example/handfast/impl.errKindNone"], fn := fun _ => fun
  | [d, g1] => { results := [.lit (.bool false)], args := [d], vars := [g1] }
  | _ => none }
def FnKindTermWrongFalsely : Prop := fnKindTermRow.holds Tryd.pinned (OpenSpec.ofChange fnKindTermWrong)

/-- 'laws.FnKindPart': WHATEVER THE INPUT: true; the input reads as it did. -/
def fnKindPartSpec : ChangeSpec := { name := "fnKindPart", vars := ["loop.example/handfast/impl.errKindNone"], fn := fun _ => fun
  | [d1, d2, g1] => { results := [.lit (.bool true)], args := [d1, d2], vars := [g1] }
  | _ => none }
def fnKindPartRow : OpenClaim := { program := "ytjacjidomopmaaadoor", sum := "ef1b324bc4cc021230be3216ef8ab6c5b3cea0f8bb9ab31056a9c640c4d6993a", func := "loop.example/handfast/laws.FnKindPart", spec := "fnKindPart", inPlace := ["internal/reflectlite.TypeOf"], unfollowed := true, recurses := true, named := ["loop.example/handfast/impl.errKindNone"], ifaces := true, apart := false, laid := [("loop.example/handfast/impl.errKindNone", laid_loop_example_handfast_impl_errKindNone)] }
def FnKindPartSaid : Prop := fnKindPartRow.holds Tryd.pinned (OpenSpec.ofChange fnKindPartSpec)

/-- ITS FALSE NEIGHBOUR: 'it returns false'. Refute it at one input. -/
def fnKindPartWrong : ChangeSpec := { name := "fnKindPart", vars := ["loop.example/handfast/impl.errKindNone"], fn := fun _ => fun
  | [d1, d2, g1] => { results := [.lit (.bool false)], args := [d1, d2], vars := [g1] }
  | _ => none }
def FnKindPartWrongFalsely : Prop := fnKindPartRow.holds Tryd.pinned (OpenSpec.ofChange fnKindPartWrong)

/- THE SECOND FORM. 'bulk': how many values and letters a reading holds, each counted each time it is reached (what is shared counts as often as it is met; a slice's spare places count too). A statement '..UptoSaid' is the law's where the arguments, and the package variables that the reading takes, are together of bulk at most 1048576: NARROWER than '..Said'. Prove '..Said' where nothing that the law and all that it calls make is longer than what came in: it says more and counts as full. Else prove '..UptoSaid'. A law counts once. -/
mutual
def uptoBulk {H : Type} : DataW H → Nat
  | .lit (.string bytes) => bytes.length + 1
  | .lit _ => 1
  | .nil => 1
  | .ptr d => uptoBulk d + 1
  | .slice elems spare => uptoBulkAll elems + uptoBulkAll spare + 1
  | .agg parts => uptoBulkAll parts + 1
  | .iface _ d => uptoBulk d + 1
  | .map entries => uptoBulkEntries entries + 1
  | .held _ => 1
def uptoBulkAll {H : Type} : List (DataW H) → Nat
  | [] => 0
  | d :: r => uptoBulk d + uptoBulkAll r
def uptoBulkEntries {H : Type} : List (Lit × DataW H) → Nat
  | [] => 0
  | x :: r => uptoBulkEntry x + uptoBulkEntries r
def uptoBulkEntry {H : Type} : Lit × DataW H → Nat
  | (.string bytes, d) => bytes.length + uptoBulk d + 1
  | (_, d) => uptoBulk d + 1
 end
def uptoSmall : (H : Type) → List (DataW H) → Bool := fun _ ds => decide (uptoBulkAll ds ≤ 1048576)
def OpenSpec.upto (s : _root_.Go.ChangeSpec) : _root_.Go.OpenSpec := { _root_.Go.OpenSpec.ofChange s with cond := some uptoSmall }

/-- 'laws.FnKindMore', WHERE WHAT IT READS IS OF BULK AT MOST 1048576: true; the input reads as it did. -/
def fnKindMoreUptoRow : OpenClaim := { program := "ytjacjidomopmaaadoor", sum := "ef1b324bc4cc021230be3216ef8ab6c5b3cea0f8bb9ab31056a9c640c4d6993a", func := "loop.example/handfast/laws.FnKindMore", spec := "fnKindMore", inPlace := ["internal/reflectlite.TypeOf"], unfollowed := true, recurses := true, named := ["loop.example/handfast/impl.errKindNone"], ifaces := true, apart := false, laid := [("loop.example/handfast/impl.errKindNone", laid_loop_example_handfast_impl_errKindNone)], narrowed := true }
def FnKindMoreUptoSaid : Prop := fnKindMoreUptoRow.holds Tryd.pinned (OpenSpec.upto fnKindMoreSpec)

/-- 'laws.FnKindTerm', WHERE WHAT IT READS IS OF BULK AT MOST 1048576: true; the input reads as it did. -/
def fnKindTermUptoRow : OpenClaim := { program := "ytjacjidomopmaaadoor", sum := "ef1b324bc4cc021230be3216ef8ab6c5b3cea0f8bb9ab31056a9c640c4d6993a", func := "loop.example/handfast/laws.FnKindTerm", spec := "fnKindTerm", inPlace := ["internal/reflectlite.TypeOf"], unfollowed := true, recurses := true, named := ["loop.example/handfast/impl.errKindNone"], ifaces := true, apart := false, laid := [("loop.example/handfast/impl.errKindNone", laid_loop_example_handfast_impl_errKindNone)], narrowed := true }
def FnKindTermUptoSaid : Prop := fnKindTermUptoRow.holds Tryd.pinned (OpenSpec.upto fnKindTermSpec)

/-- 'laws.FnKindPart', WHERE WHAT IT READS IS OF BULK AT MOST 1048576: true; the input reads as it did. -/
def fnKindPartUptoRow : OpenClaim := { program := "ytjacjidomopmaaadoor", sum := "ef1b324bc4cc021230be3216ef8ab6c5b3cea0f8bb9ab31056a9c640c4d6993a", func := "loop.example/handfast/laws.FnKindPart", spec := "fnKindPart", inPlace := ["internal/reflectlite.TypeOf"], unfollowed := true, recurses := true, named := ["loop.example/handfast/impl.errKindNone"], ifaces := true, apart := false, laid := [("loop.example/handfast/impl.errKindNone", laid_loop_example_handfast_impl_errKindNone)], narrowed := true }
def FnKindPartUptoSaid : Prop := fnKindPartUptoRow.holds Tryd.pinned (OpenSpec.upto fnKindPartSpec)

end Rows
end Go.Proofs.YtjacjidomopmaaaDoor
