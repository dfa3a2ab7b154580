/-
  NARROWER THAN 'FOR EVERY INPUT', by the rows' own cells (each row's printed sentence says how): FnExactValAt: loops · FnExactValPut: loops.
  DERIVED. THE GIVEN ROWS OF THIS SEAT. 9 by the template 'for every input the law returns true; each argument reads behind the call as it read before'; 0 by the template 'total and deterministic' (their statements: YthfflieeifakdaaTotals.lean).
  GIVEN WITH THE SEED: the statements are not yours to turn. If you find one false, say at which input.
  Laid BY PROGRAM, IN A SANDBOX (cutbox-rows.mjs): the forced cells as the released guide's own fill.sh prints them over the translation 9f9aed19dfc44dd5… (all of the seat's roots in one cut). By AI agents, Wed Nov 11 2026. No macro, syntax, notation, axiom, sorry.
-/
import Derived.Test.YthfflieeifakdaaChecked
import GoSem.Claim
import GoSem.ClaimJoined
import GoSem.ClaimMapViews
import Derived.JoinedTies
import Derived.KernelRfl
namespace Go.Proofs.Ythfflieeifakdaa
/- THE CELL 'sum', in the pinned program and in every row, IS THE sha256 OF THE DUMP (.gsa) THAT YthfflieeifakdaaProg.lean LOADS. Nothing in Lean hashes anything: it is a label: what it is worth is what the hold of that sum in a sandbox is worth. -/
noncomputable def Try.pinned : Pinned := { name := "ythfflieeifakdaa", sum := "9f9aed19dfc44dd523b36d899669cd85af5d411887837eaa9ba15214ddc6c413", checked := Try.checked }
namespace Rows
def none {H : Type} : Left H := { results := [], args := [] }

/-- 'laws.FnValAt': WHATEVER THE INPUT: true; the input reads as it did. -/
def fnValAtSpec : ChangeSpec := { name := "fnValAt", fn := fun _ => fun
  | [d1, d2] => { results := [.lit (.bool true)], args := [d1, d2] }
  | _ => none }
def fnValAtRow : OpenClaim := { program := "ythfflieeifakdaa", sum := "9f9aed19dfc44dd523b36d899669cd85af5d411887837eaa9ba15214ddc6c413", func := "loop.example/handfast/laws.FnValAt", spec := "fnValAt", unfollowed := true, recurses := true, apart := false }
def FnValAtSaid : Prop := fnValAtRow.holds Try.pinned (OpenSpec.ofChange fnValAtSpec)

/-- ITS FALSE NEIGHBOUR: 'it returns false'. Refute it at one input. -/
def fnValAtWrong : ChangeSpec := { name := "fnValAt", fn := fun _ => fun
  | [d1, d2] => { results := [.lit (.bool false)], args := [d1, d2] }
  | _ => none }
def FnValAtWrongFalsely : Prop := fnValAtRow.holds Try.pinned (OpenSpec.ofChange fnValAtWrong)

/-- 'laws.FnExactValAt': WHATEVER THE INPUT: true; the input reads as it did. -/
def fnExactValAtSpec : ChangeSpec := { name := "fnExactValAt", fn := fun _ => fun
  | [d1, d2] => { results := [.lit (.bool true)], args := [d1, d2] }
  | _ => none }
def fnExactValAtRow : OpenClaim := { program := "ythfflieeifakdaa", sum := "9f9aed19dfc44dd523b36d899669cd85af5d411887837eaa9ba15214ddc6c413", func := "loop.example/handfast/laws.FnExactValAt", spec := "fnExactValAt", unfollowed := true, recurses := true, loops := true, apart := false }
def FnExactValAtSaid : Prop := fnExactValAtRow.holds Try.pinned (OpenSpec.ofChange fnExactValAtSpec)

/-- ITS FALSE NEIGHBOUR: 'it returns false'. Refute it at one input. -/
def fnExactValAtWrong : ChangeSpec := { name := "fnExactValAt", fn := fun _ => fun
  | [d1, d2] => { results := [.lit (.bool false)], args := [d1, d2] }
  | _ => none }
def FnExactValAtWrongFalsely : Prop := fnExactValAtRow.holds Try.pinned (OpenSpec.ofChange fnExactValAtWrong)

/-- 'laws.FnValSame': WHATEVER THE INPUT: true; the input reads as it did. -/
def fnValSameSpec : ChangeSpec := { name := "fnValSame", fn := fun _ => fun
  | [d] => { results := [.lit (.bool true)], args := [d] }
  | _ => none }
def fnValSameRow : OpenClaim := { program := "ythfflieeifakdaa", sum := "9f9aed19dfc44dd523b36d899669cd85af5d411887837eaa9ba15214ddc6c413", func := "loop.example/handfast/laws.FnValSame", spec := "fnValSame", unfollowed := true, recurses := true, apart := false }
def FnValSameSaid : Prop := fnValSameRow.holds Try.pinned (OpenSpec.ofChange fnValSameSpec)

/-- ITS FALSE NEIGHBOUR: 'it returns false'. Refute it at one input. -/
def fnValSameWrong : ChangeSpec := { name := "fnValSame", fn := fun _ => fun
  | [d] => { results := [.lit (.bool false)], args := [d] }
  | _ => none }
def FnValSameWrongFalsely : Prop := fnValSameRow.holds Try.pinned (OpenSpec.ofChange fnValSameWrong)

/-- 'laws.FnValNone': WHATEVER THE INPUT: true; the input reads as it did. -/
def fnValNoneSpec : ChangeSpec := { name := "fnValNone", fn := fun _ => fun
  | [d] => { results := [.lit (.bool true)], args := [d] }
  | _ => none }
def fnValNoneRow : OpenClaim := { program := "ythfflieeifakdaa", sum := "9f9aed19dfc44dd523b36d899669cd85af5d411887837eaa9ba15214ddc6c413", func := "loop.example/handfast/laws.FnValNone", spec := "fnValNone", unfollowed := true, recurses := true, apart := false }
def FnValNoneSaid : Prop := fnValNoneRow.holds Try.pinned (OpenSpec.ofChange fnValNoneSpec)

/-- ITS FALSE NEIGHBOUR: 'it returns false'. Refute it at one input. -/
def fnValNoneWrong : ChangeSpec := { name := "fnValNone", fn := fun _ => fun
  | [d] => { results := [.lit (.bool false)], args := [d] }
  | _ => none }
def FnValNoneWrongFalsely : Prop := fnValNoneRow.holds Try.pinned (OpenSpec.ofChange fnValNoneWrong)

/-- 'laws.FnValOther': WHATEVER THE INPUT: true; the input reads as it did. -/
def fnValOtherSpec : ChangeSpec := { name := "fnValOther", fn := fun _ => fun
  | [d1, d2] => { results := [.lit (.bool true)], args := [d1, d2] }
  | _ => none }
def fnValOtherRow : OpenClaim := { program := "ythfflieeifakdaa", sum := "9f9aed19dfc44dd523b36d899669cd85af5d411887837eaa9ba15214ddc6c413", func := "loop.example/handfast/laws.FnValOther", spec := "fnValOther", unfollowed := true, recurses := true, apart := false }
def FnValOtherSaid : Prop := fnValOtherRow.holds Try.pinned (OpenSpec.ofChange fnValOtherSpec)

/-- ITS FALSE NEIGHBOUR: 'it returns false'. Refute it at one input. -/
def fnValOtherWrong : ChangeSpec := { name := "fnValOther", fn := fun _ => fun
  | [d1, d2] => { results := [.lit (.bool false)], args := [d1, d2] }
  | _ => none }
def FnValOtherWrongFalsely : Prop := fnValOtherRow.holds Try.pinned (OpenSpec.ofChange fnValOtherWrong)

/-- 'laws.FnValPut': WHATEVER THE INPUT: true; the input reads as it did. -/
def fnValPutSpec : ChangeSpec := { name := "fnValPut", fn := fun _ => fun
  | [d] => { results := [.lit (.bool true)], args := [d] }
  | _ => none }
def fnValPutRow : OpenClaim := { program := "ythfflieeifakdaa", sum := "9f9aed19dfc44dd523b36d899669cd85af5d411887837eaa9ba15214ddc6c413", func := "loop.example/handfast/laws.FnValPut", spec := "fnValPut", unfollowed := true, recurses := true, apart := false }
def FnValPutSaid : Prop := fnValPutRow.holds Try.pinned (OpenSpec.ofChange fnValPutSpec)

/-- ITS FALSE NEIGHBOUR: 'it returns false'. Refute it at one input. -/
def fnValPutWrong : ChangeSpec := { name := "fnValPut", fn := fun _ => fun
  | [d] => { results := [.lit (.bool false)], args := [d] }
  | _ => none }
def FnValPutWrongFalsely : Prop := fnValPutRow.holds Try.pinned (OpenSpec.ofChange fnValPutWrong)

/-- 'laws.FnValTwice': WHATEVER THE INPUT: true; the input reads as it did. -/
def fnValTwiceSpec : ChangeSpec := { name := "fnValTwice", fn := fun _ => fun
  | [d] => { results := [.lit (.bool true)], args := [d] }
  | _ => none }
def fnValTwiceRow : OpenClaim := { program := "ythfflieeifakdaa", sum := "9f9aed19dfc44dd523b36d899669cd85af5d411887837eaa9ba15214ddc6c413", func := "loop.example/handfast/laws.FnValTwice", spec := "fnValTwice", unfollowed := true, recurses := true, apart := false }
def FnValTwiceSaid : Prop := fnValTwiceRow.holds Try.pinned (OpenSpec.ofChange fnValTwiceSpec)

/-- ITS FALSE NEIGHBOUR: 'it returns false'. Refute it at one input. -/
def fnValTwiceWrong : ChangeSpec := { name := "fnValTwice", fn := fun _ => fun
  | [d] => { results := [.lit (.bool false)], args := [d] }
  | _ => none }
def FnValTwiceWrongFalsely : Prop := fnValTwiceRow.holds Try.pinned (OpenSpec.ofChange fnValTwiceWrong)

/-- 'laws.FnExactValPut': WHATEVER THE INPUT: true; the input reads as it did. -/
def fnExactValPutSpec : ChangeSpec := { name := "fnExactValPut", fn := fun _ => fun
  | [d1, d2, d3] => { results := [.lit (.bool true)], args := [d1, d2, d3] }
  | _ => none }
def fnExactValPutRow : OpenClaim := { program := "ythfflieeifakdaa", sum := "9f9aed19dfc44dd523b36d899669cd85af5d411887837eaa9ba15214ddc6c413", func := "loop.example/handfast/laws.FnExactValPut", spec := "fnExactValPut", unfollowed := true, recurses := true, loops := true, apart := false }
def FnExactValPutSaid : Prop := fnExactValPutRow.holds Try.pinned (OpenSpec.ofChange fnExactValPutSpec)

/-- ITS FALSE NEIGHBOUR: 'it returns false'. Refute it at one input. -/
def fnExactValPutWrong : ChangeSpec := { name := "fnExactValPut", fn := fun _ => fun
  | [d1, d2, d3] => { results := [.lit (.bool false)], args := [d1, d2, d3] }
  | _ => none }
def FnExactValPutWrongFalsely : Prop := fnExactValPutRow.holds Try.pinned (OpenSpec.ofChange fnExactValPutWrong)

/-- 'laws.FnValType': WHATEVER THE INPUT: true; the input reads as it did. -/
def fnValTypeSpec : ChangeSpec := { name := "fnValType", fn := fun _ => fun
  | [d] => { results := [.lit (.bool true)], args := [d] }
  | _ => none }
def fnValTypeRow : OpenClaim := { program := "ythfflieeifakdaa", sum := "9f9aed19dfc44dd523b36d899669cd85af5d411887837eaa9ba15214ddc6c413", func := "loop.example/handfast/laws.FnValType", spec := "fnValType", unfollowed := true, recurses := true, apart := false }
def FnValTypeSaid : Prop := fnValTypeRow.holds Try.pinned (OpenSpec.ofChange fnValTypeSpec)

/-- ITS FALSE NEIGHBOUR: 'it returns false'. Refute it at one input. -/
def fnValTypeWrong : ChangeSpec := { name := "fnValType", fn := fun _ => fun
  | [d] => { results := [.lit (.bool false)], args := [d] }
  | _ => none }
def FnValTypeWrongFalsely : Prop := fnValTypeRow.holds Try.pinned (OpenSpec.ofChange fnValTypeWrong)

/- THE SECOND FORM. 'bulk': how many values and letters a reading holds, each counted each time it is reached (what is shared counts as often as it is met; a slice's spare places count too). A statement '..UptoSaid' is the law's where the arguments, and the package variables that the reading takes, are together of bulk at most 1048576: NARROWER than '..Said'. Prove '..Said' where nothing that the law and all that it calls make is longer than what came in: it says more and counts as full. Else prove '..UptoSaid'. A law counts once. -/
mutual
def uptoBulk {H : Type} : DataW H → Nat
  | .lit (.string bytes) => bytes.length + 1
  | .lit _ => 1
  | .nil => 1
  | .ptr d => uptoBulk d + 1
  | .slice elems spare => uptoBulkAll elems + uptoBulkAll spare + 1
  | .agg parts => uptoBulkAll parts + 1
  | .iface _ d => uptoBulk d + 1
  | .map entries => uptoBulkEntries entries + 1
  | .held _ => 1
def uptoBulkAll {H : Type} : List (DataW H) → Nat
  | [] => 0
  | d :: r => uptoBulk d + uptoBulkAll r
def uptoBulkEntries {H : Type} : List (Lit × DataW H) → Nat
  | [] => 0
  | x :: r => uptoBulkEntry x + uptoBulkEntries r
def uptoBulkEntry {H : Type} : Lit × DataW H → Nat
  | (.string bytes, d) => bytes.length + uptoBulk d + 1
  | (_, d) => uptoBulk d + 1
 end
def uptoSmall : (H : Type) → List (DataW H) → Bool := fun _ ds => decide (uptoBulkAll ds ≤ 1048576)
def OpenSpec.upto (s : _root_.Go.ChangeSpec) : _root_.Go.OpenSpec := { _root_.Go.OpenSpec.ofChange s with cond := some uptoSmall }

/-- 'laws.FnValAt', WHERE WHAT IT READS IS OF BULK AT MOST 1048576: true; the input reads as it did. -/
def fnValAtUptoRow : OpenClaim := { program := "ythfflieeifakdaa", sum := "9f9aed19dfc44dd523b36d899669cd85af5d411887837eaa9ba15214ddc6c413", func := "loop.example/handfast/laws.FnValAt", spec := "fnValAt", unfollowed := true, recurses := true, apart := false, narrowed := true }
def FnValAtUptoSaid : Prop := fnValAtUptoRow.holds Try.pinned (OpenSpec.upto fnValAtSpec)

/-- 'laws.FnExactValAt', WHERE WHAT IT READS IS OF BULK AT MOST 1048576: true; the input reads as it did. -/
def fnExactValAtUptoRow : OpenClaim := { program := "ythfflieeifakdaa", sum := "9f9aed19dfc44dd523b36d899669cd85af5d411887837eaa9ba15214ddc6c413", func := "loop.example/handfast/laws.FnExactValAt", spec := "fnExactValAt", unfollowed := true, recurses := true, loops := true, apart := false, narrowed := true }
def FnExactValAtUptoSaid : Prop := fnExactValAtUptoRow.holds Try.pinned (OpenSpec.upto fnExactValAtSpec)

/-- 'laws.FnValSame', WHERE WHAT IT READS IS OF BULK AT MOST 1048576: true; the input reads as it did. -/
def fnValSameUptoRow : OpenClaim := { program := "ythfflieeifakdaa", sum := "9f9aed19dfc44dd523b36d899669cd85af5d411887837eaa9ba15214ddc6c413", func := "loop.example/handfast/laws.FnValSame", spec := "fnValSame", unfollowed := true, recurses := true, apart := false, narrowed := true }
def FnValSameUptoSaid : Prop := fnValSameUptoRow.holds Try.pinned (OpenSpec.upto fnValSameSpec)

/-- 'laws.FnValNone', WHERE WHAT IT READS IS OF BULK AT MOST 1048576: true; the input reads as it did. -/
def fnValNoneUptoRow : OpenClaim := { program := "ythfflieeifakdaa", sum := "9f9aed19dfc44dd523b36d899669cd85af5d411887837eaa9ba15214ddc6c413", func := "loop.example/handfast/laws.FnValNone", spec := "fnValNone", unfollowed := true, recurses := true, apart := false, narrowed := true }
def FnValNoneUptoSaid : Prop := fnValNoneUptoRow.holds Try.pinned (OpenSpec.upto fnValNoneSpec)

/-- 'laws.FnValOther', WHERE WHAT IT READS IS OF BULK AT MOST 1048576: true; the input reads as it did. -/
def fnValOtherUptoRow : OpenClaim := { program := "ythfflieeifakdaa", sum := "9f9aed19dfc44dd523b36d899669cd85af5d411887837eaa9ba15214ddc6c413", func := "loop.example/handfast/laws.FnValOther", spec := "fnValOther", unfollowed := true, recurses := true, apart := false, narrowed := true }
def FnValOtherUptoSaid : Prop := fnValOtherUptoRow.holds Try.pinned (OpenSpec.upto fnValOtherSpec)

/-- 'laws.FnValPut', WHERE WHAT IT READS IS OF BULK AT MOST 1048576: true; the input reads as it did. -/
def fnValPutUptoRow : OpenClaim := { program := "ythfflieeifakdaa", sum := "9f9aed19dfc44dd523b36d899669cd85af5d411887837eaa9ba15214ddc6c413", func := "loop.example/handfast/laws.FnValPut", spec := "fnValPut", unfollowed := true, recurses := true, apart := false, narrowed := true }
def FnValPutUptoSaid : Prop := fnValPutUptoRow.holds Try.pinned (OpenSpec.upto fnValPutSpec)

/-- 'laws.FnValTwice', WHERE WHAT IT READS IS OF BULK AT MOST 1048576: true; the input reads as it did. -/
def fnValTwiceUptoRow : OpenClaim := { program := "ythfflieeifakdaa", sum := "9f9aed19dfc44dd523b36d899669cd85af5d411887837eaa9ba15214ddc6c413", func := "loop.example/handfast/laws.FnValTwice", spec := "fnValTwice", unfollowed := true, recurses := true, apart := false, narrowed := true }
def FnValTwiceUptoSaid : Prop := fnValTwiceUptoRow.holds Try.pinned (OpenSpec.upto fnValTwiceSpec)

/-- 'laws.FnExactValPut', WHERE WHAT IT READS IS OF BULK AT MOST 1048576: true; the input reads as it did. -/
def fnExactValPutUptoRow : OpenClaim := { program := "ythfflieeifakdaa", sum := "9f9aed19dfc44dd523b36d899669cd85af5d411887837eaa9ba15214ddc6c413", func := "loop.example/handfast/laws.FnExactValPut", spec := "fnExactValPut", unfollowed := true, recurses := true, loops := true, apart := false, narrowed := true }
def FnExactValPutUptoSaid : Prop := fnExactValPutUptoRow.holds Try.pinned (OpenSpec.upto fnExactValPutSpec)

/-- 'laws.FnValType', WHERE WHAT IT READS IS OF BULK AT MOST 1048576: true; the input reads as it did. -/
def fnValTypeUptoRow : OpenClaim := { program := "ythfflieeifakdaa", sum := "9f9aed19dfc44dd523b36d899669cd85af5d411887837eaa9ba15214ddc6c413", func := "loop.example/handfast/laws.FnValType", spec := "fnValType", unfollowed := true, recurses := true, apart := false, narrowed := true }
def FnValTypeUptoSaid : Prop := fnValTypeUptoRow.holds Try.pinned (OpenSpec.upto fnValTypeSpec)

end Rows
end Go.Proofs.Ythfflieeifakdaa
