/-
  NARROWER THAN 'FOR EVERY INPUT', by the rows' own cells (each row's printed sentence says how): FnExactPureOk: loops · FnExactTidySize: loops · FnExactSimpSize: loops.
  DERIVED. THE GIVEN ROWS OF THIS SEAT. 3 by the template 'for every input the law returns true; each argument reads behind the call as it read before'; 0 by the template 'total and deterministic' (their statements: YtdgpegkgelciaaaTotals.lean).
  GIVEN WITH THE SEED: the statements are not yours to turn. If you find one false, say at which input.
  Laid BY PROGRAM, IN A SANDBOX (cutbox-rows.mjs): the forced cells as the released guide's own fill.sh prints them over the translation 711e253d6da5d02d… (all of the seat's roots in one cut). By AI agents, Wed Nov 11 2026. No macro, syntax, notation, axiom, sorry.
-/
import Derived.Test.YtdgpegkgelciaaaChecked
import GoSem.Claim
import GoSem.ClaimJoined
import GoSem.ClaimMapViews
import Derived.JoinedTies
import Derived.KernelRfl
namespace Go.Proofs.Ytdgpegkgelciaaa
/- THE CELL 'sum', in the pinned program and in every row, IS THE sha256 OF THE DUMP (.gsa) THAT YtdgpegkgelciaaaProg.lean LOADS. Nothing in Lean hashes anything: it is a label: what it is worth is what the hold of that sum in a sandbox is worth. -/
noncomputable def Try.pinned : Pinned := { name := "ytdgpegkgelciaaa", sum := "711e253d6da5d02d20401bcd87ba5667ed34e8f767583ab7b82ea35494026593", checked := Try.checked }
namespace Rows
def none {H : Type} : Left H := { results := [], args := [] }

/-- 'laws.FnExactPureOk': WHATEVER THE INPUT: true; the input reads as it did. -/
def fnExactPureOkSpec : ChangeSpec := { name := "fnExactPureOk", fn := fun _ => fun
  | [d] => { results := [.lit (.bool true)], args := [d] }
  | _ => none }
def fnExactPureOkRow : OpenClaim := { program := "ytdgpegkgelciaaa", sum := "711e253d6da5d02d20401bcd87ba5667ed34e8f767583ab7b82ea35494026593", func := "loop.example/handfast/laws.FnExactPureOk", spec := "fnExactPureOk", inPlace := ["maps.clone"], unfollowed := true, recurses := true, loops := true, apart := false }
def FnExactPureOkSaid : Prop := fnExactPureOkRow.holds Try.pinned (OpenSpec.ofChange fnExactPureOkSpec)

/-- ITS FALSE NEIGHBOUR: 'it returns false'. Refute it at one input. -/
def fnExactPureOkWrong : ChangeSpec := { name := "fnExactPureOk", fn := fun _ => fun
  | [d] => { results := [.lit (.bool false)], args := [d] }
  | _ => none }
def FnExactPureOkWrongFalsely : Prop := fnExactPureOkRow.holds Try.pinned (OpenSpec.ofChange fnExactPureOkWrong)

/-- 'laws.FnExactTidySize': WHATEVER THE INPUT: true; the input reads as it did. -/
def fnExactTidySizeSpec : ChangeSpec := { name := "fnExactTidySize", fn := fun _ => fun
  | [d] => { results := [.lit (.bool true)], args := [d] }
  | _ => none }
def fnExactTidySizeRow : OpenClaim := { program := "ytdgpegkgelciaaa", sum := "711e253d6da5d02d20401bcd87ba5667ed34e8f767583ab7b82ea35494026593", func := "loop.example/handfast/laws.FnExactTidySize", spec := "fnExactTidySize", inPlace := ["maps.clone"], unfollowed := true, recurses := true, loops := true, apart := false }
def FnExactTidySizeSaid : Prop := fnExactTidySizeRow.holds Try.pinned (OpenSpec.ofChange fnExactTidySizeSpec)

/-- ITS FALSE NEIGHBOUR: 'it returns false'. Refute it at one input. -/
def fnExactTidySizeWrong : ChangeSpec := { name := "fnExactTidySize", fn := fun _ => fun
  | [d] => { results := [.lit (.bool false)], args := [d] }
  | _ => none }
def FnExactTidySizeWrongFalsely : Prop := fnExactTidySizeRow.holds Try.pinned (OpenSpec.ofChange fnExactTidySizeWrong)

/-- 'laws.FnExactSimpSize': WHATEVER THE INPUT: true; the input reads as it did. -/
def fnExactSimpSizeSpec : ChangeSpec := { name := "fnExactSimpSize", fn := fun _ => fun
  | [d] => { results := [.lit (.bool true)], args := [d] }
  | _ => none }
def fnExactSimpSizeRow : OpenClaim := { program := "ytdgpegkgelciaaa", sum := "711e253d6da5d02d20401bcd87ba5667ed34e8f767583ab7b82ea35494026593", func := "loop.example/handfast/laws.FnExactSimpSize", spec := "fnExactSimpSize", inPlace := ["maps.clone"], unfollowed := true, recurses := true, loops := true, apart := false }
def FnExactSimpSizeSaid : Prop := fnExactSimpSizeRow.holds Try.pinned (OpenSpec.ofChange fnExactSimpSizeSpec)

/-- ITS FALSE NEIGHBOUR: 'it returns false'. Refute it at one input. -/
def fnExactSimpSizeWrong : ChangeSpec := { name := "fnExactSimpSize", fn := fun _ => fun
  | [d] => { results := [.lit (.bool false)], args := [d] }
  | _ => none }
def FnExactSimpSizeWrongFalsely : Prop := fnExactSimpSizeRow.holds Try.pinned (OpenSpec.ofChange fnExactSimpSizeWrong)

/- THE SECOND FORM. 'bulk': how many values and letters a reading holds, each counted each time it is reached (what is shared counts as often as it is met; a slice's spare places count too). A statement '..UptoSaid' is the law's where the arguments, and the package variables that the reading takes, are together of bulk at most 1048576: NARROWER than '..Said'. Prove '..Said' where nothing that the law and all that it calls make is longer than what came in: it says more and counts as full. Else prove '..UptoSaid'. A law counts once. -/
mutual
def uptoBulk {H : Type} : DataW H → Nat
  | .lit (.string bytes) => bytes.length + 1
  | .lit _ => 1
  | .nil => 1
  | .ptr d => uptoBulk d + 1
  | .slice elems spare => uptoBulkAll elems + uptoBulkAll spare + 1
  | .agg parts => uptoBulkAll parts + 1
  | .iface _ d => uptoBulk d + 1
  | .map entries => uptoBulkEntries entries + 1
  | .held _ => 1
def uptoBulkAll {H : Type} : List (DataW H) → Nat
  | [] => 0
  | d :: r => uptoBulk d + uptoBulkAll r
def uptoBulkEntries {H : Type} : List (Lit × DataW H) → Nat
  | [] => 0
  | x :: r => uptoBulkEntry x + uptoBulkEntries r
def uptoBulkEntry {H : Type} : Lit × DataW H → Nat
  | (.string bytes, d) => bytes.length + uptoBulk d + 1
  | (_, d) => uptoBulk d + 1
 end
def uptoSmall : (H : Type) → List (DataW H) → Bool := fun _ ds => decide (uptoBulkAll ds ≤ 1048576)
def OpenSpec.upto (s : _root_.Go.ChangeSpec) : _root_.Go.OpenSpec := { _root_.Go.OpenSpec.ofChange s with cond := some uptoSmall }

/-- 'laws.FnExactPureOk', WHERE WHAT IT READS IS OF BULK AT MOST 1048576: true; the input reads as it did. -/
def fnExactPureOkUptoRow : OpenClaim := { program := "ytdgpegkgelciaaa", sum := "711e253d6da5d02d20401bcd87ba5667ed34e8f767583ab7b82ea35494026593", func := "loop.example/handfast/laws.FnExactPureOk", spec := "fnExactPureOk", inPlace := ["maps.clone"], unfollowed := true, recurses := true, loops := true, apart := false, narrowed := true }
def FnExactPureOkUptoSaid : Prop := fnExactPureOkUptoRow.holds Try.pinned (OpenSpec.upto fnExactPureOkSpec)

/-- 'laws.FnExactTidySize', WHERE WHAT IT READS IS OF BULK AT MOST 1048576: true; the input reads as it did. -/
def fnExactTidySizeUptoRow : OpenClaim := { program := "ytdgpegkgelciaaa", sum := "711e253d6da5d02d20401bcd87ba5667ed34e8f767583ab7b82ea35494026593", func := "loop.example/handfast/laws.FnExactTidySize", spec := "fnExactTidySize", inPlace := ["maps.clone"], unfollowed := true, recurses := true, loops := true, apart := false, narrowed := true }
def FnExactTidySizeUptoSaid : Prop := fnExactTidySizeUptoRow.holds Try.pinned (OpenSpec.upto fnExactTidySizeSpec)

/-- 'laws.FnExactSimpSize', WHERE WHAT IT READS IS OF BULK AT MOST 1048576: true; the input reads as it did. -/
def fnExactSimpSizeUptoRow : OpenClaim := { program := "ytdgpegkgelciaaa", sum := "711e253d6da5d02d20401bcd87ba5667ed34e8f767583ab7b82ea35494026593", func := "loop.example/handfast/laws.FnExactSimpSize", spec := "fnExactSimpSize", inPlace := ["maps.clone"], unfollowed := true, recurses := true, loops := true, apart := false, narrowed := true }
def FnExactSimpSizeUptoSaid : Prop := fnExactSimpSizeUptoRow.holds Try.pinned (OpenSpec.upto fnExactSimpSizeSpec)

end Rows
end Go.Proofs.Ytdgpegkgelciaaa
