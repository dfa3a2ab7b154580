/-
  NARROWER THAN 'FOR EVERY INPUT', by the rows' own cells (each row's printed sentence says how): FnExactTypeOk: loops · FnExactTypeText: loops · FnExactTypeAt: loops · FnExactValOk: loops.
  DERIVED. THE GIVEN ROWS OF THIS SEAT. 12 by the template 'for every input the law returns true; each argument reads behind the call as it read before'; 0 by the template 'total and deterministic' (their statements: YtjhbhihfifhljaaTotals.lean).
  GIVEN WITH THE SEED: the statements are not yours to turn. If you find one false, say at which input.
  Laid BY PROGRAM, IN A SANDBOX (cutbox-rows.mjs): the forced cells as the released guide's own fill.sh prints them over the translation 52811cd674805a13… (all of the seat's roots in one cut). By AI agents, Wed Nov 11 2026. No macro, syntax, notation, axiom, sorry.
-/
import Derived.Test.YtjhbhihfifhljaaChecked
import GoSem.Claim
import GoSem.ClaimJoined
import GoSem.ClaimMapViews
import Derived.JoinedTies
import Derived.KernelRfl
namespace Go.Proofs.Ytjhbhihfifhljaa
/- THE CELL 'sum', in the pinned program and in every row, IS THE sha256 OF THE DUMP (.gsa) THAT YtjhbhihfifhljaaProg.lean LOADS. Nothing in Lean hashes anything: it is a label: what it is worth is what the hold of that sum in a sandbox is worth. -/
noncomputable def Try.pinned : Pinned := { name := "ytjhbhihfifhljaa", sum := "52811cd674805a13030fe671a50565eab602f646aa3eb5c22bcdc1495690906b", checked := Try.checked }
namespace Rows
def none {H : Type} : Left H := { results := [], args := [] }

/-- 'laws.FnExactConstants': WHATEVER THE INPUT: true; the input reads as it did. -/
def fnExactConstantsSpec : ChangeSpec := { name := "fnExactConstants", fn := fun _ => fun
  | [] => { results := [.lit (.bool true)], args := [] }
  | _ => none }
def fnExactConstantsRow : OpenClaim := { program := "ytjhbhihfifhljaa", sum := "52811cd674805a13030fe671a50565eab602f646aa3eb5c22bcdc1495690906b", func := "loop.example/handfast/laws.FnExactConstants", spec := "fnExactConstants", apart := false }
def FnExactConstantsSaid : Prop := fnExactConstantsRow.holds Try.pinned (OpenSpec.ofChange fnExactConstantsSpec)

/-- ITS FALSE NEIGHBOUR: 'it returns false'. Refute it at one input. -/
def fnExactConstantsWrong : ChangeSpec := { name := "fnExactConstants", fn := fun _ => fun
  | [] => { results := [.lit (.bool false)], args := [] }
  | _ => none }
def FnExactConstantsWrongFalsely : Prop := fnExactConstantsRow.holds Try.pinned (OpenSpec.ofChange fnExactConstantsWrong)

/-- 'laws.FnExactTypeOk': WHATEVER THE INPUT: true; the input reads as it did. -/
def fnExactTypeOkSpec : ChangeSpec := { name := "fnExactTypeOk", fn := fun _ => fun
  | [d] => { results := [.lit (.bool true)], args := [d] }
  | _ => none }
def fnExactTypeOkRow : OpenClaim := { program := "ytjhbhihfifhljaa", sum := "52811cd674805a13030fe671a50565eab602f646aa3eb5c22bcdc1495690906b", func := "loop.example/handfast/laws.FnExactTypeOk", spec := "fnExactTypeOk", recurses := true, loops := true, apart := false }
def FnExactTypeOkSaid : Prop := fnExactTypeOkRow.holds Try.pinned (OpenSpec.ofChange fnExactTypeOkSpec)

/-- ITS FALSE NEIGHBOUR: 'it returns false'. Refute it at one input. -/
def fnExactTypeOkWrong : ChangeSpec := { name := "fnExactTypeOk", fn := fun _ => fun
  | [d] => { results := [.lit (.bool false)], args := [d] }
  | _ => none }
def FnExactTypeOkWrongFalsely : Prop := fnExactTypeOkRow.holds Try.pinned (OpenSpec.ofChange fnExactTypeOkWrong)

/-- 'laws.FnTypeParts': WHATEVER THE INPUT: true; the input reads as it did. -/
def fnTypePartsSpec : ChangeSpec := { name := "fnTypeParts", fn := fun _ => fun
  | [d] => { results := [.lit (.bool true)], args := [d] }
  | _ => none }
def fnTypePartsRow : OpenClaim := { program := "ytjhbhihfifhljaa", sum := "52811cd674805a13030fe671a50565eab602f646aa3eb5c22bcdc1495690906b", func := "loop.example/handfast/laws.FnTypeParts", spec := "fnTypeParts", unfollowed := true, recurses := true, apart := false }
def FnTypePartsSaid : Prop := fnTypePartsRow.holds Try.pinned (OpenSpec.ofChange fnTypePartsSpec)

/-- ITS FALSE NEIGHBOUR: 'it returns false'. Refute it at one input. -/
def fnTypePartsWrong : ChangeSpec := { name := "fnTypeParts", fn := fun _ => fun
  | [d] => { results := [.lit (.bool false)], args := [d] }
  | _ => none }
def FnTypePartsWrongFalsely : Prop := fnTypePartsRow.holds Try.pinned (OpenSpec.ofChange fnTypePartsWrong)

/-- 'laws.FnExactTypeText': WHATEVER THE INPUT: true; the input reads as it did. -/
def fnExactTypeTextSpec : ChangeSpec := { name := "fnExactTypeText", fn := fun _ => fun
  | [d] => { results := [.lit (.bool true)], args := [d] }
  | _ => none }
def fnExactTypeTextRow : OpenClaim := { program := "ytjhbhihfifhljaa", sum := "52811cd674805a13030fe671a50565eab602f646aa3eb5c22bcdc1495690906b", func := "loop.example/handfast/laws.FnExactTypeText", spec := "fnExactTypeText", recurses := true, loops := true, apart := false }
def FnExactTypeTextSaid : Prop := fnExactTypeTextRow.holds Try.pinned (OpenSpec.ofChange fnExactTypeTextSpec)

/-- ITS FALSE NEIGHBOUR: 'it returns false'. Refute it at one input. -/
def fnExactTypeTextWrong : ChangeSpec := { name := "fnExactTypeText", fn := fun _ => fun
  | [d] => { results := [.lit (.bool false)], args := [d] }
  | _ => none }
def FnExactTypeTextWrongFalsely : Prop := fnExactTypeTextRow.holds Try.pinned (OpenSpec.ofChange fnExactTypeTextWrong)

/-- 'laws.FnTypeText': WHATEVER THE INPUT: true; the input reads as it did. -/
def fnTypeTextSpec : ChangeSpec := { name := "fnTypeText", fn := fun _ => fun
  | [d1, d2] => { results := [.lit (.bool true)], args := [d1, d2] }
  | _ => none }
def fnTypeTextRow : OpenClaim := { program := "ytjhbhihfifhljaa", sum := "52811cd674805a13030fe671a50565eab602f646aa3eb5c22bcdc1495690906b", func := "loop.example/handfast/laws.FnTypeText", spec := "fnTypeText", recurses := true, apart := false }
def FnTypeTextSaid : Prop := fnTypeTextRow.holds Try.pinned (OpenSpec.ofChange fnTypeTextSpec)

/-- ITS FALSE NEIGHBOUR: 'it returns false'. Refute it at one input. -/
def fnTypeTextWrong : ChangeSpec := { name := "fnTypeText", fn := fun _ => fun
  | [d1, d2] => { results := [.lit (.bool false)], args := [d1, d2] }
  | _ => none }
def FnTypeTextWrongFalsely : Prop := fnTypeTextRow.holds Try.pinned (OpenSpec.ofChange fnTypeTextWrong)

/-- 'laws.FnLendMeet': WHATEVER THE INPUT: true; the input reads as it did. -/
def fnLendMeetSpec : ChangeSpec := { name := "fnLendMeet", fn := fun _ => fun
  | [d1, d2] => { results := [.lit (.bool true)], args := [d1, d2] }
  | _ => none }
def fnLendMeetRow : OpenClaim := { program := "ytjhbhihfifhljaa", sum := "52811cd674805a13030fe671a50565eab602f646aa3eb5c22bcdc1495690906b", func := "loop.example/handfast/laws.FnLendMeet", spec := "fnLendMeet", apart := false }
def FnLendMeetSaid : Prop := fnLendMeetRow.holds Try.pinned (OpenSpec.ofChange fnLendMeetSpec)

/-- ITS FALSE NEIGHBOUR: 'it returns false'. Refute it at one input. -/
def fnLendMeetWrong : ChangeSpec := { name := "fnLendMeet", fn := fun _ => fun
  | [d1, d2] => { results := [.lit (.bool false)], args := [d1, d2] }
  | _ => none }
def FnLendMeetWrongFalsely : Prop := fnLendMeetRow.holds Try.pinned (OpenSpec.ofChange fnLendMeetWrong)

/-- 'laws.FnExactLendMeet': WHATEVER THE INPUT: true; the input reads as it did. -/
def fnExactLendMeetSpec : ChangeSpec := { name := "fnExactLendMeet", fn := fun _ => fun
  | [d1, d2] => { results := [.lit (.bool true)], args := [d1, d2] }
  | _ => none }
def fnExactLendMeetRow : OpenClaim := { program := "ytjhbhihfifhljaa", sum := "52811cd674805a13030fe671a50565eab602f646aa3eb5c22bcdc1495690906b", func := "loop.example/handfast/laws.FnExactLendMeet", spec := "fnExactLendMeet", apart := false }
def FnExactLendMeetSaid : Prop := fnExactLendMeetRow.holds Try.pinned (OpenSpec.ofChange fnExactLendMeetSpec)

/-- ITS FALSE NEIGHBOUR: 'it returns false'. Refute it at one input. -/
def fnExactLendMeetWrong : ChangeSpec := { name := "fnExactLendMeet", fn := fun _ => fun
  | [d1, d2] => { results := [.lit (.bool false)], args := [d1, d2] }
  | _ => none }
def FnExactLendMeetWrongFalsely : Prop := fnExactLendMeetRow.holds Try.pinned (OpenSpec.ofChange fnExactLendMeetWrong)

/-- 'laws.FnTypeAt': WHATEVER THE INPUT: true; the input reads as it did. -/
def fnTypeAtSpec : ChangeSpec := { name := "fnTypeAt", fn := fun _ => fun
  | [d1, d2] => { results := [.lit (.bool true)], args := [d1, d2] }
  | _ => none }
def fnTypeAtRow : OpenClaim := { program := "ytjhbhihfifhljaa", sum := "52811cd674805a13030fe671a50565eab602f646aa3eb5c22bcdc1495690906b", func := "loop.example/handfast/laws.FnTypeAt", spec := "fnTypeAt", unfollowed := true, recurses := true, apart := false }
def FnTypeAtSaid : Prop := fnTypeAtRow.holds Try.pinned (OpenSpec.ofChange fnTypeAtSpec)

/-- ITS FALSE NEIGHBOUR: 'it returns false'. Refute it at one input. -/
def fnTypeAtWrong : ChangeSpec := { name := "fnTypeAt", fn := fun _ => fun
  | [d1, d2] => { results := [.lit (.bool false)], args := [d1, d2] }
  | _ => none }
def FnTypeAtWrongFalsely : Prop := fnTypeAtRow.holds Try.pinned (OpenSpec.ofChange fnTypeAtWrong)

/-- 'laws.FnValOk': WHATEVER THE INPUT: true; the input reads as it did. -/
def fnValOkSpec : ChangeSpec := { name := "fnValOk", fn := fun _ => fun
  | [d1, d2] => { results := [.lit (.bool true)], args := [d1, d2] }
  | _ => none }
def fnValOkRow : OpenClaim := { program := "ytjhbhihfifhljaa", sum := "52811cd674805a13030fe671a50565eab602f646aa3eb5c22bcdc1495690906b", func := "loop.example/handfast/laws.FnValOk", spec := "fnValOk", recurses := true, apart := false }
def FnValOkSaid : Prop := fnValOkRow.holds Try.pinned (OpenSpec.ofChange fnValOkSpec)

/-- ITS FALSE NEIGHBOUR: 'it returns false'. Refute it at one input. -/
def fnValOkWrong : ChangeSpec := { name := "fnValOk", fn := fun _ => fun
  | [d1, d2] => { results := [.lit (.bool false)], args := [d1, d2] }
  | _ => none }
def FnValOkWrongFalsely : Prop := fnValOkRow.holds Try.pinned (OpenSpec.ofChange fnValOkWrong)

/-- 'laws.FnExactTypeAt': WHATEVER THE INPUT: true; the input reads as it did. -/
def fnExactTypeAtSpec : ChangeSpec := { name := "fnExactTypeAt", fn := fun _ => fun
  | [d1, d2] => { results := [.lit (.bool true)], args := [d1, d2] }
  | _ => none }
def fnExactTypeAtRow : OpenClaim := { program := "ytjhbhihfifhljaa", sum := "52811cd674805a13030fe671a50565eab602f646aa3eb5c22bcdc1495690906b", func := "loop.example/handfast/laws.FnExactTypeAt", spec := "fnExactTypeAt", unfollowed := true, recurses := true, loops := true, apart := false }
def FnExactTypeAtSaid : Prop := fnExactTypeAtRow.holds Try.pinned (OpenSpec.ofChange fnExactTypeAtSpec)

/-- ITS FALSE NEIGHBOUR: 'it returns false'. Refute it at one input. -/
def fnExactTypeAtWrong : ChangeSpec := { name := "fnExactTypeAt", fn := fun _ => fun
  | [d1, d2] => { results := [.lit (.bool false)], args := [d1, d2] }
  | _ => none }
def FnExactTypeAtWrongFalsely : Prop := fnExactTypeAtRow.holds Try.pinned (OpenSpec.ofChange fnExactTypeAtWrong)

/-- 'laws.FnValParts': WHATEVER THE INPUT: true; the input reads as it did. -/
def fnValPartsSpec : ChangeSpec := { name := "fnValParts", fn := fun _ => fun
  | [d1, d2] => { results := [.lit (.bool true)], args := [d1, d2] }
  | _ => none }
def fnValPartsRow : OpenClaim := { program := "ytjhbhihfifhljaa", sum := "52811cd674805a13030fe671a50565eab602f646aa3eb5c22bcdc1495690906b", func := "loop.example/handfast/laws.FnValParts", spec := "fnValParts", unfollowed := true, recurses := true, apart := false }
def FnValPartsSaid : Prop := fnValPartsRow.holds Try.pinned (OpenSpec.ofChange fnValPartsSpec)

/-- ITS FALSE NEIGHBOUR: 'it returns false'. Refute it at one input. -/
def fnValPartsWrong : ChangeSpec := { name := "fnValParts", fn := fun _ => fun
  | [d1, d2] => { results := [.lit (.bool false)], args := [d1, d2] }
  | _ => none }
def FnValPartsWrongFalsely : Prop := fnValPartsRow.holds Try.pinned (OpenSpec.ofChange fnValPartsWrong)

/-- 'laws.FnExactValOk': WHATEVER THE INPUT: true; the input reads as it did. -/
def fnExactValOkSpec : ChangeSpec := { name := "fnExactValOk", fn := fun _ => fun
  | [d1, d2] => { results := [.lit (.bool true)], args := [d1, d2] }
  | _ => none }
def fnExactValOkRow : OpenClaim := { program := "ytjhbhihfifhljaa", sum := "52811cd674805a13030fe671a50565eab602f646aa3eb5c22bcdc1495690906b", func := "loop.example/handfast/laws.FnExactValOk", spec := "fnExactValOk", recurses := true, loops := true, apart := false }
def FnExactValOkSaid : Prop := fnExactValOkRow.holds Try.pinned (OpenSpec.ofChange fnExactValOkSpec)

/-- ITS FALSE NEIGHBOUR: 'it returns false'. Refute it at one input. -/
def fnExactValOkWrong : ChangeSpec := { name := "fnExactValOk", fn := fun _ => fun
  | [d1, d2] => { results := [.lit (.bool false)], args := [d1, d2] }
  | _ => none }
def FnExactValOkWrongFalsely : Prop := fnExactValOkRow.holds Try.pinned (OpenSpec.ofChange fnExactValOkWrong)

/- THE SECOND FORM. 'bulk': how many values and letters a reading holds, each counted each time it is reached (what is shared counts as often as it is met; a slice's spare places count too). A statement '..UptoSaid' is the law's where the arguments, and the package variables that the reading takes, are together of bulk at most 1048576: NARROWER than '..Said'. Prove '..Said' where nothing that the law and all that it calls make is longer than what came in: it says more and counts as full. Else prove '..UptoSaid'. A law counts once. -/
mutual
def uptoBulk {H : Type} : DataW H → Nat
  | .lit (.string bytes) => bytes.length + 1
  | .lit _ => 1
  | .nil => 1
  | .ptr d => uptoBulk d + 1
  | .slice elems spare => uptoBulkAll elems + uptoBulkAll spare + 1
  | .agg parts => uptoBulkAll parts + 1
  | .iface _ d => uptoBulk d + 1
  | .map entries => uptoBulkEntries entries + 1
  | .held _ => 1
def uptoBulkAll {H : Type} : List (DataW H) → Nat
  | [] => 0
  | d :: r => uptoBulk d + uptoBulkAll r
def uptoBulkEntries {H : Type} : List (Lit × DataW H) → Nat
  | [] => 0
  | x :: r => uptoBulkEntry x + uptoBulkEntries r
def uptoBulkEntry {H : Type} : Lit × DataW H → Nat
  | (.string bytes, d) => bytes.length + uptoBulk d + 1
  | (_, d) => uptoBulk d + 1
 end
def uptoSmall : (H : Type) → List (DataW H) → Bool := fun _ ds => decide (uptoBulkAll ds ≤ 1048576)
def OpenSpec.upto (s : _root_.Go.ChangeSpec) : _root_.Go.OpenSpec := { _root_.Go.OpenSpec.ofChange s with cond := some uptoSmall }

/-- 'laws.FnExactConstants', WHERE WHAT IT READS IS OF BULK AT MOST 1048576: true; the input reads as it did. -/
def fnExactConstantsUptoRow : OpenClaim := { program := "ytjhbhihfifhljaa", sum := "52811cd674805a13030fe671a50565eab602f646aa3eb5c22bcdc1495690906b", func := "loop.example/handfast/laws.FnExactConstants", spec := "fnExactConstants", apart := false, narrowed := true }
def FnExactConstantsUptoSaid : Prop := fnExactConstantsUptoRow.holds Try.pinned (OpenSpec.upto fnExactConstantsSpec)

/-- 'laws.FnExactTypeOk', WHERE WHAT IT READS IS OF BULK AT MOST 1048576: true; the input reads as it did. -/
def fnExactTypeOkUptoRow : OpenClaim := { program := "ytjhbhihfifhljaa", sum := "52811cd674805a13030fe671a50565eab602f646aa3eb5c22bcdc1495690906b", func := "loop.example/handfast/laws.FnExactTypeOk", spec := "fnExactTypeOk", recurses := true, loops := true, apart := false, narrowed := true }
def FnExactTypeOkUptoSaid : Prop := fnExactTypeOkUptoRow.holds Try.pinned (OpenSpec.upto fnExactTypeOkSpec)

/-- 'laws.FnTypeParts', WHERE WHAT IT READS IS OF BULK AT MOST 1048576: true; the input reads as it did. -/
def fnTypePartsUptoRow : OpenClaim := { program := "ytjhbhihfifhljaa", sum := "52811cd674805a13030fe671a50565eab602f646aa3eb5c22bcdc1495690906b", func := "loop.example/handfast/laws.FnTypeParts", spec := "fnTypeParts", unfollowed := true, recurses := true, apart := false, narrowed := true }
def FnTypePartsUptoSaid : Prop := fnTypePartsUptoRow.holds Try.pinned (OpenSpec.upto fnTypePartsSpec)

/-- 'laws.FnExactTypeText', WHERE WHAT IT READS IS OF BULK AT MOST 1048576: true; the input reads as it did. -/
def fnExactTypeTextUptoRow : OpenClaim := { program := "ytjhbhihfifhljaa", sum := "52811cd674805a13030fe671a50565eab602f646aa3eb5c22bcdc1495690906b", func := "loop.example/handfast/laws.FnExactTypeText", spec := "fnExactTypeText", recurses := true, loops := true, apart := false, narrowed := true }
def FnExactTypeTextUptoSaid : Prop := fnExactTypeTextUptoRow.holds Try.pinned (OpenSpec.upto fnExactTypeTextSpec)

/-- 'laws.FnTypeText', WHERE WHAT IT READS IS OF BULK AT MOST 1048576: true; the input reads as it did. -/
def fnTypeTextUptoRow : OpenClaim := { program := "ytjhbhihfifhljaa", sum := "52811cd674805a13030fe671a50565eab602f646aa3eb5c22bcdc1495690906b", func := "loop.example/handfast/laws.FnTypeText", spec := "fnTypeText", recurses := true, apart := false, narrowed := true }
def FnTypeTextUptoSaid : Prop := fnTypeTextUptoRow.holds Try.pinned (OpenSpec.upto fnTypeTextSpec)

/-- 'laws.FnLendMeet', WHERE WHAT IT READS IS OF BULK AT MOST 1048576: true; the input reads as it did. -/
def fnLendMeetUptoRow : OpenClaim := { program := "ytjhbhihfifhljaa", sum := "52811cd674805a13030fe671a50565eab602f646aa3eb5c22bcdc1495690906b", func := "loop.example/handfast/laws.FnLendMeet", spec := "fnLendMeet", apart := false, narrowed := true }
def FnLendMeetUptoSaid : Prop := fnLendMeetUptoRow.holds Try.pinned (OpenSpec.upto fnLendMeetSpec)

/-- 'laws.FnExactLendMeet', WHERE WHAT IT READS IS OF BULK AT MOST 1048576: true; the input reads as it did. -/
def fnExactLendMeetUptoRow : OpenClaim := { program := "ytjhbhihfifhljaa", sum := "52811cd674805a13030fe671a50565eab602f646aa3eb5c22bcdc1495690906b", func := "loop.example/handfast/laws.FnExactLendMeet", spec := "fnExactLendMeet", apart := false, narrowed := true }
def FnExactLendMeetUptoSaid : Prop := fnExactLendMeetUptoRow.holds Try.pinned (OpenSpec.upto fnExactLendMeetSpec)

/-- 'laws.FnTypeAt', WHERE WHAT IT READS IS OF BULK AT MOST 1048576: true; the input reads as it did. -/
def fnTypeAtUptoRow : OpenClaim := { program := "ytjhbhihfifhljaa", sum := "52811cd674805a13030fe671a50565eab602f646aa3eb5c22bcdc1495690906b", func := "loop.example/handfast/laws.FnTypeAt", spec := "fnTypeAt", unfollowed := true, recurses := true, apart := false, narrowed := true }
def FnTypeAtUptoSaid : Prop := fnTypeAtUptoRow.holds Try.pinned (OpenSpec.upto fnTypeAtSpec)

/-- 'laws.FnValOk', WHERE WHAT IT READS IS OF BULK AT MOST 1048576: true; the input reads as it did. -/
def fnValOkUptoRow : OpenClaim := { program := "ytjhbhihfifhljaa", sum := "52811cd674805a13030fe671a50565eab602f646aa3eb5c22bcdc1495690906b", func := "loop.example/handfast/laws.FnValOk", spec := "fnValOk", recurses := true, apart := false, narrowed := true }
def FnValOkUptoSaid : Prop := fnValOkUptoRow.holds Try.pinned (OpenSpec.upto fnValOkSpec)

/-- 'laws.FnExactTypeAt', WHERE WHAT IT READS IS OF BULK AT MOST 1048576: true; the input reads as it did. -/
def fnExactTypeAtUptoRow : OpenClaim := { program := "ytjhbhihfifhljaa", sum := "52811cd674805a13030fe671a50565eab602f646aa3eb5c22bcdc1495690906b", func := "loop.example/handfast/laws.FnExactTypeAt", spec := "fnExactTypeAt", unfollowed := true, recurses := true, loops := true, apart := false, narrowed := true }
def FnExactTypeAtUptoSaid : Prop := fnExactTypeAtUptoRow.holds Try.pinned (OpenSpec.upto fnExactTypeAtSpec)

/-- 'laws.FnValParts', WHERE WHAT IT READS IS OF BULK AT MOST 1048576: true; the input reads as it did. -/
def fnValPartsUptoRow : OpenClaim := { program := "ytjhbhihfifhljaa", sum := "52811cd674805a13030fe671a50565eab602f646aa3eb5c22bcdc1495690906b", func := "loop.example/handfast/laws.FnValParts", spec := "fnValParts", unfollowed := true, recurses := true, apart := false, narrowed := true }
def FnValPartsUptoSaid : Prop := fnValPartsUptoRow.holds Try.pinned (OpenSpec.upto fnValPartsSpec)

/-- 'laws.FnExactValOk', WHERE WHAT IT READS IS OF BULK AT MOST 1048576: true; the input reads as it did. -/
def fnExactValOkUptoRow : OpenClaim := { program := "ytjhbhihfifhljaa", sum := "52811cd674805a13030fe671a50565eab602f646aa3eb5c22bcdc1495690906b", func := "loop.example/handfast/laws.FnExactValOk", spec := "fnExactValOk", recurses := true, loops := true, apart := false, narrowed := true }
def FnExactValOkUptoSaid : Prop := fnExactValOkUptoRow.holds Try.pinned (OpenSpec.upto fnExactValOkSpec)

end Rows
end Go.Proofs.Ytjhbhihfifhljaa
