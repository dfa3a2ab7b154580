/- The program's exported constants are those that the document names, with no condition. -/
import Derived.Test.YtjhbhihfifhljaaPFnExactConstantsx1
namespace Go.Proofs.Ytjhbhihfifhljaa.Pure
open Go.RowKit Go.Proofs.Ytjhbhihfifhljaa.PFnExactConstants Go.Proofs.YtjhbhihfifhljaaW.PrintWords Go.Proofs.YtjhbhihfifhljaaW.PrintLast

theorem FnExactConstants : laws_FnExactConstants.Pure := by
  unfold laws_FnExactConstants.Pure
  rfl

end Go.Proofs.Ytjhbhihfifhljaa.Pure
