/- The law FnExactConstants returns true (it has no argument, so there is no condition). -/
import Derived.Test.YtnjcpgnjdhjfkaaPFnExactConstantsx1
namespace Go.Proofs.Ytnjcpgnjdhjfkaa.Pure
open Go.RowKit Go.Proofs.Ytnjcpgnjdhjfkaa.PFnExactConstants Go.Proofs.YtnjcpgnjdhjfkaaW.PrintWords Go.Proofs.YtnjcpgnjdhjfkaaW.PrintLast

theorem FnExactConstants : laws_FnExactConstants.Pure := rfl

end Go.Proofs.Ytnjcpgnjdhjfkaa.Pure
