/- The program's BuiltIn returns what the reference's returns (it has no argument, so there is no condition). -/
import Derived.Test.YtkijcgeicdldgaaPFnExactBuiltInx1
namespace Go.Proofs.Ytkijcgeicdldgaa.Pure
open Go.RowKit Go.Proofs.Ytkijcgeicdldgaa.PFnExactBuiltIn Go.Proofs.YtkijcgeicdldgaaW.PrintWords Go.Proofs.YtkijcgeicdldgaaW.PrintLast

theorem FnExactBuiltIn : laws_FnExactBuiltIn.Pure := ⟨16, by decide +kernel⟩

end Go.Proofs.Ytkijcgeicdldgaa.Pure
