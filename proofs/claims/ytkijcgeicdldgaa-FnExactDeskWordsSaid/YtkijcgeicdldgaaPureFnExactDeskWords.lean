/- The program's DeskWords returns what the reference's returns (it has no argument, so there is no condition). -/
import Derived.Test.YtkijcgeicdldgaaPFnExactDeskWordsx1
namespace Go.Proofs.Ytkijcgeicdldgaa.Pure
open Go.RowKit Go.Proofs.Ytkijcgeicdldgaa.PFnExactDeskWords Go.Proofs.YtkijcgeicdldgaaW.PrintWords Go.Proofs.YtkijcgeicdldgaaW.PrintLast

theorem FnExactDeskWords : laws_FnExactDeskWords.Pure := ⟨16, by decide +kernel⟩

end Go.Proofs.Ytkijcgeicdldgaa.Pure
