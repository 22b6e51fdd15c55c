/- The program's FlowEnds returns what the reference's returns, for every number of int64. -/
import Derived.Test.YtnjcpgnjdhjfkaaPFnExactFlowEndsx1
namespace Go.Proofs.Ytnjcpgnjdhjfkaa.Pure
open Go.RowKit Go.Proofs.Ytnjcpgnjdhjfkaa.PFnExactFlowEnds Go.Proofs.YtnjcpgnjdhjfkaaW.PrintWords Go.Proofs.YtnjcpgnjdhjfkaaW.PrintLast

theorem FnExactFlowEnds : laws_FnExactFlowEnds.Pure := by
  intro a0 _
  unfold laws_FnExactFlowEnds.f spec_FlowEnds.f impl_FlowEnds.f impl_within.f
  by_cases h1 : a0 = 19
  · simp [h1]
  · by_cases h2 : a0 ≥ 26 <;> simp [h1, h2]

end Go.Proofs.Ytnjcpgnjdhjfkaa.Pure
