/- The program's FlowJumps returns what the reference's returns, for every number of int64. -/
import Derived.Test.YtkijcgeicdldgaaPFnExactFlowJumpsx1
namespace Go.Proofs.Ytkijcgeicdldgaa.Pure
open Go.RowKit Go.Proofs.Ytkijcgeicdldgaa.PFnExactFlowJumps Go.Proofs.YtkijcgeicdldgaaW.PrintWords Go.Proofs.YtkijcgeicdldgaaW.PrintLast

theorem flow_jumps : ∀ n : Nat, n < 44 → laws_FnExactFlowJumps.f 16 (((n + 1 : Nat) : Int)) = some true := by decide +kernel
theorem FnExactFlowJumps : laws_FnExactFlowJumps.Pure := by
  intro a0 _
  refine ⟨16, ?_⟩
  by_cases h1 : 1 ≤ a0
  · by_cases h2 : a0 ≤ 44
    · have e : a0 = (((a0 - 1).toNat + 1 : Nat) : Int) := by omega
      rw [e]
      exact flow_jumps _ (by omega)
    · simp [laws_FnExactFlowJumps.f, spec_FlowJumps.f, spec_OpForm.f, spec_OpForm.j0, spec_l03Ops.f, impl_FlowJumps.f, impl_OpForm.f, impl_isOp.f, impl_within.f, h1, h2, show ¬ a0 < 1 by omega, show a0 ≥ 45 by omega]
  · simp [laws_FnExactFlowJumps.f, spec_FlowJumps.f, spec_OpForm.f, spec_OpForm.j0, spec_l03Ops.f, impl_FlowJumps.f, impl_OpForm.f, impl_isOp.f, impl_within.f, h1, show a0 < 1 by omega]

end Go.Proofs.Ytkijcgeicdldgaa.Pure
