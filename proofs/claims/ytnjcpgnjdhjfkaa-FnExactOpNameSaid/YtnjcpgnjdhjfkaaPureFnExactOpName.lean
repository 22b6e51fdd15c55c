/- The program's OpName returns what the reference's returns, for every number of int64. -/
import Derived.Test.YtnjcpgnjdhjfkaaPFnExactOpNamex1
namespace Go.Proofs.Ytnjcpgnjdhjfkaa.Pure
open Go.RowKit Go.Proofs.Ytnjcpgnjdhjfkaa.PFnExactOpName Go.Proofs.YtnjcpgnjdhjfkaaW.PrintWords Go.Proofs.YtnjcpgnjdhjfkaaW.PrintLast

theorem op_names : ∀ n : Nat, n < 44 → laws_FnExactOpName.f 16 (((n + 1 : Nat) : Int)) = some true := by decide +kernel
theorem FnExactOpName : laws_FnExactOpName.Pure := by
  intro a0 _
  refine ⟨16, ?_⟩
  by_cases h1 : 1 ≤ a0
  · by_cases h2 : a0 ≤ 44
    · have e : a0 = (((a0 - 1).toNat + 1 : Nat) : Int) := by omega
      rw [e]
      exact op_names _ (by omega)
    · simp [laws_FnExactOpName.f, spec_OpName.f, spec_l03Ops.f, impl_OpName.f, impl_isOp.f, impl_within.f, h1, h2, show ¬ a0 < 1 by omega, show a0 ≥ 45 by omega]
  · simp [laws_FnExactOpName.f, spec_OpName.f, spec_l03Ops.f, impl_OpName.f, impl_isOp.f, impl_within.f, h1, show a0 < 1 by omega]

end Go.Proofs.Ytnjcpgnjdhjfkaa.Pure
