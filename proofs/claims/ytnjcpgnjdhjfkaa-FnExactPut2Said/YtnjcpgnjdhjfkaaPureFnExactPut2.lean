/- The program's Put2 returns what the reference's returns, for every number of int64. -/
import Derived.Test.YtnjcpgnjdhjfkaaPFnExactPut2x1
namespace Go.Proofs.Ytnjcpgnjdhjfkaa.Pure
open Go.RowKit Go.Proofs.Ytnjcpgnjdhjfkaa.PFnExactPut2 Go.Proofs.YtnjcpgnjdhjfkaaW.PrintWords Go.Proofs.YtnjcpgnjdhjfkaaW.PrintLast

theorem put_1 (n : Int) : impl_put.f 2 n 1 = some (strOfNums [n % 256]) := by
  simp [impl_put.f, impl_put.l0, wrap64]
theorem put_2 (n : Int) : impl_put.f 3 n 2 = some (strOfNums [n / 256 % 256, n % 256]) := by
  simp [impl_put.f, impl_put.l0, wrap64, List.replicate]
theorem put_4 (n : Int) : impl_put.f 5 n 4 = some (strOfNums [n / 256 / 256 / 256 % 256, n / 256 / 256 % 256, n / 256 % 256, n % 256]) := by
  simp [impl_put.f, impl_put.l0, wrap64, List.replicate]

theorem FnExactPut2 : laws_FnExactPut2.Pure := by
  intro a0 _
  refine ⟨3, ?_⟩
  unfold laws_FnExactPut2.f spec_Put2.f impl_Put2.f impl_within.f
  rw [put_2]
  by_cases h1 : a0 < 0
  · simp [h1, show ¬ (0 ≤ a0) by omega]
  · by_cases h2 : a0 > 65535
    · simp [h1, h2, show 0 ≤ a0 by omega, show ¬ (a0 ≤ 65535) by omega]
    · simp [h1, h2, show 0 ≤ a0 by omega, show a0 ≤ 65535 by omega]

end Go.Proofs.Ytnjcpgnjdhjfkaa.Pure
