/- The program's Put4 returns what the reference's returns, for every number of int64. -/
import Derived.Test.YtnjcpgnjdhjfkaaPFnExactPut4x1
namespace Go.Proofs.Ytnjcpgnjdhjfkaa.Pure
open Go.RowKit Go.Proofs.Ytnjcpgnjdhjfkaa.PFnExactPut4 Go.Proofs.YtnjcpgnjdhjfkaaW.PrintWords Go.Proofs.YtnjcpgnjdhjfkaaW.PrintLast

theorem put_1 (n : Int) : impl_put.f 2 n 1 = some (strOfNums [n % 256]) := by
  simp [impl_put.f, impl_put.l0, wrap64]
theorem put_2 (n : Int) : impl_put.f 3 n 2 = some (strOfNums [n / 256 % 256, n % 256]) := by
  simp [impl_put.f, impl_put.l0, wrap64, List.replicate]
theorem put_4 (n : Int) : impl_put.f 5 n 4 = some (strOfNums [n / 256 / 256 / 256 % 256, n / 256 / 256 % 256, n / 256 % 256, n % 256]) := by
  simp [impl_put.f, impl_put.l0, wrap64, List.replicate]

theorem FnExactPut4 : laws_FnExactPut4.Pure := by
  intro a0 _
  refine ⟨5, ?_⟩
  unfold laws_FnExactPut4.f spec_Put4.f spec_l01Int.f impl_Put4.f impl_isInt.f impl_within.f
  rw [put_4]
  have e1 : a0 % 4294967296 / 16777216 = a0 / 256 / 256 / 256 % 256 := by omega
  have e2 : a0 % 4294967296 / 65536 % 256 = a0 / 256 / 256 % 256 := by omega
  have e3 : a0 % 4294967296 / 256 % 256 = a0 / 256 % 256 := by omega
  have e4 : a0 % 4294967296 % 256 = a0 % 256 := by omega
  rw [e1, e2, e3, e4]
  by_cases h1 : a0 ≥ -2147483648
  · by_cases h2 : a0 ≤ 2147483647 <;> simp [h1, h2]
  · simp [h1]

end Go.Proofs.Ytnjcpgnjdhjfkaa.Pure
