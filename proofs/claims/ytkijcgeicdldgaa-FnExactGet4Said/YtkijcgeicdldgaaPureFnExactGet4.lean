/- The program's Get4 returns what the reference's returns, for every string that the model can read and every place of int64. -/
import Derived.Test.YtkijcgeicdldgaaPFnExactGet4x1
namespace Go.Proofs.Ytkijcgeicdldgaa.Pure
open Go.RowKit Go.Proofs.Ytkijcgeicdldgaa.PFnExactGet4 Go.Proofs.YtkijcgeicdldgaaW.PrintWords Go.Proofs.YtkijcgeicdldgaaW.PrintLast
set_option linter.unusedVariables false
set_option linter.unusedSimpArgs false

theorem get_same (s : ByteArray) (a m : Int) (k : Nat) : ∀ n i : Int,
    spec_l01Get.l0 k s a m n i = (impl_numberAt.l0 k s a m n i).bind fun r => if m = 4 then some (wrap64 (wrap32 r.1), r.2.1, r.2.2) else some r := by
  induction k with
  | zero => intro n i; rfl
  | succ k ih =>
    intro n i
    simp only [spec_l01Get.l0, impl_numberAt.l0, spec_l01Wrap.f, Option.bind_some]
    by_cases c1 : i < wrap64 (a + m)
    · rw [if_pos c1, if_pos c1]
      by_cases c2 : 0 ≤ i
      · rw [if_pos c2, if_pos c2]
        by_cases c3 : i < (s.size : Int)
        · rw [if_pos c3, if_pos c3, ih, Int.mul_comm 256 n]
        · rw [if_neg c3, if_neg c3]; rfl
      · rw [if_neg c2, if_neg c2]; rfl
    · rw [if_neg c1, if_neg c1]
      by_cases c4 : m = 4
      · rw [if_pos c4]; simp [c4]
      · rw [if_neg c4]; simp [c4]
theorem get_ends (s : ByteArray) (a m : Int) (h0 : 0 ≤ a) (hm : a + m ≤ s.size) (hn : s.size ≤ 20000) (d : Nat) : ∀ (k : Nat) (n i : Int), a ≤ i → i + d = a + m → d < k →
    ∃ r, impl_numberAt.l0 k s a m n i = some (r, a + m, 0) := by
  have hw : wrap64 (a + m) = a + m ∨ a + m < 0 := by unfold wrap64; omega
  induction d with
  | zero =>
    intro k n i h1 h2 hk
    obtain ⟨k, rfl⟩ : ∃ m, k = m + 1 := ⟨k - 1, by omega⟩
    rcases hw with hw | hw
    · refine ⟨n, ?_⟩
      simp only [impl_numberAt.l0, hw]
      rw [if_neg (by omega)]
    · omega
  | succ d ih =>
    intro k n i h1 h2 hk
    obtain ⟨k, rfl⟩ : ∃ m, k = m + 1 := ⟨k - 1, by omega⟩
    rcases hw with hw | hw
    · simp only [impl_numberAt.l0, hw]
      rw [if_pos (by omega), if_pos (by omega), if_pos (by omega)]
      have e : wrap64 (i + 1) = i + 1 := by unfold wrap64; omega
      rw [e]
      exact ih k _ _ (by omega) (by omega) (by omega)
    · omega
theorem is_text (s : ByteArray) : impl_isText.f 2 [s] = some (decide (s.size ≤ 20000)) := by
  by_cases h : s.size ≤ 20000
  · simp [impl_isText.f, impl_isText.l0, rdOf, wrap64, h]
    omega
  · simp [impl_isText.f, impl_isText.l0, rdOf, wrap64, h]
    omega
theorem i64_bounds {a : Int} (ha : (Lit.int .i64 a).wf = true) : -9223372036854775808 ≤ a ∧ a ≤ 9223372036854775807 := by
  have e1 : IntKind.i64.min = -9223372036854775808 := by decide
  have e2 : IntKind.i64.max = 9223372036854775807 := by decide
  simp only [Lit.wf, e1, e2, Bool.and_eq_true, decide_eq_true_eq] at ha
  exact ha

theorem FnExactGet4 : laws_FnExactGet4.Pure := by
  intro s a hn ha
  have hb := i64_bounds ha
  have ht := at_rounds (k' := 9) (impl_isText.mono [s]) (by omega) (is_text s)
  refine ⟨9, ?_⟩
  unfold laws_FnExactGet4.f
  by_cases hbig : (s.size : Int) > 1048576
  · rw [if_pos hbig]
  rw [if_neg hbig]
  unfold spec_Get4.f impl_Get4.f spec_l01Get.f impl_numberAt.f
  rw [ht]
  by_cases h1 : (s.size : Int) > 20000
  · simp [h1, laws_eqNumOut.f, show ¬ (s.size ≤ 20000) by omega, wrap64, wrap32]
  · by_cases h2 : a < 0
    · simp [h1, h2, laws_eqNumOut.f, show (s.size ≤ 20000) by omega, wrap64, wrap32]
    · have e : wrap64 ((s.size : Int) - 4) = (s.size : Int) - 4 := by unfold wrap64; omega
      by_cases h3 : a > (s.size : Int) - 4
      · simp [h1, h2, h3, e, impl_length.f, laws_eqNumOut.f, show (s.size ≤ 20000) by omega, show wrap64 (wrap32 0) = 0 by unfold wrap64 wrap32; omega, show wrap64 0 = 0 by unfold wrap64; omega, show wrap32 0 = 0 by unfold wrap32; omega]
      · obtain ⟨r, hr⟩ := get_ends s a 4 (by omega) (by omega) (by omega) 4 9 0 a (by omega) (by omega) (by omega)
        have w4 : wrap64 (wrap32 (r % 4294967296)) = wrap64 (wrap32 r) := by unfold wrap64 wrap32; omega
        simp [h1, h2, h3, e, get_same, hr, impl_length.f, laws_eqNumOut.f, show (s.size ≤ 20000) by omega, w4]

end Go.Proofs.Ytkijcgeicdldgaa.Pure
