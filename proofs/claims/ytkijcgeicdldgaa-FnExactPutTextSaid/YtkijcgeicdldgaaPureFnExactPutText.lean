/- The program's PutText returns what the reference's returns, for every string of at most 140737488351232 bytes (each that the model can read). -/
import Derived.Test.YtkijcgeicdldgaaPFnExactPutTextx1
namespace Go.Proofs.Ytkijcgeicdldgaa.Pure
open Go.RowKit Go.Proofs.Ytkijcgeicdldgaa.PFnExactPutText Go.Proofs.YtkijcgeicdldgaaW.PrintWords Go.Proofs.YtkijcgeicdldgaaW.PrintLast
set_option linter.unusedVariables false
set_option linter.unusedSimpArgs false

theorem put_1 (n : Int) : impl_put.f 2 n 1 = some (strOfNums [n % 256]) := by
  simp [impl_put.f, impl_put.l0, wrap64]
theorem put_2 (n : Int) : impl_put.f 3 n 2 = some (strOfNums [n / 256 % 256, n % 256]) := by
  simp [impl_put.f, impl_put.l0, wrap64, List.replicate]
theorem put_4 (n : Int) : impl_put.f 5 n 4 = some (strOfNums [n / 256 / 256 / 256 % 256, n / 256 / 256 % 256, n / 256 % 256, n % 256]) := by
  simp [impl_put.f, impl_put.l0, wrap64, List.replicate]

theorem step64 {i : Int} {n : Nat} (h0 : 0 ≤ i) (h : i < (n : Int)) (hn : n ≤ 140737488351232) : wrap64 (i + 1) = i + 1 := by
  unfold wrap64
  omega
theorem plain_both (s : ByteArray) (hn : s.size ≤ 140737488351232) (d : Nat) : ∀ (k k' : Nat) (i : Int), 0 ≤ i → i ≤ s.size → (s.size : Int) - i = d → d < k → d < k' →
    ∃ b, spec_l01Plain.l0 k s i = some b ∧ impl_isPlain.l0 k' s (s.size : Int) i = some b := by
  induction d with
  | zero =>
    intro k k' i h0 h1 hd hk hk'
    obtain ⟨k, rfl⟩ : ∃ m, k = m + 1 := ⟨k - 1, by omega⟩
    obtain ⟨k', rfl⟩ : ∃ m, k' = m + 1 := ⟨k' - 1, by omega⟩
    refine ⟨true, ?_, ?_⟩
    · simp only [spec_l01Plain.l0]; rw [if_neg (by omega)]
    · simp only [impl_isPlain.l0]; rw [if_neg (by omega)]
  | succ d ih =>
    intro k k' i h0 h1 hd hk hk'
    obtain ⟨k, rfl⟩ : ∃ m, k = m + 1 := ⟨k - 1, by omega⟩
    obtain ⟨k', rfl⟩ : ∃ m, k' = m + 1 := ⟨k' - 1, by omega⟩
    have hlt : i < (s.size : Int) := by omega
    simp only [spec_l01Plain.l0, impl_isPlain.l0]
    rw [if_pos hlt, if_pos h0, if_pos hlt, if_pos h0, if_pos hlt, step64 h0 hlt hn]
    by_cases c1 : bt s i < 32
    · exact ⟨false, by rw [if_pos c1], by rw [if_pos c1]⟩
    · by_cases c2 : bt s i > 126
      · exact ⟨false, by rw [if_neg c1, if_pos c2], by rw [if_neg c1, if_pos c2]⟩
      · obtain ⟨b, e1, e2⟩ := ih k k' (i + 1) (by omega) (by omega) (by omega) (by omega) (by omega)
        exact ⟨b, by rw [if_neg c1, if_neg c2]; exact e1, by rw [if_neg c1, if_neg c2]; exact e2⟩

theorem FnExactPutText : laws_FnExactPutText.Pure := by
  intro s hn
  by_cases hbig : (s.size : Int) > 255
  · refine ⟨1, ?_⟩
    unfold laws_FnExactPutText.f spec_PutText.f impl_PutText.f
    by_cases h0 : (s.size : Int) > 1048576
    · rw [if_pos h0]
    · rw [if_neg h0, if_pos hbig, if_pos hbig]
      simp [impl_PutText.j0]
  · obtain ⟨b, e1, e2⟩ := plain_both s hn s.size 1000 1000 0 (by omega) (by omega) (by omega) (by omega) (by omega)
    refine ⟨1000, ?_⟩
    unfold laws_FnExactPutText.f spec_PutText.f impl_PutText.f spec_l01Plain.f impl_isPlain.f
    rw [if_neg (by omega), if_neg hbig, if_neg hbig, e1, e2]
    have hp := at_rounds (k' := 999) (impl_put.mono (s.size : Int) 1) (by omega) (put_1 (s.size : Int))
    cases b with
    | false => simp [impl_PutText.j0]
    | true =>
      have hz : (strOfNums [(s.size : Int) % 256]).size = 1 := strOfNums_size _
      simp [impl_PutText.j0, impl_length.f, spec_Put1.f, hp, hz, show ¬ ((s.size : Int) < 0) by omega, show ¬ (s.size > 255) by omega, show 1 + s.size ≤ 9223372036854775807 by omega, show ¬ ((s.size : Int) > 255) by omega]

end Go.Proofs.Ytkijcgeicdldgaa.Pure
