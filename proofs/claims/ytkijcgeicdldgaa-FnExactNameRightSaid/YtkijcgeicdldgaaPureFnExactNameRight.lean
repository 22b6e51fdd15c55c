/- The program's NameRight returns what the reference's returns, for every string that the model can read. -/
import Derived.Test.YtkijcgeicdldgaaPFnExactNameRightx1
namespace Go.Proofs.Ytkijcgeicdldgaa.Pure
open Go.RowKit Go.Proofs.Ytkijcgeicdldgaa.PFnExactNameRight Go.Proofs.YtkijcgeicdldgaaW.PrintWords Go.Proofs.YtkijcgeicdldgaaW.PrintLast
set_option linter.unusedVariables false
set_option linter.unusedSimpArgs false

theorem step64 {i : Int} {n : Nat} (h0 : 0 ≤ i) (h : i < (n : Int)) (hn : n ≤ 140737488351232) : wrap64 (i + 1) = i + 1 := by
  unfold wrap64
  omega

theorem name_byte_nat : ∀ c : Nat, c < 256 → impl_isNameByte.f (c : Int) 0 = spec_l01NameByte.f (c : Int) true ∧ impl_isNameByte.f (c : Int) 1 = spec_l01NameByte.f (c : Int) false := by decide +kernel
theorem name_byte_some (c : Int) (b : Bool) : ∃ r, spec_l01NameByte.f c b = some r := by
  unfold spec_l01NameByte.f
  repeat' split
  all_goals exact ⟨_, rfl⟩
theorem name_byte (c i : Int) (h0 : 0 ≤ c) (h1 : c ≤ 255) (hi : 0 ≤ i) : impl_isNameByte.f c i = spec_l01NameByte.f c (i == 0) := by
  obtain ⟨n, rfl⟩ := Int.eq_ofNat_of_zero_le h0
  have h := name_byte_nat n (by omega)
  by_cases e : i = 0
  · subst e; simpa using h.1
  · have e1 : (i == 0) = false := by simpa using e
    rw [e1, ← h.2]
    unfold impl_isNameByte.f
    have e2 : decide (i > 0) = decide ((1 : Int) > 0) := by simp; omega
    rw [e2]

theorem name_loops (s : ByteArray) (hn : s.size ≤ 140737488351232) (d : Nat) : ∀ (k k' : Nat) (i : Int), 0 ≤ i → i ≤ s.size → (s.size : Int) - i = d → d < k → d < k' →
    ∃ b, spec_NameRight.l0 k s i = some b ∧ impl_NameRight.l0 k' s (s.size : Int) i = some (b && decide (1 ≤ s.size ∧ s.size ≤ 20)) := by
  induction d with
  | zero =>
    intro k k' i h0 h1 hd hk hk'
    obtain ⟨k, rfl⟩ : ∃ m, k = m + 1 := ⟨k - 1, by omega⟩
    obtain ⟨k', rfl⟩ : ∃ m, k' = m + 1 := ⟨k' - 1, by omega⟩
    refine ⟨true, ?_, ?_⟩
    · simp only [spec_NameRight.l0]; rw [if_neg (by omega)]
    · simp only [impl_NameRight.l0]
      rw [if_neg (by omega)]
      simp only [impl_length.f, impl_within.f, Option.bind_some]
      by_cases c1 : (s.size : Int) ≥ 1
      · rw [if_pos c1]
        simp only [Option.bind_some, Bool.true_and]
        exact congrArg some (decide_eq_decide.mpr (by omega))
      · rw [if_neg c1, decide_eq_false (show ¬ (1 ≤ s.size ∧ s.size ≤ 20) by omega)]
        rfl
  | succ d ih =>
    intro k k' i h0 h1 hd hk hk'
    obtain ⟨k, rfl⟩ : ∃ m, k = m + 1 := ⟨k - 1, by omega⟩
    obtain ⟨k', rfl⟩ : ∃ m, k' = m + 1 := ⟨k' - 1, by omega⟩
    have hlt : i < (s.size : Int) := by omega
    have hb := bt_range s i
    simp only [spec_NameRight.l0, impl_NameRight.l0]
    rw [if_pos hlt, if_pos h0, if_pos hlt, if_pos h0, if_pos hlt, step64 h0 hlt hn, name_byte _ _ hb.1 hb.2 h0]
    obtain ⟨r, hr⟩ := name_byte_some (bt s i) (i == 0)
    rw [hr]
    cases r with
    | false => exact ⟨false, by simp, by simp⟩
    | true =>
      obtain ⟨b, e1, e2⟩ := ih k k' (i + 1) (by omega) (by omega) (by omega) (by omega) (by omega)
      exact ⟨b, by simpa using e1, by simpa using e2⟩
theorem FnExactNameRight : laws_FnExactNameRight.Pure := by
  intro s hn
  obtain ⟨b, e1, e2⟩ := name_loops s hn s.size (s.size + 1) (s.size + 3) 0 (by omega) (by omega) (by omega) (by omega) (by omega)
  refine ⟨s.size + 3, ?_⟩
  unfold laws_FnExactNameRight.f
  by_cases hbig : (s.size : Int) > 1048576
  · rw [if_pos hbig]
  rw [if_neg hbig]
  have e3 : spec_NameRight.f (s.size + 3) s = some (b && decide (1 ≤ s.size ∧ s.size ≤ 20)) := by
    unfold spec_NameRight.f
    have e1' := at_rounds (k' := s.size + 2) (fun k => (spec_NameRight.mono_l k).2 s 0) (by omega) e1
    by_cases c1 : (s.size : Int) < 1
    · rw [if_pos c1]
      simp only [spec_NameRight.j0]
      simp; omega
    · rw [if_neg c1]
      by_cases c2 : (s.size : Int) > 20
      · simp only [spec_NameRight.j0, c2]
        simp; omega
      · simp only [spec_NameRight.j0, c2]
        rw [decide_eq_false (by simp), if_neg (by simp), e1']
        simp; omega
  rw [e3]
  unfold impl_NameRight.f
  rw [e2]
  simp

end Go.Proofs.Ytkijcgeicdldgaa.Pure
