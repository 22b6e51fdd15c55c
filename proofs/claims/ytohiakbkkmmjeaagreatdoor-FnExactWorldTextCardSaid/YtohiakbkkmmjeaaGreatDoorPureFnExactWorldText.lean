/- The program's WorldText returns what the reference's returns, for every list of classes that the model can hold. -/
import Derived.Test.YtohiakbkkmmjeaaGreatDoorPFnExactWorldTextx23
namespace Go.Proofs.YtohiakbkkmmjeaaGreatDoor.Pure
open Go.RowKit Go.Proofs.YtohiakbkkmmjeaaGreatDoor.PFnExactWorldText Go.Proofs.YtohiakbkkmmjeaaGreatDoorW.PrintWords Go.Proofs.YtohiakbkkmmjeaaGreatDoorW.PrintLast
set_option linter.unusedVariables false
set_option linter.unusedSimpArgs false

theorem op_forms_nat : ∀ n : Nat, n < 44 → spec_OpForm.f 16 (((n + 1 : Nat) : Int)) = impl_OpForm.f (((n + 1 : Nat) : Int)) ∧ (impl_OpForm.f (((n + 1 : Nat) : Int))).isSome = true := by decide +kernel
theorem op_form (a : Int) : ∃ F, impl_OpForm.f a = some F ∧ ∀ k, 16 ≤ k → spec_OpForm.f k a = some F := by
  have up : ∀ F, spec_OpForm.f 16 a = some F → ∀ k, 16 ≤ k → spec_OpForm.f k a = some F := fun F h k hk => at_rounds (g := fun k => spec_OpForm.f k a) (fun k => spec_OpForm.mono _ _) hk h
  by_cases h1 : 1 ≤ a ∧ a ≤ 44
  · have e : a = (((a - 1).toNat + 1 : Nat) : Int) := by omega
    have h := op_forms_nat (a - 1).toNat (by omega)
    rw [← e] at h
    obtain ⟨F, hF⟩ := Option.isSome_iff_exists.mp h.2
    exact ⟨F, hF, up F (h.1.trans hF)⟩
  · refine ⟨⟨#[33]⟩, ?_, up _ ?_⟩
    · unfold impl_OpForm.f impl_isOp.f impl_within.f
      by_cases c : a ≥ 1
      · rw [if_pos c]
        simp only [Option.bind_some]
        rw [if_neg (by simp; omega)]
      · rw [if_neg c]
        simp only [Option.bind_some]
        rw [if_neg (by simp)]
    · unfold spec_OpForm.f spec_l03Ops.f
      simp only [Option.bind_some]
      by_cases c : a < 1
      · rw [if_pos c]
        rfl
      · rw [if_neg c, decide_eq_true (by simp; omega)]
        rfl

theorem step64 {i : Int} {n : Nat} (h0 : 0 ≤ i) (h : i < (n : Int)) (hn : n ≤ 140737488351232) : wrap64 (i + 1) = i + 1 := by
  unfold wrap64
  omega

theorem name_byte_nat : ∀ c : Nat, c < 256 → impl_isNameByte.f (c : Int) 0 = spec_l01NameByte.f (c : Int) true ∧ impl_isNameByte.f (c : Int) 1 = spec_l01NameByte.f (c : Int) false := by decide +kernel
theorem name_byte_some (c : Int) (b : Bool) : ∃ r, spec_l01NameByte.f c b = some r := by
  unfold spec_l01NameByte.f
  repeat' split
  all_goals exact ⟨_, rfl⟩
theorem name_byte (c i : Int) (h0 : 0 ≤ c) (h1 : c ≤ 255) (hi : 0 ≤ i) : impl_isNameByte.f c i = spec_l01NameByte.f c (i == 0) := by
  obtain ⟨n, rfl⟩ := Int.eq_ofNat_of_zero_le h0
  have h := name_byte_nat n (by omega)
  by_cases e : i = 0
  · subst e; simpa using h.1
  · have e1 : (i == 0) = false := by simpa using e
    rw [e1, ← h.2]
    unfold impl_isNameByte.f
    have e2 : decide (i > 0) = decide ((1 : Int) > 0) := by simp; omega
    rw [e2]

theorem name_run_both (s : ByteArray) (hn : s.size ≤ 140737488351232) (d : Nat) : ∀ (k k' : Nat) (i : Int), 0 ≤ i → i ≤ s.size → (s.size : Int) - i = d → d < k → d < k' →
    ∃ b, spec_NameRight.l0 k s i = some b ∧ impl_NameRight.l0 k' s (s.size : Int) i = some (b && decide (1 ≤ s.size ∧ s.size ≤ 20)) := by
  induction d with
  | zero =>
    intro k k' i h0 h1 hd hk hk'
    obtain ⟨k, rfl⟩ : ∃ m, k = m + 1 := ⟨k - 1, by omega⟩
    obtain ⟨k', rfl⟩ : ∃ m, k' = m + 1 := ⟨k' - 1, by omega⟩
    refine ⟨true, ?_, ?_⟩
    · simp only [spec_NameRight.l0]; rw [if_neg (by omega)]
    · simp only [impl_NameRight.l0]
      rw [if_neg (by omega)]
      simp only [impl_length.f, impl_within.f, Option.bind_some]
      by_cases c1 : (s.size : Int) ≥ 1
      · rw [if_pos c1]
        simp only [Option.bind_some, Bool.true_and]
        exact congrArg some (decide_eq_decide.mpr (by omega))
      · rw [if_neg c1, decide_eq_false (show ¬ (1 ≤ s.size ∧ s.size ≤ 20) by omega)]
        rfl
  | succ d ih =>
    intro k k' i h0 h1 hd hk hk'
    obtain ⟨k, rfl⟩ : ∃ m, k = m + 1 := ⟨k - 1, by omega⟩
    obtain ⟨k', rfl⟩ : ∃ m, k' = m + 1 := ⟨k' - 1, by omega⟩
    have hlt : i < (s.size : Int) := by omega
    have hb := bt_range s i
    simp only [spec_NameRight.l0, impl_NameRight.l0]
    rw [if_pos hlt, if_pos h0, if_pos hlt, if_pos h0, if_pos hlt, step64 h0 hlt hn, name_byte _ _ hb.1 hb.2 h0]
    obtain ⟨r, hr⟩ := name_byte_some (bt s i) (i == 0)
    rw [hr]
    cases r with
    | false => exact ⟨false, by simp, by simp⟩
    | true =>
      obtain ⟨b, e1, e2⟩ := ih k k' (i + 1) (by omega) (by omega) (by omega) (by omega) (by omega)
      exact ⟨b, by simpa using e1, by simpa using e2⟩
/-- Both name laws come to one answer. -/
theorem names_same (s : ByteArray) (hn : s.size ≤ 140737488351232) : ∃ b, (∀ k, s.size + 3 ≤ k → spec_NameRight.f k s = some b) ∧ (∀ k, s.size + 3 ≤ k → impl_NameRight.f k s = some b) := by
  obtain ⟨b, e1, e2⟩ := name_run_both s hn s.size (s.size + 1) (s.size + 1) 0 (by omega) (by omega) (by omega) (by omega) (by omega)
  refine ⟨b && decide (1 ≤ s.size ∧ s.size ≤ 20), fun k hk => ?_, fun k hk => ?_⟩
  · obtain ⟨k, rfl⟩ : ∃ m, k = m + 1 := ⟨k - 1, by omega⟩
    have e1' := at_rounds (g := fun k => spec_NameRight.l0 k s 0) (k' := k) (fun k => (spec_NameRight.mono_l k).2 s 0) (by omega) e1
    unfold spec_NameRight.f
    by_cases c1 : (s.size : Int) < 1
    · rw [if_pos c1]
      simp only [spec_NameRight.j0]
      simp; omega
    · rw [if_neg c1]
      by_cases c2 : (s.size : Int) > 20
      · simp only [spec_NameRight.j0, c2]
        simp; omega
      · simp only [spec_NameRight.j0, c2]
        rw [decide_eq_false (by simp), if_neg (by simp), e1']
        simp; omega
  · unfold impl_NameRight.f
    exact at_rounds (g := fun k => impl_NameRight.l0 k s (s.size : Int) 0) (fun k => impl_NameRight.mono_l k s (s.size : Int) 0) (by omega) e2

/-- The place behind the name's bytes that stand from a place on, `n` at the most. -/
def nend : Nat → ByteArray → Int → Int → Int
  | 0, _, _, i => i
  | n + 1, t, f, i => if i < (t.size : Int) ∧ spec_l01NameByte.f (bt t i) (i == f) = some true then nend n t f (i + 1) else i
def nameAt (t : ByteArray) (f : Int) : Int × Bool :=
  if nend 20 t f f < (t.size : Int) ∧ bt t (nend 20 t f f) = 59 ∧ nend 20 t f f ≠ f then (nend 20 t f f + 1, true) else (nend 20 t f f, false)
def oneAt (t : ByteArray) (a : Int) : Int × Bool :=
  if a < (t.size : Int) ∧ bt t a = 73 then (a + 1, true) else if a < (t.size : Int) ∧ bt t a = 76 then nameAt t (a + 1) else (a, false)
/-- A type that is read at a place: the place behind it, or the first that is wrong. -/
def tyAt (t : ByteArray) (a : Int) : Int × Bool := if a < (t.size : Int) ∧ bt t a = 91 then oneAt t (a + 1) else oneAt t a
theorem nend_ge (t : ByteArray) (f : Int) : ∀ (n : Nat) (i : Int), i ≤ (t.size : Int) → i ≤ nend n t f i ∧ nend n t f i ≤ (t.size : Int)
  | 0, i, h => ⟨Int.le_refl _, h⟩
  | n + 1, i, h => by
    unfold nend
    by_cases c : i < (t.size : Int) ∧ spec_l01NameByte.f (bt t i) (i == f) = some true
    · rw [if_pos c]
      have := nend_ge t f n (i + 1) (by omega)
      omega
    · rw [if_neg c]
      omega
theorem nameAt_ge (t : ByteArray) (f : Int) (h : f ≤ (t.size : Int)) : f ≤ (nameAt t f).1 ∧ (nameAt t f).1 ≤ (t.size : Int) := by
  have := nend_ge t f 20 f h
  unfold nameAt
  split
  · dsimp only; omega
  · dsimp only; omega
theorem oneAt_ge (t : ByteArray) (a : Int) (h : a ≤ (t.size : Int)) : a ≤ (oneAt t a).1 ∧ (oneAt t a).1 ≤ (t.size : Int) ∧ ((oneAt t a).2 = true → a < (oneAt t a).1) := by
  unfold oneAt
  split
  · dsimp only; omega
  · split
    · have := nameAt_ge t (a + 1) (by omega)
      exact ⟨by omega, this.2, fun _ => by omega⟩
    · simpa using h
theorem tyAt_ge (t : ByteArray) (a : Int) (h : a ≤ (t.size : Int)) : a ≤ (tyAt t a).1 ∧ (tyAt t a).1 ≤ (t.size : Int) ∧ ((tyAt t a).2 = true → a < (tyAt t a).1) := by
  unfold tyAt
  split
  · have := oneAt_ge t (a + 1) (by omega)
    exact ⟨by omega, this.2.1, fun _ => by omega⟩
  · exact oneAt_ge t a h
theorem spec_name_run (t : ByteArray) (hn : t.size ≤ 140737488351232) (f : Int) (hf : 0 ≤ f) : ∀ (n k : Nat) (i : Int), f ≤ i → i - f = 20 - (n : Int) → i ≤ (t.size : Int) → n < k →
    spec_l02Type.l0 k t f i = some (if nend n t f i < (t.size : Int) ∧ bt t (nend n t f i) = 59 ∧ nend n t f i ≠ f then (nend n t f i + 1, true) else (nend n t f i, false)) := by
  intro n
  induction n with
  | zero =>
    intro k i h0 h1 h2 hk
    obtain ⟨k, rfl⟩ : ∃ m, k = m + 1 := ⟨k - 1, by omega⟩
    have w1 : wrap64 (i - f) = i - f := by unfold wrap64; omega
    rw [show nend 0 t f i = i from rfl]
    simp only [spec_l02Type.l0, w1]
    by_cases c1 : i < (t.size : Int)
    · rw [if_pos c1, if_neg (by omega), if_neg (by omega), if_pos (by omega), step64 (by omega) c1 hn]
      by_cases c2 : bt t i = 59
      · by_cases c3 : i = f
        · rw [if_pos c2, if_pos c3, if_neg (by omega)]
        · rw [if_pos c2, if_neg c3, if_pos ⟨c1, c2, c3⟩]
      · rw [if_neg c2, if_neg (by omega)]
    · rw [if_neg c1, if_pos (by omega), if_neg (by omega)]
  | succ n ih =>
    intro k i h0 h1 h2 hk
    obtain ⟨k, rfl⟩ : ∃ m, k = m + 1 := ⟨k - 1, by omega⟩
    have w1 : wrap64 (i - f) = i - f := by unfold wrap64; omega
    obtain ⟨b, hb⟩ := name_byte_some (bt t i) (i == f)
    by_cases c1 : i < (t.size : Int)
    · simp only [spec_l02Type.l0, w1]
      rw [if_pos c1, if_pos (by omega), if_pos (by omega), hb, step64 (by omega) c1 hn]
      cases b with
      | true =>
        have e : nend (n + 1) t f i = nend n t f (i + 1) := by
          rw [nend, if_pos ⟨c1, hb⟩]
        rw [e]
        simpa using ih k (i + 1) (by omega) (by omega) (by omega) (by omega)
      | false =>
        have e : nend (n + 1) t f i = i := by
          rw [nend, hb]; simp
        rw [e]
        simp only [Option.bind_some]
        rw [if_neg (by simp), if_neg (by omega)]
        by_cases c2 : bt t i = 59
        · by_cases c3 : i = f
          · rw [if_pos c2, if_pos c3, if_neg (by omega)]
          · rw [if_pos c2, if_neg c3, if_pos ⟨c1, c2, c3⟩]
        · rw [if_neg c2, if_neg (by omega)]
    · have e : nend (n + 1) t f i = i := by
        rw [nend, if_neg (by omega)]
      rw [e]
      simp only [spec_l02Type.l0]
      rw [if_neg c1, if_pos (by omega), if_neg (by omega)]
theorem want_bad (t : ByteArray) (i : Int) (b : Int) : impl_reader_want.f t i true b = some (t, i, true) := by
  simp [impl_reader_want.f, impl_reader_take.f, impl_reader_is.f]
theorem take_bad (t : ByteArray) (i : Int) (b : Int) : impl_reader_take.f t i true b = some (false, t, i, true) := by
  simp [impl_reader_take.f, impl_reader_is.f]
theorem take_ok (t : ByteArray) (hn : t.size ≤ 140737488351232) (i b : Int) (h0 : 0 ≤ i) :
    impl_reader_take.f t i false b = some (if i < (t.size : Int) ∧ bt t i = b then (true, t, i + 1, false) else (false, t, i, false)) := by
  unfold impl_reader_take.f impl_reader_is.f
  simp only [impl_length.f, Option.bind_some]
  rw [if_neg (by simp)]
  by_cases c : i < (t.size : Int)
  · rw [if_pos c, if_pos h0, if_pos c]
    simp only [Option.bind_some]
    by_cases c2 : bt t i = b
    · rw [if_pos (by simpa using c2), if_pos ⟨c, c2⟩, step64 h0 c hn]
    · rw [if_neg (by simpa using c2), if_neg (fun h => c2 h.2)]
  · rw [if_neg c, if_neg (by omega)]
    rfl
theorem want_ok (t : ByteArray) (hn : t.size ≤ 140737488351232) (i b : Int) (h0 : 0 ≤ i) :
    impl_reader_want.f t i false b = some (if i < (t.size : Int) ∧ bt t i = b then (t, i + 1, false) else (t, i, true)) := by
  unfold impl_reader_want.f
  rw [take_ok t hn i b h0]
  by_cases c : i < (t.size : Int) ∧ bt t i = b
  · rw [if_pos c, if_pos c]; rfl
  · rw [if_neg c, if_neg c]; rfl
theorem name_run (t : ByteArray) (hn : t.size ≤ 140737488351232) (f : Int) (hf : 0 ≤ f) : ∀ (n k : Nat) (i : Int), f ≤ i → i - f = 20 - (n : Int) → i ≤ (t.size : Int) → n < k →
    impl_reader_name.l0 k f t i false = some (if nend n t f i < (t.size : Int) ∧ bt t (nend n t f i) = 59 ∧ nend n t f i ≠ f then (t, nend n t f i + 1, false) else (t, nend n t f i, true)) := by
  have w2 : f ≤ (t.size : Int) → wrap64 (f + 20) = f + 20 := fun _ => by unfold wrap64; omega
  intro n
  induction n with
  | zero =>
    intro k i h0 h1 h2 hk
    obtain ⟨k, rfl⟩ : ∃ m, k = m + 1 := ⟨k - 1, by omega⟩
    rw [show nend 0 t f i = i from rfl]
    simp only [impl_reader_name.l0, impl_length.f, Option.bind_some, w2 (by omega)]
    rw [if_neg (by simp)]
    by_cases c1 : i < (t.size : Int)
    · rw [if_pos c1, if_neg (by omega), if_neg (by omega), want_ok t hn i 59 (by omega)]
      by_cases c2 : bt t i = 59
      · rw [if_pos ⟨c1, c2⟩, if_pos ⟨c1, c2, by omega⟩]; rfl
      · rw [if_neg (fun h => c2 h.2), if_neg (fun h => c2 h.2.1)]; rfl
    · rw [if_neg c1, if_neg (by omega), want_ok t hn i 59 (by omega), if_neg (by omega), if_neg (by omega)]; rfl
  | succ n ih =>
    intro k i h0 h1 h2 hk
    obtain ⟨k, rfl⟩ : ∃ m, k = m + 1 := ⟨k - 1, by omega⟩
    have w1 : wrap64 (i - f) = i - f := by unfold wrap64; omega
    obtain ⟨b, hb⟩ := name_byte_some (bt t i) (i == f)
    have hr := bt_range t i
    have hbi := name_byte (bt t i) (i - f) hr.1 hr.2 (by omega)
    have e0 : (i - f == 0) = (i == f) := by
      by_cases c : i = f
      · subst c; simp
      · rw [beq_eq_false_iff_ne.mpr c, beq_eq_false_iff_ne.mpr (by omega)]
    rw [e0, hb] at hbi
    by_cases c1 : i < (t.size : Int)
    · simp only [impl_reader_name.l0, impl_length.f, Option.bind_some, w2 (by omega), w1]
      rw [if_neg (by simp), if_pos c1, if_pos (by omega), if_pos (by omega), if_pos c1, hbi, step64 (by omega) c1 hn]
      cases b with
      | true =>
        have e : nend (n + 1) t f i = nend n t f (i + 1) := by
          rw [nend, if_pos ⟨c1, hb⟩]
        rw [e]
        simpa using ih k (i + 1) (by omega) (by omega) (by omega) (by omega)
      | false =>
        have e : nend (n + 1) t f i = i := by
          rw [nend, hb]; simp
        rw [e]
        simp only [Option.bind_some]
        rw [if_neg (by simp)]
        by_cases c3 : i = f
        · rw [if_pos c3, want_bad, if_neg (by omega)]; rfl
        · rw [if_neg c3, want_ok t hn i 59 (by omega)]
          by_cases c2 : bt t i = 59
          · rw [if_pos ⟨c1, c2⟩, if_pos ⟨c1, c2, c3⟩]; rfl
          · rw [if_neg (fun h => c2 h.2), if_neg (fun h => c2 h.2.1)]; rfl
    · have e : nend (n + 1) t f i = i := by
        rw [nend, if_neg (by omega)]
      rw [e]
      simp only [impl_reader_name.l0, impl_length.f, Option.bind_some]
      rw [if_neg (by simp), if_neg c1]
      by_cases c3 : i = f
      · rw [if_pos c3, want_bad, if_neg (by omega)]; rfl
      · rw [if_neg c3, want_ok t hn i 59 (by omega), if_neg (by omega), if_neg (by omega)]; rfl
theorem spec_type_one (t : ByteArray) (hn : t.size ≤ 140737488351232) (k : Nat) (hk : 21 < k) (a : Int) (h0 : 0 ≤ a) (h1 : a < (t.size : Int)) (h2 : bt t a ≠ 73) :
    spec_l02Type.j0 k t a false = some (oneAt t a) := by
  obtain ⟨k, rfl⟩ : ∃ m, k = m + 1 := ⟨k - 1, by omega⟩
  simp only [spec_l02Type.j0]
  rw [if_neg (by simp), if_pos h0, if_pos h1, step64 h0 h1 hn]
  have e : oneAt t a = if a < (t.size : Int) ∧ bt t a = 76 then nameAt t (a + 1) else (a, false) := by
    unfold oneAt
    exact if_neg (fun h => h2 h.2)
  rw [e]
  by_cases c : bt t a = 76
  · rw [if_pos c, if_pos ⟨h1, c⟩]
    exact spec_name_run t hn (a + 1) (by omega) 20 k (a + 1) (by omega) (by omega) (by omega) (by omega)
  · rw [if_neg c, if_neg (fun h => c h.2)]
theorem spec_type_list (t : ByteArray) (hn : t.size ≤ 140737488351232) (k : Nat) (hk : 22 < k) (a : Int) (h0 : 0 ≤ a) (h1 : a ≤ (t.size : Int)) :
    spec_l02Type.f k t a true = some (oneAt t a) := by
  obtain ⟨k, rfl⟩ : ∃ m, k = m + 1 := ⟨k - 1, by omega⟩
  simp only [spec_l02Type.f]
  by_cases c : a < (t.size : Int)
  · rw [if_neg (by omega), if_pos h0, if_pos c, step64 h0 c hn]
    by_cases c2 : bt t a = 73
    · rw [if_pos c2]; unfold oneAt; rw [if_pos ⟨c, c2⟩]
    · rw [if_neg c2]
      have e := spec_type_one t hn k (by omega) a h0 c c2
      by_cases c3 : bt t a = 91
      · rw [if_pos c3]; exact e
      · rw [if_neg c3]; exact e
  · rw [if_pos (by omega)]; unfold oneAt; rw [if_neg (by omega), if_neg (by omega)]
theorem spec_type (t : ByteArray) (hn : t.size ≤ 140737488351232) (k : Nat) (hk : 24 < k) (a : Int) (h0 : 0 ≤ a) (h1 : a ≤ (t.size : Int)) :
    spec_l02Type.f k t a false = some (tyAt t a) := by
  obtain ⟨k, rfl⟩ : ∃ m, k = m + 1 := ⟨k - 1, by omega⟩
  simp only [spec_l02Type.f]
  unfold tyAt
  by_cases c : a < (t.size : Int)
  · rw [if_neg (by omega), if_pos h0, if_pos c, step64 h0 c hn]
    by_cases c2 : bt t a = 73
    · rw [if_pos c2, if_neg (by omega)]; unfold oneAt; rw [if_pos ⟨c, c2⟩]
    · rw [if_neg c2]
      by_cases c3 : bt t a = 91
      · rw [if_pos c3, if_pos ⟨c, c3⟩]
        obtain ⟨k, rfl⟩ : ∃ m, k = m + 1 := ⟨k - 1, by omega⟩
        simp only [spec_l02Type.j0]
        rw [if_pos (by simp), step64 h0 c hn, spec_type_list t hn k (by omega) (a + 1) (by omega) (by omega)]
        rfl
      · rw [if_neg c3, if_neg (fun h => c3 h.2)]
        exact spec_type_one t hn k (by omega) a h0 c c2
  · rw [if_pos (by omega), if_neg (by omega)]; unfold oneAt; rw [if_neg (by omega), if_neg (by omega)]
/-- The reader's kind behind its '['. -/
theorem kind_tail (t : ByteArray) (hn : t.size ≤ 140737488351232) (k : Nat) (hk : 21 < k) (s a : Int) (hs : 0 ≤ s) (hsa : s ≤ a) (h1 : a ≤ (t.size : Int)) :
    ((impl_reader_take.f t a false 73).bind fun (x : Bool × ByteArray × Int × Bool) => (if x.1 = true then (if x.2.2.2 = true then (some ((⟨#[]⟩ : ByteArray), x.2.1, x.2.2.1, x.2.2.2)) else (if 0 ≤ s then (if s ≤ x.2.2.1 then (if x.2.2.1 ≤ (x.2.1.size : Int) then (some (x.2.1.extract (s : Int).toNat (x.2.2.1 : Int).toNat, x.2.1, x.2.2.1, x.2.2.2)) else (none)) else (none)) else (none))) else ((impl_reader_take.f x.2.1 x.2.2.1 x.2.2.2 76).bind fun y => (if y.1 = true then ((impl_reader_name.f k y.2.1 y.2.2.1 y.2.2.2).bind fun z => (if z.2.2 = true then (some ((⟨#[]⟩ : ByteArray), z.1, z.2.1, z.2.2)) else (if 0 ≤ s then (if s ≤ z.2.1 then (if z.2.1 ≤ (z.1.size : Int) then (some (z.1.extract (s : Int).toNat (z.2.1 : Int).toNat, z.1, z.2.1, z.2.2)) else (none)) else (none)) else (none)))) else (some ((⟨#[]⟩ : ByteArray), y.2.1, y.2.2.1, true))))))
      = some ((if (oneAt t a).2 = true then t.extract s.toNat (oneAt t a).1.toNat else ⟨#[]⟩), t, (oneAt t a).1, !(oneAt t a).2) := by
  have h0 : 0 ≤ a := by omega
  rw [take_ok t hn a 73 h0]
  by_cases c1 : a < (t.size : Int) ∧ bt t a = 73
  · have e : oneAt t a = (a + 1, true) := by unfold oneAt; rw [if_pos c1]
    rw [if_pos c1, e]
    simp only [Option.bind_some]
    rw [if_pos trivial, if_neg (by simp), if_pos hs, if_pos (by omega), if_pos (by omega)]
    rfl
  · rw [if_neg c1]
    simp only [Option.bind_some]
    rw [if_neg (by simp), take_ok t hn a 76 h0]
    by_cases c2 : a < (t.size : Int) ∧ bt t a = 76
    · have e : oneAt t a = nameAt t (a + 1) := by unfold oneAt; rw [if_neg c1, if_pos c2]
      rw [if_pos c2, e]
      simp only [Option.bind_some]
      have hg := nend_ge t (a + 1) 20 (a + 1) (by omega)
      rw [if_pos trivial, impl_reader_name.f, name_run t hn (a + 1) (by omega) 20 k (a + 1) (by omega) (by omega) (by omega) (by omega)]
      unfold nameAt
      by_cases c3 : nend 20 t (a + 1) (a + 1) < (t.size : Int) ∧ bt t (nend 20 t (a + 1) (a + 1)) = 59 ∧ nend 20 t (a + 1) (a + 1) ≠ a + 1
      · rw [if_pos c3, if_pos c3]
        simp only [Option.bind_some]
        rw [if_neg (by simp), if_pos hs, if_pos (by omega), if_pos (by omega)]
        rfl
      · rw [if_neg c3, if_neg c3]
        rfl
    · have e : oneAt t a = (a, false) := by unfold oneAt; rw [if_neg c1, if_neg c2]
      rw [if_neg c2, e]
      rfl
theorem impl_kind (t : ByteArray) (hn : t.size ≤ 140737488351232) (k : Nat) (hk : 21 < k) (a : Int) (h0 : 0 ≤ a) (h1 : a ≤ (t.size : Int)) :
    impl_reader_kind.f k t a false = some ((if (tyAt t a).2 = true then t.extract a.toNat (tyAt t a).1.toNat else ⟨#[]⟩), t, (tyAt t a).1, !(tyAt t a).2) := by
  unfold impl_reader_kind.f
  rw [take_ok t hn a 91 h0]
  unfold tyAt
  by_cases c : a < (t.size : Int) ∧ bt t a = 91
  · rw [if_pos c, if_pos c]
    exact kind_tail t hn k hk a (a + 1) h0 (by omega) (by omega)
  · rw [if_neg c, if_neg c]
    exact kind_tail t hn k hk a a h0 (by omega) (by omega)

theorem bt_ext (s t : ByteArray) (h : s.size = t.size) (hb : ∀ i : Nat, i < s.size → bt s i = bt t i) : s = t := by
  apply ByteArray.ext
  apply Array.ext
  · exact h
  · intro i h1 h2
    have e := hb i h1
    have a := bt_at s i (by simpa using h1)
    have b := bt_at t i (by simpa using h2)
    rw [← a, ← b] at e
    exact UInt8.toNat_inj.mp (by exact_mod_cast e)
theorem str_one (s : ByteArray) (c : UInt8) : s.toList = [c] ↔ s.size = 1 ∧ bt s 0 = (c.toNat : Int) := by
  constructor
  · intro h
    have e : s = ⟨#[c]⟩ := WideShapes.bytes_inj (by rw [← Lib.toList_data]; exact h)
    subst e
    exact ⟨rfl, rfl⟩
  · intro h
    have e : s = ⟨#[c]⟩ := by
      refine bt_ext _ _ h.1 (fun i hi => ?_)
      obtain rfl : i = 0 := by omega
      exact h.2
    subst e
    rw [Lib.toList_data]
theorem one_shape (s : ByteArray) (a : Int) (h : oneAt s a = ((s.size : Int), true)) :
    (a + 1 = (s.size : Int) ∧ bt s a = 73) ∨ (a + 3 ≤ (s.size : Int) ∧ bt s a = 76) := by
  unfold oneAt at h
  split at h
  · rename_i c
    have := (Prod.mk.inj h).1
    exact .inl ⟨this, c.2⟩
  · split at h
    · rename_i c
      have hg := nend_ge s (a + 1) 20 (a + 1) (by omega)
      unfold nameAt at h
      split at h
      · rename_i c2
        have := (Prod.mk.inj h).1
        exact .inr ⟨by omega, c.2⟩
      · exact absurd (Prod.mk.inj h).2 (by simp)
    · exact absurd (Prod.mk.inj h).2 (by simp)
/-- What a right type looks like. -/
theorem right_shape (s : ByteArray) (h : tyAt s 0 = ((s.size : Int), true)) :
    (s.size = 1 ∧ bt s 0 = 73) ∨ (3 ≤ s.size ∧ bt s 0 = 76) ∨ (s.size = 2 ∧ bt s 0 = 91 ∧ bt s 1 = 73) ∨ (4 ≤ s.size ∧ bt s 0 = 91 ∧ bt s 1 = 76) := by
  unfold tyAt at h
  split at h
  · rename_i c
    rcases one_shape s _ h with h | h
    · exact .inr (.inr (.inl ⟨by omega, c.2, h.2⟩))
    · exact .inr (.inr (.inr ⟨by omega, c.2, h.2⟩))
  · rcases one_shape s _ h with h | h
    · exact .inl ⟨by omega, h.2⟩
    · exact .inr (.inl ⟨by omega, h.2⟩)
def tright (s : ByteArray) : Bool := (tyAt s 0).2 && (tyAt s 0).1 == (s.size : Int)
theorem tright_eq (s : ByteArray) (h : tright s = true) : tyAt s 0 = ((s.size : Int), true) := by
  unfold tright at h
  rw [Bool.and_eq_true, beq_iff_eq] at h
  exact Prod.ext h.2 h.1
theorem spec_right (s : ByteArray) (hn : s.size ≤ 20000) (k : Nat) (hk : 24 < k) : spec_TypeRight.f k s = some (tright s) := by
  unfold spec_TypeRight.f tright
  rw [if_neg (by omega), spec_type s (by omega) k hk 0 (by omega) (by omega)]
  simp only [Option.bind_some]
  cases (tyAt s 0).2 <;> simp
theorem impl_right (s : ByteArray) (hn : s.size ≤ 140737488351232) (k : Nat) (hk : 24 < k) : impl_typeRight.f k s = some (tright s) := by
  unfold impl_typeRight.f tright
  rw [impl_kind s hn k (by omega) 0 (by omega) (by omega)]
  simp only [Option.bind_some, impl_length.f]
  cases (tyAt s 0).2 <;> simp

theorem nend_le (t : ByteArray) (f : Int) : ∀ (n : Nat) (i : Int), nend n t f i ≤ i + n
  | 0, i => by unfold nend; omega
  | n + 1, i => by
    unfold nend
    split
    · have := nend_le t f n (i + 1)
      omega
    · omega
theorem one_le (t : ByteArray) (a : Int) : (oneAt t a).1 ≤ a + 22 := by
  have := nend_le t (a + 1) 20 (a + 1)
  unfold oneAt nameAt
  repeat' split
  all_goals (dsimp only; omega)
theorem tright_le (s : ByteArray) (h : tright s = true) : s.size ≤ 23 := by
  have e := tright_eq s h
  unfold tyAt at e
  split at e
  · have := one_le s (0 + 1)
    rw [e] at this
    dsimp only at this
    omega
  · have := one_le s 0
    rw [e] at this
    dsimp only at this
    omega
theorem spec_right_all (s : ByteArray) (k : Nat) (hk : 24 < k) : spec_TypeRight.f k s = some (tright s) := by
  by_cases c : s.size ≤ 20000
  · exact spec_right s c k hk
  · have e : tright s = false := by
      cases h : tright s with
      | false => rfl
      | true => have := tright_le s h; omega
    rw [e]
    unfold spec_TypeRight.f
    rw [if_pos (by omega)]

theorem tright_one (s : ByteArray) (h : s.size = 1 ∧ bt s 0 = 73) : tright s = true := by
  have e1 : oneAt s 0 = (1, true) := by unfold oneAt; rw [if_pos ⟨by omega, h.2⟩]; rfl
  unfold tright tyAt
  rw [if_neg (by omega), e1, h.1]
  rfl
theorem is_text (s : ByteArray) : impl_isText.f 2 [s] = some (decide (s.size ≤ 20000)) := by
  by_cases h : s.size ≤ 20000
  · simp [impl_isText.f, impl_isText.l0, rdOf, wrap64, h]
    omega
  · simp [impl_isText.f, impl_isText.l0, rdOf, wrap64, h]
    omega
theorem is_text_at (s : ByteArray) (k : Nat) (hk : 2 ≤ k) : impl_isText.f k [s] = some (decide (s.size ≤ 20000)) := by
  obtain ⟨d, rfl⟩ : ∃ d, k = 2 + d := ⟨k - 2, by omega⟩
  induction d with
  | zero => exact is_text s
  | succ d ih => exact impl_isText.mono [s] (2 + d) _ (ih (by omega))

abbrev DescR := List ByteArray × ByteArray × Int × Int
def dwrong (a : Int) : DescR := (([] : List ByteArray), (⟨#[]⟩ : ByteArray), a, 3)
/-- What is read behind the ')'. -/
def descTail (s : ByteArray) (a : Int) (ps : List ByteArray) : DescR :=
  if a < (s.size : Int) ∧ bt s a = 86 then (if a + 1 < (s.size : Int) then dwrong (a + 1) else (ps, (⟨#[86]⟩ : ByteArray), 0, 0))
  else if (tyAt s a).2 = true then (if (tyAt s a).1 < (s.size : Int) then dwrong (tyAt s a).1 else (ps, s.extract a.toNat (tyAt s a).1.toNat, 0, 0)) else dwrong (tyAt s a).1
def descLoop : Nat → ByteArray → Int → List ByteArray → DescR
  | 0, _, a, _ => dwrong a
  | n + 1, s, a, ps => if a < (s.size : Int) then
      (if bt s a = 41 then descTail s (a + 1) ps else if ps.length = 8 then dwrong a else
        if (tyAt s a).2 = true then descLoop n s (tyAt s a).1 (ps ++ [s.extract a.toNat (tyAt s a).1.toNat]) else dwrong (tyAt s a).1)
    else dwrong a
def descOf (s : ByteArray) : DescR := if 0 < (s.size : Int) ∧ bt s 0 = 40 then descLoop 9 s 1 [] else dwrong 0
theorem descLoop_le : ∀ (n : Nat) (s : ByteArray) (a : Int) (ps : List ByteArray), ps.length ≤ 8 → (descLoop n s a ps).1.length ≤ 8
  | 0, s, a, ps, h => by simp [descLoop, dwrong]
  | n + 1, s, a, ps, h => by
    unfold descLoop
    split
    · split
      · unfold descTail
        repeat' split
        all_goals first | exact h | exact Nat.zero_le _
      · split
        · exact Nat.zero_le _
        · split
          · exact descLoop_le n s _ _ (by simp; omega)
          · exact Nat.zero_le _
    · exact Nat.zero_le _
theorem descOf_le (s : ByteArray) : (descOf s).1.length ≤ 8 := by
  unfold descOf
  split
  · exact descLoop_le _ _ _ _ (by simp)
  · exact Nat.zero_le _
theorem spec_desc_tail (s : ByteArray) (hn : s.size ≤ 140737488351232) (k : Nat) (hk : 25 < k) (a : Int) (h0 : 0 ≤ a) (h1 : a ≤ (s.size : Int)) (ps : List ByteArray) (b : Bool) (hb : b = decide (a < (s.size : Int) ∧ bt s a = 86)) :
    spec_DescRead.j3 k s a b ps ⟨#[]⟩ = some (descTail s a ps) := by
  obtain ⟨k, rfl⟩ : ∃ m, k = m + 1 := ⟨k - 1, by omega⟩
  have hg := tyAt_ge s a h1
  simp only [spec_DescRead.j3, spec_l02Wrong.f, Option.bind_some]
  unfold descTail
  by_cases c : a < (s.size : Int) ∧ bt s a = 86
  · rw [hb, decide_eq_true c, if_pos c, if_pos rfl, step64 h0 c.1 hn]
    by_cases c2 : a + 1 < (s.size : Int)
    · rw [if_pos c2, if_pos c2]; rfl
    · rw [if_neg c2, if_neg c2]
  · rw [hb, decide_eq_false c, if_neg c, if_neg (by simp), spec_type s hn k (by omega) a h0 h1]
    simp only [Option.bind_some]
    by_cases c2 : (tyAt s a).2 = true
    · rw [if_pos c2, if_pos c2, if_pos h0, if_pos hg.1, if_pos hg.2.1]
      by_cases c3 : (tyAt s a).1 < (s.size : Int)
      · rw [if_pos c3, if_pos c3]; rfl
      · rw [if_neg c3, if_neg c3]
    · rw [if_neg c2, if_neg c2]; rfl
theorem spec_desc_loop (s : ByteArray) (hn : s.size ≤ 140737488351232) : ∀ (n k : Nat) (a : Int) (ps : List ByteArray), 0 ≤ a → a ≤ (s.size : Int) → ps.length + n = 9 → 1 ≤ n → 30 + 2 * n ≤ k →
    spec_DescRead.l0 k s a ps ⟨#[]⟩ = some (descLoop n s a ps)
  | 0, k, a, ps, h0, h1, hp, h2, hk => by omega
  | n + 1, k, a, ps, h0, h1, hp, h2, hk => by
    obtain ⟨k, rfl⟩ : ∃ m, k = m + 2 := ⟨k - 2, by omega⟩
    have hg := tyAt_ge s a h1
    unfold descLoop
    simp only [spec_DescRead.l0]
    by_cases c : a < (s.size : Int)
    · rw [if_pos c, if_pos c, if_pos h0]
      simp only [spec_DescRead.j2, spec_l02Wrong.f, Option.bind_some]
      by_cases c2 : bt s a = 41
      · have e : (bt s a != 41) = false := bne_eq_false_iff_eq.mpr c2
        rw [if_pos c2, e, if_neg (by simp), if_neg (by omega), step64 h0 c hn]
        by_cases c3 : a + 1 < (s.size : Int)
        · rw [if_pos c3, if_pos (by omega)]
          exact spec_desc_tail s hn k (by omega) (a + 1) (by omega) (by omega) ps _ (by
            by_cases c4 : bt s (a + 1) = 86
            · rw [decide_eq_true ⟨c3, c4⟩]; simpa using c4
            · rw [decide_eq_false (fun h => c4 h.2)]; simpa using c4)
        · rw [if_neg c3]
          exact spec_desc_tail s hn k (by omega) (a + 1) (by omega) (by omega) ps _ (by rw [decide_eq_false (fun h => c3 h.1)])
      · have e : (bt s a != 41) = true := bne_iff_ne.mpr c2
        rw [if_neg c2, e, if_pos rfl]
        by_cases c3 : ps.length = 8
        · rw [if_pos (by omega), if_pos c3]; rfl
        · rw [if_neg (by omega), if_neg c3, spec_type s hn k (by omega) a h0 h1]
          simp only [Option.bind_some]
          by_cases c4 : (tyAt s a).2 = true
          · rw [if_pos c4, if_pos c4, if_pos h0, if_pos hg.1, if_pos hg.2.1, if_pos (by omega)]
            exact spec_desc_loop s hn n k _ _ (by omega) hg.2.1 (by simp; omega) (by omega) (by omega)
          · rw [if_neg c4, if_neg c4]; rfl
    · rw [if_neg c, if_neg c]
      simp only [spec_DescRead.j2, spec_l02Wrong.f, Option.bind_some]
      rw [if_neg (by simp), if_pos (by omega)]; rfl
theorem impl_desc_bad (s : ByteArray) (k : Nat) (hk : 0 < k) (a : Int) (ps : List ByteArray) : impl_descRead.j2 k s s a true ps ⟨#[]⟩ = some (dwrong a) := by
  obtain ⟨k, rfl⟩ : ∃ m, k = m + 1 := ⟨k - 1, by omega⟩
  simp only [impl_descRead.j2, take_bad, Option.bind_some]
  rfl
theorem impl_desc_tail (s : ByteArray) (hn : s.size ≤ 140737488351232) (k : Nat) (hk : 25 < k) (a : Int) (h0 : 0 ≤ a) (h1 : a ≤ (s.size : Int)) (ps : List ByteArray) :
    impl_descRead.j2 k s s a false ps ⟨#[]⟩ = some (descTail s a ps) := by
  obtain ⟨k, rfl⟩ : ∃ m, k = m + 1 := ⟨k - 1, by omega⟩
  have hg := tyAt_ge s a h1
  simp only [impl_descRead.j2, take_ok s hn a 86 h0, Option.bind_some, impl_length.f]
  unfold descTail
  by_cases c : a < (s.size : Int) ∧ bt s a = 86
  · rw [if_pos c, if_pos c]
    simp only [if_pos trivial]
    by_cases c2 : a + 1 < (s.size : Int)
    · rw [if_pos c2, if_pos c2, if_neg (by simp)]; rfl
    · rw [if_neg c2, if_neg c2, if_neg (by simp)]
  · rw [if_neg c, if_neg c]
    rw [if_neg (by simp), if_neg (by simp)]
    dsimp only
    rw [impl_kind s hn k (by omega) a h0 h1]
    simp only [Option.bind_some]
    by_cases c2 : (tyAt s a).2 = true
    · rw [if_pos c2, c2]
      simp only [if_pos trivial]
      rw [if_neg (by simp)]
      by_cases c3 : (tyAt s a).1 < (s.size : Int)
      · rw [if_pos c3, if_pos c3]; rfl
      · rw [if_neg c3, if_neg c3]
    · have c2' : (tyAt s a).2 = false := by simpa using c2
      rw [if_neg c2, c2']
      rfl
theorem impl_desc_loop (s : ByteArray) (hn : s.size ≤ 140737488351232) : ∀ (n k : Nat) (a : Int) (ps : List ByteArray), 0 ≤ a → a ≤ (s.size : Int) → ps.length + n = 9 → 1 ≤ n → 30 + 2 * n ≤ k →
    impl_descRead.l0 k s s a false ps ⟨#[]⟩ = some (descLoop n s a ps)
  | 0, k, a, ps, h0, h1, hp, h2, hk => by omega
  | n + 1, k, a, ps, h0, h1, hp, h2, hk => by
    obtain ⟨k, rfl⟩ : ∃ m, k = m + 2 := ⟨k - 2, by omega⟩
    have hg := tyAt_ge s a h1
    have hbad : ∀ (i : Int) (qs : List ByteArray), impl_descRead.l0 k s s i true qs ⟨#[]⟩ = some (dwrong i) := fun i qs => by
      obtain ⟨k, rfl⟩ : ∃ m, k = m + 2 := ⟨k - 2, by omega⟩
      simp only [impl_descRead.l0]
      rw [if_pos trivial]
      simp only [impl_descRead.j1]
      rw [if_neg (by simp)]
      exact impl_desc_bad s k (by omega) i qs
    unfold descLoop
    simp only [impl_descRead.l0]
    rw [if_neg (by simp), take_ok s hn a 41 h0]
    simp only [Option.bind_some]
    by_cases c : a < (s.size : Int)
    · rw [if_pos c]
      by_cases c2 : bt s a = 41
      · rw [if_pos ⟨c, c2⟩, if_pos c2]
        simp only [impl_descRead.j1]
        rw [if_neg (by simp)]
        exact impl_desc_tail s hn k (by omega) (a + 1) (by omega) (by omega) ps
      · rw [if_neg (fun h => c2 h.2), if_neg c2]
        simp only [impl_descRead.j1]
        rw [if_pos (by simp)]
        by_cases c3 : ps.length = 8
        · rw [if_pos (by omega), if_pos c3]
          exact impl_desc_bad s k (by omega) a ps
        · rw [if_neg (by omega), if_neg c3, impl_kind s hn k (by omega) a h0 h1]
          simp only [Option.bind_some]
          rw [if_pos (by omega)]
          by_cases c4 : (tyAt s a).2 = true
          · rw [if_pos c4, if_pos c4, c4]
            exact impl_desc_loop s hn n k _ _ (by omega) hg.2.1 (by simp; omega) (by omega) (by omega)
          · have c4' : (tyAt s a).2 = false := by simpa using c4
            rw [if_neg c4, if_neg c4, c4']
            exact hbad _ _
    · rw [if_neg c, if_neg (fun h => c h.1)]
      simp only [impl_descRead.j1]
      rw [if_pos (by simp)]
      by_cases c3 : ps.length = 8
      · rw [if_pos (by omega)]
        exact impl_desc_bad s k (by omega) a ps
      · rw [if_neg (by omega), impl_kind s hn k (by omega) a h0 h1]
        simp only [Option.bind_some]
        rw [if_pos (by omega)]
        have e : tyAt s a = (a, false) := by
          unfold tyAt oneAt
          rw [if_neg (fun h => c h.1), if_neg (fun h => c h.1), if_neg (fun h => c h.1)]
        rw [e]
        exact hbad _ _
theorem spec_desc (s : ByteArray) (hn : s.size ≤ 20000) (k : Nat) (hk : 60 ≤ k) : spec_DescRead.f k s = some (descOf s) := by
  obtain ⟨k, rfl⟩ : ∃ m, k = m + 1 := ⟨k - 1, by omega⟩
  unfold spec_DescRead.f descOf
  rw [if_neg (by omega)]
  by_cases c : (s.size : Int) = 0
  · rw [if_pos c, if_neg (by omega)]
    simp only [spec_DescRead.j0, spec_l02Wrong.f, Option.bind_some]
    rw [if_pos trivial]; rfl
  · rw [if_neg c, if_pos (by omega)]
    simp only [spec_DescRead.j0, spec_l02Wrong.f, Option.bind_some]
    by_cases c2 : bt s 0 = 40
    · rw [bne_eq_false_iff_eq.mpr c2, if_neg (by simp), if_pos ⟨by omega, c2⟩]
      exact spec_desc_loop s (by omega) 9 k 1 [] (by omega) (by omega) (by simp) (by omega) (by omega)
    · rw [bne_iff_ne.mpr c2, if_pos rfl, if_neg (fun h => c2 h.2)]; rfl
theorem impl_desc (s : ByteArray) (hn : s.size ≤ 140737488351232) (k : Nat) (hk : 60 ≤ k) : impl_descRead.f k s = some (descOf s) := by
  unfold impl_descRead.f descOf
  rw [want_ok s hn 0 40 (by omega)]
  simp only [Option.bind_some]
  by_cases c : (0 : Int) < (s.size : Int) ∧ bt s 0 = 40
  · rw [if_pos c, if_pos c]
    exact impl_desc_loop s hn 9 k 1 [] (by omega) (by omega) (by simp) (by omega) (by omega)
  · rw [if_neg c, if_neg c]
    obtain ⟨k, rfl⟩ : ∃ m, k = m + 2 := ⟨k - 2, by omega⟩
    simp only [impl_descRead.l0]
    rw [if_pos trivial]
    simp only [impl_descRead.j1]
    rw [if_neg (by simp)]
    exact impl_desc_bad s k (by omega) 0 []
/-- What DescRead returns: 'too long' where it is. -/
def descGot (s : ByteArray) : DescR := if s.size ≤ 20000 then descOf s else (([] : List ByteArray), (⟨#[]⟩ : ByteArray), 0, 2)
theorem descGot_le (s : ByteArray) : (descGot s).1.length ≤ 8 := by
  unfold descGot
  split
  · exact descOf_le s
  · exact Nat.zero_le _
theorem spec_Desc (s : ByteArray) (k : Nat) (hk : 60 ≤ k) : spec_DescRead.f k s = some (descGot s) := by
  unfold descGot
  by_cases c : s.size ≤ 20000
  · rw [if_pos c]; exact spec_desc s c k hk
  · rw [if_neg c]
    unfold spec_DescRead.f
    rw [if_pos (by omega)]

def bareB (c n d : ByteArray) : Bool := decide (c.toList = []) && (decide (n.toList = []) && decide (d.toList = []))
theorem ins_bare (k : Nat) (o a : Int) (c n d : ByteArray) : impl_InsRight.f k o a c n d = impl_InsRight.j0 k (bareB c n d) o a c n d := by
  unfold impl_InsRight.f bareB
  by_cases h1 : c.toList = []
  · rw [if_pos h1, decide_eq_true h1]
    by_cases h2 : n.toList = []
    · rw [if_pos h2, decide_eq_true h2]
      have e : (d.toList == ([] : List UInt8)) = decide (d.toList = []) := by
        rw [Bool.eq_iff_iff, beq_iff_eq, decide_eq_true_eq]
      rw [e]; rfl
    · rw [if_neg h2, decide_eq_false h2]; rfl
  · rw [if_neg h1, decide_eq_false h1]; rfl
theorem spec_bare (o a : Int) (c n d : ByteArray) : spec_l03Empty.f o a c n d = some (bareB c n d) := by
  unfold spec_l03Empty.f bareB
  by_cases h1 : c.toList = []
  · rw [if_pos h1, decide_eq_true h1]
    by_cases h2 : n.toList = []
    · rw [if_pos h2, decide_eq_true h2]
      have e : (d.toList == ([] : List UInt8)) = decide (d.toList = []) := by
        rw [Bool.eq_iff_iff, beq_iff_eq, decide_eq_true_eq]
      rw [e]; rfl
    · rw [if_neg h2, decide_eq_false h2]; rfl
  · rw [if_neg h1, decide_eq_false h1]; rfl
theorem is_desc (s : ByteArray) (k : Nat) (hk : 60 ≤ k) : impl_isDesc.f k s = some ((descGot s).2.2.2 == 0) := by
  unfold impl_isDesc.f descGot
  rw [is_text_at s k (by omega)]
  by_cases c : s.size ≤ 20000
  · rw [decide_eq_true c, if_pos c]
    simp only [Option.bind_some]
    rw [if_pos trivial, impl_desc s (by omega) k hk]
    rfl
  · rw [decide_eq_false c, if_neg c]
    rfl
/-- Both laws on instructions come to one answer. -/
theorem ins_same (o a : Int) (c n d : ByteArray) (hc : c.size ≤ 1048576) (hn : n.size ≤ 1048576) (hd : d.size ≤ 1048576) :
    ∃ r, (∀ k, 1048600 ≤ k → spec_InsRight.f k o a c n d = some r) ∧ (∀ k, 1048600 ≤ k → impl_InsRight.f k o a c n d = some r) := by
  obtain ⟨F, hF1, hF2⟩ := op_form o
  obtain ⟨b1, s1, i1⟩ := names_same c (by omega)
  obtain ⟨b2, s2, i2⟩ := names_same n (by omega)
  have key : ∀ k, 1048599 ≤ k → ∃ r, spec_InsRight.f (k + 1) o a c n d = some r ∧ impl_InsRight.f (k + 1) o a c n d = some r := by
    intro k hk
    rw [ins_bare]
    unfold spec_InsRight.f
    simp only [impl_InsRight.j0, hF1, hF2 (k + 1) (by omega), Option.bind_some, spec_bare, s1 (k + 1) (by omega), s2 (k + 1) (by omega), i1 k (by omega), i2 k (by omega), spec_right_all d (k + 1) (by omega), impl_right d (by omega) k (by omega), spec_Desc d (k + 1) (by omega), is_desc d k (by omega), impl_isInt.f, impl_within.f, spec_l01Int.f, impl_isMethodName.f]
    generalize bareB c n d = B
    by_cases f0 : F.toList = []
    · rw [if_pos f0, if_pos f0]
      cases B <;> by_cases ha : a = 0 <;> simp [ha]
    rw [if_neg f0, if_neg f0]
    by_cases f1 : F.toList = [110]
    · rw [if_pos f1, if_pos f1]
      cases B <;> by_cases h1 : a ≥ -2147483648 <;> by_cases h2 : a ≤ 2147483647 <;> simp [h1, h2]
    rw [if_neg f1, if_neg f1]
    by_cases f2 : F.toList = [105]
    · rw [if_pos f2, if_pos f2]
      cases B <;> by_cases h1 : a ≥ 0 <;> by_cases h2 : a < 16 <;> simp [h1, h2] <;> omega
    rw [if_neg f2, if_neg f2]
    by_cases f3 : F.toList = [116]
    · rw [if_pos f3, if_pos f3]
      cases B <;> by_cases h1 : a ≥ 0 <;> by_cases h2 : a < 60 <;> simp [h1, h2] <;> omega
    rw [if_neg f3, if_neg f3]
    by_cases f4 : F.toList = [99]
    · rw [if_pos f4, if_pos f4]
      by_cases ha : a = 0 <;> by_cases h2 : n.toList = [] <;> cases b1 <;> simp [ha, h2]
    rw [if_neg f4, if_neg f4]
    by_cases f5 : F.toList = [121]
    · rw [if_pos f5, if_pos f5]
      by_cases ha : a = 0
      · rw [if_pos ha, if_pos ha]
        by_cases h1 : c.toList = []
        · rw [if_pos h1, if_pos h1]
          by_cases h2 : n.toList = []
          · rw [if_pos h2, if_pos h2]
            by_cases ht : tright d = true
            · have hs := right_shape d (tright_eq d ht)
              rw [ht, if_pos rfl, if_pos (by omega)]
              by_cases h3 : d.toList = [73]
              · rw [if_pos h3]
                have := (str_one d 73).mp h3
                have e : bt d 0 = 73 := this.2
                exact ⟨_, rfl, by rw [e]; rfl⟩
              · rw [if_neg h3, if_pos rfl, if_pos (by omega)]
                refine ⟨_, rfl, congrArg some ?_⟩
                have h4 : ¬ (d.size = 1 ∧ bt d 0 = 73) := fun h => h3 ((str_one d 73).mpr h)
                by_cases h5 : bt d 0 = 76
                · rw [h5]; rfl
                · have h6 : bt d 0 = 91 := by omega
                  rw [h6]; rfl
            · have h3 : ¬ d.toList = [73] := fun h => ht (tright_one d ((str_one d 73).mp h))
              rw [if_neg ht, if_neg h3, if_neg ht]
              exact ⟨_, rfl, rfl⟩
          · rw [if_neg h2, if_neg h2]
            exact ⟨_, rfl, rfl⟩
        · rw [if_neg h1, if_neg h1]
          exact ⟨_, rfl, rfl⟩
      · rw [if_neg ha, if_neg ha]
        exact ⟨_, rfl, rfl⟩
    rw [if_neg f5, if_neg f5]
    by_cases f6 : F.toList = [102]
    · rw [if_pos f6, if_pos f6]
      by_cases ha : a = 0 <;> cases b1 <;> cases b2 <;> simp [ha]
    rw [if_neg f6, if_neg f6]
    by_cases f7 : F.toList = [109]
    · rw [if_pos f7, if_pos f7]
      by_cases ha : a = 0
      · rw [if_pos ha, if_pos ha]
        cases b1
        · simp
        · cases b2
          · by_cases h3 : n.toList = [60, 105, 110, 105, 116, 62] <;> simp [h3]
          · simp
      · rw [if_neg ha, if_neg ha]
        exact ⟨_, rfl, rfl⟩
    rw [if_neg f7, if_neg f7]
    exact ⟨_, rfl, rfl⟩
  obtain ⟨r, e1, e2⟩ := key 1048599 (Nat.le_refl _)
  refine ⟨r, fun k hk => ?_, fun k hk => ?_⟩
  · exact at_rounds (g := fun k => spec_InsRight.f k o a c n d) (fun k => spec_InsRight.mono _ _ _ _ _ _) hk e1
  · exact at_rounds (g := fun k => impl_InsRight.f k o a c n d) (fun k => impl_InsRight.mono _ _ _ _ _ _) hk e2

theorem impl_Desc (s : ByteArray) (k : Nat) (hk : 60 ≤ k) : impl_DescRead.f k s = some (descGot s) := by
  unfold impl_DescRead.f descGot
  rw [is_text_at s k (by omega)]
  by_cases c : s.size ≤ 20000
  · rw [decide_eq_true c, if_pos c]
    simp only [Option.bind_some]
    rw [if_pos trivial, impl_desc s (by omega) k hk]
    rfl
  · rw [decide_eq_false c, if_neg c]
    rfl

theorem rdOf_at {α : Type} (d : α) (l : List α) (i : Int) (h : i.toNat < l.length) : rdOf d l i = l[i.toNat] := by
  simp [rdOf, List.getD_eq_getElem?_getD, List.getElem?_eq_getElem h]
/-- A list that is filled from the left. -/
theorem fill_end {α : Type} (l acc : List α) (hl : acc.length = l.length) (h : ∀ j, j < l.length → acc[j]? = l[j]?) : acc = l := by
  apply List.ext_getElem?
  intro j
  by_cases hj : j < l.length
  · exact h j hj
  · rw [List.getElem?_eq_none (by omega), List.getElem?_eq_none (by omega)]
theorem fill_step {α : Type} (l acc : List α) (i : Nat) (v : α) (hl : acc.length = l.length) (hi : i < l.length) (hv : l[i]? = some v) (h : ∀ j, j < i → acc[j]? = l[j]?) : ∀ j, j < i + 1 → (acc.set i v)[j]? = l[j]? := by
  intro j hj
  by_cases e : j = i
  · subst e; rw [List.getElem?_set_self (by omega), hv]
  · rw [List.getElem?_set_ne (by omega)]; exact h j (by omega)
/-- A bool that is told by a proposition. -/
def EvIff (g : Nat → Option Bool) (P : Prop) : Prop := ∃ r, Ev g r ∧ (r = true ↔ P)
theorem EvIff.iff {g : Nat → Option Bool} {P Q : Prop} (h : EvIff g P) (e : P ↔ Q) : EvIff g Q := by
  obtain ⟨r, h1, h2⟩ := h
  exact ⟨r, h1, h2.trans e⟩
theorem EvIff.congr {g f : Nat → Option Bool} {P : Prop} (e : ∀ k, g k = f k) (h : EvIff f P) : EvIff g P := by
  obtain ⟨r, h1, h2⟩ := h
  exact ⟨r, Ev.congr e h1, h2⟩
theorem EvIff.step {g f : Nat → Option Bool} {P : Prop} (e : ∀ k, g (k + 1) = f k) (h : EvIff f P) : EvIff g P := by
  obtain ⟨r, h1, h2⟩ := h
  exact ⟨r, Ev.step e h1, h2⟩
theorem EvIff.yes : EvIff (fun _ => some true) True := ⟨true, Ev.now _, by simp⟩
theorem EvIff.no : EvIff (fun _ => some false) False := ⟨false, Ev.now _, by simp⟩
theorem EvIff.val (b : Bool) : EvIff (fun _ => some b) (b = true) := ⟨b, Ev.now _, Iff.rfl⟩
theorem EvIff.ite {c : Prop} [Decidable c] {g : Nat → Option Bool} {P : Prop} (h : EvIff g P) : EvIff (fun k => if c then g k else some false) (c ∧ P) := by
  by_cases hc : c
  · exact EvIff.iff (EvIff.congr (fun k => if_pos hc) h) (by simp [hc])
  · exact EvIff.iff (EvIff.congr (f := fun _ => some false) (fun k => if_neg hc) EvIff.no) (by simp [hc])
theorem EvIff.iten {c : Prop} [Decidable c] {g : Nat → Option Bool} {P : Prop} (h : EvIff g P) : EvIff (fun k => if c then some false else g k) (¬ c ∧ P) := by
  by_cases hc : c
  · exact EvIff.iff (EvIff.congr (f := fun _ => some false) (fun k => if_pos hc) EvIff.no) (by simp [hc])
  · exact EvIff.iff (EvIff.congr (fun k => if_neg hc) h) (by simp [hc])
theorem EvIff.bind {g h : Nat → Option Bool} {P Q : Prop} (hh : EvIff h Q) (hg : EvIff g P) : EvIff (fun k => (h k).bind fun t => if t = true then g k else some false) (Q ∧ P) := by
  obtain ⟨r, h1, h2⟩ := hh
  obtain ⟨s, g1, g2⟩ := hg
  cases r with
  | true => exact ⟨s, Ev.bind (f := fun k t => if t = true then g k else some false) h1 (Ev.congr (fun k => if_pos rfl) g1), by rw [g2, ← h2]; simp⟩
  | false => exact ⟨false, Ev.bind (f := fun k t => if t = true then g k else some false) h1 (Ev.congr (f := fun _ => some false) (fun k => if_neg (by simp)) (Ev.now _)), by rw [← h2]; simp⟩
theorem EvIff.last {h : Nat → Option Bool} {Q : Prop} (hh : EvIff h Q) : EvIff (fun k => (h k).bind fun t => some t) Q := by
  obtain ⟨r, h1, h2⟩ := hh
  exact ⟨r, Ev.bind (f := fun _ t => some t) h1 (Ev.now _), h2⟩
theorem EvIff.same {g h : Nat → Option Bool} {P : Prop} (hg : EvIff g P) (hh : EvIff h P) : ∃ r, Ev g r ∧ Ev h r := by
  obtain ⟨r, h1, h2⟩ := hg
  obtain ⟨s, g1, g2⟩ := hh
  have e : r = s := Bool.eq_iff_iff.mpr (h2.trans g2.symm)
  subst e
  exact ⟨r, h1, g1⟩
theorem EvIff.true_ {g : Nat → Option Bool} {P : Prop} (h : EvIff g P) (p : P) : Ev g true := by
  obtain ⟨r, h1, h2⟩ := h
  rw [h2.mpr p] at h1; exact h1
theorem toList_eq (a b : ByteArray) : a.toList = b.toList ↔ a = b := ⟨fun h => WideShapes.bytes_inj (by rw [← Lib.toList_data, ← Lib.toList_data]; exact h), fun h => by rw [h]⟩
theorem drop_cons_iff {α : Type} {a b : List α} {i : Nat} (ha : i < a.length) (hb : i < b.length) : a.drop i = b.drop i ↔ a[i] = b[i] ∧ a.drop (i + 1) = b.drop (i + 1) := by
  rw [List.drop_eq_getElem_cons ha, List.drop_eq_getElem_cons hb]
  constructor
  · intro h; exact List.cons.inj h
  · intro h; rw [h.1, h.2]
theorem getD_at {α : Type} {a : List α} {z : α} {i : Nat} (h : i < a.length) : a.getD (i : Int).toNat z = a[i] := by
  simp [List.getD_eq_getElem?_getD, List.getElem?_eq_getElem h]
theorem up64 {i n : Nat} (h : i < n) (hn : n ≤ 4611686018427387904) : wrap64 ((i : Int) + 1) = ((i + 1 : Nat) : Int) := by unfold wrap64; omega
/-- The loop of an equality over lists, by a function on the elements. -/
theorem eq_list {α : Type} {z : α} {L : Nat → List α → List α → Int → Option Bool} {E : Nat → α → α → Option Bool}
    (hL : ∀ k a b i, L (k + 1) a b i = if i < (a.length : Int) then (if 0 ≤ i then (if i < (b.length : Int) then ((E k (a.getD i.toNat z) (b.getD i.toNat z)).bind fun t => (if t = true then (L k a b (wrap64 (i + 1))) else (some false))) else none) else none) else some true)
    (a b : List α) (hE : ∀ x ∈ a, ∀ y ∈ b, EvIff (fun k => E k x y) (x = y)) (hl : a.length = b.length) (hn : a.length ≤ 4611686018427387904) : EvIff (fun k => L k a b 0) (a = b) := by
  have key : ∀ (d i : Nat), i + d = a.length → EvIff (fun k => L k a b (i : Int)) (a.drop i = b.drop i) := by
    intro d
    induction d with
    | zero =>
      intro i hd
      refine EvIff.iff (P := True) (EvIff.step (f := fun _ => some true) (fun k => by rw [hL, if_neg (by omega)]) EvIff.yes) ?_
      rw [List.drop_eq_nil_of_le (by omega), List.drop_eq_nil_of_le (by omega)]; simp
    | succ d ih =>
      intro i hd
      have ha : i < a.length := by omega
      have hb : i < b.length := by omega
      rw [drop_cons_iff ha hb]
      refine EvIff.step (f := fun k => (E k a[i] b[i]).bind fun t => (if t = true then (L k a b ((i + 1 : Nat) : Int)) else (some false))) (fun k => ?_) (EvIff.bind (hE _ (List.getElem_mem ha) _ (List.getElem_mem hb)) (ih (i + 1) (by omega)))
      rw [hL, if_pos (by omega), if_pos (by omega), if_pos (by omega), getD_at ha, getD_at hb, up64 ha hn]
  exact key a.length 0 (by omega)
/-- The loop that reckons what a list takes. -/
theorem sz_list {α : Type} {z : α} {L : Nat → List α → Int → Int → Option Int} {Z : Nat → α → Int → Option Int} {B : α → Prop}
    (hL : ∀ k a m i, L (k + 1) a m i = if i < (a.length : Int) then (if 0 ≤ i then ((Z k (a.getD i.toNat z) m).bind fun t => (if t < 0 then (some (-1)) else (L k a t (wrap64 (i + 1))))) else none) else some m)
    (a : List α) (hn : a.length ≤ 4611686018427387904) (hZ : ∀ x ∈ a, ∀ m, 0 ≤ m → m ≤ 1048576 → ∃ v, Ev (fun k => Z k x m) v ∧ (v < 0 ∨ (0 ≤ v ∧ v ≤ m ∧ B x)))
    (m : Int) (h0 : 0 ≤ m) (h1 : m ≤ 1048576) : ∃ v, Ev (fun k => L k a m 0) v ∧ (v < 0 ∨ (0 ≤ v ∧ v ≤ m ∧ ∀ x ∈ a, B x)) := by
  have key : ∀ (d i : Nat) (m : Int), 0 ≤ m → m ≤ 1048576 → i + d = a.length → ∃ v, Ev (fun k => L k a m (i : Int)) v ∧ (v < 0 ∨ (0 ≤ v ∧ v ≤ m ∧ ∀ j, i ≤ j → (h : j < a.length) → B a[j])) := by
    intro d
    induction d with
    | zero =>
      intro i m h0 h1 hd
      exact ⟨m, Ev.step (f := fun _ => some m) (fun k => by rw [hL, if_neg (by omega)]) (Ev.now m), .inr ⟨h0, Int.le_refl _, fun j h2 h3 => by omega⟩⟩
    | succ d ih =>
      intro i m h0 h1 hd
      have ha : i < a.length := by omega
      obtain ⟨v, hv, hb⟩ := hZ _ (List.getElem_mem ha) m h0 h1
      have st : ∀ k, L (k + 1) a m (i : Int) = (Z k a[i] m).bind fun t => (if t < 0 then (some (-1)) else (L k a t ((i + 1 : Nat) : Int))) := fun k => by
        rw [hL, if_pos (by omega), if_pos (by omega), getD_at ha, up64 ha hn]
      rcases hb with hb | ⟨b0, b1, b2⟩
      · exact ⟨-1, Ev.step st (Ev.bind (f := fun k t => if t < 0 then (some (-1)) else (L k a t ((i + 1 : Nat) : Int))) hv (Ev.congr (f := fun _ => some (-1)) (fun k => by rw [if_pos hb]) (Ev.now _))), .inl (by omega)⟩
      · obtain ⟨u, hu, hc⟩ := ih (i + 1) v b0 (by omega) (by omega)
        refine ⟨u, Ev.step st (Ev.bind (f := fun k t => if t < 0 then (some (-1)) else (L k a t ((i + 1 : Nat) : Int))) hv (Ev.congr (fun k => by rw [if_neg (by omega)]) hu)), ?_⟩
        rcases hc with hc | ⟨c0, c1, c2⟩
        · exact .inl hc
        · refine .inr ⟨c0, by omega, fun j h2 h3 => ?_⟩
          by_cases e : j = i
          · subst e; exact b2
          · exact c2 j (by omega) h3
  obtain ⟨v, h2, h3⟩ := key a.length 0 m h0 h1 (by omega)
  refine ⟨v, h2, ?_⟩
  rcases h3 with h3 | ⟨h3, h4, h5⟩
  · exact .inl h3
  · refine .inr ⟨h3, h4, fun x hx => ?_⟩
    obtain ⟨j, hj, rfl⟩ := List.mem_iff_getElem.mp hx
    exact h5 j (by omega) hj
/-- The loop that copies a list element by element. -/
theorem to_list {α β γ : Type} {z : α} {L : Nat → List α → List β → Int → Option (List β)} {T : Nat → α → Option γ} {C : γ → β} {conv : α → β}
    (hL : ∀ k a c i, L (k + 1) a c i = if i < (a.length : Int) then (if 0 ≤ i then ((T k (a.getD i.toNat z)).bind fun t => (if i < (c.length : Int) then (L k a (c.set i.toNat (C t)) (wrap64 (i + 1))) else none)) else none) else some c)
    (a : List α) (hn : a.length ≤ 4611686018427387904) (hT : ∀ x ∈ a, ∃ t, Ev (fun k => T k x) t ∧ C t = conv x) (y : β) : Ev (fun k => L k a (List.replicate a.length y) 0) (a.map conv) := by
  have key : ∀ (d i : Nat) (c : List β), c.length = a.length → (∀ j, j < i → c[j]? = (a.map conv)[j]?) → i + d = a.length → Ev (fun k => L k a c (i : Int)) (a.map conv) := by
    intro d
    induction d with
    | zero =>
      intro i c hc h hd
      have e : c = a.map conv := fill_end _ _ (by simpa using hc) (fun j hj => h j (by simp at hj; omega))
      exact Ev.step (f := fun _ => some (a.map conv)) (fun k => by rw [hL, if_neg (by omega), e]) (Ev.now _)
    | succ d ih =>
      intro i c hc h hd
      have ha : i < a.length := by omega
      obtain ⟨t, ht, ht2⟩ := hT _ (List.getElem_mem ha)
      have hs : ∀ j, j < i + 1 → (c.set i (C t))[j]? = (a.map conv)[j]? := fill_step _ c i (C t) (by simpa using hc) (by simpa using ha) (by rw [ht2]; simp [ha]) h
      refine Ev.step (f := fun k => (T k a[i]).bind fun t => (L k a (c.set i (C t)) ((i + 1 : Nat) : Int))) (fun k => ?_) (Ev.bind (f := fun k t => L k a (c.set i (C t)) ((i + 1 : Nat) : Int)) ht (ih (i + 1) _ (by simpa using hc) hs (by omega)))
      rw [hL, if_pos (by omega), if_pos (by omega), getD_at ha, up64 ha hn]
      congr 1
      funext t
      rw [if_pos (by omega)]; rfl
  exact key a.length 0 _ (by simp) (fun j hj => absurd hj (by omega)) (by omega)
/-- What is left, less a size. -/
theorem less64 {m : Int} {n : Nat} (h0 : 0 ≤ m) (h1 : m ≤ 1048576) (hn : n ≤ 9223372036854775807) : wrap64 (m - (n : Int)) = m - (n : Int) := by unfold wrap64; omega
/-- What is told of a size: it is refused, or what is left is told with what is known. -/
def SzOk (g : Nat → Option Int) (m : Int) (B : Prop) : Prop := ∃ v, Ev g v ∧ (v < 0 ∨ (0 ≤ v ∧ v ≤ m ∧ B))
theorem SzOk.size {m : Int} {n : Nat} {g : Int → Nat → Option Int} {B : Prop} (h0 : 0 ≤ m) (h1 : m ≤ 1048576) (hn : n ≤ 9223372036854775807) (h : ∀ v, 0 ≤ v → v ≤ m → v = m - (n : Int) → SzOk (g v) v B) :
    SzOk (fun k => if wrap64 (m - (n : Int)) < 0 then some (-1) else g (wrap64 (m - (n : Int))) k) m ((n : Int) ≤ 1048576 ∧ B) := by
  rw [less64 h0 h1 hn]
  by_cases c : m - (n : Int) < 0
  · exact ⟨-1, Ev.congr (f := fun _ => some (-1)) (fun k => by rw [if_pos c]) (Ev.now _), .inl (by omega)⟩
  · obtain ⟨v, h2, h3⟩ := h (m - (n : Int)) (by omega) (by omega) rfl
    refine ⟨v, Ev.congr (fun k => by rw [if_neg c]) h2, ?_⟩
    rcases h3 with h3 | ⟨h3, h4, h5⟩
    · exact .inl h3
    · exact .inr ⟨h3, by omega, by omega, h5⟩
theorem SzOk.bind {m : Int} {f : Nat → Option Int} {g : Nat → Int → Option Int} {A B : Prop} (hf : SzOk f m A) (h : ∀ v, 0 ≤ v → v ≤ m → SzOk (fun k => g k v) v B) :
    SzOk (fun k => (f k).bind fun t => if t < 0 then some (-1) else g k t) m (A ∧ B) := by
  obtain ⟨v, hv, hb⟩ := hf
  rcases hb with hb | ⟨b0, b1, b2⟩
  · exact ⟨-1, Ev.bind (f := fun k t => if t < 0 then (some (-1)) else g k t) hv (Ev.congr (f := fun _ => some (-1)) (fun k => by rw [if_pos hb]) (Ev.now _)), .inl (by omega)⟩
  · obtain ⟨u, hu, hc⟩ := h v b0 b1
    refine ⟨u, Ev.bind (f := fun k t => if t < 0 then (some (-1)) else g k t) hv (Ev.congr (fun k => by rw [if_neg (by omega)]) hu), ?_⟩
    rcases hc with hc | ⟨c0, c1, c2⟩
    · exact .inl hc
    · exact .inr ⟨c0, by omega, b2, c2⟩
theorem SzOk.done {m : Int} (h0 : 0 ≤ m) : SzOk (fun _ => some m) m True := ⟨m, Ev.now _, .inr ⟨h0, Int.le_refl _, trivial⟩⟩
theorem SzOk.mono {m : Int} {f g : Nat → Option Int} {A B : Prop} (h : SzOk f m A) (e : ∀ k, g k = f k) (i : A → B) : SzOk g m B := by
  obtain ⟨v, h1, h2⟩ := h
  refine ⟨v, Ev.congr e h1, ?_⟩
  rcases h2 with h2 | ⟨h2, h3, h4⟩
  · exact .inl h2
  · exact .inr ⟨h2, h3, i h4⟩
theorem EvIff.ite2 {c : Prop} [Decidable c] {g h : Nat → Option Bool} {P Q : Prop} (hg : EvIff g P) (hh : EvIff h Q) : EvIff (fun k => if c then g k else h k) ((c ∧ P) ∨ (¬ c ∧ Q)) := by
  by_cases hc : c
  · exact EvIff.iff (EvIff.congr (fun k => if_pos hc) hg) (by simp [hc])
  · exact EvIff.iff (EvIff.congr (fun k => if_neg hc) hh) (by simp [hc])
theorem EvIff.iteP {c : Prop} [Decidable c] {g h : Nat → Option Bool} {P : Prop} (hc : c) (hg : EvIff g P) : EvIff (fun k => if c then g k else h k) P := EvIff.congr (fun k => if_pos hc) hg
theorem EvIff.iteN {c : Prop} [Decidable c] {g h : Nat → Option Bool} {P : Prop} (hc : ¬ c) (hh : EvIff h P) : EvIff (fun k => if c then g k else h k) P := EvIff.congr (fun k => if_neg hc) hh
theorem EvIff.bind2 {g f h : Nat → Option Bool} {P Q R : Prop} (hh : EvIff h Q) (hg : EvIff g P) (hf : EvIff f R) : EvIff (fun k => (h k).bind fun t => if t = true then g k else f k) ((Q ∧ P) ∨ (¬ Q ∧ R)) := by
  obtain ⟨r, h1, h2⟩ := hh
  obtain ⟨s, g1, g2⟩ := hg
  obtain ⟨u, f1, f2⟩ := hf
  cases r with
  | true => exact ⟨s, Ev.bind (f := fun k t => if t = true then g k else f k) h1 (Ev.congr (fun k => if_pos rfl) g1), by rw [g2, ← h2]; simp⟩
  | false => exact ⟨u, Ev.bind (f := fun k t => if t = true then g k else f k) h1 (Ev.congr (fun k => if_neg (by simp)) f1), by rw [f2, ← h2]; simp⟩

theorem Ev.one {α : Type} {g : Nat → Option α} {a b : α} (h1 : Ev g a) (h2 : Ev g b) : a = b := by
  obtain ⟨K1, h1⟩ := h1
  obtain ⟨K2, h2⟩ := h2
  have e1 := h1 (max K1 K2) (by omega)
  have e2 := h2 (max K1 K2) (by omega)
  rw [e1] at e2
  exact Option.some.inj e2
theorem EvIff.self {g : Nat → Option Bool} {r : Bool} (h : Ev g r) : EvIff g (Ev g true) :=
  ⟨r, h, ⟨fun e => by rw [e] at h; exact h, fun h2 => Ev.one h h2⟩⟩
theorem EvIff.other {g f : Nat → Option Bool} {r : Bool} (h : Ev g r) (hf : Ev f r) : EvIff f (Ev g true) :=
  ⟨r, hf, ⟨fun e => by rw [e] at h; exact h, fun h2 => Ev.one h h2⟩⟩
theorem EvIff.through {β : Type} {h : Nat → Option β} {v : β} {g : Nat → β → Option Bool} {P : Prop} (hh : Ev h v) (hg : EvIff (fun k => g k v) P) : EvIff (fun k => (h k).bind fun t => g k t) P := by
  obtain ⟨r, g1, g2⟩ := hg
  exact ⟨r, Ev.bind (f := g) hh g1, g2⟩
/-- A loop over a list that stops at what is not so, and what follows it. -/
theorem all_then {α : Type} {z : α} {L : Nat → Int → Option Bool} {R : Nat → Option Bool} {G : Nat → Int → α → Option Bool} {C : α → Prop} {P : Prop} (a : List α)
    (hL : ∀ k i, L (k + 1) i = if i < (a.length : Int) then (if 0 ≤ i then G k i (a.getD i.toNat z) else none) else R k)
    (hG : ∀ (i : Int) (x : α), x ∈ a → ∀ Q : Prop, EvIff (fun k => L k (wrap64 (i + 1))) Q → EvIff (fun k => G k i x) (C x ∧ Q)) (hR : EvIff R P) (hn : a.length ≤ 4611686018427387904) : EvIff (fun k => L k 0) ((∀ x ∈ a, C x) ∧ P) := by
  have key : ∀ (d i : Nat), i + d = a.length → EvIff (fun k => L k (i : Int)) ((∀ x ∈ a.drop i, C x) ∧ P) := by
    intro d
    induction d with
    | zero =>
      intro i hd
      refine EvIff.iff (P := P) (EvIff.step (f := R) (fun k => by rw [hL, if_neg (by omega)]) hR) ?_
      rw [List.drop_eq_nil_of_le (by omega)]; simp
    | succ d ih =>
      intro i hd
      have ha : i < a.length := by omega
      have h2 := ih (i + 1) (by omega)
      rw [← up64 ha hn] at h2
      refine EvIff.iff (EvIff.step (f := fun k => G k (i : Int) a[i]) (fun k => ?_) (hG i _ (List.getElem_mem ha) _ h2)) (by rw [List.drop_eq_getElem_cons ha, List.forall_mem_cons, and_assoc])
      rw [hL, if_pos (by omega), if_pos (by omega), getD_at ha]
  exact key a.length 0 (by omega)
/-- A loop that looks for the first of which something holds. -/
theorem idx_list {α : Type} {z : α} {L : Nat → Int → Option Int} {E : Nat → α → Option Bool} {B : α → Prop} (a : List α)
    (hL : ∀ k i, L (k + 1) i = if i < (a.length : Int) then (if 0 ≤ i then (if i < (a.length : Int) then ((E k (a.getD i.toNat z)).bind fun t => (if t = true then (some i) else (L k (wrap64 (i + 1))))) else none) else none) else some (-1))
    (hE : ∀ x ∈ a, EvIff (fun k => E k x) (B x)) (hn : a.length ≤ 4611686018427387904) :
    ∃ r : Int, Ev (fun k => L k 0) r ∧ ((r = -1 ∧ ∀ x ∈ a, ¬ B x) ∨ ∃ n : Nat, r = n ∧ ∃ h : n < a.length, B a[n] ∧ ∀ j, (hj : j < n) → ¬ B (a[j]'(by omega))) := by
  have key : ∀ (d i : Nat), i + d = a.length → ∃ r : Int, Ev (fun k => L k (i : Int)) r ∧ ((r = -1 ∧ ∀ j, i ≤ j → (hj : j < a.length) → ¬ B a[j]) ∨ ∃ n : Nat, r = n ∧ i ≤ n ∧ ∃ h : n < a.length, B a[n] ∧ ∀ j, i ≤ j → (hj : j < n) → ¬ B (a[j]'(by omega))) := by
    intro d
    induction d with
    | zero =>
      intro i hd
      exact ⟨-1, Ev.step (f := fun _ => some (-1)) (fun k => by rw [hL, if_neg (by omega)]) (Ev.now _), .inl ⟨rfl, fun j h1 h2 => by omega⟩⟩
    | succ d ih =>
      intro i hd
      have ha : i < a.length := by omega
      obtain ⟨b, hb, hB⟩ := hE _ (List.getElem_mem ha)
      have st : ∀ k, L (k + 1) (i : Int) = (E k a[i]).bind fun t => (if t = true then (some (i : Int)) else (L k ((i + 1 : Nat) : Int))) := fun k => by
        rw [hL, if_pos (by omega), if_pos (by omega), if_pos (by omega), getD_at ha, up64 ha hn]
      cases b with
      | true => exact ⟨i, Ev.step st (Ev.bind (f := fun k t => if t = true then (some (i : Int)) else (L k ((i + 1 : Nat) : Int))) hb (Ev.congr (f := fun _ => some (i : Int)) (fun k => if_pos rfl) (Ev.now _))), .inr ⟨i, rfl, Nat.le_refl _, ha, hB.mp rfl, fun j h1 h2 => by omega⟩⟩
      | false =>
        have hB' : ¬ B a[i] := fun h => by have := hB.mpr h; cases this
        obtain ⟨r, hr, hc⟩ := ih (i + 1) (by omega)
        refine ⟨r, Ev.step st (Ev.bind (f := fun k t => if t = true then (some (i : Int)) else (L k ((i + 1 : Nat) : Int))) hb (Ev.congr (fun k => if_neg (by simp)) hr)), ?_⟩
        rcases hc with ⟨e, hc⟩ | ⟨n, e, h1, h2, h3, h4⟩
        · refine .inl ⟨e, fun j h1 h2 => ?_⟩
          by_cases ej : j = i
          · subst ej; exact hB'
          · exact hc j (by omega) h2
        · refine .inr ⟨n, e, by omega, h2, h3, fun j h5 h6 => ?_⟩
          by_cases ej : j = i
          · subst ej; exact hB'
          · exact h4 j (by omega) h6
  obtain ⟨r, hr, hc⟩ := key a.length 0 (by omega)
  refine ⟨r, hr, ?_⟩
  rcases hc with ⟨e, hc⟩ | ⟨n, e, h1, h2, h3, h4⟩
  · refine .inl ⟨e, fun x hx => ?_⟩
    obtain ⟨j, hj, rfl⟩ := List.mem_iff_getElem.mp hx
    exact hc j (by omega) hj
  · exact .inr ⟨n, e, h2, h3, fun j hj => h4 j (by omega) hj⟩
def NameP (s : ByteArray) : Prop := Ev (fun k => spec_NameRight.f k s) true
theorem name_spec (s : ByteArray) (h : s.size ≤ 1048576) : EvIff (fun k => spec_NameRight.f k s) (NameP s) := by
  obtain ⟨b, e1, e2⟩ := names_same s (by omega)
  exact EvIff.self (r := b) ⟨_, e1⟩
theorem name_impl (s : ByteArray) (h : s.size ≤ 1048576) : EvIff (fun k => impl_NameRight.f k s) (NameP s) := by
  obtain ⟨b, e1, e2⟩ := names_same s (by omega)
  exact EvIff.other (r := b) ⟨_, e1⟩ ⟨_, e2⟩
def InsP (x : S77) : Prop := Ev (fun k => spec_InsRight.f k x.f0 x.f1 x.f2 x.f3 x.f4) true
def ISz (x : S77) : Prop := x.f2.size ≤ 1048576 ∧ x.f3.size ≤ 1048576 ∧ x.f4.size ≤ 1048576
theorem ins_spec (x : S77) (h : ISz x) : EvIff (fun k => spec_InsRight.f k x.f0 x.f1 x.f2 x.f3 x.f4) (InsP x) := by
  obtain ⟨b, e1, e2⟩ := ins_same x.f0 x.f1 x.f2 x.f3 x.f4 h.1 h.2.1 h.2.2
  exact EvIff.self (r := b) ⟨_, e1⟩
theorem ins_impl (x : S77) (h : ISz x) : EvIff (fun k => impl_InsRight.f k x.f0 x.f1 x.f2 x.f3 x.f4) (InsP x) := by
  obtain ⟨b, e1, e2⟩ := ins_same x.f0 x.f1 x.f2 x.f3 x.f4 h.1 h.2.1 h.2.2
  exact EvIff.other (r := b) ⟨_, e1⟩ ⟨_, e2⟩
def JumpP (o : Int) : Prop := ∃ F, impl_OpForm.f o = some F ∧ F.toList = ([116] : List UInt8)
theorem form_then {h : Nat → Option ByteArray} {L : Nat → Option Bool} {Q : Prop} (o a m : Int) (hf : ∀ F, impl_OpForm.f o = some F → Ev h F) (hL : EvIff L Q) :
    EvIff (fun k => (h k).bind fun F => (if F.toList = ([116] : List UInt8) then (if a ≥ m then (some false) else L k) else L k)) ((JumpP o → a < m) ∧ Q) := by
  obtain ⟨F, e1, e2⟩ := op_form o
  refine EvIff.through (g := fun k F => (if F.toList = ([116] : List UInt8) then (if a ≥ m then (some false) else L k) else L k)) (hf F e1) ?_
  by_cases c : F.toList = ([116] : List UInt8)
  · have j : JumpP o := ⟨F, e1, c⟩
    refine EvIff.iff (EvIff.iteP c (EvIff.iten hL)) ?_
    simp [j]
  · have j : ¬ JumpP o := fun ⟨F', e, h⟩ => by rw [e1] at e; cases e; exact c h
    refine EvIff.iff (EvIff.iteN c hL) ?_
    simp [j]
def HanP (m : Int) (x : S79) : Prop := x.f0 ≥ 0 ∧ x.f0 < x.f1 ∧ x.f1 ≤ m ∧ x.f2 ≥ 0 ∧ x.f2 < m ∧ NameP x.f3
theorem han_spec (m : Int) (x : S79) (h : x.f3.size ≤ 1048576) : EvIff (fun k => spec_l03Handler.f k x.f0 x.f1 x.f2 x.f3 m) (HanP m x) :=
  EvIff.congr (fun k => rfl) (EvIff.ite (EvIff.ite (EvIff.ite (EvIff.ite (EvIff.ite (EvIff.last (name_spec x.f3 h)))))))
theorem EvIff.iteY {c : Prop} [Decidable c] {g : Nat → Option Bool} {P : Prop} (h : EvIff g P) : EvIff (fun k => if c then some true else g k) (c ∨ P) := by
  by_cases hc : c
  · exact EvIff.iff (EvIff.congr (f := fun _ => some true) (fun k => if_pos hc) EvIff.yes) (by simp [hc])
  · exact EvIff.iff (EvIff.congr (fun k => if_neg hc) h) (by simp [hc])
theorem EvIff.nots {h : Nat → Option Bool} {Q : Prop} (hh : EvIff h Q) : EvIff (fun k => (h k).bind fun t => some (!t)) (¬ Q) := by
  obtain ⟨r, h1, h2⟩ := hh
  exact ⟨!r, Ev.bind (f := fun _ t => some (!t)) h1 (Ev.now _), by rw [← h2]; simp⟩
theorem han_impl (m : Int) (hm : 0 ≤ m) (hm2 : m ≤ 1048576) (x : S79) (h : x.f3.size ≤ 1048576) : EvIff (fun k => impl_codeRight_1.f k x.f0 x.f1 x.f2 x.f3 m) (¬ HanP m x) := by
  have w : wrap64 (m - 1) = m - 1 := by unfold wrap64; omega
  have e : EvIff (fun k => (impl_within.f x.f2 0 (wrap64 (m - 1))).bind fun t390 => (if t390 = true then ((impl_NameRight.f k x.f3).bind fun t391 => (some (!t391))) else (some true))) (¬ (x.f2 ≥ 0 ∧ x.f2 < m ∧ NameP x.f3)) := by
    rw [w]
    by_cases c : x.f2 ≥ 0
    · have e1 : impl_within.f x.f2 0 (m - 1) = some (decide (x.f2 ≤ m - 1)) := by unfold impl_within.f; rw [if_pos c]
      rw [e1]
      by_cases d : x.f2 ≤ m - 1
      · rw [decide_eq_true d]
        refine EvIff.iff (EvIff.congr (f := fun k => (impl_NameRight.f k x.f3).bind fun t391 => (some (!t391))) (fun k => rfl) (EvIff.nots (name_impl x.f3 h))) ?_
        have d' : x.f2 < m := by omega
        simp [c, d']
      · rw [decide_eq_false d]
        refine EvIff.iff (EvIff.congr (f := fun k => some true) (fun k => rfl) EvIff.yes) ?_
        have d' : ¬ x.f2 < m := by omega
        simp [d']
    · have e1 : impl_within.f x.f2 0 (m - 1) = some false := by unfold impl_within.f; rw [if_neg c]
      rw [e1]
      refine EvIff.iff (EvIff.congr (f := fun k => some true) (fun k => rfl) EvIff.yes) ?_
      simp [c]
  refine EvIff.iff (EvIff.congr (fun k => rfl) (EvIff.iteY (EvIff.iteY (EvIff.iteY e)))) ?_
  unfold HanP
  constructor
  · rintro (c | c | c | c) ⟨h0, h1, h2, h3⟩
    · omega
    · omega
    · omega
    · exact c h3
  · intro c
    by_cases c0 : x.f0 < 0
    · exact .inl c0
    by_cases c1 : x.f0 ≥ x.f1
    · exact .inr (.inl c1)
    by_cases c2 : x.f1 > m
    · exact .inr (.inr (.inl c2))
    exact .inr (.inr (.inr fun h3 => c ⟨by omega, by omega, by omega, h3⟩))
theorem has_impl (m : Int) (hm : 0 ≤ m) (hm2 : m ≤ 1048576) (a : List S79) (ha : a.length ≤ 1048576) (h : ∀ x ∈ a, x.f3.size ≤ 1048576) : EvIff (fun k => impl_Handler_94.f k a m) (¬ ∀ x ∈ a, HanP m x) := by
  obtain ⟨r, hr, hc⟩ := idx_list (z := z79) (L := fun k i => impl_Handler_108.l0 k a (a.length : Int) i m) (E := fun k x => impl_codeRight_1.f k x.f0 x.f1 x.f2 x.f3 m) (B := fun x => ¬ HanP m x) a (fun k i => rfl) (fun x hx => han_impl m hm hm2 x (h x hx)) (by omega)
  refine ⟨decide (r ≥ 0), Ev.bind (f := fun _ t => some (decide (t ≥ 0))) (g := fun k => impl_Handler_108.f k a m) hr (Ev.now _), ?_⟩
  rcases hc with ⟨e, hc⟩ | ⟨n, e, h2, h3, h4⟩
  · subst e
    constructor
    · intro h; simp at h
    · intro h; exact absurd (fun x hx => Classical.not_not.mp (hc x hx)) h
  · subst e
    constructor
    · intro _ h; exact h3 (h _ (List.getElem_mem h2))
    · intro _; exact decide_eq_true (by omega)
def CodeP (cs : List S77) (hs : List S79) : Prop := 1 ≤ cs.length ∧ cs.length ≤ 60 ∧ hs.length ≤ 6 ∧ (∀ x ∈ cs, InsP x ∧ (JumpP x.f0 → x.f1 < (cs.length : Int))) ∧ ∀ x ∈ hs, HanP cs.length x
theorem code_impl (n d : ByteArray) (s a f : Bool) (t l : Int) (cs : List S77) (hs : List S79) (hc : ∀ x ∈ cs, ISz x) (hh : ∀ x ∈ hs, x.f3.size ≤ 1048576) (lc : cs.length ≤ 1048576) (lh : hs.length ≤ 1048576) :
    EvIff (fun k => impl_codeRight.f k n d s a f t l cs hs) (CodeP cs hs) := by
  have yes : EvIff (fun k => impl_codeRight.j0 k true n d s a f t l cs hs (cs.length : Int)) False := EvIff.step (f := fun _ => some false) (fun k => by simp only [impl_codeRight.j0, ↓reduceIte]) EvIff.no
  have loop : EvIff (fun k => impl_codeRight.l0 k cs (cs.length : Int) 0 n d s a f t l cs hs (cs.length : Int)) ((∀ x ∈ cs, InsP x ∧ (JumpP x.f0 → x.f1 < (cs.length : Int))) ∧ ∀ x ∈ hs, HanP cs.length x) := by
    refine all_then (z := z77) (C := fun x => InsP x ∧ (JumpP x.f0 → x.f1 < (cs.length : Int))) (L := fun k i => impl_codeRight.l0 k cs (cs.length : Int) i n d s a f t l cs hs (cs.length : Int))
      (G := fun k i x => (impl_InsRight.f k x.f0 x.f1 x.f2 x.f3 x.f4).bind fun t402 => (if t402 = true then ((impl_OpForm.f x.f0).bind fun F => (if F.toList = ([116] : List UInt8) then (if x.f1 ≥ (cs.length : Int) then (some false) else (impl_codeRight.l0 k cs (cs.length : Int) (wrap64 (i + 1)) n d s a f t l cs hs (cs.length : Int))) else (impl_codeRight.l0 k cs (cs.length : Int) (wrap64 (i + 1)) n d s a f t l cs hs (cs.length : Int)))) else (some false)))
      (R := fun k => (impl_Handler_94.f k hs (cs.length : Int)).bind fun t399 => (some (!t399))) cs (fun k i => ?_) (fun i x hx Q hQ => ?_) (EvIff.iff (EvIff.nots (has_impl _ (by omega) (by omega) hs lh hh)) (by simp)) (by omega)
    · show (if i < (cs.length : Int) then (if 0 ≤ i then (if i < (cs.length : Int) then _ else none) else none) else _) = _
      by_cases c : i < (cs.length : Int)
      · rw [if_pos c, if_pos c, if_pos c]; rfl
      · rw [if_neg c, if_neg c]
    · exact EvIff.iff (EvIff.bind (ins_impl x (hc x hx)) (form_then (h := fun _ => impl_OpForm.f x.f0) x.f0 x.f1 (cs.length : Int) (fun F e => by rw [e]; exact Ev.now F) hQ)) (by rw [and_assoc])
  refine EvIff.congr (f := fun k => (impl_within.f (cs.length : Int) 1 60).bind fun t398 => (if t398 = true then (impl_codeRight.j0 k (decide ((hs.length : Int) > 6)) n d s a f t l cs hs (cs.length : Int)) else (impl_codeRight.j0 k true n d s a f t l cs hs (cs.length : Int)))) (fun k => rfl) ?_
  unfold CodeP
  by_cases c1 : (cs.length : Int) ≥ 1
  · by_cases c2 : (cs.length : Int) ≤ 60
    · have e1 : impl_within.f (cs.length : Int) 1 60 = some true := by unfold impl_within.f; rw [if_pos c1, decide_eq_true c2]
      rw [e1]
      by_cases c3 : (hs.length : Int) > 6
      · rw [decide_eq_true c3]
        exact EvIff.iff (EvIff.congr (fun k => rfl) yes) ⟨fun h => h.elim, fun h => by omega⟩
      · rw [decide_eq_false c3]
        refine EvIff.iff (EvIff.congr (f := fun k => impl_codeRight.j0 k false n d s a f t l cs hs (cs.length : Int)) (fun k => rfl) (EvIff.step (f := fun k => impl_codeRight.l0 k cs (cs.length : Int) 0 n d s a f t l cs hs (cs.length : Int)) (fun k => by simp only [impl_codeRight.j0]; rw [if_neg (by simp)]) loop)) ?_
        exact ⟨fun h => ⟨by omega, by omega, by omega, h⟩, fun h => h.2.2.2⟩
    · have e1 : impl_within.f (cs.length : Int) 1 60 = some false := by unfold impl_within.f; rw [if_pos c1, decide_eq_false c2]
      rw [e1]
      exact EvIff.iff (EvIff.congr (fun k => rfl) yes) ⟨fun h => h.elim, fun h => by omega⟩
  · have e1 : impl_within.f (cs.length : Int) 1 60 = some false := by unfold impl_within.f; rw [if_neg c1]
    rw [e1]
    exact EvIff.iff (EvIff.congr (fun k => rfl) yes) ⟨fun h => h.elim, fun h => by omega⟩
def initP (n : ByteArray) : Prop := n.toList = ([60, 105, 110, 105, 116, 62] : List UInt8)
def HeadP (n d : ByteArray) (t l : Int) : Prop := (NameP n ∨ initP n) ∧ (descGot d).2.2.2 = 0 ∧ 0 ≤ t ∧ t ≤ 16 ∧ 0 ≤ l ∧ l ≤ 16
def needs (d : ByteArray) (s : Bool) : Int := if s = true then ((descGot d).1.length : Int) else ((descGot d).1.length : Int) + 1
def BodyP (n d : ByteArray) (s a f : Bool) (t l : Int) (cs : List S77) (hs : List S79) : Prop :=
  if a = true then t = 0 ∧ l = 0 ∧ cs.length = 0 ∧ hs.length = 0 ∧ s = false ∧ f = false ∧ ¬ initP n
  else CodeP cs hs ∧ needs d s ≤ l ∧ (initP n → s = false ∧ f = false ∧ (descGot d).2.1.toList = [86])
theorem needs64 (d : ByteArray) : wrap64 (((descGot d).1.length : Int) + 1) = ((descGot d).1.length : Int) + 1 := by
  have := descGot_le d
  unfold wrap64; omega
theorem abs_iff (n : ByteArray) (s f : Bool) (t l : Int) (c h : Nat) :
    EvIff (fun _ => if t = 0 then (if l = 0 then (if (c : Int) = 0 then (if (h : Int) = 0 then (if s = true then (some false) else (if f = true then (some false) else (some (n.toList != ([60, 105, 110, 105, 116, 62] : List UInt8))))) else (some false)) else (some false)) else (some false)) else (some false))
      (t = 0 ∧ l = 0 ∧ c = 0 ∧ h = 0 ∧ s = false ∧ f = false ∧ ¬ initP n) := by
  refine EvIff.iff (EvIff.ite (EvIff.ite (EvIff.ite (EvIff.ite (EvIff.iten (EvIff.iten (EvIff.val _))))))) ?_
  unfold initP
  simp
theorem end_iff {G : Nat → Option Bool} {r : ByteArray} (n : ByteArray) (s f : Bool) (hG : Ev (fun k => G k) (r.toList == ([86] : List UInt8))) :
    EvIff (fun k => if n.toList = ([60, 105, 110, 105, 116, 62] : List UInt8) then (if s = true then (some false) else (if f = true then (some false) else G k)) else (some true)) (initP n → s = false ∧ f = false ∧ r.toList = [86]) := by
  have hv : EvIff G (r.toList = [86]) := ⟨_, hG, by simp⟩
  refine EvIff.iff (EvIff.ite2 (EvIff.iten (EvIff.iten hv)) EvIff.yes) ?_
  unfold initP
  by_cases c : n.toList = ([60, 105, 110, 105, 116, 62] : List UInt8)
  · simp [c]
  · simp [c]
theorem method_impl (n d : ByteArray) (s a f : Bool) (t l : Int) (cs : List S77) (hs : List S79) (hn : n.size ≤ 1048576) (hd : d.size ≤ 1048576) (hc : ∀ x ∈ cs, ISz x) (hh : ∀ x ∈ hs, x.f3.size ≤ 1048576) (lc : cs.length ≤ 1048576) (lh : hs.length ≤ 1048576) :
    EvIff (fun k => impl_MethodRight.f k n d s a f t l cs hs) (HeadP n d t l ∧ BodyP n d s a f t l cs hs) := by
  have yes : EvIff (fun k => impl_MethodRight.j0 k true n d s a f t l cs hs) False := EvIff.step (f := fun _ => some false) (fun k => by simp only [impl_MethodRight.j0, ↓reduceIte]) EvIff.no
  have body : (descGot d).2.2.2 = 0 → EvIff (fun k => impl_MethodRight.j0 k false n d s a f t l cs hs) (BodyP n d s a f t l cs hs) := by
    intro h0
    unfold BodyP
    cases a with
    | true =>
      rw [if_pos rfl]
      refine EvIff.step (fun k => ?_) (abs_iff n s f t l cs.length hs.length)
      simp only [impl_MethodRight.j0]
      rw [if_neg (by simp), if_pos trivial]
    | false =>
      rw [if_neg (by simp)]
      have hdo : descOf d = descGot d := by
        unfold descGot at h0 ⊢
        by_cases c : d.size ≤ 20000
        · rw [if_pos c]
        · rw [if_neg c] at h0; simp at h0
      have sl : Ev (fun k => impl_Method_slots.f k n d s false f t l cs hs) (needs d s) := by
        refine ⟨60, fun k hk => ?_⟩
        show (impl_DescSlots.f k d).bind _ = _
        have e1 : impl_DescSlots.f k d = some ((descGot d).1.length : Int) := by
          unfold impl_DescSlots.f
          rw [impl_Desc d k hk]
          simp only [Option.bind_some]
          rw [if_pos h0]; rfl
        rw [e1]
        simp only [Option.bind_some]
        unfold needs
        cases s with
        | true => rw [if_pos rfl, if_pos rfl]
        | false => rw [if_neg (by simp), if_neg (by simp), needs64]
      have tl : EvIff (fun k => (impl_Method_slots.f k n d s false f t l cs hs).bind fun t431 => (if l < t431 then (some false) else (if n.toList = ([60, 105, 110, 105, 116, 62] : List UInt8) then (if s = true then (some false) else (if f = true then (some false) else ((impl_descRead.f k d).bind fun bt432 => (some (bt432.2.1.toList == ([86] : List UInt8)))))) else (some true))))
          (needs d s ≤ l ∧ (initP n → s = false ∧ f = false ∧ (descGot d).2.1.toList = [86])) := by
        refine EvIff.through (g := fun k t431 => (if l < t431 then (some false) else (if n.toList = ([60, 105, 110, 105, 116, 62] : List UInt8) then (if s = true then (some false) else (if f = true then (some false) else ((impl_descRead.f k d).bind fun bt432 => (some (bt432.2.1.toList == ([86] : List UInt8)))))) else (some true)))) sl ?_
        refine EvIff.iff (EvIff.iten (end_iff (G := fun k => (impl_descRead.f k d).bind fun bt432 => (some (bt432.2.1.toList == ([86] : List UInt8)))) (r := (descGot d).2.1) n s f (Ev.bind (g := fun k => impl_descRead.f k d) (f := fun _ (bt432 : DescR) => (some (bt432.2.1.toList == ([86] : List UInt8)))) ⟨60, fun k hk => (impl_desc d (by omega) k hk).trans (congrArg some hdo)⟩ (Ev.now _)))) ?_
        rw [Int.not_lt]
      refine EvIff.step (fun k => ?_) (EvIff.bind (code_impl n d s false f t l cs hs hc hh lc lh) tl)
      simp only [impl_MethodRight.j0]
      rw [if_neg (by simp), if_neg (by simp)]
  have mn : EvIff (fun k => impl_isMethodName.f k n) (NameP n ∨ initP n) := by
    refine EvIff.iff (EvIff.bind2 (name_impl n hn) EvIff.yes (EvIff.val _)) ?_
    unfold initP
    by_cases c : NameP n <;> simp [c]
  have ds : EvIff (fun k => impl_isDesc.f k d) ((descGot d).2.2.2 = 0) := ⟨_, ⟨60, fun k hk => is_desc d k hk⟩, by simp⟩
  have st : ∀ v, EvIff (fun k => impl_within.f v 0 16) (0 ≤ v ∧ v ≤ 16) := by
    intro v
    refine EvIff.iff (EvIff.congr (fun k => rfl) (EvIff.ite (EvIff.val (decide (v ≤ 16))))) ?_
    simp
  have last : EvIff (fun k => (impl_within.f l 0 16).bind fun t429 => (impl_MethodRight.j0 k (!t429) n d s a f t l cs hs)) ((descGot d).2.2.2 = 0 → (0 ≤ l ∧ l ≤ 16) ∧ BodyP n d s a f t l cs hs) ∨ ¬ (descGot d).2.2.2 = 0 := by
    by_cases h0 : (descGot d).2.2.2 = 0
    · refine .inl ?_
      obtain ⟨r, r1, r2⟩ := st l
      refine EvIff.through (g := fun k t429 => (impl_MethodRight.j0 k (!t429) n d s a f t l cs hs)) r1 ?_
      cases r with
      | true => exact EvIff.iff (body h0) (by have := r2.mp rfl; simp [h0, this])
      | false => exact EvIff.iff yes (by have : ¬ (0 ≤ l ∧ l ≤ 16) := fun h => by have := r2.mpr h; cases this
                                         constructor
                                         · intro h; exact h.elim
                                         · intro h; exact this (h h0).1)
    · exact .inr h0
  unfold impl_MethodRight.f HeadP
  rcases last with last | h0
  · refine EvIff.iff (EvIff.bind2 mn (EvIff.bind2 ds (EvIff.bind2 (st t) last yes) yes) yes) ?_
    constructor
    · rintro (⟨h1, ⟨h2, ⟨h3, h4⟩ | h3⟩ | h2⟩ | h1)
      · exact ⟨⟨h1, h2, h3.1, h3.2, (h4 h2).1⟩, (h4 h2).2⟩
      · exact h3.2.elim
      · exact h2.2.elim
      · exact h1.2.elim
    · rintro ⟨⟨h1, h2, h3, h4, h5⟩, h6⟩
      exact .inl ⟨h1, .inl ⟨h2, .inl ⟨⟨h3, h4⟩, fun _ => ⟨h5, h6⟩⟩⟩⟩
  · obtain ⟨r, r1, r2⟩ := ds
    have e : r = false := by
      cases r with
      | true => exact absurd (r2.mp rfl) h0
      | false => rfl
    subst e
    refine EvIff.iff (EvIff.bind2 mn (EvIff.through (h := fun k => impl_isDesc.f k d) (g := fun k t427 => if t427 = true then ((impl_within.f t 0 16).bind fun t428 => (if t428 = true then ((impl_within.f l 0 16).bind fun t429 => (impl_MethodRight.j0 k (!t429) n d s a f t l cs hs)) else (impl_MethodRight.j0 k true n d s a f t l cs hs))) else (impl_MethodRight.j0 k true n d s a f t l cs hs)) r1 (EvIff.congr (fun k => if_neg (by simp)) yes)) yes) ?_
    constructor
    · rintro (h | h)
      · exact h.2.elim
      · exact h.2.elim
    · rintro ⟨⟨_, h, _⟩, _⟩; exact absurd h h0
theorem method_spec (n d : ByteArray) (s a f : Bool) (t l : Int) (cs : List S77) (hs : List S79) (hn : n.size ≤ 1048576) (hd : d.size ≤ 1048576) (hc : ∀ x ∈ cs, ISz x) (hh : ∀ x ∈ hs, x.f3.size ≤ 1048576) (lc : cs.length ≤ 1048576) (lh : hs.length ≤ 1048576) :
    EvIff (fun k => spec_MethodRight.f k n d s a f t l cs hs) (HeadP n d t l ∧ BodyP n d s a f t l cs hs) := by
  obtain ⟨ps, r, q, c, hg⟩ : ∃ ps r q c, descGot d = (ps, r, q, c) := ⟨_, _, _, _, rfl⟩
  have hps := descGot_le d
  have n64 := needs64 d
  unfold HeadP BodyP needs
  rw [hg] at hps n64 ⊢
  simp only at hps n64 ⊢
  have yes : EvIff (fun k => spec_MethodRight.j0 k true n d s a f t l cs hs ps r q c) False := EvIff.step (f := fun _ => some false) (fun k => by simp only [spec_MethodRight.j0, ↓reduceIte]) EvIff.no
  have yes2 : EvIff (fun k => spec_MethodRight.j2 k (cs.length : Int) true n d s a f t l cs hs ps r q c) False := EvIff.step (f := fun _ => some false) (fun k => by simp only [spec_MethodRight.j2, ↓reduceIte]) EvIff.no
  have loop : EvIff (fun k => spec_MethodRight.l0 k (cs.length : Int) 0 n d s a f t l cs hs ps r q c) ((∀ x ∈ cs, InsP x ∧ (JumpP x.f0 → x.f1 < (cs.length : Int))) ∧ (∀ x ∈ hs, HanP cs.length x) ∧ (initP n → s = false ∧ f = false ∧ r.toList = [86])) := by
    refine all_then (z := z77) (C := fun x => InsP x ∧ (JumpP x.f0 → x.f1 < (cs.length : Int))) (L := fun k i => spec_MethodRight.l0 k (cs.length : Int) i n d s a f t l cs hs ps r q c)
      (G := fun k i x => (spec_InsRight.f k x.f0 x.f1 x.f2 x.f3 x.f4).bind fun t402 => (if t402 = true then ((spec_OpForm.f k x.f0).bind fun F => (if F.toList = ([116] : List UInt8) then (if x.f1 ≥ (cs.length : Int) then (some false) else (spec_MethodRight.l0 k (cs.length : Int) (wrap64 (i + 1)) n d s a f t l cs hs ps r q c)) else (spec_MethodRight.l0 k (cs.length : Int) (wrap64 (i + 1)) n d s a f t l cs hs ps r q c))) else (some false)))
      (R := fun k => spec_MethodRight.l1 k (cs.length : Int) 0 n d s a f t l cs hs ps r q c) cs (fun k i => rfl) (fun i x hx Q hQ => ?_) ?_ (by omega)
    · exact EvIff.iff (EvIff.bind (ins_spec x (hc x hx)) (form_then (h := fun k => spec_OpForm.f k x.f0) x.f0 x.f1 (cs.length : Int) (fun F e => by
        obtain ⟨F', e1, e2⟩ := op_form x.f0
        rw [e] at e1; cases e1
        exact ⟨16, e2⟩) hQ)) (by rw [and_assoc])
    · refine all_then (z := z79) (C := fun x => HanP cs.length x) (L := fun k i => spec_MethodRight.l1 k (cs.length : Int) i n d s a f t l cs hs ps r q c)
        (G := fun k i x => (spec_l03Handler.f k x.f0 x.f1 x.f2 x.f3 (cs.length : Int)).bind fun t232 => (if t232 = true then (spec_MethodRight.l1 k (cs.length : Int) (wrap64 (i + 1)) n d s a f t l cs hs ps r q c) else (some false)))
        (R := fun k => if n.toList = ([60, 105, 110, 105, 116, 62] : List UInt8) then (if s = true then (some false) else (if f = true then (some false) else (some (r.toList == ([86] : List UInt8))))) else (some true)) hs (fun k i => rfl) (fun i x hx Q hQ => EvIff.bind (han_spec _ x (hh x hx)) hQ) (end_iff (r := r) n s f (Ev.now _)) (by omega)
  have step1 : ∀ v : Int, EvIff (fun k => spec_MethodRight.j1 k (cs.length : Int) v n d s a f t l cs hs ps r q c) (CodeP cs hs ∧ v ≤ l ∧ (initP n → s = false ∧ f = false ∧ r.toList = [86])) := by
    intro v
    have h6 : EvIff (fun k => spec_MethodRight.j2 k (cs.length : Int) (decide ((hs.length : Int) > 6)) n d s a f t l cs hs ps r q c) (¬ (hs.length : Int) > 6 ∧ ((∀ x ∈ cs, InsP x ∧ (JumpP x.f0 → x.f1 < (cs.length : Int))) ∧ (∀ x ∈ hs, HanP cs.length x) ∧ (initP n → s = false ∧ f = false ∧ r.toList = [86]))) := by
      by_cases c6 : (hs.length : Int) > 6
      · rw [decide_eq_true c6]; exact EvIff.iff yes2 (by simp [c6])
      · rw [decide_eq_false c6]
        exact EvIff.iff (EvIff.step (f := fun k => spec_MethodRight.l0 k (cs.length : Int) 0 n d s a f t l cs hs ps r q c) (fun k => by simp only [spec_MethodRight.j2]; rw [if_neg (by simp)]) loop) (by simp [c6])
    refine EvIff.iff (EvIff.step (fun k => rfl) (EvIff.ite2 yes2 (EvIff.ite2 yes2 (EvIff.ite2 yes2 h6)))) ?_
    unfold CodeP
    constructor
    · rintro (h | ⟨h1, h | ⟨h2, h | ⟨h3, h4, h5, h7, h8⟩⟩⟩)
      · exact h.2.elim
      · exact h.2.elim
      · exact h.2.elim
      · exact ⟨⟨by omega, by omega, by omega, h5, h7⟩, by omega, h8⟩
    · rintro ⟨⟨h1, h2, h3, h5, h7⟩, h4, h8⟩
      exact .inr ⟨by omega, .inr ⟨by omega, .inr ⟨by omega, by omega, h5, h7, h8⟩⟩⟩
  have body : EvIff (fun k => spec_MethodRight.j0 k false n d s a f t l cs hs ps r q c) (if a = true then t = 0 ∧ l = 0 ∧ cs.length = 0 ∧ hs.length = 0 ∧ s = false ∧ f = false ∧ ¬ initP n
      else CodeP cs hs ∧ (if s = true then (ps.length : Int) else (ps.length : Int) + 1) ≤ l ∧ (initP n → s = false ∧ f = false ∧ r.toList = [86])) := by
    cases a with
    | true =>
      rw [if_pos rfl]
      refine EvIff.step (fun k => ?_) (abs_iff n s f t l cs.length hs.length)
      simp only [spec_MethodRight.j0]
      rw [if_neg (by simp), if_pos trivial]
    | false =>
      rw [if_neg (by simp)]
      cases s with
      | true =>
        rw [if_pos rfl]
        refine EvIff.step (fun k => ?_) (step1 (ps.length : Int))
        simp only [spec_MethodRight.j0]
        rw [if_neg (by simp), if_neg (by simp), if_pos trivial]
      | false =>
        rw [if_neg (by simp)]
        refine EvIff.step (fun k => ?_) (step1 ((ps.length : Int) + 1))
        simp only [spec_MethodRight.j0]
        rw [if_neg (by simp), if_neg (by simp), if_neg (by simp), n64]
  have inner : EvIff (fun k => if c = 0 then (if t < 0 then (spec_MethodRight.j0 k true n d s a f t l cs hs ps r q c) else (if t > 16 then (spec_MethodRight.j0 k true n d s a f t l cs hs ps r q c) else (if l < 0 then (spec_MethodRight.j0 k true n d s a f t l cs hs ps r q c) else (spec_MethodRight.j0 k (decide (l > 16)) n d s a f t l cs hs ps r q c)))) else (spec_MethodRight.j0 k true n d s a f t l cs hs ps r q c))
      ((c = 0 ∧ 0 ≤ t ∧ t ≤ 16 ∧ 0 ≤ l ∧ l ≤ 16) ∧ (if a = true then t = 0 ∧ l = 0 ∧ cs.length = 0 ∧ hs.length = 0 ∧ s = false ∧ f = false ∧ ¬ initP n
      else CodeP cs hs ∧ (if s = true then (ps.length : Int) else (ps.length : Int) + 1) ≤ l ∧ (initP n → s = false ∧ f = false ∧ r.toList = [86]))) := by
    generalize hB : (if a = true then t = 0 ∧ l = 0 ∧ cs.length = 0 ∧ hs.length = 0 ∧ s = false ∧ f = false ∧ ¬ initP n
      else CodeP cs hs ∧ (if s = true then (ps.length : Int) else (ps.length : Int) + 1) ≤ l ∧ (initP n → s = false ∧ f = false ∧ r.toList = [86])) = B at body ⊢
    have h16 : EvIff (fun k => spec_MethodRight.j0 k (decide (l > 16)) n d s a f t l cs hs ps r q c) (¬ l > 16 ∧ B) := by
      by_cases c6 : l > 16
      · rw [decide_eq_true c6]; exact EvIff.iff yes (by simp [c6])
      · rw [decide_eq_false c6]; exact EvIff.iff body (by simp [c6])
    refine EvIff.iff (EvIff.ite2 (EvIff.ite2 yes (EvIff.ite2 yes (EvIff.ite2 yes h16))) yes) ?_
    constructor
    · rintro (⟨h0, h | ⟨h1, h | ⟨h2, h | ⟨h3, h4, h5⟩⟩⟩⟩ | h)
      · exact h.2.elim
      · exact h.2.elim
      · exact h.2.elim
      · exact ⟨⟨h0, by omega, by omega, by omega, by omega⟩, h5⟩
      · exact h.2.elim
    · rintro ⟨⟨h0, h1, h2, h3, h4⟩, h5⟩
      exact .inl ⟨h0, .inr ⟨by omega, .inr ⟨by omega, .inr ⟨by omega, by omega, h5⟩⟩⟩⟩
  have hd2 : Ev (fun k => spec_DescRead.f k d) (ps, r, q, c) := ⟨60, fun k hk => (spec_Desc d k hk).trans (congrArg some hg)⟩
  refine EvIff.iff (EvIff.through (h := fun k => spec_DescRead.f k d) hd2 (EvIff.congr (fun k => rfl) (EvIff.bind2 (name_spec n hn) inner (EvIff.ite2 (c := n.toList = ([60, 105, 110, 105, 116, 62] : List UInt8)) inner yes)))) ?_
  unfold initP
  by_cases c1 : NameP n
  · simp [c1, and_assoc]
  · by_cases c2 : n.toList = ([60, 105, 110, 105, 116, 62] : List UInt8)
    · simp [c1, c2, and_assoc]
    · simp [c1, c2]

theorem run_then {L : Nat → Int → Option Bool} {C : Nat → Prop} {P : Prop} (n : Nat)
    (hL : ∀ j, j < n → ∀ Q : Prop, EvIff (fun k => L k ((j + 1 : Nat) : Int)) Q → EvIff (fun k => L k (j : Int)) (C j ∧ Q)) (hE : EvIff (fun k => L k (n : Int)) P) : EvIff (fun k => L k 0) ((∀ j, j < n → C j) ∧ P) := by
  have key : ∀ (d i : Nat), i + d = n → EvIff (fun k => L k (i : Int)) ((∀ j, i ≤ j → j < n → C j) ∧ P) := by
    intro d
    induction d with
    | zero =>
      intro i hd
      have e : i = n := by omega
      subst e
      exact EvIff.iff hE ⟨fun h => ⟨fun j h1 h2 => by omega, h⟩, fun h => h.2⟩
    | succ d ih =>
      intro i hd
      refine EvIff.iff (hL i (by omega) _ (ih (i + 1) (by omega))) ?_
      constructor
      · rintro ⟨h1, h2, h3⟩
        refine ⟨fun j h4 h5 => ?_, h3⟩
        by_cases e : j = i
        · subst e; exact h1
        · exact h2 j (by omega) h5
      · rintro ⟨h1, h2⟩
        exact ⟨h1 i (Nat.le_refl _) (by omega), fun j h4 h5 => h1 j (by omega) h5, h2⟩
  exact EvIff.iff (key n 0 (by omega)) ⟨fun h => ⟨fun j hj => h.1 j (Nat.zero_le _) hj, h.2⟩, fun h => ⟨fun j _ hj => h.1 j hj, h.2⟩⟩
theorem getD_in {α : Type} {a : List α} {z : α} {i : Nat} (h : i < a.length) : a.getD i z ∈ a := by
  have e : a.getD i z = a[i] := by simp [List.getD_eq_getElem?_getD, List.getElem?_eq_getElem h]
  rw [e]; exact List.getElem_mem h
/-- 'The first is at i', where it holds at i. -/
theorem first_iff {α : Type} {z : α} {B : α → Prop} {a : List α} {r : Int} (hr : (r = -1 ∧ ∀ x ∈ a, ¬ B x) ∨ ∃ n : Nat, r = n ∧ ∃ h : n < a.length, B a[n] ∧ ∀ j, (hj : j < n) → ¬ B (a[j]'(by omega))) (i : Nat) (hi : i < a.length) (hB : B (a.getD i z)) :
    r = (i : Int) ↔ ∀ j, j < i → ¬ B (a.getD j z) := by
  have e : ∀ j, (h : j < a.length) → a.getD j z = a[j] := fun j h => by simp [List.getD_eq_getElem?_getD, List.getElem?_eq_getElem h]
  rcases hr with ⟨_, h⟩ | ⟨n, e1, h2, h3, h4⟩
  · exact absurd hB (h _ (getD_in hi))
  · subst e1
    constructor
    · intro h j hj
      have : n = i := by omega
      subst this
      rw [e j (by omega)]; exact h4 j hj
    · intro h
      by_cases c1 : n < i
      · exact absurd h3 (by rw [← e n h2]; exact h n c1)
      · by_cases c2 : i < n
        · rw [e i hi] at hB; exact absurd hB (h4 i c2)
        · omega
/-- What is told by a place is told so: the answer is the place. -/
theorem place_then {G : Nat → Option Int} {L : Nat → Option Bool} {r i : Int} {Q : Prop} (hG : Ev G r) (hQ : EvIff L Q) : EvIff (fun k => (G k).bind fun t => if t = i then L k else some false) (r = i ∧ Q) :=
  EvIff.through (g := fun k t => if t = i then L k else some false) hG (EvIff.ite hQ)
def FieldP (fs : List S67) (i : Nat) : Prop := NameP (fs.getD i z67).f0 ∧ tright (fs.getD i z67).f1 = true ∧ ∀ j, j < i → ¬ (fs.getD j z67).f0.toList = (fs.getD i z67).f0.toList
def MethB (x : S71) : Prop := HeadP x.f0 x.f1 x.f5 x.f6 ∧ BodyP x.f0 x.f1 x.f2 x.f3 x.f4 x.f5 x.f6 x.f7 x.f8
def MethP (b : Bool) (ms : List S71) (i : Nat) : Prop := MethB (ms.getD i z71) ∧ ((ms.getD i z71).f3 = true → b = true) ∧ ∀ j, j < i → ¬ ((ms.getD j z71).f0.toList = (ms.getD i z71).f0.toList ∧ (ms.getD j z71).f1.toList = (ms.getD i z71).f1.toList)
def FSz (x : S67) : Prop := x.f0.size ≤ 1048576 ∧ x.f1.size ≤ 1048576
def MAll (x : S71) : Prop := x.f0.size ≤ 1048576 ∧ x.f1.size ≤ 1048576 ∧ (∀ i ∈ x.f7, ISz i) ∧ (∀ h ∈ x.f8, h.f3.size ≤ 1048576) ∧ x.f7.length ≤ 1048576 ∧ x.f8.length ≤ 1048576
theorem type_spec (d : ByteArray) : EvIff (fun k => spec_TypeRight.f k d) (tright d = true) := ⟨_, ⟨40, fun k hk => spec_right_all d k (by omega)⟩, Iff.rfl⟩
theorem type_impl (d : ByteArray) (h : d.size ≤ 1048576) : EvIff (fun k => impl_typeRight.f k d) (tright d = true) := ⟨_, ⟨40, fun k hk => impl_right d (by omega) k (by omega)⟩, Iff.rfl⟩
theorem meth_spec (x : S71) (h : MAll x) : EvIff (fun k => spec_MethodRight.f k x.f0 x.f1 x.f2 x.f3 x.f4 x.f5 x.f6 x.f7 x.f8) (MethB x) :=
  method_spec _ _ _ _ _ _ _ _ _ h.1 h.2.1 h.2.2.1 h.2.2.2.1 h.2.2.2.2.1 h.2.2.2.2.2
theorem meth_impl (x : S71) (h : MAll x) : EvIff (fun k => impl_MethodRight.f k x.f0 x.f1 x.f2 x.f3 x.f4 x.f5 x.f6 x.f7 x.f8) (MethB x) :=
  method_impl _ _ _ _ _ _ _ _ _ h.1 h.2.1 h.2.2.1 h.2.2.2.1 h.2.2.2.2.1 h.2.2.2.2.2
theorem if_and {α : Type} {A B : Prop} [Decidable A] [Decidable B] (x y : α) : (if A then (if B then x else y) else y) = if A ∧ B then x else y := by
  by_cases a : A
  · by_cases b : B
    · rw [if_pos a, if_pos b, if_pos ⟨a, b⟩]
    · rw [if_pos a, if_neg b, if_neg (fun h => b h.2)]
  · rw [if_neg a, if_neg (fun h => a h.1)]
def LoopP (b : Bool) (fs : List S67) (ms : List S71) : Prop := (∀ i, i < fs.length → FieldP fs i) ∧ (∀ i, i < ms.length → MethP b ms i)
theorem class_loops_spec (n s : ByteArray) (f b : Bool) (fs : List S67) (ms : List S71) (l4 : fs.length ≤ 1048576) (l5 : ms.length ≤ 1048576) (hm : ∀ x ∈ ms, MAll x) (hf : ∀ x ∈ fs, FSz x) :
    EvIff (fun k => spec_ClassRight.l0 k 0 n s f b fs ms) (LoopP b fs ms) := by
  have i64 : ∀ i : Nat, i < 1048576 → wrap64 ((i : Int) + 1) = ((i + 1 : Nat) : Int) := fun i h => up64 h (by omega)
  refine run_then (L := fun k i => spec_ClassRight.l0 k i n s f b fs ms) fs.length (fun i hi Q hQ => ?_) (EvIff.step (f := fun k => spec_ClassRight.l2 k 0 n s f b fs ms) (fun k => by simp only [spec_ClassRight.l0]; rw [if_neg (by omega)]) ?_)
  · have yes : EvIff (fun k => spec_ClassRight.j2 k (i : Int) true n s f b fs ms) False := EvIff.step (f := fun _ => some false) (fun k => by simp only [spec_ClassRight.j2, ↓reduceIte]) EvIff.no
    have inner : EvIff (fun k => spec_ClassRight.l1 k (i : Int) 0 n s f b fs ms) ((∀ j, j < i → ¬ (fs.getD j z67).f0.toList = (fs.getD i z67).f0.toList) ∧ Q) := by
      refine run_then (L := fun k j => spec_ClassRight.l1 k (i : Int) j n s f b fs ms) i (fun j hj Q' hQ' => ?_) (EvIff.step (f := fun k => spec_ClassRight.l0 k ((i + 1 : Nat) : Int) n s f b fs ms) (fun k => by simp only [spec_ClassRight.l1]; rw [if_neg (by omega), i64 i (by omega)]) hQ)
      refine EvIff.step (f := fun k => if (fs.getD j z67).f0.toList = (fs.getD i z67).f0.toList then (some false) else (spec_ClassRight.l1 k (i : Int) ((j + 1 : Nat) : Int) n s f b fs ms)) (fun k => ?_) (EvIff.iten hQ')
      simp only [spec_ClassRight.l1]
      rw [if_pos (by omega), if_pos (by omega), if_pos (by omega), if_pos (by omega), if_pos (by omega), i64 j (by omega)]; rfl
    have nx : EvIff (fun k => spec_ClassRight.j2 k (i : Int) false n s f b fs ms) ((∀ j, j < i → ¬ (fs.getD j z67).f0.toList = (fs.getD i z67).f0.toList) ∧ Q) := EvIff.step (f := fun k => spec_ClassRight.l1 k (i : Int) 0 n s f b fs ms) (fun k => by simp only [spec_ClassRight.j2]; rw [if_neg (by simp)]) inner
    have ty : EvIff (fun k => (spec_TypeRight.f k (fs.getD i z67).f1).bind fun t345 => (spec_ClassRight.j2 k (i : Int) (!t345) n s f b fs ms)) (tright (fs.getD i z67).f1 = true ∧ ((∀ j, j < i → ¬ (fs.getD j z67).f0.toList = (fs.getD i z67).f0.toList) ∧ Q)) := by
      obtain ⟨r, r1, r2⟩ := type_spec (fs.getD i z67).f1
      refine EvIff.through (g := fun k t345 => (spec_ClassRight.j2 k (i : Int) (!t345) n s f b fs ms)) r1 ?_
      rw [← r2]
      cases r with
      | true => exact EvIff.iff nx (by simp)
      | false => exact EvIff.iff yes (by simp)
    refine EvIff.iff (EvIff.step (fun k => ?_) (EvIff.bind2 (name_spec (fs.getD i z67).f0 (hf _ (getD_in hi)).1) ty yes)) ?_
    · simp only [spec_ClassRight.l0]
      rw [if_pos (by omega), if_pos (by omega)]; rfl
    · unfold FieldP
      constructor
      · rintro (⟨h1, h2, h3, h4⟩ | h)
        · exact ⟨⟨h1, h2, h3⟩, h4⟩
        · exact h.2.elim
      · rintro ⟨⟨h1, h2, h3⟩, h4⟩
        exact .inl ⟨h1, h2, h3, h4⟩
  · refine EvIff.iff (run_then (L := fun k i => spec_ClassRight.l2 k i n s f b fs ms) (P := True) (C := MethP b ms) ms.length (fun i hi Q hQ => ?_) (EvIff.step (f := fun _ => some true) (fun k => by simp only [spec_ClassRight.l2]; rw [if_neg (by omega)]) EvIff.yes)) (by simp)
    obtain ⟨x, hx⟩ : ∃ x, x = ms.getD i z71 := ⟨_, rfl⟩
    have yes : EvIff (fun k => spec_ClassRight.j5 k (i : Int) true n s f b fs ms x.f0 x.f1 x.f2 x.f3 x.f4 x.f5 x.f6 x.f7 x.f8) False := EvIff.step (f := fun _ => some false) (fun k => by simp only [spec_ClassRight.j5, ↓reduceIte]) EvIff.no
    have inner : EvIff (fun k => spec_ClassRight.l3 k (i : Int) 0 n s f b fs ms x.f0 x.f1 x.f2 x.f3 x.f4 x.f5 x.f6 x.f7 x.f8) ((∀ j, j < i → ¬ ((ms.getD j z71).f0.toList = x.f0.toList ∧ (ms.getD j z71).f1.toList = x.f1.toList)) ∧ Q) := by
      refine run_then (L := fun k j => spec_ClassRight.l3 k (i : Int) j n s f b fs ms x.f0 x.f1 x.f2 x.f3 x.f4 x.f5 x.f6 x.f7 x.f8) i (fun j hj Q' hQ' => ?_) (EvIff.step (f := fun k => spec_ClassRight.l2 k ((i + 1 : Nat) : Int) n s f b fs ms) (fun k => by simp only [spec_ClassRight.l3]; rw [if_neg (by omega), i64 i (by omega)]) hQ)
      refine EvIff.step (f := fun k => if (ms.getD j z71).f0.toList = x.f0.toList ∧ (ms.getD j z71).f1.toList = x.f1.toList then (some false) else (spec_ClassRight.l3 k (i : Int) ((j + 1 : Nat) : Int) n s f b fs ms x.f0 x.f1 x.f2 x.f3 x.f4 x.f5 x.f6 x.f7 x.f8)) (fun k => ?_) (EvIff.iten hQ')
      simp only [spec_ClassRight.l3]
      rw [if_pos (by omega), if_pos (by omega), if_pos (by omega), i64 j (by omega), ← if_and]; rfl
    have nx : EvIff (fun k => spec_ClassRight.j5 k (i : Int) false n s f b fs ms x.f0 x.f1 x.f2 x.f3 x.f4 x.f5 x.f6 x.f7 x.f8) ((∀ j, j < i → ¬ ((ms.getD j z71).f0.toList = x.f0.toList ∧ (ms.getD j z71).f1.toList = x.f1.toList)) ∧ Q) := EvIff.step (f := fun k => spec_ClassRight.l3 k (i : Int) 0 n s f b fs ms x.f0 x.f1 x.f2 x.f3 x.f4 x.f5 x.f6 x.f7 x.f8) (fun k => by simp only [spec_ClassRight.j5]; rw [if_neg (by simp)]) inner
    have ab : EvIff (fun k => spec_ClassRight.j5 k (i : Int) (!b) n s f b fs ms x.f0 x.f1 x.f2 x.f3 x.f4 x.f5 x.f6 x.f7 x.f8) (b = true ∧ ((∀ j, j < i → ¬ ((ms.getD j z71).f0.toList = x.f0.toList ∧ (ms.getD j z71).f1.toList = x.f1.toList)) ∧ Q)) := by
      cases b with
      | true => exact EvIff.iff nx (by simp)
      | false => exact EvIff.iff yes (by simp)
    refine EvIff.iff (EvIff.step (fun k => ?_) (EvIff.bind2 (meth_spec x (by rw [hx]; exact hm _ (getD_in hi))) (EvIff.ite2 (c := x.f3 = true) ab nx) yes)) ?_
    · simp only [spec_ClassRight.l2]
      rw [if_pos (by omega), if_pos (by omega), hx]; rfl
    · unfold MethP
      rw [← hx]
      constructor
      · rintro (⟨h1, ⟨h2, h3, h4⟩ | ⟨h2, h4⟩⟩ | h)
        · exact ⟨⟨h1, fun _ => h3, h4.1⟩, h4.2⟩
        · exact ⟨⟨h1, fun h => absurd h h2, h4.1⟩, h4.2⟩
        · exact h.2.elim
      · rintro ⟨⟨h1, h2, h3⟩, h4⟩
        by_cases c : x.f3 = true
        · exact .inl ⟨h1, .inl ⟨c, h2 c, h3, h4⟩⟩
        · exact .inl ⟨h1, .inr ⟨c, h3, h4⟩⟩
theorem field_at (fs : List S67) (l4 : fs.length ≤ 1048576) (t : ByteArray) : ∃ r : Int, Ev (fun k => impl_Field.f k fs t) r ∧ ((r = -1 ∧ ∀ x ∈ fs, ¬ x.f0.toList = t.toList) ∨ ∃ n : Nat, r = n ∧ ∃ h : n < fs.length, fs[n].f0.toList = t.toList ∧ ∀ j, (hj : j < n) → ¬ (fs[j]'(by omega)).f0.toList = t.toList) :=
  idx_list (z := z67) (L := fun k i => impl_Field.l0 k fs (fs.length : Int) i t) (E := fun k x => impl_Class_fieldAt_1.f x.f0 x.f1 x.f2 t) (B := fun x => x.f0.toList = t.toList) fs (fun k i => rfl) (fun x hx => EvIff.iff (EvIff.congr (fun k => rfl) (EvIff.val (x.f0.toList == t.toList))) (by simp)) (by omega)
theorem method_at (ms : List S71) (l5 : ms.length ≤ 1048576) (t d : ByteArray) : ∃ r : Int, Ev (fun k => impl_Method.f k ms t d) r ∧ ((r = -1 ∧ ∀ x ∈ ms, ¬ (x.f0.toList = t.toList ∧ x.f1.toList = d.toList)) ∨ ∃ n : Nat, r = n ∧ ∃ h : n < ms.length, (ms[n].f0.toList = t.toList ∧ ms[n].f1.toList = d.toList) ∧ ∀ j, (hj : j < n) → ¬ ((ms[j]'(by omega)).f0.toList = t.toList ∧ (ms[j]'(by omega)).f1.toList = d.toList)) :=
  idx_list (z := z71) (L := fun k i => impl_Method.l0 k ms (ms.length : Int) i t d) (E := fun k x => impl_Class_methodAt_1.f x.f0 x.f1 x.f2 x.f3 x.f4 x.f5 x.f6 x.f7 x.f8 t d) (B := fun x => x.f0.toList = t.toList ∧ x.f1.toList = d.toList) ms (fun k i => rfl) (fun x hx => EvIff.iff (EvIff.congr (fun k => rfl) (EvIff.ite (EvIff.val (x.f1.toList == d.toList)))) (by simp)) (by omega)
theorem class_loops_impl (n s : ByteArray) (f b : Bool) (fs : List S67) (ms : List S71) (l4 : fs.length ≤ 1048576) (l5 : ms.length ≤ 1048576) (hm : ∀ x ∈ ms, MAll x) (hf : ∀ x ∈ fs, FSz x) :
    EvIff (fun k => impl_ClassRight.l0 k fs (fs.length : Int) 0 n s f b fs ms) (LoopP b fs ms) := by
  have i64 : ∀ i : Nat, i < 1048576 → wrap64 ((i : Int) + 1) = ((i + 1 : Nat) : Int) := fun i h => up64 h (by omega)
  refine run_then (L := fun k i => impl_ClassRight.l0 k fs (fs.length : Int) i n s f b fs ms) fs.length (fun i hi Q hQ => ?_) (EvIff.step (f := fun k => impl_ClassRight.l1 k ms (ms.length : Int) 0 n s f b fs ms) (fun k => by simp only [impl_ClassRight.l0]; rw [if_neg (by omega)]) ?_)
  · obtain ⟨r, r1, r2⟩ := field_at fs l4 (fs.getD i z67).f0
    have r3 := first_iff (z := z67) (B := fun x => x.f0.toList = (fs.getD i z67).f0.toList) r2 i hi rfl
    have r4 : Ev (fun k => impl_Class_fieldAt.f k n s f b fs ms (fs.getD i z67).f0) r := Ev.bind (f := fun _ t => some t) r1 (Ev.now _)
    refine EvIff.iff (EvIff.step (fun k => ?_) (EvIff.bind (name_impl (fs.getD i z67).f0 (hf _ (getD_in hi)).1) (EvIff.bind (type_impl (fs.getD i z67).f1 (hf _ (getD_in hi)).2) (place_then (i := (i : Int)) r4 hQ)))) ?_
    · simp only [impl_ClassRight.l0]
      rw [if_pos (by omega), if_pos (by omega), if_pos (by omega), i64 i (by omega)]; rfl
    · unfold FieldP
      rw [r3, and_assoc, and_assoc]
  · refine EvIff.iff (run_then (L := fun k i => impl_ClassRight.l1 k ms (ms.length : Int) i n s f b fs ms) (P := True) (C := MethP b ms) ms.length (fun i hi Q hQ => ?_) (EvIff.step (f := fun _ => some true) (fun k => by simp only [impl_ClassRight.l1]; rw [if_neg (by omega)]) EvIff.yes)) (by simp)
    obtain ⟨x, hx⟩ : ∃ x, x = ms.getD i z71 := ⟨_, rfl⟩
    obtain ⟨r, r1, r2⟩ := method_at ms l5 x.f0 x.f1
    have r3 := first_iff (z := z71) (B := fun y => y.f0.toList = x.f0.toList ∧ y.f1.toList = x.f1.toList) r2 i hi (by rw [← hx]; exact ⟨rfl, rfl⟩)
    have r4 : Ev (fun k => impl_Class_methodAt.f k n s f b fs ms x.f0 x.f1) r := Ev.bind (f := fun _ t => some t) r1 (Ev.now _)
    have p := place_then (i := (i : Int)) r4 hQ
    refine EvIff.iff (EvIff.step (fun k => ?_) (EvIff.bind (meth_impl x (by rw [hx]; exact hm _ (getD_in hi))) (EvIff.ite2 (c := x.f3 = true) (EvIff.ite (c := b = true) p) p))) ?_
    · simp only [impl_ClassRight.l1]
      rw [if_pos (by omega), if_pos (by omega), if_pos (by omega), i64 i (by omega), hx]; rfl
    · unfold MethP
      rw [← hx, r3]
      constructor
      · rintro ⟨h1, ⟨h2, h3, h4⟩ | ⟨h2, h4⟩⟩
        · exact ⟨⟨h1, fun _ => h3, h4.1⟩, h4.2⟩
        · exact ⟨⟨h1, fun h => absurd h h2, h4.1⟩, h4.2⟩
      · rintro ⟨⟨h1, h2, h3⟩, h4⟩
        by_cases c : x.f3 = true
        · exact ⟨h1, .inl ⟨c, h2 c, h3, h4⟩⟩
        · exact ⟨h1, .inr ⟨c, h3, h4⟩⟩
theorem class_head {N : Nat → ByteArray → Option Bool} {J : Nat → Bool → Option Bool} {P : Prop} (n s : ByteArray) (f b : Bool) (lf lm : Nat) (hn : EvIff (fun k => N k n) (NameP n)) (hs : EvIff (fun k => N k s) (NameP s)) (yes : EvIff (fun k => J k true) False) (hj : EvIff (fun k => J k false) P) :
    EvIff (fun k => (N k n).bind fun t340 => (if t340 = true then ((N k s).bind fun t341 => (if t341 = true then (if n.toList = s.toList then (J k true) else (if f = true then (if b = true then (J k true) else (if (lf : Int) > 8 then (J k true) else (J k (decide ((lm : Int) > 10))))) else (if (lf : Int) > 8 then (J k true) else (J k (decide ((lm : Int) > 10)))))) else (J k true))) else (J k true)))
      (NameP n ∧ NameP s ∧ ¬ n.toList = s.toList ∧ ¬ (f = true ∧ b = true) ∧ lf ≤ 8 ∧ lm ≤ 10 ∧ P) := by
  have h10 : EvIff (fun k => J k (decide ((lm : Int) > 10))) (¬ (lm : Int) > 10 ∧ P) := by
    by_cases c : (lm : Int) > 10
    · rw [decide_eq_true c]; exact EvIff.iff yes (by simp [c])
    · rw [decide_eq_false c]; exact EvIff.iff hj (by simp [c])
  have h8 := EvIff.ite2 (c := (lf : Int) > 8) yes h10
  refine EvIff.iff (EvIff.bind2 hn (EvIff.bind2 hs (EvIff.ite2 (c := n.toList = s.toList) yes (EvIff.ite2 (c := f = true) (EvIff.ite2 (c := b = true) yes h8) h8)) yes) yes) ?_
  constructor
  · rintro (⟨h1, ⟨h2, h | ⟨h3, ⟨h4, h | ⟨h5, h | ⟨h6, h7, h9⟩⟩⟩ | ⟨h4, h | ⟨h6, h7, h9⟩⟩⟩⟩ | h⟩ | h)
    · exact h.2.elim
    · exact h.2.elim
    · exact h.2.elim
    · exact ⟨h1, h2, h3, fun h => h5 h.2, by omega, by omega, h9⟩
    · exact h.2.elim
    · exact ⟨h1, h2, h3, fun h => h4 h.1, by omega, by omega, h9⟩
    · exact h.2.elim
    · exact h.2.elim
  · rintro ⟨h1, h2, h3, h4, h5, h6, h7⟩
    refine .inl ⟨h1, .inl ⟨h2, .inr ⟨h3, ?_⟩⟩⟩
    by_cases c : f = true
    · exact .inl ⟨c, .inr ⟨fun h => h4 ⟨c, h⟩, .inr ⟨by omega, by omega, h7⟩⟩⟩
    · exact .inr ⟨c, .inr ⟨by omega, by omega, h7⟩⟩
theorem class_right_same (n s : ByteArray) (f b : Bool) (fs : List S67) (ms : List S71) (hn : n.size ≤ 1048576) (hs : s.size ≤ 1048576) (l4 : fs.length ≤ 1048576) (l5 : ms.length ≤ 1048576) (hm : ∀ x ∈ ms, MAll x) (hf : ∀ x ∈ fs, FSz x) :
    ∃ r, Ev (fun k => spec_ClassRight.f k n s f b fs ms) r ∧ Ev (fun k => impl_ClassRight.f k n s f b fs ms) r := by
  have y1 : EvIff (fun k => spec_ClassRight.j0 k true n s f b fs ms) False := EvIff.step (f := fun _ => some false) (fun k => by simp only [spec_ClassRight.j0, ↓reduceIte]) EvIff.no
  have y2 : EvIff (fun k => impl_ClassRight.j0 k true n s f b fs ms) False := EvIff.step (f := fun _ => some false) (fun k => by simp only [impl_ClassRight.j0, ↓reduceIte]) EvIff.no
  have n1 : EvIff (fun k => spec_ClassRight.j0 k false n s f b fs ms) (LoopP b fs ms) := EvIff.step (f := fun k => spec_ClassRight.l0 k 0 n s f b fs ms) (fun k => by simp only [spec_ClassRight.j0]; rw [if_neg (by simp)]) (class_loops_spec n s f b fs ms l4 l5 hm hf)
  have n2 : EvIff (fun k => impl_ClassRight.j0 k false n s f b fs ms) (LoopP b fs ms) := EvIff.step (f := fun k => impl_ClassRight.l0 k fs (fs.length : Int) 0 n s f b fs ms) (fun k => by simp only [impl_ClassRight.j0]; rw [if_neg (by simp)]) (class_loops_impl n s f b fs ms l4 l5 hm hf)
  exact EvIff.same (EvIff.congr (fun k => rfl) (class_head (N := fun k t => spec_NameRight.f k t) (J := fun k t => spec_ClassRight.j0 k t n s f b fs ms) n s f b fs.length ms.length (name_spec n hn) (name_spec s hs) y1 n1)) (EvIff.congr (fun k => rfl) (class_head (N := fun k t => impl_NameRight.f k t) (J := fun k t => impl_ClassRight.j0 k t n s f b fs ms) n s f b fs.length ms.length (name_impl n hn) (name_impl s hs) y2 n2))

theorem eqv_Ins (x y : S77) : EvIff (fun k => laws_eqIns.f x.f0 x.f1 x.f2 x.f3 x.f4 y.f0 y.f1 y.f2 y.f3 y.f4) (x = y) := by
  obtain ⟨a0, a1, a2, a3, a4⟩ := x
  obtain ⟨b0, b1, b2, b3, b4⟩ := y
  unfold laws_eqIns.f
  refine EvIff.iff (EvIff.ite (EvIff.ite (EvIff.ite (EvIff.ite (EvIff.ite EvIff.yes))))) ?_
  rw [toList_eq, toList_eq, toList_eq]
  simp
theorem eqv_InsS (a b : List S77) (ha : a.length ≤ 1048576) : EvIff (fun k => laws_eqInsS.f k a b) (a = b) := by
  by_cases hl : a.length = b.length
  · refine EvIff.congr (f := fun k => laws_eqInsS.l0 k a b 0) (fun k => by unfold laws_eqInsS.f; rw [if_pos (by omega)]) ?_
    exact eq_list (z := z77) (E := fun k x y => laws_eqIns.f x.f0 x.f1 x.f2 x.f3 x.f4 y.f0 y.f1 y.f2 y.f3 y.f4) (fun k a b i => rfl) a b (fun x _ y _ => eqv_Ins x y) hl (by omega)
  · exact EvIff.iff (EvIff.congr (f := fun _ => some false) (fun k => by unfold laws_eqInsS.f; rw [if_neg (by omega)]) EvIff.no) ⟨fun h => h.elim, fun h => hl (congrArg List.length h)⟩
theorem eqv_Handler (x y : S79) : EvIff (fun k => laws_eqHandler.f x.f0 x.f1 x.f2 x.f3 y.f0 y.f1 y.f2 y.f3) (x = y) := by
  obtain ⟨a0, a1, a2, a3⟩ := x
  obtain ⟨b0, b1, b2, b3⟩ := y
  unfold laws_eqHandler.f
  refine EvIff.iff (EvIff.ite (EvIff.ite (EvIff.ite (EvIff.ite EvIff.yes)))) ?_
  rw [toList_eq]
  simp
theorem eqv_HandlerS (a b : List S79) (ha : a.length ≤ 1048576) : EvIff (fun k => laws_eqHandlerS.f k a b) (a = b) := by
  by_cases hl : a.length = b.length
  · refine EvIff.congr (f := fun k => laws_eqHandlerS.l0 k a b 0) (fun k => by unfold laws_eqHandlerS.f; rw [if_pos (by omega)]) ?_
    exact eq_list (z := z79) (E := fun k x y => laws_eqHandler.f x.f0 x.f1 x.f2 x.f3 y.f0 y.f1 y.f2 y.f3) (fun k a b i => rfl) a b (fun x _ y _ => eqv_Handler x y) hl (by omega)
  · exact EvIff.iff (EvIff.congr (f := fun _ => some false) (fun k => by unfold laws_eqHandlerS.f; rw [if_neg (by omega)]) EvIff.no) ⟨fun h => h.elim, fun h => hl (congrArg List.length h)⟩
theorem eqv_MethodF (a0 a1 : ByteArray) (a2 a3 a4 : Bool) (a5 a6 : Int) (a7 : List S77) (a8 : List S79) (b0 b1 : ByteArray) (b2 b3 b4 : Bool) (b5 b6 : Int) (b7 : List S77) (b8 : List S79) (h7 : a7.length ≤ 1048576) (h8 : a8.length ≤ 1048576) :
    EvIff (fun k => laws_eqMethod.f k a0 a1 a2 a3 a4 a5 a6 a7 a8 b0 b1 b2 b3 b4 b5 b6 b7 b8) (a0 = b0 ∧ a1 = b1 ∧ a2 = b2 ∧ a3 = b3 ∧ a4 = b4 ∧ a5 = b5 ∧ a6 = b6 ∧ a7 = b7 ∧ a8 = b8) := by
  unfold laws_eqMethod.f
  refine EvIff.iff (EvIff.ite (EvIff.ite (EvIff.iten (EvIff.iten (EvIff.iten (EvIff.ite (EvIff.ite (EvIff.bind (eqv_InsS _ _ h7) (EvIff.bind (eqv_HandlerS _ _ h8) EvIff.yes))))))))) ?_
  rw [toList_eq, toList_eq]
  simp

theorem eqv_Method (x y : S71) (h7 : x.f7.length ≤ 1048576) (h8 : x.f8.length ≤ 1048576) : EvIff (fun k => laws_eqMethod.f k x.f0 x.f1 x.f2 x.f3 x.f4 x.f5 x.f6 x.f7 x.f8 y.f0 y.f1 y.f2 y.f3 y.f4 y.f5 y.f6 y.f7 y.f8) (x = y) := by
  obtain ⟨a0, a1, a2, a3, a4, a5, a6, a7, a8⟩ := x
  obtain ⟨b0, b1, b2, b3, b4, b5, b6, b7, b8⟩ := y
  exact EvIff.iff (eqv_MethodF _ _ _ _ _ _ _ _ _ _ _ _ _ _ _ _ _ _ h7 h8) (by simp)
/-- How long a method's lists are. -/
def MSz (x : S71) : Prop := x.f7.length ≤ 1048576 ∧ x.f8.length ≤ 1048576
theorem eqv_Field (x y : S67) : EvIff (fun k => laws_eqField.f x.f0 x.f1 x.f2 y.f0 y.f1 y.f2) (x = y) := by
  obtain ⟨a0, a1, a2⟩ := x
  obtain ⟨b0, b1, b2⟩ := y
  unfold laws_eqField.f
  refine EvIff.iff (EvIff.ite (EvIff.ite (EvIff.iten EvIff.yes))) ?_
  rw [toList_eq, toList_eq]
  simp
theorem eqv_FieldS (a b : List S67) (ha : a.length ≤ 1048576) : EvIff (fun k => laws_eqFieldS.f k a b) (a = b) := by
  by_cases hl : a.length = b.length
  · refine EvIff.congr (f := fun k => laws_eqFieldS.l0 k a b 0) (fun k => by unfold laws_eqFieldS.f; rw [if_pos (by omega)]) ?_
    exact eq_list (z := z67) (E := fun k x y => laws_eqField.f x.f0 x.f1 x.f2 y.f0 y.f1 y.f2) (fun k a b i => rfl) a b (fun x _ y _ => eqv_Field x y) hl (by omega)
  · exact EvIff.iff (EvIff.congr (f := fun _ => some false) (fun k => by unfold laws_eqFieldS.f; rw [if_neg (by omega)]) EvIff.no) ⟨fun h => h.elim, fun h => hl (congrArg List.length h)⟩
theorem eqv_MethodS (a b : List S71) (ha : a.length ≤ 1048576) (hm : ∀ x ∈ a, MSz x) : EvIff (fun k => laws_eqMethodS.f k a b) (a = b) := by
  by_cases hl : a.length = b.length
  · refine EvIff.congr (f := fun k => laws_eqMethodS.l0 k a b 0) (fun k => by unfold laws_eqMethodS.f; rw [if_pos (by omega)]) ?_
    exact eq_list (z := z71) (E := fun k x y => laws_eqMethod.f k x.f0 x.f1 x.f2 x.f3 x.f4 x.f5 x.f6 x.f7 x.f8 y.f0 y.f1 y.f2 y.f3 y.f4 y.f5 y.f6 y.f7 y.f8) (fun k a b i => rfl) a b (fun x hx y _ => eqv_Method x y (hm x hx).1 (hm x hx).2) hl (by omega)
  · exact EvIff.iff (EvIff.congr (f := fun _ => some false) (fun k => by unfold laws_eqMethodS.f; rw [if_neg (by omega)]) EvIff.no) ⟨fun h => h.elim, fun h => hl (congrArg List.length h)⟩

def cIns (x : S121) : S77 := ⟨x.f0, x.f1, x.f2, x.f3, x.f4⟩
def cHandler (x : S123) : S79 := ⟨x.f0, x.f1, x.f2, x.f3⟩
def LSz (x : S65) : Prop := x.f7.length ≤ 1048576 ∧ x.f8.length ≤ 1048576
theorem to_InsS (a : List S121) (ha : a.length ≤ 1048576) : Ev (fun k => laws_toInsS.f k a) (a.map cIns) := by
  refine Ev.congr (f := fun k => laws_toInsS.l0 k a (List.replicate a.length z77) 0) (fun k => ?_) (to_list (z := z121) (T := fun k x => laws_toIns.f x.f0 x.f1 x.f2 x.f3 x.f4) (C := fun t => (⟨t.1, t.2.1, t.2.2.1, t.2.2.2.1, t.2.2.2.2⟩ : S77)) (fun k a c i => rfl) a (by omega) (fun x _ => ⟨_, Ev.now _, rfl⟩) _)
  unfold laws_toInsS.f
  rw [if_pos (by omega), if_pos (by omega)]; rfl
theorem to_HandlerS (a : List S123) (ha : a.length ≤ 1048576) : Ev (fun k => laws_toHandlerS.f k a) (a.map cHandler) := by
  refine Ev.congr (f := fun k => laws_toHandlerS.l0 k a (List.replicate a.length z79) 0) (fun k => ?_) (to_list (z := z123) (T := fun k x => laws_toHandler.f x.f0 x.f1 x.f2 x.f3) (C := fun t => (⟨t.1, t.2.1, t.2.2.1, t.2.2.2⟩ : S79)) (fun k a c i => rfl) a (by omega) (fun x _ => ⟨_, Ev.now _, rfl⟩) _)
  unfold laws_toHandlerS.f
  rw [if_pos (by omega), if_pos (by omega)]; rfl
theorem to_Method (x : S65) (h : LSz x) : Ev (fun k => laws_toMethod.f k x.f0 x.f1 x.f2 x.f3 x.f4 x.f5 x.f6 x.f7 x.f8) (x.f0, x.f1, x.f2, x.f3, x.f4, x.f5, x.f6, x.f7.map cIns, x.f8.map cHandler) :=
  Ev.congr (fun k => rfl) (Ev.bind (f := fun k t => (laws_toHandlerS.f k x.f8).bind fun t2 => some (x.f0, x.f1, x.f2, x.f3, x.f4, x.f5, x.f6, t, t2)) (to_InsS _ h.1) (Ev.bind (f := fun k t2 => some (x.f0, x.f1, x.f2, x.f3, x.f4, x.f5, x.f6, x.f7.map cIns, t2)) (to_HandlerS _ h.2) (Ev.now _)))

def cField (x : S60) : S67 := ⟨x.f0, x.f1, x.f2⟩
def cMethod (x : S65) : S71 := ⟨x.f0, x.f1, x.f2, x.f3, x.f4, x.f5, x.f6, x.f7.map cIns, x.f8.map cHandler⟩
theorem to_FieldS (a : List S60) (ha : a.length ≤ 1048576) : Ev (fun k => laws_toFieldS.f k a) (a.map cField) := by
  refine Ev.congr (f := fun k => laws_toFieldS.l0 k a (List.replicate a.length z67) 0) (fun k => ?_) (to_list (z := z60) (T := fun k x => laws_toField.f x.f0 x.f1 x.f2) (C := fun t => (⟨t.1, t.2.1, t.2.2⟩ : S67)) (fun k a c i => rfl) a (by omega) (fun x _ => ⟨_, Ev.now _, rfl⟩) _)
  unfold laws_toFieldS.f
  rw [if_pos (by omega), if_pos (by omega)]; rfl
theorem to_MethodS (a : List S65) (ha : a.length ≤ 1048576) (hm : ∀ x ∈ a, LSz x) : Ev (fun k => laws_toMethodS.f k a) (a.map cMethod) := by
  refine Ev.congr (f := fun k => laws_toMethodS.l0 k a (List.replicate a.length z71) 0) (fun k => ?_) (to_list (z := z65) (T := fun k x => laws_toMethod.f k x.f0 x.f1 x.f2 x.f3 x.f4 x.f5 x.f6 x.f7 x.f8) (C := fun t => (⟨t.1, t.2.1, t.2.2.1, t.2.2.2.1, t.2.2.2.2.1, t.2.2.2.2.2.1, t.2.2.2.2.2.2.1, t.2.2.2.2.2.2.2.1, t.2.2.2.2.2.2.2.2⟩ : S71)) (fun k a c i => rfl) a (by omega) (fun x hx => ⟨_, to_Method x (hm x hx), rfl⟩) _)
  unfold laws_toMethodS.f
  rw [if_pos (by omega), if_pos (by omega)]; rfl
theorem msz_map (a : List S65) (h : ∀ x ∈ a, LSz x) : ∀ y ∈ a.map cMethod, y.f7.length ≤ 1048576 ∧ y.f8.length ≤ 1048576 := by
  intro y hy
  obtain ⟨x, hx, rfl⟩ := List.mem_map.mp hy
  exact ⟨by simpa [cMethod] using (h x hx).1, by simpa [cMethod] using (h x hx).2⟩

theorem to_Class (n s : ByteArray) (f b : Bool) (fs : List S60) (ms : List S65) (h4 : fs.length ≤ 1048576) (h5 : ms.length ≤ 1048576) (hm : ∀ x ∈ ms, LSz x) :
    Ev (fun k => laws_toClass.f k n s f b fs ms) (n, s, f, b, fs.map cField, ms.map cMethod) :=
  Ev.congr (fun k => rfl) (Ev.bind (f := fun k t => (laws_toMethodS.f k ms).bind fun t2 => some (n, s, f, b, t, t2)) (to_FieldS _ h4) (Ev.bind (f := fun k t2 => some (n, s, f, b, fs.map cField, t2)) (to_MethodS _ h5 hm) (Ev.now _)))

theorem sz_Ins (x : S121) (h2 : x.f2.size ≤ maxLen) (h3 : x.f3.size ≤ maxLen) (h4 : x.f4.size ≤ maxLen) (m : Int) (h0 : 0 ≤ m) (h1 : m ≤ 1048576) :
    SzOk (fun k => laws_szIns.f x.f0 x.f1 x.f2 x.f3 x.f4 m) m (x.f2.size ≤ 1048576 ∧ x.f3.size ≤ 1048576 ∧ x.f4.size ≤ 1048576) := by
  unfold maxLen at h2 h3 h4
  refine SzOk.mono (SzOk.size (n := x.f2.size) (g := fun v _ => if wrap64 (v - (x.f3.size : Int)) < 0 then some (-1) else (if wrap64 (wrap64 (v - (x.f3.size : Int)) - (x.f4.size : Int)) < 0 then some (-1) else some (wrap64 (wrap64 (v - (x.f3.size : Int)) - (x.f4.size : Int))))) h0 h1 (by omega) (fun v a b _ => SzOk.size (n := x.f3.size) (g := fun v _ => if wrap64 (v - (x.f4.size : Int)) < 0 then some (-1) else some (wrap64 (v - (x.f4.size : Int)))) a (by omega) (by omega) (fun v a b _ => SzOk.size (n := x.f4.size) (g := fun v _ => some v) a (by omega) (by omega) (fun v a b _ => SzOk.done a)))) (fun k => rfl) (fun h => by omega)
theorem sz_InsS (a : List S121) (ha : a.length ≤ maxLen) (ho : ∀ x ∈ a, ok121 x) (m : Int) (h0 : 0 ≤ m) (h1 : m ≤ 1048576) :
    SzOk (fun k => laws_szInsS.f k a m) m (a.length ≤ 1048576 ∧ ∀ x ∈ a, x.f2.size ≤ 1048576 ∧ x.f3.size ≤ 1048576 ∧ x.f4.size ≤ 1048576) := by
  unfold maxLen at ha
  refine SzOk.mono (SzOk.size (n := a.length) (g := fun v k => laws_szInsS.l0 k a v 0) h0 h1 (by omega) (fun v p q _ => sz_list (z := z121) (Z := fun k x m => laws_szIns.f x.f0 x.f1 x.f2 x.f3 x.f4 m) (fun k a m i => rfl) a (by omega) (fun x hx m p q => sz_Ins x (ho x hx).2.2.1 (ho x hx).2.2.2.1 (ho x hx).2.2.2.2 m p q) v p (by omega))) (fun k => rfl) (fun h => ⟨by omega, h.2⟩)
theorem sz_Handler (x : S123) (h3 : x.f3.size ≤ maxLen) (m : Int) (h0 : 0 ≤ m) (h1 : m ≤ 1048576) :
    SzOk (fun k => laws_szHandler.f x.f0 x.f1 x.f2 x.f3 m) m (x.f3.size ≤ 1048576) := by
  unfold maxLen at h3
  refine SzOk.mono (SzOk.size (n := x.f3.size) (g := fun v _ => some v) h0 h1 (by omega) (fun v a b _ => SzOk.done a)) (fun k => rfl) (fun h => by omega)
theorem sz_HandlerS (a : List S123) (ha : a.length ≤ maxLen) (ho : ∀ x ∈ a, ok123 x) (m : Int) (h0 : 0 ≤ m) (h1 : m ≤ 1048576) :
    SzOk (fun k => laws_szHandlerS.f k a m) m (a.length ≤ 1048576 ∧ ∀ x ∈ a, x.f3.size ≤ 1048576) := by
  unfold maxLen at ha
  refine SzOk.mono (SzOk.size (n := a.length) (g := fun v k => laws_szHandlerS.l0 k a v 0) h0 h1 (by omega) (fun v p q _ => sz_list (z := z123) (Z := fun k x m => laws_szHandler.f x.f0 x.f1 x.f2 x.f3 m) (fun k a m i => rfl) a (by omega) (fun x hx m p q => sz_Handler x (ho x hx).2.2.2 m p q) v p (by omega))) (fun k => rfl) (fun h => ⟨by omega, h.2⟩)
/-- What a method that is not refused may hold. -/
def MB (x : S65) : Prop := x.f0.size ≤ 1048576 ∧ x.f1.size ≤ 1048576 ∧ LSz x ∧ (∀ i ∈ x.f7, i.f2.size ≤ 1048576 ∧ i.f3.size ≤ 1048576 ∧ i.f4.size ≤ 1048576) ∧ ∀ h ∈ x.f8, h.f3.size ≤ 1048576
theorem sz_Method (x : S65) (ho : ok65 x) (m : Int) (h0 : 0 ≤ m) (h1 : m ≤ 1048576) :
    SzOk (fun k => laws_szMethod.f k x.f0 x.f1 x.f2 x.f3 x.f4 x.f5 x.f6 x.f7 x.f8 m) m (MB x) := by
  obtain ⟨o0, o1, _, _, _, _, _, o7, o8⟩ := ho
  unfold maxLen at o0 o1
  refine SzOk.mono (SzOk.size (n := x.f0.size) (g := fun v k => if wrap64 (v - (x.f1.size : Int)) < 0 then some (-1) else (laws_szInsS.f k x.f7 (wrap64 (v - (x.f1.size : Int)))).bind fun t => if t < 0 then some (-1) else (laws_szHandlerS.f k x.f8 t).bind fun t => if t < 0 then some (-1) else some t) h0 h1 (by omega) (fun v a b _ =>
    SzOk.size (n := x.f1.size) (g := fun v k => (laws_szInsS.f k x.f7 v).bind fun t => if t < 0 then some (-1) else (laws_szHandlerS.f k x.f8 t).bind fun t => if t < 0 then some (-1) else some t) a (by omega) (by omega) (fun v a b _ =>
      SzOk.bind (g := fun k t => (laws_szHandlerS.f k x.f8 t).bind fun t => if t < 0 then some (-1) else some t) (sz_InsS x.f7 o7.1 o7.2 v a (by omega)) (fun v a b => SzOk.bind (g := fun k t => some t) (sz_HandlerS x.f8 o8.1 o8.2 v a (by omega)) (fun v a b => SzOk.done a))))) (fun k => rfl) (fun h => ⟨by omega, by omega, ⟨h.2.2.1.1, h.2.2.2.1.1⟩, h.2.2.1.2, h.2.2.2.1.2⟩)

theorem sz_Field (x : S60) (ho : ok60 x) (m : Int) (h0 : 0 ≤ m) (h1 : m ≤ 1048576) :
    SzOk (fun k => laws_szField.f x.f0 x.f1 x.f2 m) m (x.f0.size ≤ 1048576 ∧ x.f1.size ≤ 1048576) := by
  obtain ⟨o0, o1, _⟩ := ho
  unfold maxLen at o0 o1
  refine SzOk.mono (SzOk.size (n := x.f0.size) (g := fun v _ => if wrap64 (v - (x.f1.size : Int)) < 0 then some (-1) else some (wrap64 (v - (x.f1.size : Int)))) h0 h1 (by omega) (fun v a b _ => SzOk.size (n := x.f1.size) (g := fun v _ => some v) a (by omega) (by omega) (fun v a b _ => SzOk.done a))) (fun k => rfl) (fun h => by omega)
theorem sz_FieldS (a : List S60) (ha : a.length ≤ maxLen) (ho : ∀ x ∈ a, ok60 x) (m : Int) (h0 : 0 ≤ m) (h1 : m ≤ 1048576) :
    SzOk (fun k => laws_szFieldS.f k a m) m (a.length ≤ 1048576 ∧ ∀ x ∈ a, x.f0.size ≤ 1048576 ∧ x.f1.size ≤ 1048576) := by
  unfold maxLen at ha
  refine SzOk.mono (SzOk.size (n := a.length) (g := fun v k => laws_szFieldS.l0 k a v 0) h0 h1 (by omega) (fun v p q _ => sz_list (z := z60) (Z := fun k x m => laws_szField.f x.f0 x.f1 x.f2 m) (fun k a m i => rfl) a (by omega) (fun x hx m p q => sz_Field x (ho x hx) m p q) v p (by omega))) (fun k => rfl) (fun h => ⟨by omega, h.2⟩)
theorem sz_MethodS (a : List S65) (ha : a.length ≤ maxLen) (ho : ∀ x ∈ a, ok65 x) (m : Int) (h0 : 0 ≤ m) (h1 : m ≤ 1048576) :
    SzOk (fun k => laws_szMethodS.f k a m) m (a.length ≤ 1048576 ∧ ∀ x ∈ a, MB x) := by
  unfold maxLen at ha
  refine SzOk.mono (SzOk.size (n := a.length) (g := fun v k => laws_szMethodS.l0 k a v 0) h0 h1 (by omega) (fun v p q _ => sz_list (z := z65) (Z := fun k x m => laws_szMethod.f k x.f0 x.f1 x.f2 x.f3 x.f4 x.f5 x.f6 x.f7 x.f8 m) (fun k a m i => rfl) a (by omega) (fun x hx m p q => sz_Method x (ho x hx) m p q) v p (by omega))) (fun k => rfl) (fun h => ⟨by omega, h.2⟩)
def CB (x : S25) : Prop := x.f0.size ≤ 1048576 ∧ x.f1.size ≤ 1048576 ∧ (x.f4.length ≤ 1048576 ∧ ∀ f ∈ x.f4, f.f0.size ≤ 1048576 ∧ f.f1.size ≤ 1048576) ∧ x.f5.length ≤ 1048576 ∧ ∀ m ∈ x.f5, MB m
theorem sz_Class (x : S25) (ho : ok25 x) (m : Int) (h0 : 0 ≤ m) (h1 : m ≤ 1048576) :
    SzOk (fun k => laws_szClass.f k x.f0 x.f1 x.f2 x.f3 x.f4 x.f5 m) m (CB x) := by
  obtain ⟨o0, o1, _, _, o4, o5⟩ := ho
  unfold maxLen at o0 o1
  refine SzOk.mono (SzOk.size (n := x.f0.size) (g := fun v k => if wrap64 (v - (x.f1.size : Int)) < 0 then some (-1) else (laws_szFieldS.f k x.f4 (wrap64 (v - (x.f1.size : Int)))).bind fun t => if t < 0 then some (-1) else (laws_szMethodS.f k x.f5 t).bind fun t => if t < 0 then some (-1) else some t) h0 h1 (by omega) (fun v a b _ =>
    SzOk.size (n := x.f1.size) (g := fun v k => (laws_szFieldS.f k x.f4 v).bind fun t => if t < 0 then some (-1) else (laws_szMethodS.f k x.f5 t).bind fun t => if t < 0 then some (-1) else some t) a (by omega) (by omega) (fun v a b _ =>
      SzOk.bind (g := fun k t => (laws_szMethodS.f k x.f5 t).bind fun t => if t < 0 then some (-1) else some t) (sz_FieldS x.f4 o4.1 o4.2 v a (by omega)) (fun v a b => SzOk.bind (g := fun k t => some t) (sz_MethodS x.f5 o5.1 o5.2 v a (by omega)) (fun v a b => SzOk.done a))))) (fun k => rfl) (fun h => ⟨by omega, by omega, h.2.2.1, h.2.2.2.1.1, h.2.2.2.1.2⟩)
theorem CB.lsz {x : S25} (h : CB x) : ∀ m ∈ x.f5, LSz m := fun m hm => (h.2.2.2.2 m hm).2.2.1

theorem eqv_Class (n s : ByteArray) (f b : Bool) (fs : List S67) (ms : List S71) (n' s' : ByteArray) (f' b' : Bool) (fs' : List S67) (ms' : List S71) (h4 : fs.length ≤ 1048576) (h5 : ms.length ≤ 1048576) (hm : ∀ x ∈ ms, MSz x) :
    EvIff (fun k => laws_eqClass.f k n s f b fs ms n' s' f' b' fs' ms') (n = n' ∧ s = s' ∧ f = f' ∧ b = b' ∧ fs = fs' ∧ ms = ms') := by
  unfold laws_eqClass.f
  refine EvIff.iff (EvIff.ite (EvIff.ite (EvIff.iten (EvIff.iten (EvIff.bind (eqv_FieldS fs fs' h4) (EvIff.bind (eqv_MethodS ms ms' h5 hm) EvIff.yes)))))) ?_
  rw [toList_eq, toList_eq]
  simp

def MLen (m : S71) : Prop := m.f7.length ≤ 60 ∧ m.f8.length ≤ 6
theorem meth_len {m : S71} (h : MethB m) : MLen m := by
  have h2 := h.2
  unfold BodyP at h2
  by_cases c : m.f3 = true
  · rw [if_pos c] at h2
    exact ⟨by omega, by omega⟩
  · rw [if_neg c] at h2
    exact ⟨h2.1.2.1, h2.1.2.2.1⟩
theorem class_right_len (n s : ByteArray) (f b : Bool) (fs : List S67) (ms : List S71) (hn : n.size ≤ 1048576) (hs : s.size ≤ 1048576) (l4 : fs.length ≤ 1048576) (l5 : ms.length ≤ 1048576) (hm : ∀ x ∈ ms, MAll x) (hf : ∀ x ∈ fs, FSz x) :
    ∃ r, Ev (fun k => spec_ClassRight.f k n s f b fs ms) r ∧ Ev (fun k => impl_ClassRight.f k n s f b fs ms) r ∧ (r = true → fs.length ≤ 8 ∧ ms.length ≤ 10 ∧ ∀ m ∈ ms, MLen m) := by
  have y1 : EvIff (fun k => spec_ClassRight.j0 k true n s f b fs ms) False := EvIff.step (f := fun _ => some false) (fun k => by simp only [spec_ClassRight.j0, ↓reduceIte]) EvIff.no
  have n1 : EvIff (fun k => spec_ClassRight.j0 k false n s f b fs ms) (LoopP b fs ms) := EvIff.step (f := fun k => spec_ClassRight.l0 k 0 n s f b fs ms) (fun k => by simp only [spec_ClassRight.j0]; rw [if_neg (by simp)]) (class_loops_spec n s f b fs ms l4 l5 hm hf)
  obtain ⟨r1, e1, i1⟩ : EvIff (fun k => spec_ClassRight.f k n s f b fs ms) _ := EvIff.congr (fun k => rfl) (class_head (N := fun k t => spec_NameRight.f k t) (J := fun k t => spec_ClassRight.j0 k t n s f b fs ms) n s f b fs.length ms.length (name_spec n hn) (name_spec s hs) y1 n1)
  obtain ⟨r, q1, q2⟩ := class_right_same n s f b fs ms hn hs l4 l5 hm hf
  refine ⟨r, q1, q2, fun hr => ?_⟩
  obtain ⟨_, _, _, _, a4, a5, hL⟩ := i1.mp ((Ev.one e1 q1).trans hr)
  refine ⟨a4, a5, fun m hm2 => ?_⟩
  obtain ⟨i, hi, rfl⟩ := List.mem_iff_getElem.mp hm2
  have e : ms.getD i z71 = ms[i] := by simp [List.getD_eq_getElem?_getD, hi]
  exact meth_len (e ▸ (hL.2 i hi).1)

/-- What is joined with one blank between. -/
def joinB (l : List ByteArray) : ByteArray := ⟨(Lib.join (l.map (·.data.toList)) (⟨#[32]⟩ : ByteArray).data.toList).toArray⟩
theorem dtl (a b : ByteArray) : (a ++ b).data.toList = a.data.toList ++ b.data.toList := by rw [ByteArray.data_append, Array.toList_append]
theorem jt_cons (s x : List UInt8) (r : List (List UInt8)) : Lib.joinTail s (x :: r) = (s ++ x) ++ Lib.joinTail s r := by simp [Lib.joinTail]
theorem joinB_list (x : ByteArray) (r : List ByteArray) : (joinB (x :: r)).data.toList = x.data.toList ++ Lib.joinTail [32] (r.map (·.data.toList)) := by
  show Lib.join ((x :: r).map (·.data.toList)) [32] = _
  rw [List.map_cons, Lib.join_cons]
theorem jt_len (M : Nat) : ∀ l : List ByteArray, (∀ x ∈ l, x.size ≤ M) → (Lib.joinTail [32] (l.map (·.data.toList))).length ≤ l.length * (M + 1)
  | [], _ => by simp [Lib.joinTail]
  | x :: r, h => by
    have h1 := jt_len M r (fun y hy => h y (List.mem_cons_of_mem _ hy))
    have h2 : x.data.toList.length ≤ M := by
      have := h x List.mem_cons_self
      rw [Array.length_toList]; exact this
    rw [List.map_cons, jt_cons, List.length_append, List.length_append, List.length_cons, List.length_cons, List.length_nil, Nat.succ_mul]
    omega
theorem joinB_size (M : Nat) (l : List ByteArray) (h : ∀ x ∈ l, x.size ≤ M) : (joinB l).size ≤ l.length * (M + 1) := by
  cases l with
  | nil => exact Nat.zero_le _
  | cons x r =>
    have h1 := jt_len M r (fun y hy => h y (List.mem_cons_of_mem _ hy))
    have h2 : x.data.toList.length ≤ M := by
      have := h x List.mem_cons_self
      rw [Array.length_toList]; exact this
    have e : (joinB (x :: r)).size = (joinB (x :: r)).data.toList.length := by rw [Array.length_toList]; rfl
    rw [e, joinB_list, List.length_append, List.length_cons, Nat.succ_mul]
    omega

theorem join_f (M : Nat) (l : List ByteArray) (h : ∀ x ∈ l, x.size ≤ M) (hn : l.length * (M + 1) ≤ 140737488355328) (hl : l.length ≤ 140737488355328) : strings_Join.f l (⟨#[32]⟩ : ByteArray) = some (joinB l) := by
  unfold strings_Join.f
  have h1 := joinB_size M l h
  have e : (Lib.join (l.map (·.data.toList)) (⟨#[32]⟩ : ByteArray).data.toList).length = (joinB l).size := by
    show _ = (Lib.join (l.map (·.data.toList)) (⟨#[32]⟩ : ByteArray).data.toList).toArray.size
    rw [List.size_toArray]
  rw [if_pos ⟨hl, by rw [e]; omega⟩]
  rfl

theorem i64_in {a : Int} (ha : (Lit.int .i64 a).wf = true) : -9223372036854775808 ≤ a ∧ a ≤ 9223372036854775807 := by
  have e1 : IntKind.i64.min = -9223372036854775808 := by decide
  have e2 : IntKind.i64.max = 9223372036854775807 := by decide
  simp only [Lit.wf, e1, e2, Bool.and_eq_true, decide_eq_true_eq] at ha
  exact ha
/-- The decimal digits as a text. -/
def digT (u : Nat) : ByteArray := ⟨(Lib.decDigits u).toArray⟩
def decT (n : Int) : ByteArray := ⟨(Lib.itoa n).toArray⟩
theorem digT_small (u : Nat) (h : u < 10) : digT u = ⟨#[UInt8.ofNat (48 + u)]⟩ := by unfold digT; rw [Lib.decDigits_one h]
theorem digT_big (u : Nat) (h : ¬ u < 10) : digT u = digT (u / 10) ++ ⟨#[UInt8.ofNat (48 + u % 10)]⟩ := by
  unfold digT
  rw [show Lib.decDigits u = Lib.decDigits (u / 10) ++ [UInt8.ofNat (48 + u % 10)] by rw [Lib.decDigits, dif_neg h]]
  apply ByteArray.ext
  rw [ByteArray.data_append]
  simp
theorem strOf_digit (u : Nat) : strOfNums [(wrap64 (48 + ((u % 10 : Nat) : Int))) % 256] = ⟨#[UInt8.ofNat (48 + u % 10)]⟩ := by
  have e : (wrap64 (48 + ((u % 10 : Nat) : Int))) % 256 = ((48 + u % 10 : Nat) : Int) := by unfold wrap64; omega
  rw [e]
  rfl
theorem tmod_abs (n : Int) : (0 ≤ n → Int.tmod n 10 = ((n.natAbs % 10 : Nat) : Int) ∧ Int.tdiv n 10 = ((n.natAbs / 10 : Nat) : Int)) ∧ (n < 0 → Int.tmod n 10 = -((n.natAbs % 10 : Nat) : Int) ∧ Int.tdiv n 10 = -((n.natAbs / 10 : Nat) : Int)) := by
  have key : ∀ u : Nat, Int.tmod (u : Int) 10 = ((u % 10 : Nat) : Int) ∧ Int.tdiv (u : Int) 10 = ((u / 10 : Nat) : Int) := fun u => ⟨rfl, rfl⟩
  constructor
  · intro h
    obtain ⟨u, rfl⟩ : ∃ u : Nat, n = u := ⟨n.toNat, by omega⟩
    exact key u
  · intro h
    obtain ⟨u, rfl⟩ : ∃ u : Nat, n = -(u : Int) := ⟨n.natAbs, by omega⟩
    rw [Int.neg_tmod, Int.neg_tdiv, Int.natAbs_neg]
    exact ⟨by rw [(key u).1]; rfl, by rw [(key u).2]; rfl⟩
def decFin (neg : Bool) (s : ByteArray) : ByteArray := if neg = true then (⟨#[45]⟩ : ByteArray) ++ s else s
theorem dec_end (k : Nat) (neg : Bool) (s : ByteArray) (h : s.size ≤ 50) : spec_l01Dec.l0 (k + 1) 0 neg s = some (decFin neg s) := by
  unfold spec_l01Dec.l0 decFin
  rw [if_pos rfl]
  cases neg
  · rfl
  · rw [if_pos rfl, if_pos (by omega), if_pos rfl]
theorem dec_run : ∀ (f u k : Nat) (n : Int) (neg : Bool) (out : ByteArray), n.natAbs = u → 1 ≤ u → u < 10 ^ f → f < k → out.size + f ≤ 40 → -9223372036854775808 ≤ n → n ≤ 9223372036854775807 →
    spec_l01Dec.l0 k n neg out = some (decFin neg (digT u ++ out))
  | 0, u, k, n, neg, out, _, h1, h2, _, _, _, _ => by simp at h2; omega
  | f + 1, u, k, n, neg, out, hu, h1, h2, hk, ho, hl, hh => by
    obtain ⟨k, rfl⟩ : ∃ m, k = m + 1 := ⟨k - 1, by omega⟩
    have hs : ∀ y : List Int, (strOfNums y).size = y.length := strOfNums_size
    have step : ∀ d : ByteArray, d = ⟨#[UInt8.ofNat (48 + u % 10)]⟩ → spec_l01Dec.l0 k (wrap64 (Int.tdiv n 10)) neg (d ++ out) = some (decFin neg (digT u ++ out)) := by
      intro d hd
      have hz : (d ++ out).size = 1 + out.size := by rw [ByteArray.size_append, hd]; rfl
      by_cases h10 : u < 10
      · have e0 : wrap64 (Int.tdiv n 10) = 0 := by
          have h3 := tmod_abs n
          by_cases hn : 0 ≤ n
          · rw [(h3.1 hn).2]; unfold wrap64; omega
          · rw [(h3.2 (by omega)).2]; unfold wrap64; omega
        obtain ⟨k, rfl⟩ : ∃ m, k = m + 1 := ⟨k - 1, by omega⟩
        rw [e0, dec_end k neg _ (by omega), hd, digT_small u h10, Nat.mod_eq_of_lt h10]
      · have h3 := tmod_abs n
        have e1 : (wrap64 (Int.tdiv n 10)).natAbs = u / 10 ∧ -9223372036854775808 ≤ wrap64 (Int.tdiv n 10) ∧ wrap64 (Int.tdiv n 10) ≤ 9223372036854775807 := by
          by_cases hn : 0 ≤ n
          · rw [(h3.1 hn).2]; unfold wrap64; omega
          · rw [(h3.2 (by omega)).2]; unfold wrap64; omega
        rw [dec_run f (u / 10) k _ neg (d ++ out) e1.1 (by omega) (by rw [Nat.pow_succ] at h2; omega) (by omega) (by omega) e1.2.1 e1.2.2, digT_big u h10, hd, ByteArray.append_assoc]
    have h3 := tmod_abs n
    unfold spec_l01Dec.l0
    rw [if_neg (by omega)]
    by_cases hn : 0 ≤ n
    · rw [if_neg (by rw [(h3.1 hn).1]; omega)]
      simp only [Option.bind_some]
      rw [(h3.1 hn).1, hu, strOf_digit]
      rw [if_pos (by have : (⟨#[UInt8.ofNat (48 + u % 10)]⟩ : ByteArray).size = 1 := rfl
                     omega)]
      exact step _ rfl
    · have h4 := (h3.2 (by omega)).1
      by_cases hd : Int.tmod n 10 < 0
      · rw [if_pos hd]
        simp only [Option.bind_some]
        rw [h4, Int.neg_neg, show wrap64 ((n.natAbs % 10 : Nat) : Int) = ((n.natAbs % 10 : Nat) : Int) by unfold wrap64; omega, hu, strOf_digit]
        rw [if_pos (by have : (⟨#[UInt8.ofNat (48 + u % 10)]⟩ : ByteArray).size = 1 := rfl
                       omega)]
        exact step _ rfl
      · rw [if_neg hd]
        simp only [Option.bind_some]
        rw [show Int.tmod n 10 = ((u % 10 : Nat) : Int) by omega, strOf_digit]
        rw [if_pos (by have : (⟨#[UInt8.ofNat (48 + u % 10)]⟩ : ByteArray).size = 1 := rfl
                       omega)]
        exact step _ rfl
/-- The reference's own digits are the numeral. -/
theorem spec_dec (n : Int) (hl : -9223372036854775808 ≤ n) (hh : n ≤ 9223372036854775807) (k : Nat) (hk : 20 < k) : spec_l01Dec.f k n = some (decT n) := by
  unfold spec_l01Dec.f
  by_cases h0 : n = 0
  · rw [if_pos h0, h0]
    exact congrArg some (show (⟨#[48]⟩ : ByteArray) = decT 0 by unfold decT Lib.itoa; rw [if_neg (by omega), show (0 : Int).toNat = 0 from rfl, Lib.decDigits_one (by omega)]; rfl)
  · rw [if_neg h0, dec_run 20 n.natAbs k n _ ⟨#[]⟩ rfl (by omega) (by have : (10 : Nat) ^ 20 = 100000000000000000000 := by decide
                                                                      omega) hk (by show 0 + 20 ≤ 40; omega) hl hh]
    have ea : digT n.natAbs ++ (⟨#[]⟩ : ByteArray) = digT n.natAbs := ByteArray.append_empty
    rw [ea]
    refine congrArg some ?_
    unfold decFin decT Lib.itoa
    by_cases hn : n < 0
    · rw [if_pos (decide_eq_true hn), if_pos hn]
      apply ByteArray.ext
      rw [ByteArray.data_append]
      simp [digT]
    · rw [if_neg (by simp; omega), if_neg hn, show n.natAbs = n.toNat by omega]
      rfl
theorem dig_len : ∀ (f u : Nat), u < 10 ^ (f + 1) → (Lib.decDigits u).length ≤ f + 1
  | 0, u, h => by rw [Lib.decDigits_one (by simpa using h)]; simp
  | f + 1, u, h => by
    by_cases c : u < 10
    · rw [Lib.decDigits_one c]; simp
    · rw [show Lib.decDigits u = Lib.decDigits (u / 10) ++ [UInt8.ofNat (48 + u % 10)] by rw [Lib.decDigits, dif_neg c]]
      have := dig_len f (u / 10) (by rw [Nat.pow_succ] at h; omega)
      simp only [List.length_append, List.length_cons, List.length_nil]
      omega
theorem decT_size (n : Int) (hl : -9223372036854775808 ≤ n) (hh : n ≤ 9223372036854775807) : (decT n).size ≤ 21 := by
  show (Lib.itoa n).toArray.size ≤ 21
  rw [List.size_toArray]
  have k1 : (10 : Nat) ^ 20 = 100000000000000000000 := by decide
  unfold Lib.itoa
  by_cases h : n < 0
  · rw [if_pos h]
    have := dig_len 19 n.natAbs (by omega)
    simp only [List.length_cons]
    omega
  · rw [if_neg h]
    have := dig_len 19 n.toNat (by omega)
    omega
theorem impl_dec (n : Int) (hl : -9223372036854775808 ≤ n) (hh : n ≤ 9223372036854775807) : impl_text.f n = some (decT n) := by
  unfold impl_text.f strconv_FormatInt_72.f strconv_FormatInt_98.f
  rw [if_pos ⟨rfl, hl, hh⟩]
  rfl

/-- An instruction as a text. -/
def insT (S F : ByteArray) (b : Bool) (a : Int) (c n d : ByteArray) : ByteArray :=
  if b = true then (S ++ ⟨#[32]⟩) ++ decT a else if F.toList = ([99] : List UInt8) then (S ++ ⟨#[32]⟩) ++ c else if F.toList = ([121] : List UInt8) then (S ++ ⟨#[32]⟩) ++ d else
  if F.toList = ([102] : List UInt8) then ((((((S ++ ⟨#[32]⟩) ++ c) ++ ⟨#[32]⟩) ++ n) ++ ⟨#[32]⟩) ++ d) else if F.toList = ([109] : List UInt8) then ((((((S ++ ⟨#[32]⟩) ++ c) ++ ⟨#[32]⟩) ++ n) ++ ⟨#[32]⟩) ++ d) else S
theorem ins_j0_spec (S F : ByteArray) (b : Bool) (o a : Int) (c n d : ByteArray) (hS : S.size ≤ 20) (hl : -9223372036854775808 ≤ a) (hh : a ≤ 9223372036854775807) (hc : c.size ≤ 1048576) (hn : n.size ≤ 1048576) (hd : d.size ≤ 1048576) (k : Nat) (hk : 20 < k) :
    spec_l14Ins.j0 (k + 1) S F b o a c n d = some (insT S F b a c n d) := by
  have z1 : (⟨#[32]⟩ : ByteArray).size = 1 := rfl
  have zd := decT_size a hl hh
  unfold insT
  simp only [spec_l14Ins.j0, spec_dec a hl hh k hk, Option.bind_some, ByteArray.size_append, z1]
  have q0 : (S.size + 1 ≤ 9223372036854775807) = True := eq_true (by omega)
  have q1 : (S.size + 1 + (decT a).size ≤ 9223372036854775807) = True := eq_true (by omega)
  have q2 : (S.size + 1 + c.size ≤ 9223372036854775807) = True := eq_true (by omega)
  have q3 : (S.size + 1 + d.size ≤ 9223372036854775807) = True := eq_true (by omega)
  have q4 : (S.size + 1 + c.size + 1 ≤ 9223372036854775807) = True := eq_true (by omega)
  have q5 : (S.size + 1 + c.size + 1 + n.size ≤ 9223372036854775807) = True := eq_true (by omega)
  have q6 : (S.size + 1 + c.size + 1 + n.size + 1 ≤ 9223372036854775807) = True := eq_true (by omega)
  have q7 : (S.size + 1 + c.size + 1 + n.size + 1 + d.size ≤ 9223372036854775807) = True := eq_true (by omega)
  simp only [q0, q1, q2, q3, q4, q5, q6, q7, if_true]
  repeat' (first | rfl | split)
def insTx (S F : ByteArray) (a : Int) (c n d : ByteArray) : ByteArray :=
  if F.toList = ([110] : List UInt8) then insT S F (F.toList == ([110] : List UInt8)) a c n d else if F.toList = ([105] : List UInt8) then insT S F (F.toList == ([105] : List UInt8)) a c n d else insT S F (F.toList == ([116] : List UInt8)) a c n d
/-- The reference's text of an instruction. -/
theorem spec_ins (S F : ByteArray) (o a : Int) (c n d : ByteArray) (s2 : ∀ k, 16 ≤ k → spec_OpName.f k o = some S) (hS : S.size ≤ 20) (f2 : ∀ k, 16 ≤ k → spec_OpForm.f k o = some F) (hl : -9223372036854775808 ≤ a) (hh : a ≤ 9223372036854775807) (hc : c.size ≤ 1048576) (hn : n.size ≤ 1048576) (hd : d.size ≤ 1048576) (k : Nat) (hk : 22 ≤ k) :
    spec_l14Ins.f k o a c n d = some (insTx S F a c n d) := by
  obtain ⟨k, rfl⟩ : ∃ m, k = m + 1 := ⟨k - 1, by omega⟩
  unfold spec_l14Ins.f insTx
  rw [s2 _ (by omega), f2 _ (by omega)]
  simp only [Option.bind_some, ins_j0_spec S F _ o a c n d hS hl hh hc hn hd k (by omega)]
  repeat' (first | rfl | split)

theorem joinB_1 (x : ByteArray) : joinB [x] = x := by
  apply WideShapes.bytes_inj
  rw [joinB_list]
  simp [Lib.joinTail]
theorem joinB_2 (x a : ByteArray) : joinB [x, a] = (x ++ ⟨#[32]⟩) ++ a := by
  apply WideShapes.bytes_inj
  rw [joinB_list, dtl, dtl]
  simp [Lib.joinTail]
theorem joinB_4 (x a b c : ByteArray) : joinB [x, a, b, c] = ((((((x ++ ⟨#[32]⟩) ++ a) ++ ⟨#[32]⟩) ++ b) ++ ⟨#[32]⟩) ++ c) := by
  apply WideShapes.bytes_inj
  rw [joinB_list]
  simp only [dtl]
  simp [Lib.joinTail]

theorem op_names_nat : ∀ n : Nat, n < 44 → spec_OpName.f 16 (((n + 1 : Nat) : Int)) = impl_OpName.f (((n + 1 : Nat) : Int)) ∧ (match impl_OpName.f (((n + 1 : Nat) : Int)) with | some S => decide (S.size ≤ 20) | none => false) = true := by decide +kernel
/-- The name of an op: the program's and the reference's. -/
theorem op_name (a : Int) : ∃ S, impl_OpName.f a = some S ∧ S.size ≤ 20 ∧ ∀ k, 16 ≤ k → spec_OpName.f k a = some S := by
  have up : ∀ S, spec_OpName.f 16 a = some S → ∀ k, 16 ≤ k → spec_OpName.f k a = some S := fun S h k hk => at_rounds (g := fun k => spec_OpName.f k a) (fun k => spec_OpName.mono _ _) hk h
  by_cases h1 : 1 ≤ a ∧ a ≤ 44
  · have e : a = (((a - 1).toNat + 1 : Nat) : Int) := by omega
    have h := op_names_nat (a - 1).toNat (by omega)
    rw [← e] at h
    obtain ⟨h2, h3⟩ := h
    cases hS : impl_OpName.f a with
    | none => rw [hS] at h3; simp at h3
    | some S =>
      rw [hS] at h2 h3
      exact ⟨S, rfl, by simpa using h3, up S h2⟩
  · refine ⟨⟨#[]⟩, ?_, Nat.zero_le _, up _ ?_⟩
    · unfold impl_OpName.f impl_isOp.f impl_within.f
      by_cases c : a ≥ 1
      · rw [if_pos c]
        simp only [Option.bind_some]
        rw [if_neg (by simp; omega)]
      · rw [if_neg c]
        simp only [Option.bind_some]
        rw [if_neg (by simp)]
    · unfold spec_OpName.f spec_l03Ops.f
      simp only [Option.bind_some]
      by_cases c : a < 1
      · rw [if_pos c]
      · rw [if_neg c, if_pos (by simp; omega)]

theorem join_at (l : List ByteArray) (hl : l.length ≤ 4) (h : ∀ x ∈ l, x.size ≤ 1048620) : strings_Join.f l (⟨#[32]⟩ : ByteArray) = some (joinB l) :=
  join_f 1048620 l h (by omega) (by omega)
theorem ins_j0_impl (S F : ByteArray) (b : Bool) (o a : Int) (c n d : ByteArray) (hS : S.size ≤ 20) (hl : -9223372036854775808 ≤ a) (hh : a ≤ 9223372036854775807) (hc : c.size ≤ 1048576) (hn : n.size ≤ 1048576) (hd : d.size ≤ 1048576) (k : Nat) :
    impl_insText.j0 (k + 1) [S] F b o a c n d = some (insT S F b a c n d) := by
  have zd := decT_size a hl hh
  have two : ∀ x : ByteArray, x.size ≤ 1048620 → strings_Join.f ([S] ++ [x]) (⟨#[32]⟩ : ByteArray) = some ((S ++ ⟨#[32]⟩) ++ x) := fun x hx => by
    rw [← joinB_2]
    exact join_at [S, x] (by simp) (by intro y hy; simp at hy; rcases hy with rfl | rfl <;> omega)
  have four : strings_Join.f ([S] ++ [c, n, d]) (⟨#[32]⟩ : ByteArray) = some ((((((S ++ ⟨#[32]⟩) ++ c) ++ ⟨#[32]⟩) ++ n) ++ ⟨#[32]⟩) ++ d) := by
    rw [← joinB_4]
    exact join_at [S, c, n, d] (by simp) (by intro y hy; simp at hy; rcases hy with rfl | rfl | rfl | rfl <;> omega)
  have one : strings_Join.f [S] (⟨#[32]⟩ : ByteArray) = some S := by
    have := join_at [S] (by simp) (by intro y hy; simp at hy; subst hy; omega)
    rwa [joinB_1] at this
  unfold insT
  simp only [impl_insText.j0, impl_dec a hl hh, Option.bind_some, two (decT a) (by omega), two c (by omega), two d (by omega), four, one]
  have q0 : (([S] : List ByteArray).length < 8796093022208) = True := eq_true (by simp)
  have q1 : (([S] : List ByteArray).length + ([c, n, d] : List ByteArray).length < 8796093022208) = True := eq_true (by simp)
  simp only [q0, q1, if_true]
  repeat' (first | rfl | split)
/-- The program's text of an instruction. -/
theorem impl_ins (S F : ByteArray) (o a : Int) (c n d : ByteArray) (s1 : impl_OpName.f o = some S) (hS : S.size ≤ 20) (f1 : impl_OpForm.f o = some F) (hl : -9223372036854775808 ≤ a) (hh : a ≤ 9223372036854775807) (hc : c.size ≤ 1048576) (hn : n.size ≤ 1048576) (hd : d.size ≤ 1048576) (k : Nat) (hk : 22 ≤ k) :
    impl_insText.f k o a c n d = some (insTx S F a c n d) := by
  obtain ⟨k, rfl⟩ : ∃ m, k = m + 1 := ⟨k - 1, by omega⟩
  unfold impl_insText.f insTx
  rw [s1, f1]
  simp only [Option.bind_some, ins_j0_impl S F _ o a c n d hS hl hh hc hn hd k]
  repeat' (first | rfl | split)
theorem bsz (l : List UInt8) : (⟨l.toArray⟩ : ByteArray).size = l.length := by
  show l.toArray.size = l.length
  simp
def R64 (a : Int) : Prop := -9223372036854775808 ≤ a ∧ a ≤ 9223372036854775807
def MTx (m : S71) : Prop := R64 m.f5 ∧ R64 m.f6 ∧ (∀ i ∈ m.f7, R64 i.f1) ∧ ∀ h ∈ m.f8, R64 h.f0 ∧ R64 h.f1 ∧ R64 h.f2
theorem insTx_size (S F : ByteArray) (a : Int) (c n d : ByteArray) (hS : S.size ≤ 20) (hl : -9223372036854775808 ≤ a) (hh : a ≤ 9223372036854775807) (hc : c.size ≤ 1048576) (hn : n.size ≤ 1048576) (hd : d.size ≤ 1048576) : (insTx S F a c n d).size ≤ 3145800 := by
  have zd := decT_size a hl hh
  have z1 : (⟨#[32]⟩ : ByteArray).size = 1 := rfl
  unfold insTx insT
  repeat' split
  all_goals (try simp only [ByteArray.size_append, z1])
  all_goals omega
theorem ins_fun : ∃ it : S77 → ByteArray, ∀ x, R64 x.f1 → ISz x → (∀ k, 22 ≤ k → spec_l14Ins.f k x.f0 x.f1 x.f2 x.f3 x.f4 = some (it x)) ∧ (∀ k, 22 ≤ k → impl_insText.f k x.f0 x.f1 x.f2 x.f3 x.f4 = some (it x)) ∧ (it x).size ≤ 3145800 := by
  have key : ∀ x : S77, ∃ T, R64 x.f1 → ISz x → (∀ k, 22 ≤ k → spec_l14Ins.f k x.f0 x.f1 x.f2 x.f3 x.f4 = some T) ∧ (∀ k, 22 ≤ k → impl_insText.f k x.f0 x.f1 x.f2 x.f3 x.f4 = some T) ∧ T.size ≤ 3145800 := by
    intro x
    obtain ⟨F, f1, f2⟩ := op_form x.f0
    obtain ⟨S, s1, hS, s2⟩ := op_name x.f0
    exact ⟨insTx S F x.f1 x.f2 x.f3 x.f4, fun h hz => ⟨fun k hk => spec_ins S F x.f0 x.f1 x.f2 x.f3 x.f4 s2 hS f2 h.1 h.2 hz.1 hz.2.1 hz.2.2 k hk, fun k hk => impl_ins S F x.f0 x.f1 x.f2 x.f3 x.f4 s1 hS f1 h.1 h.2 hz.1 hz.2.1 hz.2.2 k hk, insTx_size S F x.f1 x.f2 x.f3 x.f4 hS h.1 h.2 hz.1 hz.2.1 hz.2.2⟩⟩
  exact ⟨fun x => (key x).choose, fun x => (key x).choose_spec⟩
def flT (b : Bool) (w : ByteArray) : ByteArray := if b = true then (⟨#[32]⟩ : ByteArray) ++ w else ⟨#[]⟩
theorem flT_size (b : Bool) (w : ByteArray) : (flT b w).size ≤ 1 + w.size := by
  have z1 : (⟨#[32]⟩ : ByteArray).size = 1 := rfl
  unfold flT
  split
  · rw [ByteArray.size_append, z1]; omega
  · exact Nat.zero_le _
theorem if_f (b : Bool) (w : ByteArray) (h : w.size ≤ 100) : spec_l14If.f b w = some (flT b w) := by
  unfold spec_l14If.f flT
  cases b with
  | true => rw [if_pos rfl, if_pos rfl, if_pos (by omega)]
  | false => rw [if_neg (by simp), if_neg (by simp)]
theorem app_nil (a : ByteArray) : a ++ (⟨#[]⟩ : ByteArray) = a := by
  apply WideShapes.bytes_inj
  rw [dtl]
  simp
theorem nil_app (a : ByteArray) : (⟨#[]⟩ : ByteArray) ++ a = a := by
  apply WideShapes.bytes_inj
  rw [dtl]
  simp
theorem tfold_app {α : Type} (P : α → ByteArray) : ∀ (l : List α) (a b : ByteArray), l.foldl (fun a x => a ++ P x) (b ++ a) = b ++ l.foldl (fun a x => a ++ P x) a
  | [], a, b => rfl
  | x :: l, a, b => by
    simp only [List.foldl_cons]
    rw [ByteArray.append_assoc]
    exact tfold_app P l (a ++ P x) b
theorem tfold_size {α : Type} (P : α → ByteArray) (c : Nat) : ∀ (l : List α) (_ : ∀ x ∈ l, (P x).size ≤ c) (a : ByteArray), (l.foldl (fun a x => a ++ P x) a).size ≤ a.size + c * l.length
  | [], _, a => Nat.le_refl _
  | x :: l, h, a => by
    have h1 := tfold_size P c l (fun y hy => h y (List.mem_cons_of_mem _ hy)) (a ++ P x)
    have h2 := h x List.mem_cons_self
    rw [ByteArray.size_append] at h1
    simp only [List.foldl_cons, List.length_cons, Nat.mul_succ]
    omega
theorem t_loop {α : Type} {L : Nat → ByteArray → Int → Option ByteArray} {Z : Nat → ByteArray → Option ByteArray} (P : α → ByteArray) (c M : Nat) (l : List α) (hb : ∀ x ∈ l, (P x).size ≤ c)
    (hs : ∀ (i : Nat) (hi : i < l.length) (a r : ByteArray), a.size + c ≤ M → Ev (fun k => L k (a ++ P l[i]) ((i + 1 : Nat) : Int)) r → Ev (fun k => L k a (i : Int)) r)
    (hz : ∀ a r, Ev (fun k => Z k a) r → Ev (fun k => L k a (l.length : Int)) r)
    (a r : ByteArray) (ha : a.size + c * l.length ≤ M) (h : Ev (fun k => Z k (l.foldl (fun a x => a ++ P x) a)) r) : Ev (fun k => L k a 0) r := by
  have key : ∀ (d i : Nat) (a : ByteArray), i + d = l.length → a.size + c * d ≤ M → Ev (fun k => Z k ((l.drop i).foldl (fun a x => a ++ P x) a)) r → Ev (fun k => L k a (i : Int)) r := by
    intro d
    induction d with
    | zero =>
      intro i a hd ha h
      obtain rfl : i = l.length := by omega
      rw [List.drop_length] at h
      exact hz a r h
    | succ d ih =>
      intro i a hd ha h
      have hi : i < l.length := by omega
      rw [Nat.mul_succ] at ha
      refine hs i hi a r (by omega) (ih (i + 1) (a ++ P l[i]) (by omega) ?_ ?_)
      · have := hb l[i] (List.getElem_mem hi)
        rw [ByteArray.size_append]
        omega
      · rw [List.drop_eq_getElem_cons hi, List.foldl_cons] at h
        exact h
  exact key l.length 0 a (by omega) ha (by simpa using h)
def fldT (x : S67) : ByteArray := ((((((⟨#[102, 105, 101, 108, 100, 32]⟩ : ByteArray) ++ x.f0) ++ ⟨#[32]⟩) ++ x.f1) ++ flT x.f2 ⟨#[115, 116, 97, 116, 105, 99]⟩) ++ ⟨#[10]⟩)
def hdT (m : S71) : ByteArray := ((((((((((((⟨#[109, 101, 116, 104, 111, 100, 32]⟩ : ByteArray) ++ m.f0) ++ ⟨#[32]⟩) ++ m.f1) ++ ⟨#[32]⟩) ++ decT m.f5) ++ ⟨#[32]⟩) ++ decT m.f6) ++ flT m.f2 ⟨#[115, 116, 97, 116, 105, 99]⟩) ++ flT m.f3 ⟨#[97, 98, 115, 116, 114, 97, 99, 116]⟩) ++ flT m.f4 ⟨#[102, 105, 110, 97, 108]⟩) ++ ⟨#[10]⟩)
def hanT (h : S79) : ByteArray := (((((((((⟨#[104, 97, 110, 100, 108, 101, 114, 32]⟩ : ByteArray) ++ decT h.f0) ++ ⟨#[32]⟩) ++ decT h.f1) ++ ⟨#[32]⟩) ++ decT h.f2) ++ ⟨#[32]⟩) ++ h.f3) ++ ⟨#[10]⟩)
def methT (it : S77 → ByteArray) (m : S71) : ByteArray := m.f8.foldl (fun a x => a ++ hanT x) (m.f7.foldl (fun a x => a ++ (it x ++ ⟨#[10]⟩)) (hdT m))
def clsHd (n s : ByteArray) (f b : Bool) : ByteArray := (((((((⟨#[99, 108, 97, 115, 115, 32]⟩ : ByteArray) ++ n) ++ ⟨#[32]⟩) ++ s) ++ flT f ⟨#[102, 105, 110, 97, 108]⟩) ++ flT b ⟨#[97, 98, 115, 116, 114, 97, 99, 116]⟩) ++ ⟨#[10]⟩)
def clsT (it : S77 → ByteArray) (n s : ByteArray) (f b : Bool) (fs : List S67) (ms : List S71) : ByteArray := ms.foldl (fun a x => a ++ methT it x) (fs.foldl (fun a x => a ++ fldT x) (clsHd n s f b))
theorem fldT_size (x : S67) (h : FSz x) : (fldT x).size ≤ 2097200 := by
  have h1 := flT_size x.f2 ⟨#[115, 116, 97, 116, 105, 99]⟩
  unfold fldT
  simp only [ByteArray.size_append, bsz, List.length_cons, List.length_nil] at h1 ⊢
  have := h.1
  have := h.2
  omega
theorem hanT_size (x : S79) (h : R64 x.f0 ∧ R64 x.f1 ∧ R64 x.f2) (h3 : x.f3.size ≤ 1048576) : (hanT x).size ≤ 1048700 := by
  have z0 := decT_size x.f0 h.1.1 h.1.2
  have z1 := decT_size x.f1 h.2.1.1 h.2.1.2
  have z2 := decT_size x.f2 h.2.2.1 h.2.2.2
  unfold hanT
  simp only [ByteArray.size_append, bsz, List.length_cons, List.length_nil]
  omega
theorem hdT_size (m : S71) (h : R64 m.f5 ∧ R64 m.f6) (h0 : m.f0.size ≤ 1048576) (h1 : m.f1.size ≤ 1048576) : (hdT m).size ≤ 2097300 := by
  have z0 := decT_size m.f5 h.1.1 h.1.2
  have z1 := decT_size m.f6 h.2.1 h.2.2
  have y0 := flT_size m.f2 ⟨#[115, 116, 97, 116, 105, 99]⟩
  have y1 := flT_size m.f3 ⟨#[97, 98, 115, 116, 114, 97, 99, 116]⟩
  have y2 := flT_size m.f4 ⟨#[102, 105, 110, 97, 108]⟩
  unfold hdT
  simp only [ByteArray.size_append, bsz, List.length_cons, List.length_nil] at y0 y1 y2 ⊢
  omega
theorem methT_size (it : S77 → ByteArray) (hit : ∀ x, R64 x.f1 → ISz x → (it x).size ≤ 3145800) (m : S71) (ha : MAll m) (hx : MTx m) (hl : MLen m) : (methT it m).size ≤ 250000000 := by
  have h1 := hdT_size m ⟨hx.1, hx.2.1⟩ ha.1 ha.2.1
  have h2 := tfold_size (fun x => it x ++ ⟨#[10]⟩) 3145801 m.f7 (fun x hm => by
    have := hit x (hx.2.2.1 x hm) (ha.2.2.1 x hm)
    simp only [ByteArray.size_append, bsz, List.length_cons, List.length_nil]
    omega) (hdT m)
  have h3 := tfold_size hanT 1048700 m.f8 (fun x hm => hanT_size x (hx.2.2.2 x hm) (ha.2.2.2.1 x hm)) (m.f7.foldl (fun a x => a ++ (it x ++ ⟨#[10]⟩)) (hdT m))
  have l7 := hl.1
  have l8 := hl.2
  unfold methT
  omega
/-- What a right class is asked of for its text. -/
structure TxOk (it : S77 → ByteArray) (fs : List S67) (ms : List S71) : Prop where
  hit : ∀ x, R64 x.f1 → ISz x → (∀ k, 22 ≤ k → spec_l14Ins.f k x.f0 x.f1 x.f2 x.f3 x.f4 = some (it x)) ∧ (∀ k, 22 ≤ k → impl_insText.f k x.f0 x.f1 x.f2 x.f3 x.f4 = some (it x)) ∧ (it x).size ≤ 3145800
  lf : fs.length ≤ 8
  lm : ms.length ≤ 10
  hf : ∀ x ∈ fs, FSz x
  hm : ∀ m ∈ ms, MAll m ∧ MTx m ∧ MLen m
theorem dec_ev (a : Int) (h : R64 a) : Ev (fun k => spec_l01Dec.f k a) (decT a) := ⟨21, fun k hk => spec_dec a h.1 h.2 k (by omega)⟩
theorem dec_im (a : Int) (h : R64 a) : impl_text.f a = some (decT a) := impl_dec a h.1 h.2

theorem Ev.ite_le {α : Type} {g : Nat → Option α} {n : Nat} {r : α} (h : n ≤ 4611686018427387904) (hg : Ev g r) : Ev (fun k => if n ≤ 9223372036854775807 then g k else none) r := Ev.congr (fun k => if_pos (by omega)) hg
theorem if_ev (b : Bool) (w : ByteArray) (h : w.size ≤ 100) : Ev (fun _ => spec_l14If.f b w) (flT b w) := ⟨0, fun _ _ => if_f b w h⟩
theorem dec_iv (a : Int) (h : R64 a) : Ev (fun _ => impl_text.f a) (decT a) := ⟨0, fun _ _ => dec_im a h⟩
theorem ws_ev (a t : ByteArray) (h : a.size + t.size ≤ 140737488355328) : Ev (fun _ => strings_Builder_WriteString.f a t) ((t.size : Int), none, a ++ t) := ⟨0, fun _ _ => by simp only [strings_Builder_WriteString.f]; rw [if_pos h]⟩
theorem fl_step (ws : List ByteArray) (bs : List Bool) (n : Int) (i : Nat) (a r : ByteArray) (hb : i < bs.length) (hw : i < ws.length) (hn : (i : Int) < n) (hi : i ≤ 100) (hs : (ws[i]).size ≤ 100) (ha : a.size ≤ 4611686018427380000)
    (h : Ev (fun k => impl_flagged.l0 k (a ++ flT bs[i] ws[i]) ws bs n ((i + 1 : Nat) : Int)) r) : Ev (fun k => impl_flagged.l0 k a ws bs n (i : Int)) r := by
  have e1 : rdOf false bs (i : Int) = bs[i] := rdOf_at _ _ _ (by omega)
  have e2 : rdOf ByteArray.empty ws (i : Int) = ws[i] := rdOf_at _ _ _ (by omega)
  have e3 : wrap64 ((i : Int) + 1) = ((i + 1 : Nat) : Int) := by unfold wrap64; omega
  have z1 : (⟨#[32]⟩ : ByteArray).size = 1 := rfl
  unfold flT at h
  refine Ev.step (fun k => by rw [impl_flagged.l0, if_pos hn, if_pos (by omega), if_pos (by omega), e1, e2, e3]) ?_
  by_cases c : bs[i] = true
  · rw [if_pos c] at h
    exact Ev.congr (fun k => if_pos c) (Ev.congr (fun k => if_pos (by omega)) (Ev.ite_le (by omega) (Ev.ite_le (by rw [ByteArray.size_append, z1]; omega) h)))
  · rw [if_neg c, app_nil] at h
    exact Ev.congr (fun k => if_neg c) h
theorem fl_end (ws : List ByteArray) (bs : List Bool) (n : Int) (a : ByteArray) (ha : a.size ≤ 4611686018427380000) : Ev (fun k => impl_flagged.l0 k a ws bs n n) (a ++ ⟨#[10]⟩) :=
  Ev.step (fun k => by rw [impl_flagged.l0, if_neg (by omega)]) (Ev.ite_le (by omega) (Ev.now _))
theorem flag1 (a w : ByteArray) (b : Bool) (hw : w.size ≤ 100) (ha : a.size ≤ 4611686018427300000) : Ev (fun k => impl_flagged.f k a [w] [b]) ((a ++ flT b w) ++ ⟨#[10]⟩) := by
  have z0 := flT_size b w
  refine fl_step [w] [b] ((1 : Nat) : Int) 0 a _ (by simp) (by simp) (by simp) (by omega) hw (by omega) (fl_end _ _ _ _ ?_)
  show (a ++ flT b w).size ≤ _
  rw [ByteArray.size_append]
  omega
theorem flag2 (a w w' : ByteArray) (b b' : Bool) (hw : w.size ≤ 100) (hw' : w'.size ≤ 100) (ha : a.size ≤ 4611686018427300000) : Ev (fun k => impl_flagged.f k a [w, w'] [b, b']) (((a ++ flT b w) ++ flT b' w') ++ ⟨#[10]⟩) := by
  have z0 := flT_size b w
  have z1 := flT_size b' w'
  refine fl_step [w, w'] [b, b'] ((2 : Nat) : Int) 0 a _ (by simp) (by simp) (by simp) (by omega) hw (by omega) (fl_step [w, w'] [b, b'] ((2 : Nat) : Int) 1 _ _ (by simp) (by simp) (by simp) (by omega) hw' ?_ (fl_end _ _ _ _ ?_))
  · show (a ++ flT b w).size ≤ _
    rw [ByteArray.size_append]
    omega
  · show ((a ++ flT b w) ++ flT b' w').size ≤ _
    rw [ByteArray.size_append, ByteArray.size_append]
    omega
theorem flag3 (a w w' w'' : ByteArray) (b b' b'' : Bool) (hw : w.size ≤ 100) (hw' : w'.size ≤ 100) (hw'' : w''.size ≤ 100) (ha : a.size ≤ 4611686018427300000) : Ev (fun k => impl_flagged.f k a [w, w', w''] [b, b', b'']) ((((a ++ flT b w) ++ flT b' w') ++ flT b'' w'') ++ ⟨#[10]⟩) := by
  have z0 := flT_size b w
  have z1 := flT_size b' w'
  have z2 := flT_size b'' w''
  refine fl_step [w, w', w''] [b, b', b''] ((3 : Nat) : Int) 0 a _ (by simp) (by simp) (by simp) (by omega) hw (by omega) (fl_step [w, w', w''] [b, b', b''] ((3 : Nat) : Int) 1 _ _ (by simp) (by simp) (by simp) (by omega) hw' ?_ (fl_step [w, w', w''] [b, b', b''] ((3 : Nat) : Int) 2 _ _ (by simp) (by simp) (by simp) (by omega) hw'' ?_ (fl_end _ _ _ _ ?_)))
  · show (a ++ flT b w).size ≤ _
    rw [ByteArray.size_append]
    omega
  · show ((a ++ flT b w) ++ flT b' w').size ≤ _
    rw [ByteArray.size_append, ByteArray.size_append]
    omega
  · show (((a ++ flT b w) ++ flT b' w') ++ flT b'' w'').size ≤ _
    rw [ByteArray.size_append, ByteArray.size_append, ByteArray.size_append]
    omega
theorem spec_class_text (it : S77 → ByteArray) (n s : ByteArray) (f b : Bool) (fs : List S67) (ms : List S71) (H : TxOk it fs ms) (hn : n.size ≤ 1048576) (hs : s.size ≤ 1048576) : Ev (fun k => spec_l14Class.f k n s f b fs ms) (clsT it n s f b fs ms) := by
  have zf := flT_size f ⟨#[102, 105, 110, 97, 108]⟩
  have zb := flT_size b ⟨#[97, 98, 115, 116, 114, 97, 99, 116]⟩
  simp only [bsz, List.length_cons, List.length_nil] at zf zb
  have hd : (clsHd n s f b).size ≤ 3000000 := by
    unfold clsHd
    simp only [ByteArray.size_append, bsz, List.length_cons, List.length_nil]
    omega
  have h1 := tfold_size fldT 2097200 fs (fun x hx => fldT_size x (H.hf x hx)) (clsHd n s f b)
  have lf := H.lf
  have lm := H.lm
  unfold spec_l14Class.f
  refine Ev.ite_le (by (try simp only [ByteArray.size_append, bsz, List.length_cons, List.length_nil]); omega) (Ev.ite_le (by (try simp only [ByteArray.size_append, bsz, List.length_cons, List.length_nil]); omega) (Ev.ite_le (by (try simp only [ByteArray.size_append, bsz, List.length_cons, List.length_nil]); omega) (Ev.bind (if_ev f ⟨#[102, 105, 110, 97, 108]⟩ (by simp only [bsz, List.length_cons, List.length_nil]; omega)) (Ev.ite_le (by (try simp only [ByteArray.size_append, bsz, List.length_cons, List.length_nil]); omega) (Ev.bind (if_ev b ⟨#[97, 98, 115, 116, 114, 97, 99, 116]⟩ (by simp only [bsz, List.length_cons, List.length_nil]; omega)) (Ev.ite_le (by (try simp only [ByteArray.size_append, bsz, List.length_cons, List.length_nil]); omega) (Ev.ite_le (by (try simp only [ByteArray.size_append, bsz, List.length_cons, List.length_nil]); omega) (?_))))))))
  refine t_loop (L := fun k a i => spec_l14Class.l0 k a i n s f b fs ms) (Z := fun k a => spec_l14Class.l1 k a 0 n s f b fs ms) fldT 2097200 4000000000 fs (fun x hx => fldT_size x (H.hf x hx)) (fun i hi a r ha hr => ?_) (fun a r hr => Ev.step (fun k => by rw [spec_l14Class.l0, if_neg (by omega)]) hr) (clsHd n s f b) _ (by omega) ?_
  · have e1 : rd_T67 fs (i : Int) = fs[i] := getD_at hi
    have hx := H.hf _ (List.getElem_mem hi)
    have zs := flT_size fs[i].f2 ⟨#[115, 116, 97, 116, 105, 99]⟩
    simp only [bsz, List.length_cons, List.length_nil] at zs
    have x0 := hx.1
    have x1 := hx.2
    refine Ev.step (fun k => by rw [spec_l14Class.l0, if_pos (by omega), if_pos (by omega), e1, up64 hi (by omega)]) ?_
    exact Ev.ite_le (by (try simp only [ByteArray.size_append, bsz, List.length_cons, List.length_nil]); omega) (Ev.ite_le (by (try simp only [ByteArray.size_append, bsz, List.length_cons, List.length_nil]); omega) (Ev.ite_le (by (try simp only [ByteArray.size_append, bsz, List.length_cons, List.length_nil]); omega) (Ev.ite_le (by (try simp only [ByteArray.size_append, bsz, List.length_cons, List.length_nil]); omega) (Ev.bind (if_ev fs[i].f2 ⟨#[115, 116, 97, 116, 105, 99]⟩ (by simp only [bsz, List.length_cons, List.length_nil]; omega)) (Ev.ite_le (by (try simp only [ByteArray.size_append, bsz, List.length_cons, List.length_nil]); omega) (Ev.ite_le (by (try simp only [ByteArray.size_append, bsz, List.length_cons, List.length_nil]); omega) (Ev.congr (fun k => by simp only [fldT, ByteArray.append_assoc]) hr)))))))
  refine t_loop (L := fun k a i => spec_l14Class.l1 k a i n s f b fs ms) (Z := fun _ a => some a) (methT it) 250000000 4000000000 ms (fun m hm => methT_size it (fun x h1 h2 => (H.hit x h1 h2).2.2) m (H.hm m hm).1 (H.hm m hm).2.1 (H.hm m hm).2.2) (fun i hi a r ha hr => ?_) (fun a r hr => Ev.step (fun k => by rw [spec_l14Class.l1, if_neg (by omega)]) hr) _ _ (by omega) (Ev.now _)
  have e1 : rd_T71 ms (i : Int) = ms[i] := getD_at hi
  obtain ⟨hA, hX, hL⟩ := H.hm _ (List.getElem_mem hi)
  generalize ms[i] = m at e1 hA hX hL hr
  obtain ⟨hl7, hl8⟩ := hL
  obtain ⟨r5, r6, rI, rH⟩ := hX
  have z5 := decT_size m.f5 r5.1 r5.2
  have z6 := decT_size m.f6 r6.1 r6.2
  have y2 := flT_size m.f2 ⟨#[115, 116, 97, 116, 105, 99]⟩
  have y3 := flT_size m.f3 ⟨#[97, 98, 115, 116, 114, 97, 99, 116]⟩
  have y4 := flT_size m.f4 ⟨#[102, 105, 110, 97, 108]⟩
  simp only [bsz, List.length_cons, List.length_nil] at y2 y3 y4
  have s0 := hA.1
  have s1 := hA.2.1
  have hds := hdT_size m ⟨r5, r6⟩ s0 s1
  have hcs : ∀ x ∈ m.f7, (it x ++ (⟨#[10]⟩ : ByteArray)).size ≤ 3145801 := fun x hx => by
    have := (H.hit x (rI x hx) (hA.2.2.1 x hx)).2.2
    simp only [ByteArray.size_append, bsz, List.length_cons, List.length_nil]
    omega
  have hhs : ∀ x ∈ m.f8, (hanT x).size ≤ 1048700 := fun x hx => hanT_size x (rH x hx) (hA.2.2.2.1 x hx)
  have hc7 := tfold_size (fun x => it x ++ (⟨#[10]⟩ : ByteArray)) 3145801 m.f7 hcs (a ++ hdT m)
  have hsz : (a ++ hdT m).size = a.size + (hdT m).size := ByteArray.size_append
  have l7 : m.f7.length ≤ 4611686018427387904 := by omega
  have l8 : m.f8.length ≤ 4611686018427387904 := by omega
  refine Ev.step (fun k => by rw [spec_l14Class.l1, if_pos (by omega), if_pos (by omega), e1]) ?_
  refine Ev.ite_le (by (try simp only [ByteArray.size_append, bsz, List.length_cons, List.length_nil]); omega) (Ev.ite_le (by (try simp only [ByteArray.size_append, bsz, List.length_cons, List.length_nil]); omega) (Ev.ite_le (by (try simp only [ByteArray.size_append, bsz, List.length_cons, List.length_nil]); omega) (Ev.ite_le (by (try simp only [ByteArray.size_append, bsz, List.length_cons, List.length_nil]); omega) (Ev.ite_le (by (try simp only [ByteArray.size_append, bsz, List.length_cons, List.length_nil]); omega) (Ev.bind (dec_ev m.f5 r5) (Ev.ite_le (by (try simp only [ByteArray.size_append, bsz, List.length_cons, List.length_nil]); omega) (Ev.ite_le (by (try simp only [ByteArray.size_append, bsz, List.length_cons, List.length_nil]); omega) (Ev.bind (dec_ev m.f6 r6) (Ev.ite_le (by (try simp only [ByteArray.size_append, bsz, List.length_cons, List.length_nil]); omega) (Ev.bind (if_ev m.f2 ⟨#[115, 116, 97, 116, 105, 99]⟩ (by simp only [bsz, List.length_cons, List.length_nil]; omega)) (Ev.ite_le (by (try simp only [ByteArray.size_append, bsz, List.length_cons, List.length_nil]); omega) (Ev.bind (if_ev m.f3 ⟨#[97, 98, 115, 116, 114, 97, 99, 116]⟩ (by simp only [bsz, List.length_cons, List.length_nil]; omega)) (Ev.ite_le (by (try simp only [ByteArray.size_append, bsz, List.length_cons, List.length_nil]); omega) (Ev.bind (if_ev m.f4 ⟨#[102, 105, 110, 97, 108]⟩ (by simp only [bsz, List.length_cons, List.length_nil]; omega)) (Ev.ite_le (by (try simp only [ByteArray.size_append, bsz, List.length_cons, List.length_nil]); omega) (Ev.ite_le (by (try simp only [ByteArray.size_append, bsz, List.length_cons, List.length_nil]); omega) (?_)))))))))))))))))
  refine Ev.congr (f := fun k => spec_l14Class.l2 k (a ++ hdT m) (i : Int) 0 n s f b fs ms m.f0 m.f1 m.f2 m.f3 m.f4 m.f5 m.f6 m.f7 m.f8) (fun k => by simp only [hdT, ByteArray.append_assoc]) ?_
  refine t_loop (L := fun k a j => spec_l14Class.l2 k a (i : Int) j n s f b fs ms m.f0 m.f1 m.f2 m.f3 m.f4 m.f5 m.f6 m.f7 m.f8) (Z := fun k a => spec_l14Class.l3 k a (i : Int) 0 n s f b fs ms m.f0 m.f1 m.f2 m.f3 m.f4 m.f5 m.f6 m.f7 m.f8) (fun x => it x ++ (⟨#[10]⟩ : ByteArray)) 3145801 4000000000 m.f7 hcs (fun j hj a r ha hb => ?_) (fun a r hr => Ev.step (fun k => by rw [spec_l14Class.l2, if_neg (by omega)]) hr) _ _ (by omega) ?_
  · have e2 : rd_T77 m.f7 (j : Int) = m.f7[j] := getD_at hj
    obtain ⟨i1, _, i3⟩ := H.hit _ (rI _ (List.getElem_mem hj)) (hA.2.2.1 _ (List.getElem_mem hj))
    refine Ev.step (fun k => by rw [spec_l14Class.l2, if_pos (by omega), if_pos (by omega), e2, up64 hj l7]) (Ev.bind ⟨22, i1⟩ ?_)
    exact Ev.ite_le (by (try simp only [ByteArray.size_append, bsz, List.length_cons, List.length_nil]); omega) (Ev.ite_le (by (try simp only [ByteArray.size_append, bsz, List.length_cons, List.length_nil]); omega) (Ev.congr (fun k => by simp only [ByteArray.append_assoc]) hb))
  refine t_loop (L := fun k a j => spec_l14Class.l3 k a (i : Int) j n s f b fs ms m.f0 m.f1 m.f2 m.f3 m.f4 m.f5 m.f6 m.f7 m.f8) (Z := fun k a => spec_l14Class.l1 k a ((i + 1 : Nat) : Int) n s f b fs ms) hanT 1048700 4000000000 m.f8 hhs (fun j hj a r ha hb => ?_) (fun a r hr => Ev.step (fun k => by rw [spec_l14Class.l3, if_neg (by omega), up64 hi (by omega)]) hr) _ _ (by omega) ?_
  · have e2 : rd_T79 m.f8 (j : Int) = m.f8[j] := getD_at hj
    have hh := rH _ (List.getElem_mem hj)
    have h3 := hA.2.2.2.1 _ (List.getElem_mem hj)
    generalize m.f8[j] = h at e2 hh h3 hb
    have q0 := decT_size h.f0 hh.1.1 hh.1.2
    have q1 := decT_size h.f1 hh.2.1.1 hh.2.1.2
    have q2 := decT_size h.f2 hh.2.2.1 hh.2.2.2
    refine Ev.step (fun k => by rw [spec_l14Class.l3, if_pos (by omega), if_pos (by omega), e2, up64 hj l8]) ?_
    exact Ev.ite_le (by (try simp only [ByteArray.size_append, bsz, List.length_cons, List.length_nil]); omega) (Ev.bind (dec_ev h.f0 hh.1) (Ev.ite_le (by (try simp only [ByteArray.size_append, bsz, List.length_cons, List.length_nil]); omega) (Ev.ite_le (by (try simp only [ByteArray.size_append, bsz, List.length_cons, List.length_nil]); omega) (Ev.bind (dec_ev h.f1 hh.2.1) (Ev.ite_le (by (try simp only [ByteArray.size_append, bsz, List.length_cons, List.length_nil]); omega) (Ev.ite_le (by (try simp only [ByteArray.size_append, bsz, List.length_cons, List.length_nil]); omega) (Ev.bind (dec_ev h.f2 hh.2.2) (Ev.ite_le (by (try simp only [ByteArray.size_append, bsz, List.length_cons, List.length_nil]); omega) (Ev.ite_le (by (try simp only [ByteArray.size_append, bsz, List.length_cons, List.length_nil]); omega) (Ev.ite_le (by (try simp only [ByteArray.size_append, bsz, List.length_cons, List.length_nil]); omega) (Ev.ite_le (by (try simp only [ByteArray.size_append, bsz, List.length_cons, List.length_nil]); omega) (Ev.congr (fun k => by simp only [hanT, ByteArray.append_assoc]) hb))))))))))))
  rw [tfold_app, tfold_app]
  exact hr
theorem impl_class_text (it : S77 → ByteArray) (n s : ByteArray) (f b : Bool) (fs : List S67) (ms : List S71) (H : TxOk it fs ms) (hn : n.size ≤ 1048576) (hs : s.size ≤ 1048576) : Ev (fun k => impl_classText.f k n s f b fs ms) (clsT it n s f b fs ms) := by
  have zf := flT_size f ⟨#[102, 105, 110, 97, 108]⟩
  have zb := flT_size b ⟨#[97, 98, 115, 116, 114, 97, 99, 116]⟩
  simp only [bsz, List.length_cons, List.length_nil] at zf zb
  have hd : (clsHd n s f b).size ≤ 3000000 := by
    unfold clsHd
    simp only [ByteArray.size_append, bsz, List.length_cons, List.length_nil]
    omega
  have h1 := tfold_size fldT 2097200 fs (fun x hx => fldT_size x (H.hf x hx)) (clsHd n s f b)
  have lf := H.lf
  have lm := H.lm
  unfold impl_classText.f
  refine Ev.ite_le (by (try simp only [ByteArray.size_append, bsz, List.length_cons, List.length_nil]); omega) (Ev.ite_le (by (try simp only [ByteArray.size_append, bsz, List.length_cons, List.length_nil]); omega) (Ev.ite_le (by (try simp only [ByteArray.size_append, bsz, List.length_cons, List.length_nil]); omega) (Ev.bind (flag2 _ _ _ f b (by simp only [bsz, List.length_cons, List.length_nil]; omega) (by simp only [bsz, List.length_cons, List.length_nil]; omega) (by (try simp only [ByteArray.size_append, bsz, List.length_cons, List.length_nil]); omega)) (Ev.bind (ws_ev _ _ (by (try simp only [ByteArray.size_append, bsz, List.length_cons, List.length_nil]); omega)) ?_))))
  refine Ev.congr (f := fun k => impl_classText.l0 k fs (fs.length : Int) 0 n s f b fs ms (clsHd n s f b)) (fun k => by simp only [clsHd, nil_app]) ?_
  refine t_loop (L := fun k a i => impl_classText.l0 k fs (fs.length : Int) i n s f b fs ms a) (Z := fun k a => impl_classText.l1 k ms (ms.length : Int) 0 a) fldT 2097200 4000000000 fs (fun x hx => fldT_size x (H.hf x hx)) (fun i hi a r ha hr => ?_) (fun a r hr => Ev.step (fun k => by rw [impl_classText.l0, if_neg (by omega)]) hr) (clsHd n s f b) _ (by omega) ?_
  · have e1 : rd_T67 fs (i : Int) = fs[i] := getD_at hi
    have hx := H.hf _ (List.getElem_mem hi)
    have zs := flT_size fs[i].f2 ⟨#[115, 116, 97, 116, 105, 99]⟩
    simp only [bsz, List.length_cons, List.length_nil] at zs
    have x0 := hx.1
    have x1 := hx.2
    refine Ev.step (fun k => by rw [impl_classText.l0, if_pos (by omega), if_pos (by omega), if_pos (by omega), e1, up64 hi (by omega)]) ?_
    exact Ev.ite_le (by (try simp only [ByteArray.size_append, bsz, List.length_cons, List.length_nil]); omega) (Ev.ite_le (by (try simp only [ByteArray.size_append, bsz, List.length_cons, List.length_nil]); omega) (Ev.ite_le (by (try simp only [ByteArray.size_append, bsz, List.length_cons, List.length_nil]); omega) (Ev.bind (flag1 _ _ fs[i].f2 (by simp only [bsz, List.length_cons, List.length_nil]; omega) (by (try simp only [ByteArray.size_append, bsz, List.length_cons, List.length_nil]); omega)) (Ev.bind (ws_ev _ _ (by (try simp only [ByteArray.size_append, bsz, List.length_cons, List.length_nil]); omega)) (Ev.congr (fun k => by simp only [fldT, ByteArray.append_assoc]) hr)))))
  refine t_loop (L := fun k a i => impl_classText.l1 k ms (ms.length : Int) i a) (Z := fun _ a => some a) (methT it) 250000000 4000000000 ms (fun m hm => methT_size it (fun x h1 h2 => (H.hit x h1 h2).2.2) m (H.hm m hm).1 (H.hm m hm).2.1 (H.hm m hm).2.2) (fun i hi a r ha hr => ?_) (fun a r hr => Ev.step (f := fun _ => some a) (fun k => by rw [impl_classText.l1, if_neg (by omega)]; rfl) hr) _ _ (by omega) (Ev.now _)
  have e1 : rd_T71 ms (i : Int) = ms[i] := getD_at hi
  obtain ⟨hA, hX, hL⟩ := H.hm _ (List.getElem_mem hi)
  generalize ms[i] = m at e1 hA hX hL hr
  obtain ⟨hl7, hl8⟩ := hL
  obtain ⟨r5, r6, rI, rH⟩ := hX
  have z5 := decT_size m.f5 r5.1 r5.2
  have z6 := decT_size m.f6 r6.1 r6.2
  have y2 := flT_size m.f2 ⟨#[115, 116, 97, 116, 105, 99]⟩
  have y3 := flT_size m.f3 ⟨#[97, 98, 115, 116, 114, 97, 99, 116]⟩
  have y4 := flT_size m.f4 ⟨#[102, 105, 110, 97, 108]⟩
  simp only [bsz, List.length_cons, List.length_nil] at y2 y3 y4
  have s0 := hA.1
  have s1 := hA.2.1
  have hds := hdT_size m ⟨r5, r6⟩ s0 s1
  have hcs : ∀ x ∈ m.f7, (it x ++ (⟨#[10]⟩ : ByteArray)).size ≤ 3145801 := fun x hx => by
    have := (H.hit x (rI x hx) (hA.2.2.1 x hx)).2.2
    simp only [ByteArray.size_append, bsz, List.length_cons, List.length_nil]
    omega
  have hhs : ∀ x ∈ m.f8, (hanT x).size ≤ 1048700 := fun x hx => hanT_size x (rH x hx) (hA.2.2.2.1 x hx)
  have hc7 := tfold_size (fun x => it x ++ (⟨#[10]⟩ : ByteArray)) 3145801 m.f7 hcs (a ++ hdT m)
  have hsz : (a ++ hdT m).size = a.size + (hdT m).size := ByteArray.size_append
  have l7 : m.f7.length ≤ 4611686018427387904 := by omega
  have l8 : m.f8.length ≤ 4611686018427387904 := by omega
  refine Ev.step (fun k => by rw [impl_classText.l1, if_pos (by omega), if_pos (by omega), if_pos (by omega), e1]) ?_
  refine Ev.ite_le (by (try simp only [ByteArray.size_append, bsz, List.length_cons, List.length_nil]); omega) (Ev.ite_le (by (try simp only [ByteArray.size_append, bsz, List.length_cons, List.length_nil]); omega) (Ev.ite_le (by (try simp only [ByteArray.size_append, bsz, List.length_cons, List.length_nil]); omega) (Ev.ite_le (by (try simp only [ByteArray.size_append, bsz, List.length_cons, List.length_nil]); omega) (Ev.bind (dec_iv m.f5 r5) (Ev.ite_le (by (try simp only [ByteArray.size_append, bsz, List.length_cons, List.length_nil]); omega) (Ev.ite_le (by (try simp only [ByteArray.size_append, bsz, List.length_cons, List.length_nil]); omega) (Ev.bind (dec_iv m.f6 r6) (Ev.ite_le (by (try simp only [ByteArray.size_append, bsz, List.length_cons, List.length_nil]); omega) (Ev.bind (flag3 _ _ _ _ m.f2 m.f3 m.f4 (by simp only [bsz, List.length_cons, List.length_nil]; omega) (by simp only [bsz, List.length_cons, List.length_nil]; omega) (by simp only [bsz, List.length_cons, List.length_nil]; omega) (by (try simp only [ByteArray.size_append, bsz, List.length_cons, List.length_nil]); omega)) (Ev.bind (ws_ev _ _ (by (try simp only [ByteArray.size_append, bsz, List.length_cons, List.length_nil]); omega)) ?_))))))))))
  refine Ev.congr (f := fun k => impl_classText.l2 k ms (ms.length : Int) (i : Int) m.f7 (m.f7.length : Int) 0 (a ++ hdT m) m.f0 m.f1 m.f2 m.f3 m.f4 m.f5 m.f6 m.f7 m.f8) (fun k => by simp only [hdT, ByteArray.append_assoc]) ?_
  refine t_loop (L := fun k a j => impl_classText.l2 k ms (ms.length : Int) (i : Int) m.f7 (m.f7.length : Int) j a m.f0 m.f1 m.f2 m.f3 m.f4 m.f5 m.f6 m.f7 m.f8) (Z := fun k a => impl_classText.l3 k ms (ms.length : Int) (i : Int) m.f8 (m.f8.length : Int) 0 a) (fun x => it x ++ (⟨#[10]⟩ : ByteArray)) 3145801 4000000000 m.f7 hcs (fun j hj a r ha hb => ?_) (fun a r hr => Ev.step (fun k => by rw [impl_classText.l2, if_neg (by omega)]) hr) _ _ (by omega) ?_
  · have e2 : rd_T77 m.f7 (j : Int) = m.f7[j] := getD_at hj
    obtain ⟨_, i2, i3⟩ := H.hit _ (rI _ (List.getElem_mem hj)) (hA.2.2.1 _ (List.getElem_mem hj))
    refine Ev.step (fun k => by rw [impl_classText.l2, if_pos (by omega), if_pos (by omega), if_pos (by omega), e2, up64 hj l7]) (Ev.bind ⟨22, i2⟩ ?_)
    exact Ev.ite_le (by (try simp only [ByteArray.size_append, bsz, List.length_cons, List.length_nil]); omega) (Ev.bind (ws_ev _ _ (by (try simp only [ByteArray.size_append, bsz, List.length_cons, List.length_nil]); omega)) hb)
  refine t_loop (L := fun k a j => impl_classText.l3 k ms (ms.length : Int) (i : Int) m.f8 (m.f8.length : Int) j a) (Z := fun k a => impl_classText.l1 k ms (ms.length : Int) ((i + 1 : Nat) : Int) a) hanT 1048700 4000000000 m.f8 hhs (fun j hj a r ha hb => ?_) (fun a r hr => Ev.step (fun k => by rw [impl_classText.l3, if_neg (by omega), up64 hi (by omega)]) hr) _ _ (by omega) ?_
  · have e2 : rd_T79 m.f8 (j : Int) = m.f8[j] := getD_at hj
    have hh := rH _ (List.getElem_mem hj)
    have h3 := hA.2.2.2.1 _ (List.getElem_mem hj)
    generalize m.f8[j] = h at e2 hh h3 hb
    have q0 := decT_size h.f0 hh.1.1 hh.1.2
    have q1 := decT_size h.f1 hh.2.1.1 hh.2.1.2
    have q2 := decT_size h.f2 hh.2.2.1 hh.2.2.2
    refine Ev.step (fun k => by rw [impl_classText.l3, if_pos (by omega), if_pos (by omega), if_pos (by omega), e2, up64 hj l8]) ?_
    exact Ev.bind (dec_iv h.f0 hh.1) (Ev.ite_le (by (try simp only [ByteArray.size_append, bsz, List.length_cons, List.length_nil]); omega) (Ev.ite_le (by (try simp only [ByteArray.size_append, bsz, List.length_cons, List.length_nil]); omega) (Ev.bind (dec_iv h.f1 hh.2.1) (Ev.ite_le (by (try simp only [ByteArray.size_append, bsz, List.length_cons, List.length_nil]); omega) (Ev.ite_le (by (try simp only [ByteArray.size_append, bsz, List.length_cons, List.length_nil]); omega) (Ev.bind (dec_iv h.f2 hh.2.2) (Ev.ite_le (by (try simp only [ByteArray.size_append, bsz, List.length_cons, List.length_nil]); omega) (Ev.ite_le (by (try simp only [ByteArray.size_append, bsz, List.length_cons, List.length_nil]); omega) (Ev.ite_le (by (try simp only [ByteArray.size_append, bsz, List.length_cons, List.length_nil]); omega) (Ev.ite_le (by (try simp only [ByteArray.size_append, bsz, List.length_cons, List.length_nil]); omega) (Ev.bind (ws_ev _ _ (by (try simp only [ByteArray.size_append, bsz, List.length_cons, List.length_nil]); omega)) hb)))))))))))
  rw [tfold_app, tfold_app]
  exact hr

theorem mtx_of (x : S65) (h : ok65 x) : MTx (cMethod x) := by
  obtain ⟨_, _, _, _, _, h5, h6, h7, h8⟩ := h
  refine ⟨i64_in h5, i64_in h6, fun i hi => ?_, fun q hq => ?_⟩
  · obtain ⟨z, hz, rfl⟩ := List.mem_map.mp hi
    exact i64_in (h7.2 z hz).2.1
  · obtain ⟨z, hz, rfl⟩ := List.mem_map.mp hq
    have g := h8.2 z hz
    exact ⟨i64_in g.1, i64_in g.2.1, i64_in g.2.2.1⟩

theorem clsT_size (it : S77 → ByteArray) (n s : ByteArray) (f b : Bool) (fs : List S67) (ms : List S71) (H : TxOk it fs ms) (hn : n.size ≤ 1048576) (hs : s.size ≤ 1048576) : (clsT it n s f b fs ms).size ≤ 3000000000 := by
  have zf := flT_size f ⟨#[102, 105, 110, 97, 108]⟩
  have zb := flT_size b ⟨#[97, 98, 115, 116, 114, 97, 99, 116]⟩
  simp only [bsz, List.length_cons, List.length_nil] at zf zb
  have hd : (clsHd n s f b).size ≤ 3000000 := by
    unfold clsHd
    simp only [ByteArray.size_append, bsz, List.length_cons, List.length_nil]
    omega
  have h1 := tfold_size fldT 2097200 fs (fun x hx => fldT_size x (H.hf x hx)) (clsHd n s f b)
  have h2 := tfold_size (methT it) 250000000 ms (fun m hm => methT_size it (fun x h1 h2 => (H.hit x h1 h2).2.2) m (H.hm m hm).1 (H.hm m hm).2.1 (H.hm m hm).2.2) (fs.foldl (fun a x => a ++ fldT x) (clsHd n s f b))
  have lf := H.lf
  have lm := H.lm
  unfold clsT
  omega
structure COk (c : S31) : Prop where
  hn : c.f0.size ≤ 1048576
  hs : c.f1.size ≤ 1048576
  l4 : c.f4.length ≤ 1048576
  l5 : c.f5.length ≤ 1048576
  hm : ∀ x ∈ c.f5, MAll x
  hf : ∀ x ∈ c.f4, FSz x
  ht : ∀ x ∈ c.f5, MTx x
theorem class_one (c : S31) (h : COk c) : ∃ t, Ev (fun k => spec_ClassRight.f k c.f0 c.f1 c.f2 c.f3 c.f4 c.f5) t ∧ Ev (fun k => impl_ClassRight.f k c.f0 c.f1 c.f2 c.f3 c.f4 c.f5) t ∧ (t = true → ∃ T : ByteArray, Ev (fun k => spec_l14Class.f k c.f0 c.f1 c.f2 c.f3 c.f4 c.f5) T ∧ Ev (fun k => impl_classText.f k c.f0 c.f1 c.f2 c.f3 c.f4 c.f5) T ∧ T.size ≤ 3000000000) := by
  obtain ⟨t, t1, t2, t3⟩ := class_right_len c.f0 c.f1 c.f2 c.f3 c.f4 c.f5 h.hn h.hs h.l4 h.l5 h.hm h.hf
  refine ⟨t, t1, t2, fun ht => ?_⟩
  obtain ⟨lf, lm, hk⟩ := t3 ht
  obtain ⟨it, hit⟩ := ins_fun
  have H : TxOk it c.f4 c.f5 := ⟨hit, lf, lm, h.hf, fun m hm => ⟨h.hm m hm, h.ht m hm, hk m hm⟩⟩
  exact ⟨_, spec_class_text it c.f0 c.f1 c.f2 c.f3 c.f4 c.f5 H h.hn h.hs, impl_class_text it c.f0 c.f1 c.f2 c.f3 c.f4 c.f5 H h.hn h.hs, clsT_size it c.f0 c.f1 c.f2 c.f3 c.f4 c.f5 H h.hn h.hs⟩
theorem world_loop (ws : List S31) (hl : ws.length ≤ 10) (hw : ∀ c ∈ ws, COk c) (d : Nat) : ∀ (i : Nat) (a : ByteArray), i + d = ws.length → a.size + 3000000000 * d ≤ 40000000000000 → ∃ r, Ev (fun k => spec_WorldText.l0 k ws a (i : Int)) r ∧ Ev (fun k => impl_WorldText.l0 k ws (ws.length : Int) (i : Int) a) r := by
  induction d with
  | zero =>
    intro i a hd ha
    exact ⟨a, Ev.step (f := fun _ => some a) (fun k => by rw [spec_WorldText.l0, if_neg (by omega)]) (Ev.now _), Ev.step (f := fun _ => some a) (fun k => by rw [impl_WorldText.l0, if_neg (by omega)]; rfl) (Ev.now _)⟩
  | succ d ih =>
    intro i a hd ha
    have hi : i < ws.length := by omega
    have e1 : rd_T31 ws (i : Int) = ws[i] := getD_at hi
    obtain ⟨t, t1, t2, t3⟩ := class_one ws[i] (hw _ (List.getElem_mem hi))
    rw [Nat.mul_succ] at ha
    cases t with
    | false => exact ⟨⟨#[]⟩, Ev.step (fun k => by rw [spec_WorldText.l0, if_pos (by omega), if_pos (by omega), e1]) (Ev.bind t1 (Ev.congr (f := fun _ => some (⟨#[]⟩ : ByteArray)) (fun k => if_neg Bool.false_ne_true) (Ev.now _))), Ev.step (fun k => by rw [impl_WorldText.l0, if_pos (by omega), if_pos (by omega), if_pos (by omega), e1]) (Ev.bind t2 (Ev.congr (f := fun _ => some (⟨#[]⟩ : ByteArray)) (fun k => if_neg Bool.false_ne_true) (Ev.now _)))⟩
    | true =>
      obtain ⟨T, s1, s2, s3⟩ := t3 rfl
      obtain ⟨r, h1, h2⟩ := ih (i + 1) (a ++ T) (by omega) (by rw [ByteArray.size_append]; omega)
      exact ⟨r, Ev.step (fun k => by rw [spec_WorldText.l0, if_pos (by omega), if_pos (by omega), e1, up64 hi (by omega)]) (Ev.bind t1 (Ev.congr (fun k => if_pos rfl) (Ev.bind s1 (Ev.ite_le (n := a.size + T.size) (by omega) h1)))), Ev.step (fun k => by rw [impl_WorldText.l0, if_pos (by omega), if_pos (by omega), if_pos (by omega), e1, up64 hi (by omega)]) (Ev.bind t2 (Ev.congr (fun k => if_pos rfl) (Ev.bind s2 (Ev.bind (ws_ev a T (by omega)) h2))))⟩
theorem world_text_same (ws : List S31) (hw : ∀ c ∈ ws, COk c) : ∃ r, Ev (fun k => spec_WorldText.f k ws) r ∧ Ev (fun k => impl_WorldText.f k ws) r := by
  unfold spec_WorldText.f impl_WorldText.f
  by_cases c : (ws.length : Int) > 10
  · exact ⟨⟨#[]⟩, Ev.congr (f := fun _ => some (⟨#[]⟩ : ByteArray)) (fun k => if_pos c) (Ev.now _), Ev.congr (f := fun _ => some (⟨#[]⟩ : ByteArray)) (fun k => if_pos c) (Ev.now _)⟩
  · obtain ⟨r, h1, h2⟩ := world_loop ws (by omega) hw ws.length 0 ⟨#[]⟩ (by omega) (by show 0 + _ ≤ _; omega)
    exact ⟨r, Ev.congr (fun k => if_neg c) h1, Ev.congr (fun k => if_neg c) h2⟩
def cClass (x : S25) : S31 := ⟨x.f0, x.f1, x.f2, x.f3, x.f4.map cField, x.f5.map cMethod⟩
theorem cok_of (x : S25) (hx : ok25 x) (hX : CB x) : COk (cClass x) := by
  have mx := msz_map x.f5 hX.lsz
  refine ⟨hX.1, hX.2.1, by simpa [cClass] using hX.2.2.1.1, by simpa [cClass] using hX.2.2.2.1, ?_, ?_, ?_⟩
  · intro y hy
    have h9 := mx y hy
    obtain ⟨z, hz, rfl⟩ := List.mem_map.mp hy
    obtain ⟨h0, h1, h2, h3, h4⟩ := hX.2.2.2.2 z hz
    refine ⟨h0, h1, fun i hi => ?_, fun i hi => ?_, h9⟩
    · obtain ⟨q, hq, rfl⟩ := List.mem_map.mp hi
      exact h3 q hq
    · obtain ⟨q, hq, rfl⟩ := List.mem_map.mp hi
      exact h4 q hq
  · intro y hy
    obtain ⟨z, hz, rfl⟩ := List.mem_map.mp hy
    exact hX.2.2.1.2 z hz
  · intro y hy
    obtain ⟨z, hz, rfl⟩ := List.mem_map.mp hy
    exact mtx_of z (hx.2.2.2.2.2.2 z hz)
theorem sz_ClassS (a : List S25) (ha : a.length ≤ maxLen) (ho : ∀ x ∈ a, ok25 x) (m : Int) (h0 : 0 ≤ m) (h1 : m ≤ 1048576) :
    SzOk (fun k => laws_szClassS.f k a m) m (a.length ≤ 1048576 ∧ ∀ x ∈ a, CB x) := by
  unfold maxLen at ha
  refine SzOk.mono (SzOk.size (n := a.length) (g := fun v k => laws_szClassS.l0 k a v 0) h0 h1 (by omega) (fun v p q _ => sz_list (z := z25) (Z := fun k x m => laws_szClass.f k x.f0 x.f1 x.f2 x.f3 x.f4 x.f5 m) (fun k a m i => rfl) a (by omega) (fun x hx m p q => sz_Class x (ho x hx) m p q) v p (by omega))) (fun k => rfl) (fun h => ⟨by omega, h.2⟩)
theorem to_ClassS (a : List S25) (ha : a.length ≤ 1048576) (hb : ∀ x ∈ a, CB x) : Ev (fun k => laws_toClassS.f k a) (a.map cClass) := by
  refine Ev.congr (f := fun k => laws_toClassS.l0 k a (List.replicate a.length z31) 0) (fun k => ?_) (to_list (z := z25) (T := fun k x => laws_toClass.f k x.f0 x.f1 x.f2 x.f3 x.f4 x.f5) (C := fun t => (⟨t.1, t.2.1, t.2.2.1, t.2.2.2.1, t.2.2.2.2.1, t.2.2.2.2.2⟩ : S31)) (fun k a c i => rfl) a (by omega) (fun x hx => ⟨_, to_Class x.f0 x.f1 x.f2 x.f3 x.f4 x.f5 (hb x hx).2.2.1.1 (hb x hx).2.2.2.1 (hb x hx).lsz, rfl⟩) _)
  unfold laws_toClassS.f
  rw [if_pos (by omega), if_pos (by omega)]; rfl
theorem eq_ClassS (a : List S31) (ha : a.length ≤ 1048576) (hb : ∀ c ∈ a, c.f4.length ≤ 1048576 ∧ c.f5.length ≤ 1048576 ∧ ∀ x ∈ c.f5, MSz x) : Ev (fun k => laws_eqClassS.f k a a) true := by
  have h : EvIff (fun k => laws_eqClassS.l0 k a a 0) (a = a) := eq_list (z := z31) (E := fun k x y => laws_eqClass.f k x.f0 x.f1 x.f2 x.f3 x.f4 x.f5 y.f0 y.f1 y.f2 y.f3 y.f4 y.f5) (fun k a b i => rfl) a a (fun x hx y _ => EvIff.iff (eqv_Class x.f0 x.f1 x.f2 x.f3 x.f4 x.f5 y.f0 y.f1 y.f2 y.f3 y.f4 y.f5 (hb x hx).1 (hb x hx).2.1 (hb x hx).2.2) (by
    obtain ⟨a0, a1, a2, a3, a4, a5⟩ := x
    obtain ⟨b0, b1, b2, b3, b4, b5⟩ := y
    simp)) rfl (by omega)
  exact Ev.congr (fun k => by unfold laws_eqClassS.f; rw [if_pos rfl]) (EvIff.true_ h rfl)

theorem FnExactWorldText : laws_FnExactWorldText.Pure := by
  intro x hx
  obtain ⟨v, hv, hb⟩ := sz_ClassS x hx.1 hx.2 1048576 (by omega) (by omega)
  refine Ev.rounds (Ev.congr (fun k => rfl) (Ev.bind hv ?_))
  rcases hb with hb | ⟨v0, v1, hX⟩
  · exact Ev.congr (f := fun _ => some true) (fun k => if_pos hb) (Ev.now _)
  refine Ev.congr (fun k => if_neg (by omega)) ?_
  have tx := to_ClassS x hX.1 hX.2
  have hc : ∀ c ∈ x.map cClass, COk c := by
    intro c h
    obtain ⟨z, hz, rfl⟩ := List.mem_map.mp h
    exact cok_of z (hx.2 z hz) (hX.2 z hz)
  obtain ⟨r, r1, r2⟩ := world_text_same (x.map cClass) hc
  have ex := eq_ClassS (x.map cClass) (by simpa using hX.1) (fun c h => ⟨(hc c h).l4, (hc c h).l5, fun m hm => ⟨((hc c h).hm m hm).2.2.2.2.1, ((hc c h).hm m hm).2.2.2.2.2⟩⟩)
  refine Ev.bind tx (Ev.bind r1 (Ev.bind tx (Ev.bind r2 (Ev.congr (fun k => if_pos rfl) (Ev.bind tx (Ev.bind ex (Ev.congr (f := fun _ => some true) (fun k => if_pos rfl) (Ev.now _))))))))

end Go.Proofs.YtohiakbkkmmjeaaGreatDoor.Pure
