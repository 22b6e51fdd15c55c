/- The program's InsText returns what the reference's returns, for every Ins whose texts the model can hold. -/
import Derived.Test.YtdfnljchoomliaaDoorPFnExactInsTextx9
namespace Go.Proofs.YtdfnljchoomliaaDoor.Pure
open Go.RowKit Go.Proofs.YtdfnljchoomliaaDoor.PFnExactInsText Go.Proofs.YtdfnljchoomliaaDoorW.PrintWords Go.Proofs.YtdfnljchoomliaaDoorW.PrintLast
set_option linter.unusedVariables false
set_option linter.unusedSimpArgs false

theorem op_forms_nat : ∀ n : Nat, n < 44 → spec_OpForm.f 16 (((n + 1 : Nat) : Int)) = impl_OpForm.f (((n + 1 : Nat) : Int)) ∧ (impl_OpForm.f (((n + 1 : Nat) : Int))).isSome = true := by decide +kernel
theorem op_form (a : Int) : ∃ F, impl_OpForm.f a = some F ∧ ∀ k, 16 ≤ k → spec_OpForm.f k a = some F := by
  have up : ∀ F, spec_OpForm.f 16 a = some F → ∀ k, 16 ≤ k → spec_OpForm.f k a = some F := fun F h k hk => at_rounds (g := fun k => spec_OpForm.f k a) (fun k => spec_OpForm.mono _ _) hk h
  by_cases h1 : 1 ≤ a ∧ a ≤ 44
  · have e : a = (((a - 1).toNat + 1 : Nat) : Int) := by omega
    have h := op_forms_nat (a - 1).toNat (by omega)
    rw [← e] at h
    obtain ⟨F, hF⟩ := Option.isSome_iff_exists.mp h.2
    exact ⟨F, hF, up F (h.1.trans hF)⟩
  · refine ⟨⟨#[33]⟩, ?_, up _ ?_⟩
    · unfold impl_OpForm.f impl_isOp.f impl_within.f
      by_cases c : a ≥ 1
      · rw [if_pos c]
        simp only [Option.bind_some]
        rw [if_neg (by simp; omega)]
      · rw [if_neg c]
        simp only [Option.bind_some]
        rw [if_neg (by simp)]
    · unfold spec_OpForm.f spec_l03Ops.f
      simp only [Option.bind_some]
      by_cases c : a < 1
      · rw [if_pos c]
        rfl
      · rw [if_neg c, decide_eq_true (by simp; omega)]
        rfl

theorem step64 {i : Int} {n : Nat} (h0 : 0 ≤ i) (h : i < (n : Int)) (hn : n ≤ 140737488351232) : wrap64 (i + 1) = i + 1 := by
  unfold wrap64
  omega

theorem name_byte_nat : ∀ c : Nat, c < 256 → impl_isNameByte.f (c : Int) 0 = spec_l01NameByte.f (c : Int) true ∧ impl_isNameByte.f (c : Int) 1 = spec_l01NameByte.f (c : Int) false := by decide +kernel
theorem name_byte_some (c : Int) (b : Bool) : ∃ r, spec_l01NameByte.f c b = some r := by
  unfold spec_l01NameByte.f
  repeat' split
  all_goals exact ⟨_, rfl⟩
theorem name_byte (c i : Int) (h0 : 0 ≤ c) (h1 : c ≤ 255) (hi : 0 ≤ i) : impl_isNameByte.f c i = spec_l01NameByte.f c (i == 0) := by
  obtain ⟨n, rfl⟩ := Int.eq_ofNat_of_zero_le h0
  have h := name_byte_nat n (by omega)
  by_cases e : i = 0
  · subst e; simpa using h.1
  · have e1 : (i == 0) = false := by simpa using e
    rw [e1, ← h.2]
    unfold impl_isNameByte.f
    have e2 : decide (i > 0) = decide ((1 : Int) > 0) := by simp; omega
    rw [e2]

theorem name_run_both (s : ByteArray) (hn : s.size ≤ 140737488351232) (d : Nat) : ∀ (k k' : Nat) (i : Int), 0 ≤ i → i ≤ s.size → (s.size : Int) - i = d → d < k → d < k' →
    ∃ b, spec_NameRight.l0 k s i = some b ∧ impl_NameRight.l0 k' s (s.size : Int) i = some (b && decide (1 ≤ s.size ∧ s.size ≤ 20)) := by
  induction d with
  | zero =>
    intro k k' i h0 h1 hd hk hk'
    obtain ⟨k, rfl⟩ : ∃ m, k = m + 1 := ⟨k - 1, by omega⟩
    obtain ⟨k', rfl⟩ : ∃ m, k' = m + 1 := ⟨k' - 1, by omega⟩
    refine ⟨true, ?_, ?_⟩
    · simp only [spec_NameRight.l0]; rw [if_neg (by omega)]
    · simp only [impl_NameRight.l0]
      rw [if_neg (by omega)]
      simp only [impl_length.f, impl_within.f, Option.bind_some]
      by_cases c1 : (s.size : Int) ≥ 1
      · rw [if_pos c1]
        simp only [Option.bind_some, Bool.true_and]
        exact congrArg some (decide_eq_decide.mpr (by omega))
      · rw [if_neg c1, decide_eq_false (show ¬ (1 ≤ s.size ∧ s.size ≤ 20) by omega)]
        rfl
  | succ d ih =>
    intro k k' i h0 h1 hd hk hk'
    obtain ⟨k, rfl⟩ : ∃ m, k = m + 1 := ⟨k - 1, by omega⟩
    obtain ⟨k', rfl⟩ : ∃ m, k' = m + 1 := ⟨k' - 1, by omega⟩
    have hlt : i < (s.size : Int) := by omega
    have hb := bt_range s i
    simp only [spec_NameRight.l0, impl_NameRight.l0]
    rw [if_pos hlt, if_pos h0, if_pos hlt, if_pos h0, if_pos hlt, step64 h0 hlt hn, name_byte _ _ hb.1 hb.2 h0]
    obtain ⟨r, hr⟩ := name_byte_some (bt s i) (i == 0)
    rw [hr]
    cases r with
    | false => exact ⟨false, by simp, by simp⟩
    | true =>
      obtain ⟨b, e1, e2⟩ := ih k k' (i + 1) (by omega) (by omega) (by omega) (by omega) (by omega)
      exact ⟨b, by simpa using e1, by simpa using e2⟩
/-- Both name laws come to one answer. -/
theorem names_same (s : ByteArray) (hn : s.size ≤ 140737488351232) : ∃ b, (∀ k, s.size + 3 ≤ k → spec_NameRight.f k s = some b) ∧ (∀ k, s.size + 3 ≤ k → impl_NameRight.f k s = some b) := by
  obtain ⟨b, e1, e2⟩ := name_run_both s hn s.size (s.size + 1) (s.size + 1) 0 (by omega) (by omega) (by omega) (by omega) (by omega)
  refine ⟨b && decide (1 ≤ s.size ∧ s.size ≤ 20), fun k hk => ?_, fun k hk => ?_⟩
  · obtain ⟨k, rfl⟩ : ∃ m, k = m + 1 := ⟨k - 1, by omega⟩
    have e1' := at_rounds (g := fun k => spec_NameRight.l0 k s 0) (k' := k) (fun k => (spec_NameRight.mono_l k).2 s 0) (by omega) e1
    unfold spec_NameRight.f
    by_cases c1 : (s.size : Int) < 1
    · rw [if_pos c1]
      simp only [spec_NameRight.j0]
      simp; omega
    · rw [if_neg c1]
      by_cases c2 : (s.size : Int) > 20
      · simp only [spec_NameRight.j0, c2]
        simp; omega
      · simp only [spec_NameRight.j0, c2]
        rw [decide_eq_false (by simp), if_neg (by simp), e1']
        simp; omega
  · unfold impl_NameRight.f
    exact at_rounds (g := fun k => impl_NameRight.l0 k s (s.size : Int) 0) (fun k => impl_NameRight.mono_l k s (s.size : Int) 0) (by omega) e2

/-- The place behind the name's bytes that stand from a place on, `n` at the most. -/
def nend : Nat → ByteArray → Int → Int → Int
  | 0, _, _, i => i
  | n + 1, t, f, i => if i < (t.size : Int) ∧ spec_l01NameByte.f (bt t i) (i == f) = some true then nend n t f (i + 1) else i
def nameAt (t : ByteArray) (f : Int) : Int × Bool :=
  if nend 20 t f f < (t.size : Int) ∧ bt t (nend 20 t f f) = 59 ∧ nend 20 t f f ≠ f then (nend 20 t f f + 1, true) else (nend 20 t f f, false)
def oneAt (t : ByteArray) (a : Int) : Int × Bool :=
  if a < (t.size : Int) ∧ bt t a = 73 then (a + 1, true) else if a < (t.size : Int) ∧ bt t a = 76 then nameAt t (a + 1) else (a, false)
/-- A type that is read at a place: the place behind it, or the first that is wrong. -/
def tyAt (t : ByteArray) (a : Int) : Int × Bool := if a < (t.size : Int) ∧ bt t a = 91 then oneAt t (a + 1) else oneAt t a
theorem nend_ge (t : ByteArray) (f : Int) : ∀ (n : Nat) (i : Int), i ≤ (t.size : Int) → i ≤ nend n t f i ∧ nend n t f i ≤ (t.size : Int)
  | 0, i, h => ⟨Int.le_refl _, h⟩
  | n + 1, i, h => by
    unfold nend
    by_cases c : i < (t.size : Int) ∧ spec_l01NameByte.f (bt t i) (i == f) = some true
    · rw [if_pos c]
      have := nend_ge t f n (i + 1) (by omega)
      omega
    · rw [if_neg c]
      omega
theorem nameAt_ge (t : ByteArray) (f : Int) (h : f ≤ (t.size : Int)) : f ≤ (nameAt t f).1 ∧ (nameAt t f).1 ≤ (t.size : Int) := by
  have := nend_ge t f 20 f h
  unfold nameAt
  split
  · dsimp only; omega
  · dsimp only; omega
theorem oneAt_ge (t : ByteArray) (a : Int) (h : a ≤ (t.size : Int)) : a ≤ (oneAt t a).1 ∧ (oneAt t a).1 ≤ (t.size : Int) ∧ ((oneAt t a).2 = true → a < (oneAt t a).1) := by
  unfold oneAt
  split
  · dsimp only; omega
  · split
    · have := nameAt_ge t (a + 1) (by omega)
      exact ⟨by omega, this.2, fun _ => by omega⟩
    · simpa using h
theorem tyAt_ge (t : ByteArray) (a : Int) (h : a ≤ (t.size : Int)) : a ≤ (tyAt t a).1 ∧ (tyAt t a).1 ≤ (t.size : Int) ∧ ((tyAt t a).2 = true → a < (tyAt t a).1) := by
  unfold tyAt
  split
  · have := oneAt_ge t (a + 1) (by omega)
    exact ⟨by omega, this.2.1, fun _ => by omega⟩
  · exact oneAt_ge t a h
theorem spec_name_run (t : ByteArray) (hn : t.size ≤ 140737488351232) (f : Int) (hf : 0 ≤ f) : ∀ (n k : Nat) (i : Int), f ≤ i → i - f = 20 - (n : Int) → i ≤ (t.size : Int) → n < k →
    spec_l02Type.l0 k t f i = some (if nend n t f i < (t.size : Int) ∧ bt t (nend n t f i) = 59 ∧ nend n t f i ≠ f then (nend n t f i + 1, true) else (nend n t f i, false)) := by
  intro n
  induction n with
  | zero =>
    intro k i h0 h1 h2 hk
    obtain ⟨k, rfl⟩ : ∃ m, k = m + 1 := ⟨k - 1, by omega⟩
    have w1 : wrap64 (i - f) = i - f := by unfold wrap64; omega
    rw [show nend 0 t f i = i from rfl]
    simp only [spec_l02Type.l0, w1]
    by_cases c1 : i < (t.size : Int)
    · rw [if_pos c1, if_neg (by omega), if_neg (by omega), if_pos (by omega), step64 (by omega) c1 hn]
      by_cases c2 : bt t i = 59
      · by_cases c3 : i = f
        · rw [if_pos c2, if_pos c3, if_neg (by omega)]
        · rw [if_pos c2, if_neg c3, if_pos ⟨c1, c2, c3⟩]
      · rw [if_neg c2, if_neg (by omega)]
    · rw [if_neg c1, if_pos (by omega), if_neg (by omega)]
  | succ n ih =>
    intro k i h0 h1 h2 hk
    obtain ⟨k, rfl⟩ : ∃ m, k = m + 1 := ⟨k - 1, by omega⟩
    have w1 : wrap64 (i - f) = i - f := by unfold wrap64; omega
    obtain ⟨b, hb⟩ := name_byte_some (bt t i) (i == f)
    by_cases c1 : i < (t.size : Int)
    · simp only [spec_l02Type.l0, w1]
      rw [if_pos c1, if_pos (by omega), if_pos (by omega), hb, step64 (by omega) c1 hn]
      cases b with
      | true =>
        have e : nend (n + 1) t f i = nend n t f (i + 1) := by
          rw [nend, if_pos ⟨c1, hb⟩]
        rw [e]
        simpa using ih k (i + 1) (by omega) (by omega) (by omega) (by omega)
      | false =>
        have e : nend (n + 1) t f i = i := by
          rw [nend, hb]; simp
        rw [e]
        simp only [Option.bind_some]
        rw [if_neg (by simp), if_neg (by omega)]
        by_cases c2 : bt t i = 59
        · by_cases c3 : i = f
          · rw [if_pos c2, if_pos c3, if_neg (by omega)]
          · rw [if_pos c2, if_neg c3, if_pos ⟨c1, c2, c3⟩]
        · rw [if_neg c2, if_neg (by omega)]
    · have e : nend (n + 1) t f i = i := by
        rw [nend, if_neg (by omega)]
      rw [e]
      simp only [spec_l02Type.l0]
      rw [if_neg c1, if_pos (by omega), if_neg (by omega)]
theorem want_bad (t : ByteArray) (i : Int) (b : Int) : impl_reader_want.f t i true b = some (t, i, true) := by
  simp [impl_reader_want.f, impl_reader_take.f, impl_reader_is.f]
theorem take_bad (t : ByteArray) (i : Int) (b : Int) : impl_reader_take.f t i true b = some (false, t, i, true) := by
  simp [impl_reader_take.f, impl_reader_is.f]
theorem take_ok (t : ByteArray) (hn : t.size ≤ 140737488351232) (i b : Int) (h0 : 0 ≤ i) :
    impl_reader_take.f t i false b = some (if i < (t.size : Int) ∧ bt t i = b then (true, t, i + 1, false) else (false, t, i, false)) := by
  unfold impl_reader_take.f impl_reader_is.f
  simp only [impl_length.f, Option.bind_some]
  rw [if_neg (by simp)]
  by_cases c : i < (t.size : Int)
  · rw [if_pos c, if_pos h0, if_pos c]
    simp only [Option.bind_some]
    by_cases c2 : bt t i = b
    · rw [if_pos (by simpa using c2), if_pos ⟨c, c2⟩, step64 h0 c hn]
    · rw [if_neg (by simpa using c2), if_neg (fun h => c2 h.2)]
  · rw [if_neg c, if_neg (by omega)]
    rfl
theorem want_ok (t : ByteArray) (hn : t.size ≤ 140737488351232) (i b : Int) (h0 : 0 ≤ i) :
    impl_reader_want.f t i false b = some (if i < (t.size : Int) ∧ bt t i = b then (t, i + 1, false) else (t, i, true)) := by
  unfold impl_reader_want.f
  rw [take_ok t hn i b h0]
  by_cases c : i < (t.size : Int) ∧ bt t i = b
  · rw [if_pos c, if_pos c]; rfl
  · rw [if_neg c, if_neg c]; rfl
theorem name_run (t : ByteArray) (hn : t.size ≤ 140737488351232) (f : Int) (hf : 0 ≤ f) : ∀ (n k : Nat) (i : Int), f ≤ i → i - f = 20 - (n : Int) → i ≤ (t.size : Int) → n < k →
    impl_reader_name.l0 k f t i false = some (if nend n t f i < (t.size : Int) ∧ bt t (nend n t f i) = 59 ∧ nend n t f i ≠ f then (t, nend n t f i + 1, false) else (t, nend n t f i, true)) := by
  have w2 : f ≤ (t.size : Int) → wrap64 (f + 20) = f + 20 := fun _ => by unfold wrap64; omega
  intro n
  induction n with
  | zero =>
    intro k i h0 h1 h2 hk
    obtain ⟨k, rfl⟩ : ∃ m, k = m + 1 := ⟨k - 1, by omega⟩
    rw [show nend 0 t f i = i from rfl]
    simp only [impl_reader_name.l0, impl_length.f, Option.bind_some, w2 (by omega)]
    rw [if_neg (by simp)]
    by_cases c1 : i < (t.size : Int)
    · rw [if_pos c1, if_neg (by omega), if_neg (by omega), want_ok t hn i 59 (by omega)]
      by_cases c2 : bt t i = 59
      · rw [if_pos ⟨c1, c2⟩, if_pos ⟨c1, c2, by omega⟩]; rfl
      · rw [if_neg (fun h => c2 h.2), if_neg (fun h => c2 h.2.1)]; rfl
    · rw [if_neg c1, if_neg (by omega), want_ok t hn i 59 (by omega), if_neg (by omega), if_neg (by omega)]; rfl
  | succ n ih =>
    intro k i h0 h1 h2 hk
    obtain ⟨k, rfl⟩ : ∃ m, k = m + 1 := ⟨k - 1, by omega⟩
    have w1 : wrap64 (i - f) = i - f := by unfold wrap64; omega
    obtain ⟨b, hb⟩ := name_byte_some (bt t i) (i == f)
    have hr := bt_range t i
    have hbi := name_byte (bt t i) (i - f) hr.1 hr.2 (by omega)
    have e0 : (i - f == 0) = (i == f) := by
      by_cases c : i = f
      · subst c; simp
      · rw [beq_eq_false_iff_ne.mpr c, beq_eq_false_iff_ne.mpr (by omega)]
    rw [e0, hb] at hbi
    by_cases c1 : i < (t.size : Int)
    · simp only [impl_reader_name.l0, impl_length.f, Option.bind_some, w2 (by omega), w1]
      rw [if_neg (by simp), if_pos c1, if_pos (by omega), if_pos (by omega), if_pos c1, hbi, step64 (by omega) c1 hn]
      cases b with
      | true =>
        have e : nend (n + 1) t f i = nend n t f (i + 1) := by
          rw [nend, if_pos ⟨c1, hb⟩]
        rw [e]
        simpa using ih k (i + 1) (by omega) (by omega) (by omega) (by omega)
      | false =>
        have e : nend (n + 1) t f i = i := by
          rw [nend, hb]; simp
        rw [e]
        simp only [Option.bind_some]
        rw [if_neg (by simp)]
        by_cases c3 : i = f
        · rw [if_pos c3, want_bad, if_neg (by omega)]; rfl
        · rw [if_neg c3, want_ok t hn i 59 (by omega)]
          by_cases c2 : bt t i = 59
          · rw [if_pos ⟨c1, c2⟩, if_pos ⟨c1, c2, c3⟩]; rfl
          · rw [if_neg (fun h => c2 h.2), if_neg (fun h => c2 h.2.1)]; rfl
    · have e : nend (n + 1) t f i = i := by
        rw [nend, if_neg (by omega)]
      rw [e]
      simp only [impl_reader_name.l0, impl_length.f, Option.bind_some]
      rw [if_neg (by simp), if_neg c1]
      by_cases c3 : i = f
      · rw [if_pos c3, want_bad, if_neg (by omega)]; rfl
      · rw [if_neg c3, want_ok t hn i 59 (by omega), if_neg (by omega), if_neg (by omega)]; rfl
theorem spec_type_one (t : ByteArray) (hn : t.size ≤ 140737488351232) (k : Nat) (hk : 21 < k) (a : Int) (h0 : 0 ≤ a) (h1 : a < (t.size : Int)) (h2 : bt t a ≠ 73) :
    spec_l02Type.j0 k t a false = some (oneAt t a) := by
  obtain ⟨k, rfl⟩ : ∃ m, k = m + 1 := ⟨k - 1, by omega⟩
  simp only [spec_l02Type.j0]
  rw [if_neg (by simp), if_pos h0, if_pos h1, step64 h0 h1 hn]
  have e : oneAt t a = if a < (t.size : Int) ∧ bt t a = 76 then nameAt t (a + 1) else (a, false) := by
    unfold oneAt
    exact if_neg (fun h => h2 h.2)
  rw [e]
  by_cases c : bt t a = 76
  · rw [if_pos c, if_pos ⟨h1, c⟩]
    exact spec_name_run t hn (a + 1) (by omega) 20 k (a + 1) (by omega) (by omega) (by omega) (by omega)
  · rw [if_neg c, if_neg (fun h => c h.2)]
theorem spec_type_list (t : ByteArray) (hn : t.size ≤ 140737488351232) (k : Nat) (hk : 22 < k) (a : Int) (h0 : 0 ≤ a) (h1 : a ≤ (t.size : Int)) :
    spec_l02Type.f k t a true = some (oneAt t a) := by
  obtain ⟨k, rfl⟩ : ∃ m, k = m + 1 := ⟨k - 1, by omega⟩
  simp only [spec_l02Type.f]
  by_cases c : a < (t.size : Int)
  · rw [if_neg (by omega), if_pos h0, if_pos c, step64 h0 c hn]
    by_cases c2 : bt t a = 73
    · rw [if_pos c2]; unfold oneAt; rw [if_pos ⟨c, c2⟩]
    · rw [if_neg c2]
      have e := spec_type_one t hn k (by omega) a h0 c c2
      by_cases c3 : bt t a = 91
      · rw [if_pos c3]; exact e
      · rw [if_neg c3]; exact e
  · rw [if_pos (by omega)]; unfold oneAt; rw [if_neg (by omega), if_neg (by omega)]
theorem spec_type (t : ByteArray) (hn : t.size ≤ 140737488351232) (k : Nat) (hk : 24 < k) (a : Int) (h0 : 0 ≤ a) (h1 : a ≤ (t.size : Int)) :
    spec_l02Type.f k t a false = some (tyAt t a) := by
  obtain ⟨k, rfl⟩ : ∃ m, k = m + 1 := ⟨k - 1, by omega⟩
  simp only [spec_l02Type.f]
  unfold tyAt
  by_cases c : a < (t.size : Int)
  · rw [if_neg (by omega), if_pos h0, if_pos c, step64 h0 c hn]
    by_cases c2 : bt t a = 73
    · rw [if_pos c2, if_neg (by omega)]; unfold oneAt; rw [if_pos ⟨c, c2⟩]
    · rw [if_neg c2]
      by_cases c3 : bt t a = 91
      · rw [if_pos c3, if_pos ⟨c, c3⟩]
        obtain ⟨k, rfl⟩ : ∃ m, k = m + 1 := ⟨k - 1, by omega⟩
        simp only [spec_l02Type.j0]
        rw [if_pos (by simp), step64 h0 c hn, spec_type_list t hn k (by omega) (a + 1) (by omega) (by omega)]
        rfl
      · rw [if_neg c3, if_neg (fun h => c3 h.2)]
        exact spec_type_one t hn k (by omega) a h0 c c2
  · rw [if_pos (by omega), if_neg (by omega)]; unfold oneAt; rw [if_neg (by omega), if_neg (by omega)]
/-- The reader's kind behind its '['. -/
theorem kind_tail (t : ByteArray) (hn : t.size ≤ 140737488351232) (k : Nat) (hk : 21 < k) (s a : Int) (hs : 0 ≤ s) (hsa : s ≤ a) (h1 : a ≤ (t.size : Int)) :
    ((impl_reader_take.f t a false 73).bind fun (x : Bool × ByteArray × Int × Bool) => (if x.1 = true then (if x.2.2.2 = true then (some ((⟨#[]⟩ : ByteArray), x.2.1, x.2.2.1, x.2.2.2)) else (if 0 ≤ s then (if s ≤ x.2.2.1 then (if x.2.2.1 ≤ (x.2.1.size : Int) then (some (x.2.1.extract (s : Int).toNat (x.2.2.1 : Int).toNat, x.2.1, x.2.2.1, x.2.2.2)) else (none)) else (none)) else (none))) else ((impl_reader_take.f x.2.1 x.2.2.1 x.2.2.2 76).bind fun y => (if y.1 = true then ((impl_reader_name.f k y.2.1 y.2.2.1 y.2.2.2).bind fun z => (if z.2.2 = true then (some ((⟨#[]⟩ : ByteArray), z.1, z.2.1, z.2.2)) else (if 0 ≤ s then (if s ≤ z.2.1 then (if z.2.1 ≤ (z.1.size : Int) then (some (z.1.extract (s : Int).toNat (z.2.1 : Int).toNat, z.1, z.2.1, z.2.2)) else (none)) else (none)) else (none)))) else (some ((⟨#[]⟩ : ByteArray), y.2.1, y.2.2.1, true))))))
      = some ((if (oneAt t a).2 = true then t.extract s.toNat (oneAt t a).1.toNat else ⟨#[]⟩), t, (oneAt t a).1, !(oneAt t a).2) := by
  have h0 : 0 ≤ a := by omega
  rw [take_ok t hn a 73 h0]
  by_cases c1 : a < (t.size : Int) ∧ bt t a = 73
  · have e : oneAt t a = (a + 1, true) := by unfold oneAt; rw [if_pos c1]
    rw [if_pos c1, e]
    simp only [Option.bind_some]
    rw [if_pos trivial, if_neg (by simp), if_pos hs, if_pos (by omega), if_pos (by omega)]
    rfl
  · rw [if_neg c1]
    simp only [Option.bind_some]
    rw [if_neg (by simp), take_ok t hn a 76 h0]
    by_cases c2 : a < (t.size : Int) ∧ bt t a = 76
    · have e : oneAt t a = nameAt t (a + 1) := by unfold oneAt; rw [if_neg c1, if_pos c2]
      rw [if_pos c2, e]
      simp only [Option.bind_some]
      have hg := nend_ge t (a + 1) 20 (a + 1) (by omega)
      rw [if_pos trivial, impl_reader_name.f, name_run t hn (a + 1) (by omega) 20 k (a + 1) (by omega) (by omega) (by omega) (by omega)]
      unfold nameAt
      by_cases c3 : nend 20 t (a + 1) (a + 1) < (t.size : Int) ∧ bt t (nend 20 t (a + 1) (a + 1)) = 59 ∧ nend 20 t (a + 1) (a + 1) ≠ a + 1
      · rw [if_pos c3, if_pos c3]
        simp only [Option.bind_some]
        rw [if_neg (by simp), if_pos hs, if_pos (by omega), if_pos (by omega)]
        rfl
      · rw [if_neg c3, if_neg c3]
        rfl
    · have e : oneAt t a = (a, false) := by unfold oneAt; rw [if_neg c1, if_neg c2]
      rw [if_neg c2, e]
      rfl
theorem impl_kind (t : ByteArray) (hn : t.size ≤ 140737488351232) (k : Nat) (hk : 21 < k) (a : Int) (h0 : 0 ≤ a) (h1 : a ≤ (t.size : Int)) :
    impl_reader_kind.f k t a false = some ((if (tyAt t a).2 = true then t.extract a.toNat (tyAt t a).1.toNat else ⟨#[]⟩), t, (tyAt t a).1, !(tyAt t a).2) := by
  unfold impl_reader_kind.f
  rw [take_ok t hn a 91 h0]
  unfold tyAt
  by_cases c : a < (t.size : Int) ∧ bt t a = 91
  · rw [if_pos c, if_pos c]
    exact kind_tail t hn k hk a (a + 1) h0 (by omega) (by omega)
  · rw [if_neg c, if_neg c]
    exact kind_tail t hn k hk a a h0 (by omega) (by omega)

theorem bt_ext (s t : ByteArray) (h : s.size = t.size) (hb : ∀ i : Nat, i < s.size → bt s i = bt t i) : s = t := by
  apply ByteArray.ext
  apply Array.ext
  · exact h
  · intro i h1 h2
    have e := hb i h1
    have a := bt_at s i (by simpa using h1)
    have b := bt_at t i (by simpa using h2)
    rw [← a, ← b] at e
    exact UInt8.toNat_inj.mp (by exact_mod_cast e)
theorem str_one (s : ByteArray) (c : UInt8) : s.toList = [c] ↔ s.size = 1 ∧ bt s 0 = (c.toNat : Int) := by
  constructor
  · intro h
    have e : s = ⟨#[c]⟩ := WideShapes.bytes_inj (by rw [← Lib.toList_data]; exact h)
    subst e
    exact ⟨rfl, rfl⟩
  · intro h
    have e : s = ⟨#[c]⟩ := by
      refine bt_ext _ _ h.1 (fun i hi => ?_)
      obtain rfl : i = 0 := by omega
      exact h.2
    subst e
    rw [Lib.toList_data]
theorem one_shape (s : ByteArray) (a : Int) (h : oneAt s a = ((s.size : Int), true)) :
    (a + 1 = (s.size : Int) ∧ bt s a = 73) ∨ (a + 3 ≤ (s.size : Int) ∧ bt s a = 76) := by
  unfold oneAt at h
  split at h
  · rename_i c
    have := (Prod.mk.inj h).1
    exact .inl ⟨this, c.2⟩
  · split at h
    · rename_i c
      have hg := nend_ge s (a + 1) 20 (a + 1) (by omega)
      unfold nameAt at h
      split at h
      · rename_i c2
        have := (Prod.mk.inj h).1
        exact .inr ⟨by omega, c.2⟩
      · exact absurd (Prod.mk.inj h).2 (by simp)
    · exact absurd (Prod.mk.inj h).2 (by simp)
/-- What a right type looks like. -/
theorem right_shape (s : ByteArray) (h : tyAt s 0 = ((s.size : Int), true)) :
    (s.size = 1 ∧ bt s 0 = 73) ∨ (3 ≤ s.size ∧ bt s 0 = 76) ∨ (s.size = 2 ∧ bt s 0 = 91 ∧ bt s 1 = 73) ∨ (4 ≤ s.size ∧ bt s 0 = 91 ∧ bt s 1 = 76) := by
  unfold tyAt at h
  split at h
  · rename_i c
    rcases one_shape s _ h with h | h
    · exact .inr (.inr (.inl ⟨by omega, c.2, h.2⟩))
    · exact .inr (.inr (.inr ⟨by omega, c.2, h.2⟩))
  · rcases one_shape s _ h with h | h
    · exact .inl ⟨by omega, h.2⟩
    · exact .inr (.inl ⟨by omega, h.2⟩)
def tright (s : ByteArray) : Bool := (tyAt s 0).2 && (tyAt s 0).1 == (s.size : Int)
theorem tright_eq (s : ByteArray) (h : tright s = true) : tyAt s 0 = ((s.size : Int), true) := by
  unfold tright at h
  rw [Bool.and_eq_true, beq_iff_eq] at h
  exact Prod.ext h.2 h.1
theorem spec_right (s : ByteArray) (hn : s.size ≤ 20000) (k : Nat) (hk : 24 < k) : spec_TypeRight.f k s = some (tright s) := by
  unfold spec_TypeRight.f tright
  rw [if_neg (by omega), spec_type s (by omega) k hk 0 (by omega) (by omega)]
  simp only [Option.bind_some]
  cases (tyAt s 0).2 <;> simp
theorem impl_right (s : ByteArray) (hn : s.size ≤ 140737488351232) (k : Nat) (hk : 24 < k) : impl_typeRight.f k s = some (tright s) := by
  unfold impl_typeRight.f tright
  rw [impl_kind s hn k (by omega) 0 (by omega) (by omega)]
  simp only [Option.bind_some, impl_length.f]
  cases (tyAt s 0).2 <;> simp

theorem nend_le (t : ByteArray) (f : Int) : ∀ (n : Nat) (i : Int), nend n t f i ≤ i + n
  | 0, i => by unfold nend; omega
  | n + 1, i => by
    unfold nend
    split
    · have := nend_le t f n (i + 1)
      omega
    · omega
theorem one_le (t : ByteArray) (a : Int) : (oneAt t a).1 ≤ a + 22 := by
  have := nend_le t (a + 1) 20 (a + 1)
  unfold oneAt nameAt
  repeat' split
  all_goals (dsimp only; omega)
theorem tright_le (s : ByteArray) (h : tright s = true) : s.size ≤ 23 := by
  have e := tright_eq s h
  unfold tyAt at e
  split at e
  · have := one_le s (0 + 1)
    rw [e] at this
    dsimp only at this
    omega
  · have := one_le s 0
    rw [e] at this
    dsimp only at this
    omega
theorem spec_right_all (s : ByteArray) (k : Nat) (hk : 24 < k) : spec_TypeRight.f k s = some (tright s) := by
  by_cases c : s.size ≤ 20000
  · exact spec_right s c k hk
  · have e : tright s = false := by
      cases h : tright s with
      | false => rfl
      | true => have := tright_le s h; omega
    rw [e]
    unfold spec_TypeRight.f
    rw [if_pos (by omega)]

theorem tright_one (s : ByteArray) (h : s.size = 1 ∧ bt s 0 = 73) : tright s = true := by
  have e1 : oneAt s 0 = (1, true) := by unfold oneAt; rw [if_pos ⟨by omega, h.2⟩]; rfl
  unfold tright tyAt
  rw [if_neg (by omega), e1, h.1]
  rfl
theorem is_text (s : ByteArray) : impl_isText.f 2 [s] = some (decide (s.size ≤ 20000)) := by
  by_cases h : s.size ≤ 20000
  · simp [impl_isText.f, impl_isText.l0, rdOf, wrap64, h]
    omega
  · simp [impl_isText.f, impl_isText.l0, rdOf, wrap64, h]
    omega
theorem is_text_at (s : ByteArray) (k : Nat) (hk : 2 ≤ k) : impl_isText.f k [s] = some (decide (s.size ≤ 20000)) := by
  obtain ⟨d, rfl⟩ : ∃ d, k = 2 + d := ⟨k - 2, by omega⟩
  induction d with
  | zero => exact is_text s
  | succ d ih => exact impl_isText.mono [s] (2 + d) _ (ih (by omega))

abbrev DescR := List ByteArray × ByteArray × Int × Int
def dwrong (a : Int) : DescR := (([] : List ByteArray), (⟨#[]⟩ : ByteArray), a, 3)
/-- What is read behind the ')'. -/
def descTail (s : ByteArray) (a : Int) (ps : List ByteArray) : DescR :=
  if a < (s.size : Int) ∧ bt s a = 86 then (if a + 1 < (s.size : Int) then dwrong (a + 1) else (ps, (⟨#[86]⟩ : ByteArray), 0, 0))
  else if (tyAt s a).2 = true then (if (tyAt s a).1 < (s.size : Int) then dwrong (tyAt s a).1 else (ps, s.extract a.toNat (tyAt s a).1.toNat, 0, 0)) else dwrong (tyAt s a).1
def descLoop : Nat → ByteArray → Int → List ByteArray → DescR
  | 0, _, a, _ => dwrong a
  | n + 1, s, a, ps => if a < (s.size : Int) then
      (if bt s a = 41 then descTail s (a + 1) ps else if ps.length = 8 then dwrong a else
        if (tyAt s a).2 = true then descLoop n s (tyAt s a).1 (ps ++ [s.extract a.toNat (tyAt s a).1.toNat]) else dwrong (tyAt s a).1)
    else dwrong a
def descOf (s : ByteArray) : DescR := if 0 < (s.size : Int) ∧ bt s 0 = 40 then descLoop 9 s 1 [] else dwrong 0
theorem spec_desc_tail (s : ByteArray) (hn : s.size ≤ 140737488351232) (k : Nat) (hk : 25 < k) (a : Int) (h0 : 0 ≤ a) (h1 : a ≤ (s.size : Int)) (ps : List ByteArray) (b : Bool) (hb : b = decide (a < (s.size : Int) ∧ bt s a = 86)) :
    spec_DescRead.j3 k s a b ps ⟨#[]⟩ = some (descTail s a ps) := by
  obtain ⟨k, rfl⟩ : ∃ m, k = m + 1 := ⟨k - 1, by omega⟩
  have hg := tyAt_ge s a h1
  simp only [spec_DescRead.j3, spec_l02Wrong.f, Option.bind_some]
  unfold descTail
  by_cases c : a < (s.size : Int) ∧ bt s a = 86
  · rw [hb, decide_eq_true c, if_pos c, if_pos rfl, step64 h0 c.1 hn]
    by_cases c2 : a + 1 < (s.size : Int)
    · rw [if_pos c2, if_pos c2]; rfl
    · rw [if_neg c2, if_neg c2]
  · rw [hb, decide_eq_false c, if_neg c, if_neg (by simp), spec_type s hn k (by omega) a h0 h1]
    simp only [Option.bind_some]
    by_cases c2 : (tyAt s a).2 = true
    · rw [if_pos c2, if_pos c2, if_pos h0, if_pos hg.1, if_pos hg.2.1]
      by_cases c3 : (tyAt s a).1 < (s.size : Int)
      · rw [if_pos c3, if_pos c3]; rfl
      · rw [if_neg c3, if_neg c3]
    · rw [if_neg c2, if_neg c2]; rfl
theorem spec_desc_loop (s : ByteArray) (hn : s.size ≤ 140737488351232) : ∀ (n k : Nat) (a : Int) (ps : List ByteArray), 0 ≤ a → a ≤ (s.size : Int) → ps.length + n = 9 → 1 ≤ n → 30 + 2 * n ≤ k →
    spec_DescRead.l0 k s a ps ⟨#[]⟩ = some (descLoop n s a ps)
  | 0, k, a, ps, h0, h1, hp, h2, hk => by omega
  | n + 1, k, a, ps, h0, h1, hp, h2, hk => by
    obtain ⟨k, rfl⟩ : ∃ m, k = m + 2 := ⟨k - 2, by omega⟩
    have hg := tyAt_ge s a h1
    unfold descLoop
    simp only [spec_DescRead.l0]
    by_cases c : a < (s.size : Int)
    · rw [if_pos c, if_pos c, if_pos h0]
      simp only [spec_DescRead.j2, spec_l02Wrong.f, Option.bind_some]
      by_cases c2 : bt s a = 41
      · have e : (bt s a != 41) = false := bne_eq_false_iff_eq.mpr c2
        rw [if_pos c2, e, if_neg (by simp), if_neg (by omega), step64 h0 c hn]
        by_cases c3 : a + 1 < (s.size : Int)
        · rw [if_pos c3, if_pos (by omega)]
          exact spec_desc_tail s hn k (by omega) (a + 1) (by omega) (by omega) ps _ (by
            by_cases c4 : bt s (a + 1) = 86
            · rw [decide_eq_true ⟨c3, c4⟩]; simpa using c4
            · rw [decide_eq_false (fun h => c4 h.2)]; simpa using c4)
        · rw [if_neg c3]
          exact spec_desc_tail s hn k (by omega) (a + 1) (by omega) (by omega) ps _ (by rw [decide_eq_false (fun h => c3 h.1)])
      · have e : (bt s a != 41) = true := bne_iff_ne.mpr c2
        rw [if_neg c2, e, if_pos rfl]
        by_cases c3 : ps.length = 8
        · rw [if_pos (by omega), if_pos c3]; rfl
        · rw [if_neg (by omega), if_neg c3, spec_type s hn k (by omega) a h0 h1]
          simp only [Option.bind_some]
          by_cases c4 : (tyAt s a).2 = true
          · rw [if_pos c4, if_pos c4, if_pos h0, if_pos hg.1, if_pos hg.2.1, if_pos (by omega)]
            exact spec_desc_loop s hn n k _ _ (by omega) hg.2.1 (by simp; omega) (by omega) (by omega)
          · rw [if_neg c4, if_neg c4]; rfl
    · rw [if_neg c, if_neg c]
      simp only [spec_DescRead.j2, spec_l02Wrong.f, Option.bind_some]
      rw [if_neg (by simp), if_pos (by omega)]; rfl
theorem impl_desc_bad (s : ByteArray) (k : Nat) (hk : 0 < k) (a : Int) (ps : List ByteArray) : impl_descRead.j2 k s s a true ps ⟨#[]⟩ = some (dwrong a) := by
  obtain ⟨k, rfl⟩ : ∃ m, k = m + 1 := ⟨k - 1, by omega⟩
  simp only [impl_descRead.j2, take_bad, Option.bind_some]
  rfl
theorem impl_desc_tail (s : ByteArray) (hn : s.size ≤ 140737488351232) (k : Nat) (hk : 25 < k) (a : Int) (h0 : 0 ≤ a) (h1 : a ≤ (s.size : Int)) (ps : List ByteArray) :
    impl_descRead.j2 k s s a false ps ⟨#[]⟩ = some (descTail s a ps) := by
  obtain ⟨k, rfl⟩ : ∃ m, k = m + 1 := ⟨k - 1, by omega⟩
  have hg := tyAt_ge s a h1
  simp only [impl_descRead.j2, take_ok s hn a 86 h0, Option.bind_some, impl_length.f]
  unfold descTail
  by_cases c : a < (s.size : Int) ∧ bt s a = 86
  · rw [if_pos c, if_pos c]
    simp only [if_pos trivial]
    by_cases c2 : a + 1 < (s.size : Int)
    · rw [if_pos c2, if_pos c2, if_neg (by simp)]; rfl
    · rw [if_neg c2, if_neg c2, if_neg (by simp)]
  · rw [if_neg c, if_neg c]
    rw [if_neg (by simp), if_neg (by simp)]
    dsimp only
    rw [impl_kind s hn k (by omega) a h0 h1]
    simp only [Option.bind_some]
    by_cases c2 : (tyAt s a).2 = true
    · rw [if_pos c2, c2]
      simp only [if_pos trivial]
      rw [if_neg (by simp)]
      by_cases c3 : (tyAt s a).1 < (s.size : Int)
      · rw [if_pos c3, if_pos c3]; rfl
      · rw [if_neg c3, if_neg c3]
    · have c2' : (tyAt s a).2 = false := by simpa using c2
      rw [if_neg c2, c2']
      rfl
theorem impl_desc_loop (s : ByteArray) (hn : s.size ≤ 140737488351232) : ∀ (n k : Nat) (a : Int) (ps : List ByteArray), 0 ≤ a → a ≤ (s.size : Int) → ps.length + n = 9 → 1 ≤ n → 30 + 2 * n ≤ k →
    impl_descRead.l0 k s s a false ps ⟨#[]⟩ = some (descLoop n s a ps)
  | 0, k, a, ps, h0, h1, hp, h2, hk => by omega
  | n + 1, k, a, ps, h0, h1, hp, h2, hk => by
    obtain ⟨k, rfl⟩ : ∃ m, k = m + 2 := ⟨k - 2, by omega⟩
    have hg := tyAt_ge s a h1
    have hbad : ∀ (i : Int) (qs : List ByteArray), impl_descRead.l0 k s s i true qs ⟨#[]⟩ = some (dwrong i) := fun i qs => by
      obtain ⟨k, rfl⟩ : ∃ m, k = m + 2 := ⟨k - 2, by omega⟩
      simp only [impl_descRead.l0]
      rw [if_pos trivial]
      simp only [impl_descRead.j1]
      rw [if_neg (by simp)]
      exact impl_desc_bad s k (by omega) i qs
    unfold descLoop
    simp only [impl_descRead.l0]
    rw [if_neg (by simp), take_ok s hn a 41 h0]
    simp only [Option.bind_some]
    by_cases c : a < (s.size : Int)
    · rw [if_pos c]
      by_cases c2 : bt s a = 41
      · rw [if_pos ⟨c, c2⟩, if_pos c2]
        simp only [impl_descRead.j1]
        rw [if_neg (by simp)]
        exact impl_desc_tail s hn k (by omega) (a + 1) (by omega) (by omega) ps
      · rw [if_neg (fun h => c2 h.2), if_neg c2]
        simp only [impl_descRead.j1]
        rw [if_pos (by simp)]
        by_cases c3 : ps.length = 8
        · rw [if_pos (by omega), if_pos c3]
          exact impl_desc_bad s k (by omega) a ps
        · rw [if_neg (by omega), if_neg c3, impl_kind s hn k (by omega) a h0 h1]
          simp only [Option.bind_some]
          rw [if_pos (by omega)]
          by_cases c4 : (tyAt s a).2 = true
          · rw [if_pos c4, if_pos c4, c4]
            exact impl_desc_loop s hn n k _ _ (by omega) hg.2.1 (by simp; omega) (by omega) (by omega)
          · have c4' : (tyAt s a).2 = false := by simpa using c4
            rw [if_neg c4, if_neg c4, c4']
            exact hbad _ _
    · rw [if_neg c, if_neg (fun h => c h.1)]
      simp only [impl_descRead.j1]
      rw [if_pos (by simp)]
      by_cases c3 : ps.length = 8
      · rw [if_pos (by omega)]
        exact impl_desc_bad s k (by omega) a ps
      · rw [if_neg (by omega), impl_kind s hn k (by omega) a h0 h1]
        simp only [Option.bind_some]
        rw [if_pos (by omega)]
        have e : tyAt s a = (a, false) := by
          unfold tyAt oneAt
          rw [if_neg (fun h => c h.1), if_neg (fun h => c h.1), if_neg (fun h => c h.1)]
        rw [e]
        exact hbad _ _
theorem spec_desc (s : ByteArray) (hn : s.size ≤ 20000) (k : Nat) (hk : 60 ≤ k) : spec_DescRead.f k s = some (descOf s) := by
  obtain ⟨k, rfl⟩ : ∃ m, k = m + 1 := ⟨k - 1, by omega⟩
  unfold spec_DescRead.f descOf
  rw [if_neg (by omega)]
  by_cases c : (s.size : Int) = 0
  · rw [if_pos c, if_neg (by omega)]
    simp only [spec_DescRead.j0, spec_l02Wrong.f, Option.bind_some]
    rw [if_pos trivial]; rfl
  · rw [if_neg c, if_pos (by omega)]
    simp only [spec_DescRead.j0, spec_l02Wrong.f, Option.bind_some]
    by_cases c2 : bt s 0 = 40
    · rw [bne_eq_false_iff_eq.mpr c2, if_neg (by simp), if_pos ⟨by omega, c2⟩]
      exact spec_desc_loop s (by omega) 9 k 1 [] (by omega) (by omega) (by simp) (by omega) (by omega)
    · rw [bne_iff_ne.mpr c2, if_pos rfl, if_neg (fun h => c2 h.2)]; rfl
theorem impl_desc (s : ByteArray) (hn : s.size ≤ 140737488351232) (k : Nat) (hk : 60 ≤ k) : impl_descRead.f k s = some (descOf s) := by
  unfold impl_descRead.f descOf
  rw [want_ok s hn 0 40 (by omega)]
  simp only [Option.bind_some]
  by_cases c : (0 : Int) < (s.size : Int) ∧ bt s 0 = 40
  · rw [if_pos c, if_pos c]
    exact impl_desc_loop s hn 9 k 1 [] (by omega) (by omega) (by simp) (by omega) (by omega)
  · rw [if_neg c, if_neg c]
    obtain ⟨k, rfl⟩ : ∃ m, k = m + 2 := ⟨k - 2, by omega⟩
    simp only [impl_descRead.l0]
    rw [if_pos trivial]
    simp only [impl_descRead.j1]
    rw [if_neg (by simp)]
    exact impl_desc_bad s k (by omega) 0 []
/-- What DescRead returns: 'too long' where it is. -/
def descGot (s : ByteArray) : DescR := if s.size ≤ 20000 then descOf s else (([] : List ByteArray), (⟨#[]⟩ : ByteArray), 0, 2)
theorem spec_Desc (s : ByteArray) (k : Nat) (hk : 60 ≤ k) : spec_DescRead.f k s = some (descGot s) := by
  unfold descGot
  by_cases c : s.size ≤ 20000
  · rw [if_pos c]; exact spec_desc s c k hk
  · rw [if_neg c]
    unfold spec_DescRead.f
    rw [if_pos (by omega)]

def bareB (c n d : ByteArray) : Bool := decide (c.toList = []) && (decide (n.toList = []) && decide (d.toList = []))
theorem ins_bare (k : Nat) (o a : Int) (c n d : ByteArray) : impl_InsRight.f k o a c n d = impl_InsRight.j0 k (bareB c n d) o a c n d := by
  unfold impl_InsRight.f bareB
  by_cases h1 : c.toList = []
  · rw [if_pos h1, decide_eq_true h1]
    by_cases h2 : n.toList = []
    · rw [if_pos h2, decide_eq_true h2]
      have e : (d.toList == ([] : List UInt8)) = decide (d.toList = []) := by
        rw [Bool.eq_iff_iff, beq_iff_eq, decide_eq_true_eq]
      rw [e]; rfl
    · rw [if_neg h2, decide_eq_false h2]; rfl
  · rw [if_neg h1, decide_eq_false h1]; rfl
theorem spec_bare (o a : Int) (c n d : ByteArray) : spec_l03Empty.f o a c n d = some (bareB c n d) := by
  unfold spec_l03Empty.f bareB
  by_cases h1 : c.toList = []
  · rw [if_pos h1, decide_eq_true h1]
    by_cases h2 : n.toList = []
    · rw [if_pos h2, decide_eq_true h2]
      have e : (d.toList == ([] : List UInt8)) = decide (d.toList = []) := by
        rw [Bool.eq_iff_iff, beq_iff_eq, decide_eq_true_eq]
      rw [e]; rfl
    · rw [if_neg h2, decide_eq_false h2]; rfl
  · rw [if_neg h1, decide_eq_false h1]; rfl
theorem is_desc (s : ByteArray) (k : Nat) (hk : 60 ≤ k) : impl_isDesc.f k s = some ((descGot s).2.2.2 == 0) := by
  unfold impl_isDesc.f descGot
  rw [is_text_at s k (by omega)]
  by_cases c : s.size ≤ 20000
  · rw [decide_eq_true c, if_pos c]
    simp only [Option.bind_some]
    rw [if_pos trivial, impl_desc s (by omega) k hk]
    rfl
  · rw [decide_eq_false c, if_neg c]
    rfl
/-- Both laws on instructions come to one answer. -/
theorem ins_same (o a : Int) (c n d : ByteArray) (hc : c.size ≤ 1048576) (hn : n.size ≤ 1048576) (hd : d.size ≤ 1048576) :
    ∃ r, (∀ k, 1048600 ≤ k → spec_InsRight.f k o a c n d = some r) ∧ (∀ k, 1048600 ≤ k → impl_InsRight.f k o a c n d = some r) := by
  obtain ⟨F, hF1, hF2⟩ := op_form o
  obtain ⟨b1, s1, i1⟩ := names_same c (by omega)
  obtain ⟨b2, s2, i2⟩ := names_same n (by omega)
  have key : ∀ k, 1048599 ≤ k → ∃ r, spec_InsRight.f (k + 1) o a c n d = some r ∧ impl_InsRight.f (k + 1) o a c n d = some r := by
    intro k hk
    rw [ins_bare]
    unfold spec_InsRight.f
    simp only [impl_InsRight.j0, hF1, hF2 (k + 1) (by omega), Option.bind_some, spec_bare, s1 (k + 1) (by omega), s2 (k + 1) (by omega), i1 k (by omega), i2 k (by omega), spec_right_all d (k + 1) (by omega), impl_right d (by omega) k (by omega), spec_Desc d (k + 1) (by omega), is_desc d k (by omega), impl_isInt.f, impl_within.f, spec_l01Int.f, impl_isMethodName.f]
    generalize bareB c n d = B
    by_cases f0 : F.toList = []
    · rw [if_pos f0, if_pos f0]
      cases B <;> by_cases ha : a = 0 <;> simp [ha]
    rw [if_neg f0, if_neg f0]
    by_cases f1 : F.toList = [110]
    · rw [if_pos f1, if_pos f1]
      cases B <;> by_cases h1 : a ≥ -2147483648 <;> by_cases h2 : a ≤ 2147483647 <;> simp [h1, h2]
    rw [if_neg f1, if_neg f1]
    by_cases f2 : F.toList = [105]
    · rw [if_pos f2, if_pos f2]
      cases B <;> by_cases h1 : a ≥ 0 <;> by_cases h2 : a < 16 <;> simp [h1, h2] <;> omega
    rw [if_neg f2, if_neg f2]
    by_cases f3 : F.toList = [116]
    · rw [if_pos f3, if_pos f3]
      cases B <;> by_cases h1 : a ≥ 0 <;> by_cases h2 : a < 60 <;> simp [h1, h2] <;> omega
    rw [if_neg f3, if_neg f3]
    by_cases f4 : F.toList = [99]
    · rw [if_pos f4, if_pos f4]
      by_cases ha : a = 0 <;> by_cases h2 : n.toList = [] <;> cases b1 <;> simp [ha, h2]
    rw [if_neg f4, if_neg f4]
    by_cases f5 : F.toList = [121]
    · rw [if_pos f5, if_pos f5]
      by_cases ha : a = 0
      · rw [if_pos ha, if_pos ha]
        by_cases h1 : c.toList = []
        · rw [if_pos h1, if_pos h1]
          by_cases h2 : n.toList = []
          · rw [if_pos h2, if_pos h2]
            by_cases ht : tright d = true
            · have hs := right_shape d (tright_eq d ht)
              rw [ht, if_pos rfl, if_pos (by omega)]
              by_cases h3 : d.toList = [73]
              · rw [if_pos h3]
                have := (str_one d 73).mp h3
                have e : bt d 0 = 73 := this.2
                exact ⟨_, rfl, by rw [e]; rfl⟩
              · rw [if_neg h3, if_pos rfl, if_pos (by omega)]
                refine ⟨_, rfl, congrArg some ?_⟩
                have h4 : ¬ (d.size = 1 ∧ bt d 0 = 73) := fun h => h3 ((str_one d 73).mpr h)
                by_cases h5 : bt d 0 = 76
                · rw [h5]; rfl
                · have h6 : bt d 0 = 91 := by omega
                  rw [h6]; rfl
            · have h3 : ¬ d.toList = [73] := fun h => ht (tright_one d ((str_one d 73).mp h))
              rw [if_neg ht, if_neg h3, if_neg ht]
              exact ⟨_, rfl, rfl⟩
          · rw [if_neg h2, if_neg h2]
            exact ⟨_, rfl, rfl⟩
        · rw [if_neg h1, if_neg h1]
          exact ⟨_, rfl, rfl⟩
      · rw [if_neg ha, if_neg ha]
        exact ⟨_, rfl, rfl⟩
    rw [if_neg f5, if_neg f5]
    by_cases f6 : F.toList = [102]
    · rw [if_pos f6, if_pos f6]
      by_cases ha : a = 0 <;> cases b1 <;> cases b2 <;> simp [ha]
    rw [if_neg f6, if_neg f6]
    by_cases f7 : F.toList = [109]
    · rw [if_pos f7, if_pos f7]
      by_cases ha : a = 0
      · rw [if_pos ha, if_pos ha]
        cases b1
        · simp
        · cases b2
          · by_cases h3 : n.toList = [60, 105, 110, 105, 116, 62] <;> simp [h3]
          · simp
      · rw [if_neg ha, if_neg ha]
        exact ⟨_, rfl, rfl⟩
    rw [if_neg f7, if_neg f7]
    exact ⟨_, rfl, rfl⟩
  obtain ⟨r, e1, e2⟩ := key 1048599 (Nat.le_refl _)
  refine ⟨r, fun k hk => ?_, fun k hk => ?_⟩
  · exact at_rounds (g := fun k => spec_InsRight.f k o a c n d) (fun k => spec_InsRight.mono _ _ _ _ _ _) hk e1
  · exact at_rounds (g := fun k => impl_InsRight.f k o a c n d) (fun k => impl_InsRight.mono _ _ _ _ _ _) hk e2

/-- What is joined with one blank between. -/
def joinB (l : List ByteArray) : ByteArray := ⟨(Lib.join (l.map (·.data.toList)) (⟨#[32]⟩ : ByteArray).data.toList).toArray⟩
theorem dtl (a b : ByteArray) : (a ++ b).data.toList = a.data.toList ++ b.data.toList := by rw [ByteArray.data_append, Array.toList_append]
theorem jt_cons (s x : List UInt8) (r : List (List UInt8)) : Lib.joinTail s (x :: r) = (s ++ x) ++ Lib.joinTail s r := by simp [Lib.joinTail]
theorem joinB_list (x : ByteArray) (r : List ByteArray) : (joinB (x :: r)).data.toList = x.data.toList ++ Lib.joinTail [32] (r.map (·.data.toList)) := by
  show Lib.join ((x :: r).map (·.data.toList)) [32] = _
  rw [List.map_cons, Lib.join_cons]
theorem jt_len (M : Nat) : ∀ l : List ByteArray, (∀ x ∈ l, x.size ≤ M) → (Lib.joinTail [32] (l.map (·.data.toList))).length ≤ l.length * (M + 1)
  | [], _ => by simp [Lib.joinTail]
  | x :: r, h => by
    have h1 := jt_len M r (fun y hy => h y (List.mem_cons_of_mem _ hy))
    have h2 : x.data.toList.length ≤ M := by
      have := h x List.mem_cons_self
      rw [Array.length_toList]; exact this
    rw [List.map_cons, jt_cons, List.length_append, List.length_append, List.length_cons, List.length_cons, List.length_nil, Nat.succ_mul]
    omega
theorem joinB_size (M : Nat) (l : List ByteArray) (h : ∀ x ∈ l, x.size ≤ M) : (joinB l).size ≤ l.length * (M + 1) := by
  cases l with
  | nil => exact Nat.zero_le _
  | cons x r =>
    have h1 := jt_len M r (fun y hy => h y (List.mem_cons_of_mem _ hy))
    have h2 : x.data.toList.length ≤ M := by
      have := h x List.mem_cons_self
      rw [Array.length_toList]; exact this
    have e : (joinB (x :: r)).size = (joinB (x :: r)).data.toList.length := by rw [Array.length_toList]; rfl
    rw [e, joinB_list, List.length_append, List.length_cons, Nat.succ_mul]
    omega
theorem join_f (M : Nat) (l : List ByteArray) (h : ∀ x ∈ l, x.size ≤ M) (hn : l.length * (M + 1) ≤ 140737488355328) (hl : l.length ≤ 140737488355328) : strings_Join.f l (⟨#[32]⟩ : ByteArray) = some (joinB l) := by
  unfold strings_Join.f
  have h1 := joinB_size M l h
  have e : (Lib.join (l.map (·.data.toList)) (⟨#[32]⟩ : ByteArray).data.toList).length = (joinB l).size := by
    show _ = (Lib.join (l.map (·.data.toList)) (⟨#[32]⟩ : ByteArray).data.toList).toArray.size
    rw [List.size_toArray]
  rw [if_pos ⟨hl, by rw [e]; omega⟩]
  rfl

theorem i64_in {a : Int} (ha : (Lit.int .i64 a).wf = true) : -9223372036854775808 ≤ a ∧ a ≤ 9223372036854775807 := by
  have e1 : IntKind.i64.min = -9223372036854775808 := by decide
  have e2 : IntKind.i64.max = 9223372036854775807 := by decide
  simp only [Lit.wf, e1, e2, Bool.and_eq_true, decide_eq_true_eq] at ha
  exact ha
/-- The decimal digits as a text. -/
def digT (u : Nat) : ByteArray := ⟨(Lib.decDigits u).toArray⟩
def decT (n : Int) : ByteArray := ⟨(Lib.itoa n).toArray⟩
theorem digT_small (u : Nat) (h : u < 10) : digT u = ⟨#[UInt8.ofNat (48 + u)]⟩ := by unfold digT; rw [Lib.decDigits_one h]
theorem digT_big (u : Nat) (h : ¬ u < 10) : digT u = digT (u / 10) ++ ⟨#[UInt8.ofNat (48 + u % 10)]⟩ := by
  unfold digT
  rw [show Lib.decDigits u = Lib.decDigits (u / 10) ++ [UInt8.ofNat (48 + u % 10)] by rw [Lib.decDigits, dif_neg h]]
  apply ByteArray.ext
  rw [ByteArray.data_append]
  simp
theorem strOf_digit (u : Nat) : strOfNums [(wrap64 (48 + ((u % 10 : Nat) : Int))) % 256] = ⟨#[UInt8.ofNat (48 + u % 10)]⟩ := by
  have e : (wrap64 (48 + ((u % 10 : Nat) : Int))) % 256 = ((48 + u % 10 : Nat) : Int) := by unfold wrap64; omega
  rw [e]
  rfl
theorem tmod_abs (n : Int) : (0 ≤ n → Int.tmod n 10 = ((n.natAbs % 10 : Nat) : Int) ∧ Int.tdiv n 10 = ((n.natAbs / 10 : Nat) : Int)) ∧ (n < 0 → Int.tmod n 10 = -((n.natAbs % 10 : Nat) : Int) ∧ Int.tdiv n 10 = -((n.natAbs / 10 : Nat) : Int)) := by
  have key : ∀ u : Nat, Int.tmod (u : Int) 10 = ((u % 10 : Nat) : Int) ∧ Int.tdiv (u : Int) 10 = ((u / 10 : Nat) : Int) := fun u => ⟨rfl, rfl⟩
  constructor
  · intro h
    obtain ⟨u, rfl⟩ : ∃ u : Nat, n = u := ⟨n.toNat, by omega⟩
    exact key u
  · intro h
    obtain ⟨u, rfl⟩ : ∃ u : Nat, n = -(u : Int) := ⟨n.natAbs, by omega⟩
    rw [Int.neg_tmod, Int.neg_tdiv, Int.natAbs_neg]
    exact ⟨by rw [(key u).1]; rfl, by rw [(key u).2]; rfl⟩
def decFin (neg : Bool) (s : ByteArray) : ByteArray := if neg = true then (⟨#[45]⟩ : ByteArray) ++ s else s
theorem dec_end (k : Nat) (neg : Bool) (s : ByteArray) (h : s.size ≤ 50) : spec_l01Dec.l0 (k + 1) 0 neg s = some (decFin neg s) := by
  unfold spec_l01Dec.l0 decFin
  rw [if_pos rfl]
  cases neg
  · rfl
  · rw [if_pos rfl, if_pos (by omega), if_pos rfl]
theorem dec_run : ∀ (f u k : Nat) (n : Int) (neg : Bool) (out : ByteArray), n.natAbs = u → 1 ≤ u → u < 10 ^ f → f < k → out.size + f ≤ 40 → -9223372036854775808 ≤ n → n ≤ 9223372036854775807 →
    spec_l01Dec.l0 k n neg out = some (decFin neg (digT u ++ out))
  | 0, u, k, n, neg, out, _, h1, h2, _, _, _, _ => by simp at h2; omega
  | f + 1, u, k, n, neg, out, hu, h1, h2, hk, ho, hl, hh => by
    obtain ⟨k, rfl⟩ : ∃ m, k = m + 1 := ⟨k - 1, by omega⟩
    have hs : ∀ y : List Int, (strOfNums y).size = y.length := strOfNums_size
    have step : ∀ d : ByteArray, d = ⟨#[UInt8.ofNat (48 + u % 10)]⟩ → spec_l01Dec.l0 k (wrap64 (Int.tdiv n 10)) neg (d ++ out) = some (decFin neg (digT u ++ out)) := by
      intro d hd
      have hz : (d ++ out).size = 1 + out.size := by rw [ByteArray.size_append, hd]; rfl
      by_cases h10 : u < 10
      · have e0 : wrap64 (Int.tdiv n 10) = 0 := by
          have h3 := tmod_abs n
          by_cases hn : 0 ≤ n
          · rw [(h3.1 hn).2]; unfold wrap64; omega
          · rw [(h3.2 (by omega)).2]; unfold wrap64; omega
        obtain ⟨k, rfl⟩ : ∃ m, k = m + 1 := ⟨k - 1, by omega⟩
        rw [e0, dec_end k neg _ (by omega), hd, digT_small u h10, Nat.mod_eq_of_lt h10]
      · have h3 := tmod_abs n
        have e1 : (wrap64 (Int.tdiv n 10)).natAbs = u / 10 ∧ -9223372036854775808 ≤ wrap64 (Int.tdiv n 10) ∧ wrap64 (Int.tdiv n 10) ≤ 9223372036854775807 := by
          by_cases hn : 0 ≤ n
          · rw [(h3.1 hn).2]; unfold wrap64; omega
          · rw [(h3.2 (by omega)).2]; unfold wrap64; omega
        rw [dec_run f (u / 10) k _ neg (d ++ out) e1.1 (by omega) (by rw [Nat.pow_succ] at h2; omega) (by omega) (by omega) e1.2.1 e1.2.2, digT_big u h10, hd, ByteArray.append_assoc]
    have h3 := tmod_abs n
    unfold spec_l01Dec.l0
    rw [if_neg (by omega)]
    by_cases hn : 0 ≤ n
    · rw [if_neg (by rw [(h3.1 hn).1]; omega)]
      simp only [Option.bind_some]
      rw [(h3.1 hn).1, hu, strOf_digit]
      rw [if_pos (by have : (⟨#[UInt8.ofNat (48 + u % 10)]⟩ : ByteArray).size = 1 := rfl
                     omega)]
      exact step _ rfl
    · have h4 := (h3.2 (by omega)).1
      by_cases hd : Int.tmod n 10 < 0
      · rw [if_pos hd]
        simp only [Option.bind_some]
        rw [h4, Int.neg_neg, show wrap64 ((n.natAbs % 10 : Nat) : Int) = ((n.natAbs % 10 : Nat) : Int) by unfold wrap64; omega, hu, strOf_digit]
        rw [if_pos (by have : (⟨#[UInt8.ofNat (48 + u % 10)]⟩ : ByteArray).size = 1 := rfl
                       omega)]
        exact step _ rfl
      · rw [if_neg hd]
        simp only [Option.bind_some]
        rw [show Int.tmod n 10 = ((u % 10 : Nat) : Int) by omega, strOf_digit]
        rw [if_pos (by have : (⟨#[UInt8.ofNat (48 + u % 10)]⟩ : ByteArray).size = 1 := rfl
                       omega)]
        exact step _ rfl
/-- The reference's own digits are the numeral. -/
theorem spec_dec (n : Int) (hl : -9223372036854775808 ≤ n) (hh : n ≤ 9223372036854775807) (k : Nat) (hk : 20 < k) : spec_l01Dec.f k n = some (decT n) := by
  unfold spec_l01Dec.f
  by_cases h0 : n = 0
  · rw [if_pos h0, h0]
    exact congrArg some (show (⟨#[48]⟩ : ByteArray) = decT 0 by unfold decT Lib.itoa; rw [if_neg (by omega), show (0 : Int).toNat = 0 from rfl, Lib.decDigits_one (by omega)]; rfl)
  · rw [if_neg h0, dec_run 20 n.natAbs k n _ ⟨#[]⟩ rfl (by omega) (by have : (10 : Nat) ^ 20 = 100000000000000000000 := by decide
                                                                      omega) hk (by show 0 + 20 ≤ 40; omega) hl hh]
    have ea : digT n.natAbs ++ (⟨#[]⟩ : ByteArray) = digT n.natAbs := ByteArray.append_empty
    rw [ea]
    refine congrArg some ?_
    unfold decFin decT Lib.itoa
    by_cases hn : n < 0
    · rw [if_pos (decide_eq_true hn), if_pos hn]
      apply ByteArray.ext
      rw [ByteArray.data_append]
      simp [digT]
    · rw [if_neg (by simp; omega), if_neg hn, show n.natAbs = n.toNat by omega]
      rfl
theorem dig_len : ∀ (f u : Nat), u < 10 ^ (f + 1) → (Lib.decDigits u).length ≤ f + 1
  | 0, u, h => by rw [Lib.decDigits_one (by simpa using h)]; simp
  | f + 1, u, h => by
    by_cases c : u < 10
    · rw [Lib.decDigits_one c]; simp
    · rw [show Lib.decDigits u = Lib.decDigits (u / 10) ++ [UInt8.ofNat (48 + u % 10)] by rw [Lib.decDigits, dif_neg c]]
      have := dig_len f (u / 10) (by rw [Nat.pow_succ] at h; omega)
      simp only [List.length_append, List.length_cons, List.length_nil]
      omega
theorem decT_size (n : Int) (hl : -9223372036854775808 ≤ n) (hh : n ≤ 9223372036854775807) : (decT n).size ≤ 21 := by
  show (Lib.itoa n).toArray.size ≤ 21
  rw [List.size_toArray]
  have k1 : (10 : Nat) ^ 20 = 100000000000000000000 := by decide
  unfold Lib.itoa
  by_cases h : n < 0
  · rw [if_pos h]
    have := dig_len 19 n.natAbs (by omega)
    simp only [List.length_cons]
    omega
  · rw [if_neg h]
    have := dig_len 19 n.toNat (by omega)
    omega
theorem impl_dec (n : Int) (hl : -9223372036854775808 ≤ n) (hh : n ≤ 9223372036854775807) : impl_text.f n = some (decT n) := by
  unfold impl_text.f strconv_FormatInt_38.f strconv_FormatInt_62.f
  rw [if_pos ⟨rfl, hl, hh⟩]
  rfl

theorem op_names_nat : ∀ n : Nat, n < 44 → spec_OpName.f 16 (((n + 1 : Nat) : Int)) = impl_OpName.f (((n + 1 : Nat) : Int)) ∧ (match impl_OpName.f (((n + 1 : Nat) : Int)) with | some S => decide (S.size ≤ 20) | none => false) = true := by decide +kernel
/-- The name of an op: the program's and the reference's. -/
theorem op_name (a : Int) : ∃ S, impl_OpName.f a = some S ∧ S.size ≤ 20 ∧ ∀ k, 16 ≤ k → spec_OpName.f k a = some S := by
  have up : ∀ S, spec_OpName.f 16 a = some S → ∀ k, 16 ≤ k → spec_OpName.f k a = some S := fun S h k hk => at_rounds (g := fun k => spec_OpName.f k a) (fun k => spec_OpName.mono _ _) hk h
  by_cases h1 : 1 ≤ a ∧ a ≤ 44
  · have e : a = (((a - 1).toNat + 1 : Nat) : Int) := by omega
    have h := op_names_nat (a - 1).toNat (by omega)
    rw [← e] at h
    obtain ⟨h2, h3⟩ := h
    cases hS : impl_OpName.f a with
    | none => rw [hS] at h3; simp at h3
    | some S =>
      rw [hS] at h2 h3
      exact ⟨S, rfl, by simpa using h3, up S h2⟩
  · refine ⟨⟨#[]⟩, ?_, Nat.zero_le _, up _ ?_⟩
    · unfold impl_OpName.f impl_isOp.f impl_within.f
      by_cases c : a ≥ 1
      · rw [if_pos c]
        simp only [Option.bind_some]
        rw [if_neg (by simp; omega)]
      · rw [if_neg c]
        simp only [Option.bind_some]
        rw [if_neg (by simp)]
    · unfold spec_OpName.f spec_l03Ops.f
      simp only [Option.bind_some]
      by_cases c : a < 1
      · rw [if_pos c]
      · rw [if_neg c, if_pos (by simp; omega)]

theorem joinB_1 (x : ByteArray) : joinB [x] = x := by
  apply WideShapes.bytes_inj
  rw [joinB_list]
  simp [Lib.joinTail]
theorem joinB_2 (x a : ByteArray) : joinB [x, a] = (x ++ ⟨#[32]⟩) ++ a := by
  apply WideShapes.bytes_inj
  rw [joinB_list, dtl, dtl]
  simp [Lib.joinTail]
theorem joinB_4 (x a b c : ByteArray) : joinB [x, a, b, c] = ((((((x ++ ⟨#[32]⟩) ++ a) ++ ⟨#[32]⟩) ++ b) ++ ⟨#[32]⟩) ++ c) := by
  apply WideShapes.bytes_inj
  rw [joinB_list]
  simp only [dtl]
  simp [Lib.joinTail]
theorem join_at (l : List ByteArray) (hl : l.length ≤ 4) (h : ∀ x ∈ l, x.size ≤ 1048620) : strings_Join.f l (⟨#[32]⟩ : ByteArray) = some (joinB l) :=
  join_f 1048620 l h (by omega) (by omega)
/-- An instruction as a text. -/
def insT (S F : ByteArray) (b : Bool) (a : Int) (c n d : ByteArray) : ByteArray :=
  if b = true then (S ++ ⟨#[32]⟩) ++ decT a else if F.toList = ([99] : List UInt8) then (S ++ ⟨#[32]⟩) ++ c else if F.toList = ([121] : List UInt8) then (S ++ ⟨#[32]⟩) ++ d else
  if F.toList = ([102] : List UInt8) then ((((((S ++ ⟨#[32]⟩) ++ c) ++ ⟨#[32]⟩) ++ n) ++ ⟨#[32]⟩) ++ d) else if F.toList = ([109] : List UInt8) then ((((((S ++ ⟨#[32]⟩) ++ c) ++ ⟨#[32]⟩) ++ n) ++ ⟨#[32]⟩) ++ d) else S
theorem ins_j0_spec (S F : ByteArray) (b : Bool) (o a : Int) (c n d : ByteArray) (hS : S.size ≤ 20) (hl : -9223372036854775808 ≤ a) (hh : a ≤ 9223372036854775807) (hc : c.size ≤ 1048576) (hn : n.size ≤ 1048576) (hd : d.size ≤ 1048576) (k : Nat) (hk : 20 < k) :
    spec_l14Ins.j0 (k + 1) S F b o a c n d = some (insT S F b a c n d) := by
  have z1 : (⟨#[32]⟩ : ByteArray).size = 1 := rfl
  have zd := decT_size a hl hh
  unfold insT
  simp only [spec_l14Ins.j0, spec_dec a hl hh k hk, Option.bind_some, ByteArray.size_append, z1]
  have q0 : (S.size + 1 ≤ 9223372036854775807) = True := eq_true (by omega)
  have q1 : (S.size + 1 + (decT a).size ≤ 9223372036854775807) = True := eq_true (by omega)
  have q2 : (S.size + 1 + c.size ≤ 9223372036854775807) = True := eq_true (by omega)
  have q3 : (S.size + 1 + d.size ≤ 9223372036854775807) = True := eq_true (by omega)
  have q4 : (S.size + 1 + c.size + 1 ≤ 9223372036854775807) = True := eq_true (by omega)
  have q5 : (S.size + 1 + c.size + 1 + n.size ≤ 9223372036854775807) = True := eq_true (by omega)
  have q6 : (S.size + 1 + c.size + 1 + n.size + 1 ≤ 9223372036854775807) = True := eq_true (by omega)
  have q7 : (S.size + 1 + c.size + 1 + n.size + 1 + d.size ≤ 9223372036854775807) = True := eq_true (by omega)
  simp only [q0, q1, q2, q3, q4, q5, q6, q7, if_true]
  repeat' (first | rfl | split)
theorem ins_j0_impl (S F : ByteArray) (b : Bool) (o a : Int) (c n d : ByteArray) (hS : S.size ≤ 20) (hl : -9223372036854775808 ≤ a) (hh : a ≤ 9223372036854775807) (hc : c.size ≤ 1048576) (hn : n.size ≤ 1048576) (hd : d.size ≤ 1048576) (k : Nat) :
    impl_insText.j0 (k + 1) [S] F b o a c n d = some (insT S F b a c n d) := by
  have zd := decT_size a hl hh
  have two : ∀ x : ByteArray, x.size ≤ 1048620 → strings_Join.f ([S] ++ [x]) (⟨#[32]⟩ : ByteArray) = some ((S ++ ⟨#[32]⟩) ++ x) := fun x hx => by
    rw [← joinB_2]
    exact join_at [S, x] (by simp) (by intro y hy; simp at hy; rcases hy with rfl | rfl <;> omega)
  have four : strings_Join.f ([S] ++ [c, n, d]) (⟨#[32]⟩ : ByteArray) = some ((((((S ++ ⟨#[32]⟩) ++ c) ++ ⟨#[32]⟩) ++ n) ++ ⟨#[32]⟩) ++ d) := by
    rw [← joinB_4]
    exact join_at [S, c, n, d] (by simp) (by intro y hy; simp at hy; rcases hy with rfl | rfl | rfl | rfl <;> omega)
  have one : strings_Join.f [S] (⟨#[32]⟩ : ByteArray) = some S := by
    have := join_at [S] (by simp) (by intro y hy; simp at hy; subst hy; omega)
    rwa [joinB_1] at this
  unfold insT
  simp only [impl_insText.j0, impl_dec a hl hh, Option.bind_some, two (decT a) (by omega), two c (by omega), two d (by omega), four, one]
  have q0 : (([S] : List ByteArray).length < 8796093022208) = True := eq_true (by simp)
  have q1 : (([S] : List ByteArray).length + ([c, n, d] : List ByteArray).length < 8796093022208) = True := eq_true (by simp)
  simp only [q0, q1, if_true]
  repeat' (first | rfl | split)
def insTx (S F : ByteArray) (a : Int) (c n d : ByteArray) : ByteArray :=
  if F.toList = ([110] : List UInt8) then insT S F (F.toList == ([110] : List UInt8)) a c n d else if F.toList = ([105] : List UInt8) then insT S F (F.toList == ([105] : List UInt8)) a c n d else insT S F (F.toList == ([116] : List UInt8)) a c n d
/-- The text of an instruction: the program's and the reference's. -/
theorem ins_text (o a : Int) (c n d : ByteArray) (hl : -9223372036854775808 ≤ a) (hh : a ≤ 9223372036854775807) (hc : c.size ≤ 1048576) (hn : n.size ≤ 1048576) (hd : d.size ≤ 1048576) :
    ∃ T, (∀ k, 22 ≤ k → spec_l14Ins.f k o a c n d = some T) ∧ (∀ k, 22 ≤ k → impl_insText.f k o a c n d = some T) := by
  obtain ⟨F, f1, f2⟩ := op_form o
  obtain ⟨S, s1, hS, s2⟩ := op_name o
  refine ⟨insTx S F a c n d, fun k hk => ?_, fun k hk => ?_⟩
  · obtain ⟨k, rfl⟩ : ∃ m, k = m + 1 := ⟨k - 1, by omega⟩
    unfold spec_l14Ins.f insTx
    rw [s2 _ (by omega), f2 _ (by omega)]
    simp only [Option.bind_some, ins_j0_spec S F _ o a c n d hS hl hh hc hn hd k (by omega)]
    repeat' (first | rfl | split)
  · obtain ⟨k, rfl⟩ : ∃ m, k = m + 1 := ⟨k - 1, by omega⟩
    unfold impl_insText.f insTx
    rw [s1, f1]
    simp only [Option.bind_some, ins_j0_impl S F _ o a c n d hS hl hh hc hn hd k]
    repeat' (first | rfl | split)

theorem FnExactInsText : laws_FnExactInsText.Pure := by
  intro x hx
  obtain ⟨_, hw, h2, h3, h4⟩ := hx
  have hi := i64_in hw
  unfold maxLen at h2 h3 h4
  by_cases c : x.f2.size ≤ 1048576 ∧ x.f3.size ≤ 1048576 ∧ x.f4.size ≤ 1048576
  · obtain ⟨r, e1, e2⟩ := ins_same x.f0 x.f1 x.f2 x.f3 x.f4 c.1 c.2.1 c.2.2
    obtain ⟨T, t1, t2⟩ := ins_text x.f0 x.f1 x.f2 x.f3 x.f4 hi.1 hi.2 c.1 c.2.1 c.2.2
    refine ⟨1048600, ?_⟩
    unfold laws_FnExactInsText.f
    have hz : ∃ v, laws_szIns.f x.f0 x.f1 x.f2 x.f3 x.f4 1048576 = some v := by
      unfold laws_szIns.f
      repeat' split
      all_goals exact ⟨_, rfl⟩
    obtain ⟨v, hv⟩ := hz
    rw [hv]
    simp only [Option.bind_some, laws_toIns.f, spec_InsText.f, impl_InsText.f]
    by_cases c2 : v < 0
    · rw [if_pos c2]
    · rw [if_neg c2, e1 _ (Nat.le_refl _), e2 _ (Nat.le_refl _), t1 _ (by omega), t2 _ (by omega)]
      simp only [Option.bind_some]
      cases r
      · rw [if_neg (by simp)]
        simp only [Option.bind_some]
        rw [if_pos trivial]
      · rw [if_pos rfl]
        simp only [Option.bind_some]
        rw [if_pos trivial]
  · refine ⟨0, ?_⟩
    have hz : laws_szIns.f x.f0 x.f1 x.f2 x.f3 x.f4 1048576 = some (-1) := by
      unfold laws_szIns.f
      have e1 : wrap64 ((1048576 : Int) - (x.f2.size : Int)) = 1048576 - (x.f2.size : Int) := by unfold wrap64; omega
      rw [e1]
      by_cases c1 : (1048576 : Int) - (x.f2.size : Int) < 0
      · rw [if_pos c1]
      rw [if_neg c1]
      have e2 : wrap64 ((1048576 : Int) - (x.f2.size : Int) - (x.f3.size : Int)) = 1048576 - (x.f2.size : Int) - (x.f3.size : Int) := by unfold wrap64; omega
      rw [e2]
      by_cases c2 : (1048576 : Int) - (x.f2.size : Int) - (x.f3.size : Int) < 0
      · rw [if_pos c2]
      rw [if_neg c2]
      have e3 : wrap64 ((1048576 : Int) - (x.f2.size : Int) - (x.f3.size : Int) - (x.f4.size : Int)) = 1048576 - (x.f2.size : Int) - (x.f3.size : Int) - (x.f4.size : Int) := by unfold wrap64; omega
      rw [e3, if_pos (by omega)]
    unfold laws_FnExactInsText.f
    rw [hz]
    rfl

end Go.Proofs.YtdfnljchoomliaaDoor.Pure
