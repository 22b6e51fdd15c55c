/- The program's DescRead returns what the reference's returns, in memory of its own, for every string that the model can read. -/
import Derived.Test.YtjmochmnioegoaaPFnExactDescReadx6
namespace Go.Proofs.Ytjmochmnioegoaa.Pure
open Go.RowKit Go.Proofs.Ytjmochmnioegoaa.PFnExactDescRead Go.Proofs.YtjmochmnioegoaaW.PrintWords Go.Proofs.YtjmochmnioegoaaW.PrintLast
set_option linter.unusedVariables false
set_option linter.unusedSimpArgs false

theorem step64 {i : Int} {n : Nat} (h0 : 0 ≤ i) (h : i < (n : Int)) (hn : n ≤ 140737488351232) : wrap64 (i + 1) = i + 1 := by
  unfold wrap64
  omega

theorem name_byte_nat : ∀ c : Nat, c < 256 → impl_isNameByte.f (c : Int) 0 = spec_l01NameByte.f (c : Int) true ∧ impl_isNameByte.f (c : Int) 1 = spec_l01NameByte.f (c : Int) false := by decide +kernel
theorem name_byte_some (c : Int) (b : Bool) : ∃ r, spec_l01NameByte.f c b = some r := by
  unfold spec_l01NameByte.f
  repeat' split
  all_goals exact ⟨_, rfl⟩
theorem name_byte (c i : Int) (h0 : 0 ≤ c) (h1 : c ≤ 255) (hi : 0 ≤ i) : impl_isNameByte.f c i = spec_l01NameByte.f c (i == 0) := by
  obtain ⟨n, rfl⟩ := Int.eq_ofNat_of_zero_le h0
  have h := name_byte_nat n (by omega)
  by_cases e : i = 0
  · subst e; simpa using h.1
  · have e1 : (i == 0) = false := by simpa using e
    rw [e1, ← h.2]
    unfold impl_isNameByte.f
    have e2 : decide (i > 0) = decide ((1 : Int) > 0) := by simp; omega
    rw [e2]

/-- The place behind the name's bytes that stand from a place on, `n` at the most. -/
def nend : Nat → ByteArray → Int → Int → Int
  | 0, _, _, i => i
  | n + 1, t, f, i => if i < (t.size : Int) ∧ spec_l01NameByte.f (bt t i) (i == f) = some true then nend n t f (i + 1) else i
def nameAt (t : ByteArray) (f : Int) : Int × Bool :=
  if nend 20 t f f < (t.size : Int) ∧ bt t (nend 20 t f f) = 59 ∧ nend 20 t f f ≠ f then (nend 20 t f f + 1, true) else (nend 20 t f f, false)
def oneAt (t : ByteArray) (a : Int) : Int × Bool :=
  if a < (t.size : Int) ∧ bt t a = 73 then (a + 1, true) else if a < (t.size : Int) ∧ bt t a = 76 then nameAt t (a + 1) else (a, false)
/-- A type that is read at a place: the place behind it, or the first that is wrong. -/
def tyAt (t : ByteArray) (a : Int) : Int × Bool := if a < (t.size : Int) ∧ bt t a = 91 then oneAt t (a + 1) else oneAt t a
theorem nend_ge (t : ByteArray) (f : Int) : ∀ (n : Nat) (i : Int), i ≤ (t.size : Int) → i ≤ nend n t f i ∧ nend n t f i ≤ (t.size : Int)
  | 0, i, h => ⟨Int.le_refl _, h⟩
  | n + 1, i, h => by
    unfold nend
    by_cases c : i < (t.size : Int) ∧ spec_l01NameByte.f (bt t i) (i == f) = some true
    · rw [if_pos c]
      have := nend_ge t f n (i + 1) (by omega)
      omega
    · rw [if_neg c]
      omega
theorem nameAt_ge (t : ByteArray) (f : Int) (h : f ≤ (t.size : Int)) : f ≤ (nameAt t f).1 ∧ (nameAt t f).1 ≤ (t.size : Int) := by
  have := nend_ge t f 20 f h
  unfold nameAt
  split
  · dsimp only; omega
  · dsimp only; omega
theorem oneAt_ge (t : ByteArray) (a : Int) (h : a ≤ (t.size : Int)) : a ≤ (oneAt t a).1 ∧ (oneAt t a).1 ≤ (t.size : Int) ∧ ((oneAt t a).2 = true → a < (oneAt t a).1) := by
  unfold oneAt
  split
  · dsimp only; omega
  · split
    · have := nameAt_ge t (a + 1) (by omega)
      exact ⟨by omega, this.2, fun _ => by omega⟩
    · simpa using h
theorem tyAt_ge (t : ByteArray) (a : Int) (h : a ≤ (t.size : Int)) : a ≤ (tyAt t a).1 ∧ (tyAt t a).1 ≤ (t.size : Int) ∧ ((tyAt t a).2 = true → a < (tyAt t a).1) := by
  unfold tyAt
  split
  · have := oneAt_ge t (a + 1) (by omega)
    exact ⟨by omega, this.2.1, fun _ => by omega⟩
  · exact oneAt_ge t a h
theorem spec_name_run (t : ByteArray) (hn : t.size ≤ 140737488351232) (f : Int) (hf : 0 ≤ f) : ∀ (n k : Nat) (i : Int), f ≤ i → i - f = 20 - (n : Int) → i ≤ (t.size : Int) → n < k →
    spec_l02Type.l0 k t f i = some (if nend n t f i < (t.size : Int) ∧ bt t (nend n t f i) = 59 ∧ nend n t f i ≠ f then (nend n t f i + 1, true) else (nend n t f i, false)) := by
  intro n
  induction n with
  | zero =>
    intro k i h0 h1 h2 hk
    obtain ⟨k, rfl⟩ : ∃ m, k = m + 1 := ⟨k - 1, by omega⟩
    have w1 : wrap64 (i - f) = i - f := by unfold wrap64; omega
    rw [show nend 0 t f i = i from rfl]
    simp only [spec_l02Type.l0, w1]
    by_cases c1 : i < (t.size : Int)
    · rw [if_pos c1, if_neg (by omega), if_neg (by omega), if_pos (by omega), step64 (by omega) c1 hn]
      by_cases c2 : bt t i = 59
      · by_cases c3 : i = f
        · rw [if_pos c2, if_pos c3, if_neg (by omega)]
        · rw [if_pos c2, if_neg c3, if_pos ⟨c1, c2, c3⟩]
      · rw [if_neg c2, if_neg (by omega)]
    · rw [if_neg c1, if_pos (by omega), if_neg (by omega)]
  | succ n ih =>
    intro k i h0 h1 h2 hk
    obtain ⟨k, rfl⟩ : ∃ m, k = m + 1 := ⟨k - 1, by omega⟩
    have w1 : wrap64 (i - f) = i - f := by unfold wrap64; omega
    obtain ⟨b, hb⟩ := name_byte_some (bt t i) (i == f)
    by_cases c1 : i < (t.size : Int)
    · simp only [spec_l02Type.l0, w1]
      rw [if_pos c1, if_pos (by omega), if_pos (by omega), hb, step64 (by omega) c1 hn]
      cases b with
      | true =>
        have e : nend (n + 1) t f i = nend n t f (i + 1) := by
          rw [nend, if_pos ⟨c1, hb⟩]
        rw [e]
        simpa using ih k (i + 1) (by omega) (by omega) (by omega) (by omega)
      | false =>
        have e : nend (n + 1) t f i = i := by
          rw [nend, hb]; simp
        rw [e]
        simp only [Option.bind_some]
        rw [if_neg (by simp), if_neg (by omega)]
        by_cases c2 : bt t i = 59
        · by_cases c3 : i = f
          · rw [if_pos c2, if_pos c3, if_neg (by omega)]
          · rw [if_pos c2, if_neg c3, if_pos ⟨c1, c2, c3⟩]
        · rw [if_neg c2, if_neg (by omega)]
    · have e : nend (n + 1) t f i = i := by
        rw [nend, if_neg (by omega)]
      rw [e]
      simp only [spec_l02Type.l0]
      rw [if_neg c1, if_pos (by omega), if_neg (by omega)]
theorem want_bad (t : ByteArray) (i : Int) (b : Int) : impl_reader_want.f t i true b = some (t, i, true) := by
  simp [impl_reader_want.f, impl_reader_take.f, impl_reader_is.f]
theorem take_bad (t : ByteArray) (i : Int) (b : Int) : impl_reader_take.f t i true b = some (false, t, i, true) := by
  simp [impl_reader_take.f, impl_reader_is.f]
theorem take_ok (t : ByteArray) (hn : t.size ≤ 140737488351232) (i b : Int) (h0 : 0 ≤ i) :
    impl_reader_take.f t i false b = some (if i < (t.size : Int) ∧ bt t i = b then (true, t, i + 1, false) else (false, t, i, false)) := by
  unfold impl_reader_take.f impl_reader_is.f
  simp only [impl_length.f, Option.bind_some]
  rw [if_neg (by simp)]
  by_cases c : i < (t.size : Int)
  · rw [if_pos c, if_pos h0, if_pos c]
    simp only [Option.bind_some]
    by_cases c2 : bt t i = b
    · rw [if_pos (by simpa using c2), if_pos ⟨c, c2⟩, step64 h0 c hn]
    · rw [if_neg (by simpa using c2), if_neg (fun h => c2 h.2)]
  · rw [if_neg c, if_neg (by omega)]
    rfl
theorem want_ok (t : ByteArray) (hn : t.size ≤ 140737488351232) (i b : Int) (h0 : 0 ≤ i) :
    impl_reader_want.f t i false b = some (if i < (t.size : Int) ∧ bt t i = b then (t, i + 1, false) else (t, i, true)) := by
  unfold impl_reader_want.f
  rw [take_ok t hn i b h0]
  by_cases c : i < (t.size : Int) ∧ bt t i = b
  · rw [if_pos c, if_pos c]; rfl
  · rw [if_neg c, if_neg c]; rfl
theorem name_run (t : ByteArray) (hn : t.size ≤ 140737488351232) (f : Int) (hf : 0 ≤ f) : ∀ (n k : Nat) (i : Int), f ≤ i → i - f = 20 - (n : Int) → i ≤ (t.size : Int) → n < k →
    impl_reader_name.l0 k f t i false = some (if nend n t f i < (t.size : Int) ∧ bt t (nend n t f i) = 59 ∧ nend n t f i ≠ f then (t, nend n t f i + 1, false) else (t, nend n t f i, true)) := by
  have w2 : f ≤ (t.size : Int) → wrap64 (f + 20) = f + 20 := fun _ => by unfold wrap64; omega
  intro n
  induction n with
  | zero =>
    intro k i h0 h1 h2 hk
    obtain ⟨k, rfl⟩ : ∃ m, k = m + 1 := ⟨k - 1, by omega⟩
    rw [show nend 0 t f i = i from rfl]
    simp only [impl_reader_name.l0, impl_length.f, Option.bind_some, w2 (by omega)]
    rw [if_neg (by simp)]
    by_cases c1 : i < (t.size : Int)
    · rw [if_pos c1, if_neg (by omega), if_neg (by omega), want_ok t hn i 59 (by omega)]
      by_cases c2 : bt t i = 59
      · rw [if_pos ⟨c1, c2⟩, if_pos ⟨c1, c2, by omega⟩]; rfl
      · rw [if_neg (fun h => c2 h.2), if_neg (fun h => c2 h.2.1)]; rfl
    · rw [if_neg c1, if_neg (by omega), want_ok t hn i 59 (by omega), if_neg (by omega), if_neg (by omega)]; rfl
  | succ n ih =>
    intro k i h0 h1 h2 hk
    obtain ⟨k, rfl⟩ : ∃ m, k = m + 1 := ⟨k - 1, by omega⟩
    have w1 : wrap64 (i - f) = i - f := by unfold wrap64; omega
    obtain ⟨b, hb⟩ := name_byte_some (bt t i) (i == f)
    have hr := bt_range t i
    have hbi := name_byte (bt t i) (i - f) hr.1 hr.2 (by omega)
    have e0 : (i - f == 0) = (i == f) := by
      by_cases c : i = f
      · subst c; simp
      · rw [beq_eq_false_iff_ne.mpr c, beq_eq_false_iff_ne.mpr (by omega)]
    rw [e0, hb] at hbi
    by_cases c1 : i < (t.size : Int)
    · simp only [impl_reader_name.l0, impl_length.f, Option.bind_some, w2 (by omega), w1]
      rw [if_neg (by simp), if_pos c1, if_pos (by omega), if_pos (by omega), if_pos c1, hbi, step64 (by omega) c1 hn]
      cases b with
      | true =>
        have e : nend (n + 1) t f i = nend n t f (i + 1) := by
          rw [nend, if_pos ⟨c1, hb⟩]
        rw [e]
        simpa using ih k (i + 1) (by omega) (by omega) (by omega) (by omega)
      | false =>
        have e : nend (n + 1) t f i = i := by
          rw [nend, hb]; simp
        rw [e]
        simp only [Option.bind_some]
        rw [if_neg (by simp)]
        by_cases c3 : i = f
        · rw [if_pos c3, want_bad, if_neg (by omega)]; rfl
        · rw [if_neg c3, want_ok t hn i 59 (by omega)]
          by_cases c2 : bt t i = 59
          · rw [if_pos ⟨c1, c2⟩, if_pos ⟨c1, c2, c3⟩]; rfl
          · rw [if_neg (fun h => c2 h.2), if_neg (fun h => c2 h.2.1)]; rfl
    · have e : nend (n + 1) t f i = i := by
        rw [nend, if_neg (by omega)]
      rw [e]
      simp only [impl_reader_name.l0, impl_length.f, Option.bind_some]
      rw [if_neg (by simp), if_neg c1]
      by_cases c3 : i = f
      · rw [if_pos c3, want_bad, if_neg (by omega)]; rfl
      · rw [if_neg c3, want_ok t hn i 59 (by omega), if_neg (by omega), if_neg (by omega)]; rfl
theorem spec_type_one (t : ByteArray) (hn : t.size ≤ 140737488351232) (k : Nat) (hk : 21 < k) (a : Int) (h0 : 0 ≤ a) (h1 : a < (t.size : Int)) (h2 : bt t a ≠ 73) :
    spec_l02Type.j0 k t a false = some (oneAt t a) := by
  obtain ⟨k, rfl⟩ : ∃ m, k = m + 1 := ⟨k - 1, by omega⟩
  simp only [spec_l02Type.j0]
  rw [if_neg (by simp), if_pos h0, if_pos h1, step64 h0 h1 hn]
  have e : oneAt t a = if a < (t.size : Int) ∧ bt t a = 76 then nameAt t (a + 1) else (a, false) := by
    unfold oneAt
    exact if_neg (fun h => h2 h.2)
  rw [e]
  by_cases c : bt t a = 76
  · rw [if_pos c, if_pos ⟨h1, c⟩]
    exact spec_name_run t hn (a + 1) (by omega) 20 k (a + 1) (by omega) (by omega) (by omega) (by omega)
  · rw [if_neg c, if_neg (fun h => c h.2)]
theorem spec_type_list (t : ByteArray) (hn : t.size ≤ 140737488351232) (k : Nat) (hk : 22 < k) (a : Int) (h0 : 0 ≤ a) (h1 : a ≤ (t.size : Int)) :
    spec_l02Type.f k t a true = some (oneAt t a) := by
  obtain ⟨k, rfl⟩ : ∃ m, k = m + 1 := ⟨k - 1, by omega⟩
  simp only [spec_l02Type.f]
  by_cases c : a < (t.size : Int)
  · rw [if_neg (by omega), if_pos h0, if_pos c, step64 h0 c hn]
    by_cases c2 : bt t a = 73
    · rw [if_pos c2]; unfold oneAt; rw [if_pos ⟨c, c2⟩]
    · rw [if_neg c2]
      have e := spec_type_one t hn k (by omega) a h0 c c2
      by_cases c3 : bt t a = 91
      · rw [if_pos c3]; exact e
      · rw [if_neg c3]; exact e
  · rw [if_pos (by omega)]; unfold oneAt; rw [if_neg (by omega), if_neg (by omega)]
theorem spec_type (t : ByteArray) (hn : t.size ≤ 140737488351232) (k : Nat) (hk : 24 < k) (a : Int) (h0 : 0 ≤ a) (h1 : a ≤ (t.size : Int)) :
    spec_l02Type.f k t a false = some (tyAt t a) := by
  obtain ⟨k, rfl⟩ : ∃ m, k = m + 1 := ⟨k - 1, by omega⟩
  simp only [spec_l02Type.f]
  unfold tyAt
  by_cases c : a < (t.size : Int)
  · rw [if_neg (by omega), if_pos h0, if_pos c, step64 h0 c hn]
    by_cases c2 : bt t a = 73
    · rw [if_pos c2, if_neg (by omega)]; unfold oneAt; rw [if_pos ⟨c, c2⟩]
    · rw [if_neg c2]
      by_cases c3 : bt t a = 91
      · rw [if_pos c3, if_pos ⟨c, c3⟩]
        obtain ⟨k, rfl⟩ : ∃ m, k = m + 1 := ⟨k - 1, by omega⟩
        simp only [spec_l02Type.j0]
        rw [if_pos (by simp), step64 h0 c hn, spec_type_list t hn k (by omega) (a + 1) (by omega) (by omega)]
        rfl
      · rw [if_neg c3, if_neg (fun h => c3 h.2)]
        exact spec_type_one t hn k (by omega) a h0 c c2
  · rw [if_pos (by omega), if_neg (by omega)]; unfold oneAt; rw [if_neg (by omega), if_neg (by omega)]
/-- The reader's kind behind its '['. -/
theorem kind_tail (t : ByteArray) (hn : t.size ≤ 140737488351232) (k : Nat) (hk : 21 < k) (s a : Int) (hs : 0 ≤ s) (hsa : s ≤ a) (h1 : a ≤ (t.size : Int)) :
    ((impl_reader_take.f t a false 73).bind fun (x : Bool × ByteArray × Int × Bool) => (if x.1 = true then (if x.2.2.2 = true then (some ((⟨#[]⟩ : ByteArray), x.2.1, x.2.2.1, x.2.2.2)) else (if 0 ≤ s then (if s ≤ x.2.2.1 then (if x.2.2.1 ≤ (x.2.1.size : Int) then (some (x.2.1.extract (s : Int).toNat (x.2.2.1 : Int).toNat, x.2.1, x.2.2.1, x.2.2.2)) else (none)) else (none)) else (none))) else ((impl_reader_take.f x.2.1 x.2.2.1 x.2.2.2 76).bind fun y => (if y.1 = true then ((impl_reader_name.f k y.2.1 y.2.2.1 y.2.2.2).bind fun z => (if z.2.2 = true then (some ((⟨#[]⟩ : ByteArray), z.1, z.2.1, z.2.2)) else (if 0 ≤ s then (if s ≤ z.2.1 then (if z.2.1 ≤ (z.1.size : Int) then (some (z.1.extract (s : Int).toNat (z.2.1 : Int).toNat, z.1, z.2.1, z.2.2)) else (none)) else (none)) else (none)))) else (some ((⟨#[]⟩ : ByteArray), y.2.1, y.2.2.1, true))))))
      = some ((if (oneAt t a).2 = true then t.extract s.toNat (oneAt t a).1.toNat else ⟨#[]⟩), t, (oneAt t a).1, !(oneAt t a).2) := by
  have h0 : 0 ≤ a := by omega
  rw [take_ok t hn a 73 h0]
  by_cases c1 : a < (t.size : Int) ∧ bt t a = 73
  · have e : oneAt t a = (a + 1, true) := by unfold oneAt; rw [if_pos c1]
    rw [if_pos c1, e]
    simp only [Option.bind_some]
    rw [if_pos trivial, if_neg (by simp), if_pos hs, if_pos (by omega), if_pos (by omega)]
    rfl
  · rw [if_neg c1]
    simp only [Option.bind_some]
    rw [if_neg (by simp), take_ok t hn a 76 h0]
    by_cases c2 : a < (t.size : Int) ∧ bt t a = 76
    · have e : oneAt t a = nameAt t (a + 1) := by unfold oneAt; rw [if_neg c1, if_pos c2]
      rw [if_pos c2, e]
      simp only [Option.bind_some]
      have hg := nend_ge t (a + 1) 20 (a + 1) (by omega)
      rw [if_pos trivial, impl_reader_name.f, name_run t hn (a + 1) (by omega) 20 k (a + 1) (by omega) (by omega) (by omega) (by omega)]
      unfold nameAt
      by_cases c3 : nend 20 t (a + 1) (a + 1) < (t.size : Int) ∧ bt t (nend 20 t (a + 1) (a + 1)) = 59 ∧ nend 20 t (a + 1) (a + 1) ≠ a + 1
      · rw [if_pos c3, if_pos c3]
        simp only [Option.bind_some]
        rw [if_neg (by simp), if_pos hs, if_pos (by omega), if_pos (by omega)]
        rfl
      · rw [if_neg c3, if_neg c3]
        rfl
    · have e : oneAt t a = (a, false) := by unfold oneAt; rw [if_neg c1, if_neg c2]
      rw [if_neg c2, e]
      rfl
theorem impl_kind (t : ByteArray) (hn : t.size ≤ 140737488351232) (k : Nat) (hk : 21 < k) (a : Int) (h0 : 0 ≤ a) (h1 : a ≤ (t.size : Int)) :
    impl_reader_kind.f k t a false = some ((if (tyAt t a).2 = true then t.extract a.toNat (tyAt t a).1.toNat else ⟨#[]⟩), t, (tyAt t a).1, !(tyAt t a).2) := by
  unfold impl_reader_kind.f
  rw [take_ok t hn a 91 h0]
  unfold tyAt
  by_cases c : a < (t.size : Int) ∧ bt t a = 91
  · rw [if_pos c, if_pos c]
    exact kind_tail t hn k hk a (a + 1) h0 (by omega) (by omega)
  · rw [if_neg c, if_neg c]
    exact kind_tail t hn k hk a a h0 (by omega) (by omega)

theorem is_text (s : ByteArray) : impl_isText.f 2 [s] = some (decide (s.size ≤ 20000)) := by
  by_cases h : s.size ≤ 20000
  · simp [impl_isText.f, impl_isText.l0, rdOf, wrap64, h]
    omega
  · simp [impl_isText.f, impl_isText.l0, rdOf, wrap64, h]
    omega
theorem i64_bounds {a : Int} (ha : (Lit.int .i64 a).wf = true) : -9223372036854775808 ≤ a ∧ a ≤ 9223372036854775807 := by
  have e1 : IntKind.i64.min = -9223372036854775808 := by decide
  have e2 : IntKind.i64.max = 9223372036854775807 := by decide
  simp only [Lit.wf, e1, e2, Bool.and_eq_true, decide_eq_true_eq] at ha
  exact ha
theorem is_text_at (s : ByteArray) (k : Nat) (hk : 2 ≤ k) : impl_isText.f k [s] = some (decide (s.size ≤ 20000)) := by
  obtain ⟨d, rfl⟩ : ∃ d, k = 2 + d := ⟨k - 2, by omega⟩
  induction d with
  | zero => exact is_text s
  | succ d ih => exact impl_isText.mono [s] (2 + d) _ (ih (by omega))

abbrev DescR := List ByteArray × ByteArray × Int × Int
def dwrong (a : Int) : DescR := (([] : List ByteArray), (⟨#[]⟩ : ByteArray), a, 3)
/-- What is read behind the ')'. -/
def descTail (s : ByteArray) (a : Int) (ps : List ByteArray) : DescR :=
  if a < (s.size : Int) ∧ bt s a = 86 then (if a + 1 < (s.size : Int) then dwrong (a + 1) else (ps, (⟨#[86]⟩ : ByteArray), 0, 0))
  else if (tyAt s a).2 = true then (if (tyAt s a).1 < (s.size : Int) then dwrong (tyAt s a).1 else (ps, s.extract a.toNat (tyAt s a).1.toNat, 0, 0)) else dwrong (tyAt s a).1
def descLoop : Nat → ByteArray → Int → List ByteArray → DescR
  | 0, _, a, _ => dwrong a
  | n + 1, s, a, ps => if a < (s.size : Int) then
      (if bt s a = 41 then descTail s (a + 1) ps else if ps.length = 8 then dwrong a else
        if (tyAt s a).2 = true then descLoop n s (tyAt s a).1 (ps ++ [s.extract a.toNat (tyAt s a).1.toNat]) else dwrong (tyAt s a).1)
    else dwrong a
def descOf (s : ByteArray) : DescR := if 0 < (s.size : Int) ∧ bt s 0 = 40 then descLoop 9 s 1 [] else dwrong 0
theorem descLoop_le : ∀ (n : Nat) (s : ByteArray) (a : Int) (ps : List ByteArray), ps.length ≤ 8 → (descLoop n s a ps).1.length ≤ 8
  | 0, s, a, ps, h => by simp [descLoop, dwrong]
  | n + 1, s, a, ps, h => by
    unfold descLoop
    split
    · split
      · unfold descTail
        repeat' split
        all_goals first | exact h | exact Nat.zero_le _
      · split
        · exact Nat.zero_le _
        · split
          · exact descLoop_le n s _ _ (by simp; omega)
          · exact Nat.zero_le _
    · exact Nat.zero_le _
theorem descOf_le (s : ByteArray) : (descOf s).1.length ≤ 8 := by
  unfold descOf
  split
  · exact descLoop_le _ _ _ _ (by simp)
  · exact Nat.zero_le _
theorem spec_desc_tail (s : ByteArray) (hn : s.size ≤ 140737488351232) (k : Nat) (hk : 25 < k) (a : Int) (h0 : 0 ≤ a) (h1 : a ≤ (s.size : Int)) (ps : List ByteArray) (b : Bool) (hb : b = decide (a < (s.size : Int) ∧ bt s a = 86)) :
    spec_DescRead.j3 k s a b ps ⟨#[]⟩ = some (descTail s a ps) := by
  obtain ⟨k, rfl⟩ : ∃ m, k = m + 1 := ⟨k - 1, by omega⟩
  have hg := tyAt_ge s a h1
  simp only [spec_DescRead.j3, spec_l02Wrong.f, Option.bind_some]
  unfold descTail
  by_cases c : a < (s.size : Int) ∧ bt s a = 86
  · rw [hb, decide_eq_true c, if_pos c, if_pos rfl, step64 h0 c.1 hn]
    by_cases c2 : a + 1 < (s.size : Int)
    · rw [if_pos c2, if_pos c2]; rfl
    · rw [if_neg c2, if_neg c2]
  · rw [hb, decide_eq_false c, if_neg c, if_neg (by simp), spec_type s hn k (by omega) a h0 h1]
    simp only [Option.bind_some]
    by_cases c2 : (tyAt s a).2 = true
    · rw [if_pos c2, if_pos c2, if_pos h0, if_pos hg.1, if_pos hg.2.1]
      by_cases c3 : (tyAt s a).1 < (s.size : Int)
      · rw [if_pos c3, if_pos c3]; rfl
      · rw [if_neg c3, if_neg c3]
    · rw [if_neg c2, if_neg c2]; rfl
theorem spec_desc_loop (s : ByteArray) (hn : s.size ≤ 140737488351232) : ∀ (n k : Nat) (a : Int) (ps : List ByteArray), 0 ≤ a → a ≤ (s.size : Int) → ps.length + n = 9 → 1 ≤ n → 30 + 2 * n ≤ k →
    spec_DescRead.l0 k s a ps ⟨#[]⟩ = some (descLoop n s a ps)
  | 0, k, a, ps, h0, h1, hp, h2, hk => by omega
  | n + 1, k, a, ps, h0, h1, hp, h2, hk => by
    obtain ⟨k, rfl⟩ : ∃ m, k = m + 2 := ⟨k - 2, by omega⟩
    have hg := tyAt_ge s a h1
    unfold descLoop
    simp only [spec_DescRead.l0]
    by_cases c : a < (s.size : Int)
    · rw [if_pos c, if_pos c, if_pos h0]
      simp only [spec_DescRead.j2, spec_l02Wrong.f, Option.bind_some]
      by_cases c2 : bt s a = 41
      · have e : (bt s a != 41) = false := bne_eq_false_iff_eq.mpr c2
        rw [if_pos c2, e, if_neg (by simp), if_neg (by omega), step64 h0 c hn]
        by_cases c3 : a + 1 < (s.size : Int)
        · rw [if_pos c3, if_pos (by omega)]
          exact spec_desc_tail s hn k (by omega) (a + 1) (by omega) (by omega) ps _ (by
            by_cases c4 : bt s (a + 1) = 86
            · rw [decide_eq_true ⟨c3, c4⟩]; simpa using c4
            · rw [decide_eq_false (fun h => c4 h.2)]; simpa using c4)
        · rw [if_neg c3]
          exact spec_desc_tail s hn k (by omega) (a + 1) (by omega) (by omega) ps _ (by rw [decide_eq_false (fun h => c3 h.1)])
      · have e : (bt s a != 41) = true := bne_iff_ne.mpr c2
        rw [if_neg c2, e, if_pos rfl]
        by_cases c3 : ps.length = 8
        · rw [if_pos (by omega), if_pos c3]; rfl
        · rw [if_neg (by omega), if_neg c3, spec_type s hn k (by omega) a h0 h1]
          simp only [Option.bind_some]
          by_cases c4 : (tyAt s a).2 = true
          · rw [if_pos c4, if_pos c4, if_pos h0, if_pos hg.1, if_pos hg.2.1, if_pos (by omega)]
            exact spec_desc_loop s hn n k _ _ (by omega) hg.2.1 (by simp; omega) (by omega) (by omega)
          · rw [if_neg c4, if_neg c4]; rfl
    · rw [if_neg c, if_neg c]
      simp only [spec_DescRead.j2, spec_l02Wrong.f, Option.bind_some]
      rw [if_neg (by simp), if_pos (by omega)]; rfl
theorem impl_desc_bad (s : ByteArray) (k : Nat) (hk : 0 < k) (a : Int) (ps : List ByteArray) : impl_descRead.j2 k s s a true ps ⟨#[]⟩ = some (dwrong a) := by
  obtain ⟨k, rfl⟩ : ∃ m, k = m + 1 := ⟨k - 1, by omega⟩
  simp only [impl_descRead.j2, take_bad, Option.bind_some]
  rfl
theorem impl_desc_tail (s : ByteArray) (hn : s.size ≤ 140737488351232) (k : Nat) (hk : 25 < k) (a : Int) (h0 : 0 ≤ a) (h1 : a ≤ (s.size : Int)) (ps : List ByteArray) :
    impl_descRead.j2 k s s a false ps ⟨#[]⟩ = some (descTail s a ps) := by
  obtain ⟨k, rfl⟩ : ∃ m, k = m + 1 := ⟨k - 1, by omega⟩
  have hg := tyAt_ge s a h1
  simp only [impl_descRead.j2, take_ok s hn a 86 h0, Option.bind_some, impl_length.f]
  unfold descTail
  by_cases c : a < (s.size : Int) ∧ bt s a = 86
  · rw [if_pos c, if_pos c]
    simp only [if_pos trivial]
    by_cases c2 : a + 1 < (s.size : Int)
    · rw [if_pos c2, if_pos c2, if_neg (by simp)]; rfl
    · rw [if_neg c2, if_neg c2, if_neg (by simp)]
  · rw [if_neg c, if_neg c]
    rw [if_neg (by simp), if_neg (by simp)]
    dsimp only
    rw [impl_kind s hn k (by omega) a h0 h1]
    simp only [Option.bind_some]
    by_cases c2 : (tyAt s a).2 = true
    · rw [if_pos c2, c2]
      simp only [if_pos trivial]
      rw [if_neg (by simp)]
      by_cases c3 : (tyAt s a).1 < (s.size : Int)
      · rw [if_pos c3, if_pos c3]; rfl
      · rw [if_neg c3, if_neg c3]
    · have c2' : (tyAt s a).2 = false := by simpa using c2
      rw [if_neg c2, c2']
      rfl
theorem impl_desc_loop (s : ByteArray) (hn : s.size ≤ 140737488351232) : ∀ (n k : Nat) (a : Int) (ps : List ByteArray), 0 ≤ a → a ≤ (s.size : Int) → ps.length + n = 9 → 1 ≤ n → 30 + 2 * n ≤ k →
    impl_descRead.l0 k s s a false ps ⟨#[]⟩ = some (descLoop n s a ps)
  | 0, k, a, ps, h0, h1, hp, h2, hk => by omega
  | n + 1, k, a, ps, h0, h1, hp, h2, hk => by
    obtain ⟨k, rfl⟩ : ∃ m, k = m + 2 := ⟨k - 2, by omega⟩
    have hg := tyAt_ge s a h1
    have hbad : ∀ (i : Int) (qs : List ByteArray), impl_descRead.l0 k s s i true qs ⟨#[]⟩ = some (dwrong i) := fun i qs => by
      obtain ⟨k, rfl⟩ : ∃ m, k = m + 2 := ⟨k - 2, by omega⟩
      simp only [impl_descRead.l0]
      rw [if_pos trivial]
      simp only [impl_descRead.j1]
      rw [if_neg (by simp)]
      exact impl_desc_bad s k (by omega) i qs
    unfold descLoop
    simp only [impl_descRead.l0]
    rw [if_neg (by simp), take_ok s hn a 41 h0]
    simp only [Option.bind_some]
    by_cases c : a < (s.size : Int)
    · rw [if_pos c]
      by_cases c2 : bt s a = 41
      · rw [if_pos ⟨c, c2⟩, if_pos c2]
        simp only [impl_descRead.j1]
        rw [if_neg (by simp)]
        exact impl_desc_tail s hn k (by omega) (a + 1) (by omega) (by omega) ps
      · rw [if_neg (fun h => c2 h.2), if_neg c2]
        simp only [impl_descRead.j1]
        rw [if_pos (by simp)]
        by_cases c3 : ps.length = 8
        · rw [if_pos (by omega), if_pos c3]
          exact impl_desc_bad s k (by omega) a ps
        · rw [if_neg (by omega), if_neg c3, impl_kind s hn k (by omega) a h0 h1]
          simp only [Option.bind_some]
          rw [if_pos (by omega)]
          by_cases c4 : (tyAt s a).2 = true
          · rw [if_pos c4, if_pos c4, c4]
            exact impl_desc_loop s hn n k _ _ (by omega) hg.2.1 (by simp; omega) (by omega) (by omega)
          · have c4' : (tyAt s a).2 = false := by simpa using c4
            rw [if_neg c4, if_neg c4, c4']
            exact hbad _ _
    · rw [if_neg c, if_neg (fun h => c h.1)]
      simp only [impl_descRead.j1]
      rw [if_pos (by simp)]
      by_cases c3 : ps.length = 8
      · rw [if_pos (by omega)]
        exact impl_desc_bad s k (by omega) a ps
      · rw [if_neg (by omega), impl_kind s hn k (by omega) a h0 h1]
        simp only [Option.bind_some]
        rw [if_pos (by omega)]
        have e : tyAt s a = (a, false) := by
          unfold tyAt oneAt
          rw [if_neg (fun h => c h.1), if_neg (fun h => c h.1), if_neg (fun h => c h.1)]
        rw [e]
        exact hbad _ _
theorem spec_desc (s : ByteArray) (hn : s.size ≤ 20000) (k : Nat) (hk : 60 ≤ k) : spec_DescRead.f k s = some (descOf s) := by
  obtain ⟨k, rfl⟩ : ∃ m, k = m + 1 := ⟨k - 1, by omega⟩
  unfold spec_DescRead.f descOf
  rw [if_neg (by omega)]
  by_cases c : (s.size : Int) = 0
  · rw [if_pos c, if_neg (by omega)]
    simp only [spec_DescRead.j0, spec_l02Wrong.f, Option.bind_some]
    rw [if_pos trivial]; rfl
  · rw [if_neg c, if_pos (by omega)]
    simp only [spec_DescRead.j0, spec_l02Wrong.f, Option.bind_some]
    by_cases c2 : bt s 0 = 40
    · rw [bne_eq_false_iff_eq.mpr c2, if_neg (by simp), if_pos ⟨by omega, c2⟩]
      exact spec_desc_loop s (by omega) 9 k 1 [] (by omega) (by omega) (by simp) (by omega) (by omega)
    · rw [bne_iff_ne.mpr c2, if_pos rfl, if_neg (fun h => c2 h.2)]; rfl
theorem impl_desc (s : ByteArray) (hn : s.size ≤ 140737488351232) (k : Nat) (hk : 60 ≤ k) : impl_descRead.f k s = some (descOf s) := by
  unfold impl_descRead.f descOf
  rw [want_ok s hn 0 40 (by omega)]
  simp only [Option.bind_some]
  by_cases c : (0 : Int) < (s.size : Int) ∧ bt s 0 = 40
  · rw [if_pos c, if_pos c]
    exact impl_desc_loop s hn 9 k 1 [] (by omega) (by omega) (by simp) (by omega) (by omega)
  · rw [if_neg c, if_neg c]
    obtain ⟨k, rfl⟩ : ∃ m, k = m + 2 := ⟨k - 2, by omega⟩
    simp only [impl_descRead.l0]
    rw [if_pos trivial]
    simp only [impl_descRead.j1]
    rw [if_neg (by simp)]
    exact impl_desc_bad s k (by omega) 0 []
/-- What DescRead returns: 'too long' where it is. -/
def descGot (s : ByteArray) : DescR := if s.size ≤ 20000 then descOf s else (([] : List ByteArray), (⟨#[]⟩ : ByteArray), 0, 2)
theorem descGot_le (s : ByteArray) : (descGot s).1.length ≤ 8 := by
  unfold descGot
  split
  · exact descOf_le s
  · exact Nat.zero_le _
theorem spec_Desc (s : ByteArray) (k : Nat) (hk : 60 ≤ k) : spec_DescRead.f k s = some (descGot s) := by
  unfold descGot
  by_cases c : s.size ≤ 20000
  · rw [if_pos c]; exact spec_desc s c k hk
  · rw [if_neg c]
    unfold spec_DescRead.f
    rw [if_pos (by omega)]
theorem impl_Desc (s : ByteArray) (k : Nat) (hk : 60 ≤ k) : impl_DescRead.f k s = some (descGot s) := by
  unfold impl_DescRead.f descGot
  rw [is_text_at s k (by omega)]
  by_cases c : s.size ≤ 20000
  · rw [decide_eq_true c, if_pos c]
    simp only [Option.bind_some]
    rw [if_pos trivial, impl_desc s (by omega) k hk]
    rfl
  · rw [decide_eq_false c, if_neg c]
    rfl

theorem rdOf_at {α : Type} (d : α) (l : List α) (i : Int) (h : i.toNat < l.length) : rdOf d l i = l[i.toNat] := by
  simp [rdOf, List.getD_eq_getElem?_getD, List.getElem?_eq_getElem h]
/-- A list that is filled from the left. -/
theorem fill_end {α : Type} (l acc : List α) (hl : acc.length = l.length) (h : ∀ j, j < l.length → acc[j]? = l[j]?) : acc = l := by
  apply List.ext_getElem?
  intro j
  by_cases hj : j < l.length
  · exact h j hj
  · rw [List.getElem?_eq_none (by omega), List.getElem?_eq_none (by omega)]
theorem fill_step {α : Type} (l acc : List α) (i : Nat) (v : α) (hl : acc.length = l.length) (hi : i < l.length) (hv : l[i]? = some v) (h : ∀ j, j < i → acc[j]? = l[j]?) : ∀ j, j < i + 1 → (acc.set i v)[j]? = l[j]? := by
  intro j hj
  by_cases e : j = i
  · subst e; rw [List.getElem?_set_self (by omega), hv]
  · rw [List.getElem?_set_ne (by omega)]; exact h j (by omega)
theorem ev_le {α : Type} {g : Nat → Option α} {r : α} (h : Ev g r) : ∃ K, ∀ k, K ≤ k → g k = some r := h

theorem eq_loop (a b : List ByteArray) (hl : a.length = b.length) (hb : a.length ≤ 17592186044416) (d : Nat) : ∀ (i : Nat), i + d = a.length → Ev (fun k => laws_eqStringS.l0 k a b i) (decide (a.drop i = b.drop i)) := by
  induction d with
  | zero =>
    intro i hd
    rw [decide_eq_true (by rw [List.drop_eq_nil_of_le (by omega), List.drop_eq_nil_of_le (by omega)])]
    refine Ev.step (f := fun _ => some true) (fun k => ?_) (Ev.now _)
    simp only [laws_eqStringS.l0]; rw [if_neg (by omega)]
  | succ d ih =>
    intro i hd
    have hi : ((i : Int)).toNat < a.length := by omega
    have hi2 : ((i : Int)).toNat < b.length := by omega
    have e2 : wrap64 ((i : Int) + 1) = ((i + 1 : Nat) : Int) := by unfold wrap64; omega
    have ea : a.drop i = a[i] :: a.drop (i + 1) := List.drop_eq_getElem_cons (by omega)
    have eb : b.drop i = b[i] :: b.drop (i + 1) := List.drop_eq_getElem_cons (by omega)
    have ra : rdOf ByteArray.empty a i = a[i] := rdOf_at _ _ _ hi
    have rb : rdOf ByteArray.empty b i = b[i] := rdOf_at _ _ _ hi2
    by_cases c : (a[i]).toList = (b[i]).toList
    · have c2 : a[i] = b[i] := WideShapes.bytes_inj (by rw [← Lib.toList_data, ← Lib.toList_data]; exact c)
      have e3 : decide (a.drop i = b.drop i) = decide (a.drop (i + 1) = b.drop (i + 1)) := decide_eq_decide.mpr (by rw [ea, eb, c2]; exact ⟨fun h => (List.cons.inj h).2, fun h => by rw [h]⟩)
      rw [e3]
      refine Ev.step (fun k => ?_) (ih (i + 1) (by omega))
      simp only [laws_eqStringS.l0, e2, ra, rb]; rw [if_pos (by omega), if_pos (by omega), if_pos (by omega), if_pos c]
    · rw [decide_eq_false (by rw [ea, eb]; intro h; exact c (congrArg ByteArray.toList (List.cons.inj h).1))]
      refine Ev.step (f := fun _ => some false) (fun k => ?_) (Ev.now _)
      simp only [laws_eqStringS.l0, ra, rb]; rw [if_pos (by omega), if_pos (by omega), if_pos (by omega), if_neg c]
theorem eq_strs (a b : List ByteArray) (hb : a.length ≤ 17592186044416) : Ev (fun k => laws_eqStringS.f k a b) (decide (a = b)) := by
  by_cases hl : a.length = b.length
  · refine Ev.congr (fun k => ?_) (eq_loop a b hl hb a.length 0 (by omega))
    unfold laws_eqStringS.f; rw [if_pos (by omega)]; rfl
  · rw [decide_eq_false (fun h => hl (congrArg List.length h))]
    refine Ev.congr (f := fun _ => some false) (fun k => ?_) (Ev.now _)
    unfold laws_eqStringS.f; rw [if_neg (by omega)]

theorem mark_digits (d : Nat) : ∀ (n : Nat) (x : ByteArray), n < 10 ^ d → n < 9223372036854775808 → x.size + d ≤ 1000 → ∃ r, Ev (fun k => laws_markText.l0 k n x) r := by
  induction d with
  | zero =>
    intro n x hn hb hx
    have e : n = 0 := by simpa using hn
    subst e
    refine ⟨(⟨#[109]⟩ : ByteArray) ++ x, Ev.step (f := fun _ => some ((⟨#[109]⟩ : ByteArray) ++ x)) (fun k => ?_) (Ev.now _)⟩
    simp only [laws_markText.l0]
    rw [if_neg (by omega), if_pos (by omega)]
  | succ d ih =>
    intro n x hn hb hx
    by_cases c : n = 0
    · subst c
      refine ⟨(⟨#[109]⟩ : ByteArray) ++ x, Ev.step (f := fun _ => some ((⟨#[109]⟩ : ByteArray) ++ x)) (fun k => ?_) (Ev.now _)⟩
      simp only [laws_markText.l0]
      rw [if_neg (by omega), if_pos (by omega)]
    · have e1 : wrap64 (Int.tdiv (n : Int) 10) = ((n / 10 : Nat) : Int) := by
        rw [Int.tdiv_eq_ediv_of_nonneg (by omega)]
        unfold wrap64
        omega
      have hp : n < 10 ^ d * 10 := by rw [← Nat.pow_succ]; exact hn
      have hs : ∀ y : List Int, (strOfNums y).size = y.length := strOfNums_size
      obtain ⟨r, hr⟩ := ih (n / 10) (strOfNums [(wrap64 (48 + (Int.tmod (n : Int) 10))) % 256] ++ x) (by omega) (by omega) (by rw [ByteArray.size_append, hs]; simp; omega)
      refine ⟨r, Ev.step (fun k => ?_) hr⟩
      simp only [laws_markText.l0, Option.bind_some, e1]
      rw [if_pos (by omega), if_pos (by rw [hs]; simp; omega)]
theorem mark_text (n : Int) (h0 : 0 ≤ n) (h1 : n < 9223372036854775808) : ∃ r, Ev (fun k => laws_markText.f k n) r := by
  obtain ⟨m, rfl⟩ := Int.eq_ofNat_of_zero_le h0
  by_cases c : (m : Int) ≤ 0
  · refine ⟨(⟨#[109, 48]⟩ : ByteArray), Ev.congr (f := fun _ => some (⟨#[109, 48]⟩ : ByteArray)) (fun k => ?_) (Ev.now _)⟩
    unfold laws_markText.f
    rw [if_pos c]
  · have hp : (10 : Nat) ^ 19 = 10000000000000000000 := by decide +kernel
    obtain ⟨r, hr⟩ := mark_digits 19 m ⟨#[]⟩ (by rw [hp]; omega) (by omega) (by show 0 + 19 ≤ 1000; omega)
    refine ⟨r, Ev.congr (fun k => ?_) hr⟩
    unfold laws_markText.f
    rw [if_neg c]
theorem mark_fun : ∃ mk : Int → ByteArray, ∀ n, 0 ≤ n → n < 9223372036854775808 → Ev (fun k => laws_markText.f k n) (mk n) := by
  refine ⟨fun n => @dite _ (∃ r, Ev (fun k => laws_markText.f k n) r) (Classical.propDecidable _) (fun h => h.choose) (fun _ => ⟨#[]⟩), fun n h0 h1 => ?_⟩
  have h := mark_text n h0 h1
  dsimp only
  rw [dif_pos h]
  exact h.choose_spec
theorem mark_loop (mk : Int → ByteArray) (hmk : ∀ n, 0 ≤ n → n < 9223372036854775808 → Ev (fun k => laws_markText.f k n) (mk n)) (d : Nat) : ∀ (l : List ByteArray) (m : Int) (i : Nat), 0 ≤ m → m + d < 4611686018427387904 → l.length ≤ 17592186044416 → i + d = l.length →
    ∃ L, Ev (fun k => laws_markStringS.l0 k l m i) (m + d, L) ∧ L.length = l.length ∧ (∀ j, j < i → L[j]? = l[j]?) ∧ (∀ j, i ≤ j → j < l.length → L[j]? = some (mk (m + ((j - i : Nat) : Int)))) := by
  induction d with
  | zero =>
    intro l m i h0 h1 hl hd
    refine ⟨l, Ev.step (f := fun _ => some (m + ((0 : Nat) : Int), l)) (fun k => ?_) (Ev.now _), rfl, fun j hj => rfl, fun j h1 h2 => by omega⟩
    simp only [laws_markStringS.l0]
    rw [if_neg (by omega)]
    simp
  | succ d ih =>
    intro l m i h0 h1 hl hd
    have e1 : wrap64 (m + 1) = m + 1 := by unfold wrap64; omega
    have e2 : wrap64 ((i : Int) + 1) = ((i + 1 : Nat) : Int) := by unfold wrap64; omega
    obtain ⟨L, hL, hlen, ha, hb⟩ := ih (l.set i (mk m)) (m + 1) (i + 1) (by omega) (by omega) (by simpa using hl) (by simp; omega)
    have e3 : m + 1 + (d : Int) = m + ((d + 1 : Nat) : Int) := by omega
    rw [e3] at hL
    refine ⟨L, ?_, by simpa using hlen, fun j hj => ?_, fun j hj hj2 => ?_⟩
    · refine Ev.step (f := fun k => (laws_markText.f k m).bind fun t => laws_markStringS.l0 k (l.set i t) (m + 1) ((i + 1 : Nat) : Int)) (fun k => ?_) (Ev.bind (hmk m h0 (by omega)) hL)
      simp only [laws_markStringS.l0, e1, e2]
      rw [if_pos (by omega)]
      congr 1
      try (funext t; rw [if_pos (by omega)])
    · rw [ha j (by omega), List.getElem?_set_ne (by omega)]
    · by_cases c : j = i
      · subst c
        rw [ha j (by omega), List.getElem?_set_self (by omega)]
        simp
      · rw [hb j (by omega) (by simpa using hj2)]
        congr 2
        omega
theorem held_loop (mk : Int → ByteArray) (hmk : ∀ n, 0 ≤ n → n < 9223372036854775808 → Ev (fun k => laws_markText.f k n) (mk n)) (d : Nat) : ∀ (l : List ByteArray) (m : Int) (i : Nat), 0 ≤ m → m + d < 4611686018427387904 → l.length ≤ 17592186044416 → i + d = l.length →
    (∀ j, i ≤ j → j < l.length → l[j]? = some (mk (m + ((j - i : Nat) : Int)))) → Ev (fun k => laws_heldStringS.l0 k l m i) (m + d) := by
  induction d with
  | zero =>
    intro l m i h0 h1 hl hd h
    refine Ev.step (f := fun _ => some (m + ((0 : Nat) : Int))) (fun k => ?_) (Ev.now _)
    simp only [laws_heldStringS.l0]
    rw [if_neg (by omega)]
    simp
  | succ d ih =>
    intro l m i h0 h1 hl hd h
    have e1 : wrap64 (m + 1) = m + 1 := by unfold wrap64; omega
    have e2 : wrap64 ((i : Int) + 1) = ((i + 1 : Nat) : Int) := by unfold wrap64; omega
    have hi : ((i : Int)).toNat < l.length := by omega
    have e4 : rdOf ByteArray.empty l i = mk m := by
      rw [rdOf_at _ _ _ hi]
      have := h i (by omega) (by omega)
      rw [List.getElem?_eq_getElem (by omega)] at this
      simpa using this
    have hr := ih l (m + 1) (i + 1) (by omega) (by omega) hl (by omega) (fun j hj hj2 => by rw [h j (by omega) hj2]; congr 2; omega)
    have e3 : m + 1 + (d : Int) = m + ((d + 1 : Nat) : Int) := by omega
    rw [e3] at hr
    refine Ev.step (f := fun k => (laws_markText.f k m).bind fun t => if (mk m).toList = t.toList then laws_heldStringS.l0 k l (m + 1) ((i + 1 : Nat) : Int) else some (-1)) (fun k => ?_) (Ev.bind (hmk m h0 (by omega)) ?_)
    · simp only [laws_heldStringS.l0, e1, e2, e4]
      rw [if_pos (by omega), if_pos (by omega)]
    · refine Ev.congr (fun k => ?_) hr
      rw [if_pos rfl]
/-- What is written into a list of strings is found there. -/
theorem marks_strs (l : List ByteArray) (m : Int) (h0 : 0 ≤ m) (h1 : m + l.length < 4611686018427387904) (hl : l.length ≤ 17592186044416) :
    ∃ L, L.length = l.length ∧ Ev (fun k => laws_markStringS.f k l m) (m + l.length, L) ∧ Ev (fun k => laws_heldStringS.f k L m) (m + l.length) := by
  obtain ⟨mk, hmk⟩ := mark_fun
  obtain ⟨L, hL, hlen, _, hb⟩ := mark_loop mk hmk l.length l m 0 h0 h1 hl (by omega)
  have hh := held_loop mk hmk l.length L m 0 h0 h1 (by omega) (by omega) (fun j hj hj2 => hb j hj (by omega))
  exact ⟨L, hlen, hL, hh⟩

theorem FnExactDescRead : laws_FnExactDescRead.Pure := by
  intro s hn
  have hle := descGot_le s
  obtain ⟨L, hlen, ⟨K1, h1⟩, ⟨K2, h2⟩⟩ := marks_strs (descGot s).1 1 (by omega) (by omega) (by omega)
  obtain ⟨K3, h3⟩ := eq_strs (descGot s).1 (descGot s).1 (by omega)
  refine ⟨60 + K1 + K2 + K3, ?_⟩
  unfold laws_FnExactDescRead.f
  by_cases hbig : (s.size : Int) > 1048576
  · rw [if_pos hbig]
  rw [if_neg hbig, spec_Desc s _ (by omega), impl_Desc s _ (by omega)]
  have e1 : ∀ (a : Int), (1 : Int) + a < 0 ↔ a < -1 := fun a => by omega
  have f1 := h1 (60 + K1 + K2 + K3) (by omega)
  have f2 := h2 (60 + K1 + K2 + K3) (by omega)
  have f3 := h3 (60 + K1 + K2 + K3) (by omega)
  dsimp only at f1 f2 f3
  rw [decide_eq_true rfl] at f3
  simp only [Option.bind_some, laws_eqDescOut.f, laws_eqDesc.f, laws_markDescOut.f, laws_markDesc.f, laws_heldDescOut.f, laws_heldDesc.f, f1, f2, f3, if_true, ↓reduceIte]
  repeat (first | rw [if_neg (by omega)] | rw [if_pos rfl] | rw [if_pos trivial] | simp only [Option.bind_some])

end Go.Proofs.Ytjmochmnioegoaa.Pure
