/- The program's TypeFrom returns what the reference's returns, for every string that the model can read. -/
import Derived.Test.YtjmochmnioegoaaPFnExactTypeFromx4
namespace Go.Proofs.Ytjmochmnioegoaa.Pure
open Go.RowKit Go.Proofs.Ytjmochmnioegoaa.PFnExactTypeFrom Go.Proofs.YtjmochmnioegoaaW.PrintWords Go.Proofs.YtjmochmnioegoaaW.PrintLast
set_option linter.unusedVariables false
set_option linter.unusedSimpArgs false

theorem step64 {i : Int} {n : Nat} (h0 : 0 ≤ i) (h : i < (n : Int)) (hn : n ≤ 140737488351232) : wrap64 (i + 1) = i + 1 := by
  unfold wrap64
  omega

theorem name_byte_nat : ∀ c : Nat, c < 256 → impl_isNameByte.f (c : Int) 0 = spec_l01NameByte.f (c : Int) true ∧ impl_isNameByte.f (c : Int) 1 = spec_l01NameByte.f (c : Int) false := by decide +kernel
theorem name_byte_some (c : Int) (b : Bool) : ∃ r, spec_l01NameByte.f c b = some r := by
  unfold spec_l01NameByte.f
  repeat' split
  all_goals exact ⟨_, rfl⟩
theorem name_byte (c i : Int) (h0 : 0 ≤ c) (h1 : c ≤ 255) (hi : 0 ≤ i) : impl_isNameByte.f c i = spec_l01NameByte.f c (i == 0) := by
  obtain ⟨n, rfl⟩ := Int.eq_ofNat_of_zero_le h0
  have h := name_byte_nat n (by omega)
  by_cases e : i = 0
  · subst e; simpa using h.1
  · have e1 : (i == 0) = false := by simpa using e
    rw [e1, ← h.2]
    unfold impl_isNameByte.f
    have e2 : decide (i > 0) = decide ((1 : Int) > 0) := by simp; omega
    rw [e2]

/-- The place behind the name's bytes that stand from a place on, `n` at the most. -/
def nend : Nat → ByteArray → Int → Int → Int
  | 0, _, _, i => i
  | n + 1, t, f, i => if i < (t.size : Int) ∧ spec_l01NameByte.f (bt t i) (i == f) = some true then nend n t f (i + 1) else i
def nameAt (t : ByteArray) (f : Int) : Int × Bool :=
  if nend 20 t f f < (t.size : Int) ∧ bt t (nend 20 t f f) = 59 ∧ nend 20 t f f ≠ f then (nend 20 t f f + 1, true) else (nend 20 t f f, false)
def oneAt (t : ByteArray) (a : Int) : Int × Bool :=
  if a < (t.size : Int) ∧ bt t a = 73 then (a + 1, true) else if a < (t.size : Int) ∧ bt t a = 76 then nameAt t (a + 1) else (a, false)
/-- A type that is read at a place: the place behind it, or the first that is wrong. -/
def tyAt (t : ByteArray) (a : Int) : Int × Bool := if a < (t.size : Int) ∧ bt t a = 91 then oneAt t (a + 1) else oneAt t a
theorem nend_ge (t : ByteArray) (f : Int) : ∀ (n : Nat) (i : Int), i ≤ (t.size : Int) → i ≤ nend n t f i ∧ nend n t f i ≤ (t.size : Int)
  | 0, i, h => ⟨Int.le_refl _, h⟩
  | n + 1, i, h => by
    unfold nend
    by_cases c : i < (t.size : Int) ∧ spec_l01NameByte.f (bt t i) (i == f) = some true
    · rw [if_pos c]
      have := nend_ge t f n (i + 1) (by omega)
      omega
    · rw [if_neg c]
      omega
theorem nameAt_ge (t : ByteArray) (f : Int) (h : f ≤ (t.size : Int)) : f ≤ (nameAt t f).1 ∧ (nameAt t f).1 ≤ (t.size : Int) := by
  have := nend_ge t f 20 f h
  unfold nameAt
  split
  · dsimp only; omega
  · dsimp only; omega
theorem oneAt_ge (t : ByteArray) (a : Int) (h : a ≤ (t.size : Int)) : a ≤ (oneAt t a).1 ∧ (oneAt t a).1 ≤ (t.size : Int) ∧ ((oneAt t a).2 = true → a < (oneAt t a).1) := by
  unfold oneAt
  split
  · dsimp only; omega
  · split
    · have := nameAt_ge t (a + 1) (by omega)
      exact ⟨by omega, this.2, fun _ => by omega⟩
    · simpa using h
theorem tyAt_ge (t : ByteArray) (a : Int) (h : a ≤ (t.size : Int)) : a ≤ (tyAt t a).1 ∧ (tyAt t a).1 ≤ (t.size : Int) ∧ ((tyAt t a).2 = true → a < (tyAt t a).1) := by
  unfold tyAt
  split
  · have := oneAt_ge t (a + 1) (by omega)
    exact ⟨by omega, this.2.1, fun _ => by omega⟩
  · exact oneAt_ge t a h
theorem spec_name_run (t : ByteArray) (hn : t.size ≤ 140737488351232) (f : Int) (hf : 0 ≤ f) : ∀ (n k : Nat) (i : Int), f ≤ i → i - f = 20 - (n : Int) → i ≤ (t.size : Int) → n < k →
    spec_l02Type.l0 k t f i = some (if nend n t f i < (t.size : Int) ∧ bt t (nend n t f i) = 59 ∧ nend n t f i ≠ f then (nend n t f i + 1, true) else (nend n t f i, false)) := by
  intro n
  induction n with
  | zero =>
    intro k i h0 h1 h2 hk
    obtain ⟨k, rfl⟩ : ∃ m, k = m + 1 := ⟨k - 1, by omega⟩
    have w1 : wrap64 (i - f) = i - f := by unfold wrap64; omega
    rw [show nend 0 t f i = i from rfl]
    simp only [spec_l02Type.l0, w1]
    by_cases c1 : i < (t.size : Int)
    · rw [if_pos c1, if_neg (by omega), if_neg (by omega), if_pos (by omega), step64 (by omega) c1 hn]
      by_cases c2 : bt t i = 59
      · by_cases c3 : i = f
        · rw [if_pos c2, if_pos c3, if_neg (by omega)]
        · rw [if_pos c2, if_neg c3, if_pos ⟨c1, c2, c3⟩]
      · rw [if_neg c2, if_neg (by omega)]
    · rw [if_neg c1, if_pos (by omega), if_neg (by omega)]
  | succ n ih =>
    intro k i h0 h1 h2 hk
    obtain ⟨k, rfl⟩ : ∃ m, k = m + 1 := ⟨k - 1, by omega⟩
    have w1 : wrap64 (i - f) = i - f := by unfold wrap64; omega
    obtain ⟨b, hb⟩ := name_byte_some (bt t i) (i == f)
    by_cases c1 : i < (t.size : Int)
    · simp only [spec_l02Type.l0, w1]
      rw [if_pos c1, if_pos (by omega), if_pos (by omega), hb, step64 (by omega) c1 hn]
      cases b with
      | true =>
        have e : nend (n + 1) t f i = nend n t f (i + 1) := by
          rw [nend, if_pos ⟨c1, hb⟩]
        rw [e]
        simpa using ih k (i + 1) (by omega) (by omega) (by omega) (by omega)
      | false =>
        have e : nend (n + 1) t f i = i := by
          rw [nend, hb]; simp
        rw [e]
        simp only [Option.bind_some]
        rw [if_neg (by simp), if_neg (by omega)]
        by_cases c2 : bt t i = 59
        · by_cases c3 : i = f
          · rw [if_pos c2, if_pos c3, if_neg (by omega)]
          · rw [if_pos c2, if_neg c3, if_pos ⟨c1, c2, c3⟩]
        · rw [if_neg c2, if_neg (by omega)]
    · have e : nend (n + 1) t f i = i := by
        rw [nend, if_neg (by omega)]
      rw [e]
      simp only [spec_l02Type.l0]
      rw [if_neg c1, if_pos (by omega), if_neg (by omega)]
theorem want_bad (t : ByteArray) (i : Int) (b : Int) : impl_reader_want.f t i true b = some (t, i, true) := by
  simp [impl_reader_want.f, impl_reader_take.f, impl_reader_is.f]
theorem take_bad (t : ByteArray) (i : Int) (b : Int) : impl_reader_take.f t i true b = some (false, t, i, true) := by
  simp [impl_reader_take.f, impl_reader_is.f]
theorem take_ok (t : ByteArray) (hn : t.size ≤ 140737488351232) (i b : Int) (h0 : 0 ≤ i) :
    impl_reader_take.f t i false b = some (if i < (t.size : Int) ∧ bt t i = b then (true, t, i + 1, false) else (false, t, i, false)) := by
  unfold impl_reader_take.f impl_reader_is.f
  simp only [impl_length.f, Option.bind_some]
  rw [if_neg (by simp)]
  by_cases c : i < (t.size : Int)
  · rw [if_pos c, if_pos h0, if_pos c]
    simp only [Option.bind_some]
    by_cases c2 : bt t i = b
    · rw [if_pos (by simpa using c2), if_pos ⟨c, c2⟩, step64 h0 c hn]
    · rw [if_neg (by simpa using c2), if_neg (fun h => c2 h.2)]
  · rw [if_neg c, if_neg (by omega)]
    rfl
theorem want_ok (t : ByteArray) (hn : t.size ≤ 140737488351232) (i b : Int) (h0 : 0 ≤ i) :
    impl_reader_want.f t i false b = some (if i < (t.size : Int) ∧ bt t i = b then (t, i + 1, false) else (t, i, true)) := by
  unfold impl_reader_want.f
  rw [take_ok t hn i b h0]
  by_cases c : i < (t.size : Int) ∧ bt t i = b
  · rw [if_pos c, if_pos c]; rfl
  · rw [if_neg c, if_neg c]; rfl
theorem name_run (t : ByteArray) (hn : t.size ≤ 140737488351232) (f : Int) (hf : 0 ≤ f) : ∀ (n k : Nat) (i : Int), f ≤ i → i - f = 20 - (n : Int) → i ≤ (t.size : Int) → n < k →
    impl_reader_name.l0 k f t i false = some (if nend n t f i < (t.size : Int) ∧ bt t (nend n t f i) = 59 ∧ nend n t f i ≠ f then (t, nend n t f i + 1, false) else (t, nend n t f i, true)) := by
  have w2 : f ≤ (t.size : Int) → wrap64 (f + 20) = f + 20 := fun _ => by unfold wrap64; omega
  intro n
  induction n with
  | zero =>
    intro k i h0 h1 h2 hk
    obtain ⟨k, rfl⟩ : ∃ m, k = m + 1 := ⟨k - 1, by omega⟩
    rw [show nend 0 t f i = i from rfl]
    simp only [impl_reader_name.l0, impl_length.f, Option.bind_some, w2 (by omega)]
    rw [if_neg (by simp)]
    by_cases c1 : i < (t.size : Int)
    · rw [if_pos c1, if_neg (by omega), if_neg (by omega), want_ok t hn i 59 (by omega)]
      by_cases c2 : bt t i = 59
      · rw [if_pos ⟨c1, c2⟩, if_pos ⟨c1, c2, by omega⟩]; rfl
      · rw [if_neg (fun h => c2 h.2), if_neg (fun h => c2 h.2.1)]; rfl
    · rw [if_neg c1, if_neg (by omega), want_ok t hn i 59 (by omega), if_neg (by omega), if_neg (by omega)]; rfl
  | succ n ih =>
    intro k i h0 h1 h2 hk
    obtain ⟨k, rfl⟩ : ∃ m, k = m + 1 := ⟨k - 1, by omega⟩
    have w1 : wrap64 (i - f) = i - f := by unfold wrap64; omega
    obtain ⟨b, hb⟩ := name_byte_some (bt t i) (i == f)
    have hr := bt_range t i
    have hbi := name_byte (bt t i) (i - f) hr.1 hr.2 (by omega)
    have e0 : (i - f == 0) = (i == f) := by
      by_cases c : i = f
      · subst c; simp
      · rw [beq_eq_false_iff_ne.mpr c, beq_eq_false_iff_ne.mpr (by omega)]
    rw [e0, hb] at hbi
    by_cases c1 : i < (t.size : Int)
    · simp only [impl_reader_name.l0, impl_length.f, Option.bind_some, w2 (by omega), w1]
      rw [if_neg (by simp), if_pos c1, if_pos (by omega), if_pos (by omega), if_pos c1, hbi, step64 (by omega) c1 hn]
      cases b with
      | true =>
        have e : nend (n + 1) t f i = nend n t f (i + 1) := by
          rw [nend, if_pos ⟨c1, hb⟩]
        rw [e]
        simpa using ih k (i + 1) (by omega) (by omega) (by omega) (by omega)
      | false =>
        have e : nend (n + 1) t f i = i := by
          rw [nend, hb]; simp
        rw [e]
        simp only [Option.bind_some]
        rw [if_neg (by simp)]
        by_cases c3 : i = f
        · rw [if_pos c3, want_bad, if_neg (by omega)]; rfl
        · rw [if_neg c3, want_ok t hn i 59 (by omega)]
          by_cases c2 : bt t i = 59
          · rw [if_pos ⟨c1, c2⟩, if_pos ⟨c1, c2, c3⟩]; rfl
          · rw [if_neg (fun h => c2 h.2), if_neg (fun h => c2 h.2.1)]; rfl
    · have e : nend (n + 1) t f i = i := by
        rw [nend, if_neg (by omega)]
      rw [e]
      simp only [impl_reader_name.l0, impl_length.f, Option.bind_some]
      rw [if_neg (by simp), if_neg c1]
      by_cases c3 : i = f
      · rw [if_pos c3, want_bad, if_neg (by omega)]; rfl
      · rw [if_neg c3, want_ok t hn i 59 (by omega), if_neg (by omega), if_neg (by omega)]; rfl
theorem spec_type_one (t : ByteArray) (hn : t.size ≤ 140737488351232) (k : Nat) (hk : 21 < k) (a : Int) (h0 : 0 ≤ a) (h1 : a < (t.size : Int)) (h2 : bt t a ≠ 73) :
    spec_l02Type.j0 k t a false = some (oneAt t a) := by
  obtain ⟨k, rfl⟩ : ∃ m, k = m + 1 := ⟨k - 1, by omega⟩
  simp only [spec_l02Type.j0]
  rw [if_neg (by simp), if_pos h0, if_pos h1, step64 h0 h1 hn]
  have e : oneAt t a = if a < (t.size : Int) ∧ bt t a = 76 then nameAt t (a + 1) else (a, false) := by
    unfold oneAt
    exact if_neg (fun h => h2 h.2)
  rw [e]
  by_cases c : bt t a = 76
  · rw [if_pos c, if_pos ⟨h1, c⟩]
    exact spec_name_run t hn (a + 1) (by omega) 20 k (a + 1) (by omega) (by omega) (by omega) (by omega)
  · rw [if_neg c, if_neg (fun h => c h.2)]
theorem spec_type_list (t : ByteArray) (hn : t.size ≤ 140737488351232) (k : Nat) (hk : 22 < k) (a : Int) (h0 : 0 ≤ a) (h1 : a ≤ (t.size : Int)) :
    spec_l02Type.f k t a true = some (oneAt t a) := by
  obtain ⟨k, rfl⟩ : ∃ m, k = m + 1 := ⟨k - 1, by omega⟩
  simp only [spec_l02Type.f]
  by_cases c : a < (t.size : Int)
  · rw [if_neg (by omega), if_pos h0, if_pos c, step64 h0 c hn]
    by_cases c2 : bt t a = 73
    · rw [if_pos c2]; unfold oneAt; rw [if_pos ⟨c, c2⟩]
    · rw [if_neg c2]
      have e := spec_type_one t hn k (by omega) a h0 c c2
      by_cases c3 : bt t a = 91
      · rw [if_pos c3]; exact e
      · rw [if_neg c3]; exact e
  · rw [if_pos (by omega)]; unfold oneAt; rw [if_neg (by omega), if_neg (by omega)]
theorem spec_type (t : ByteArray) (hn : t.size ≤ 140737488351232) (k : Nat) (hk : 24 < k) (a : Int) (h0 : 0 ≤ a) (h1 : a ≤ (t.size : Int)) :
    spec_l02Type.f k t a false = some (tyAt t a) := by
  obtain ⟨k, rfl⟩ : ∃ m, k = m + 1 := ⟨k - 1, by omega⟩
  simp only [spec_l02Type.f]
  unfold tyAt
  by_cases c : a < (t.size : Int)
  · rw [if_neg (by omega), if_pos h0, if_pos c, step64 h0 c hn]
    by_cases c2 : bt t a = 73
    · rw [if_pos c2, if_neg (by omega)]; unfold oneAt; rw [if_pos ⟨c, c2⟩]
    · rw [if_neg c2]
      by_cases c3 : bt t a = 91
      · rw [if_pos c3, if_pos ⟨c, c3⟩]
        obtain ⟨k, rfl⟩ : ∃ m, k = m + 1 := ⟨k - 1, by omega⟩
        simp only [spec_l02Type.j0]
        rw [if_pos (by simp), step64 h0 c hn, spec_type_list t hn k (by omega) (a + 1) (by omega) (by omega)]
        rfl
      · rw [if_neg c3, if_neg (fun h => c3 h.2)]
        exact spec_type_one t hn k (by omega) a h0 c c2
  · rw [if_pos (by omega), if_neg (by omega)]; unfold oneAt; rw [if_neg (by omega), if_neg (by omega)]
/-- The reader's kind behind its '['. -/
theorem kind_tail (t : ByteArray) (hn : t.size ≤ 140737488351232) (k : Nat) (hk : 21 < k) (s a : Int) (hs : 0 ≤ s) (hsa : s ≤ a) (h1 : a ≤ (t.size : Int)) :
    ((impl_reader_take.f t a false 73).bind fun (x : Bool × ByteArray × Int × Bool) => (if x.1 = true then (if x.2.2.2 = true then (some ((⟨#[]⟩ : ByteArray), x.2.1, x.2.2.1, x.2.2.2)) else (if 0 ≤ s then (if s ≤ x.2.2.1 then (if x.2.2.1 ≤ (x.2.1.size : Int) then (some (x.2.1.extract (s : Int).toNat (x.2.2.1 : Int).toNat, x.2.1, x.2.2.1, x.2.2.2)) else (none)) else (none)) else (none))) else ((impl_reader_take.f x.2.1 x.2.2.1 x.2.2.2 76).bind fun y => (if y.1 = true then ((impl_reader_name.f k y.2.1 y.2.2.1 y.2.2.2).bind fun z => (if z.2.2 = true then (some ((⟨#[]⟩ : ByteArray), z.1, z.2.1, z.2.2)) else (if 0 ≤ s then (if s ≤ z.2.1 then (if z.2.1 ≤ (z.1.size : Int) then (some (z.1.extract (s : Int).toNat (z.2.1 : Int).toNat, z.1, z.2.1, z.2.2)) else (none)) else (none)) else (none)))) else (some ((⟨#[]⟩ : ByteArray), y.2.1, y.2.2.1, true))))))
      = some ((if (oneAt t a).2 = true then t.extract s.toNat (oneAt t a).1.toNat else ⟨#[]⟩), t, (oneAt t a).1, !(oneAt t a).2) := by
  have h0 : 0 ≤ a := by omega
  rw [take_ok t hn a 73 h0]
  by_cases c1 : a < (t.size : Int) ∧ bt t a = 73
  · have e : oneAt t a = (a + 1, true) := by unfold oneAt; rw [if_pos c1]
    rw [if_pos c1, e]
    simp only [Option.bind_some]
    rw [if_pos trivial, if_neg (by simp), if_pos hs, if_pos (by omega), if_pos (by omega)]
    rfl
  · rw [if_neg c1]
    simp only [Option.bind_some]
    rw [if_neg (by simp), take_ok t hn a 76 h0]
    by_cases c2 : a < (t.size : Int) ∧ bt t a = 76
    · have e : oneAt t a = nameAt t (a + 1) := by unfold oneAt; rw [if_neg c1, if_pos c2]
      rw [if_pos c2, e]
      simp only [Option.bind_some]
      have hg := nend_ge t (a + 1) 20 (a + 1) (by omega)
      rw [if_pos trivial, impl_reader_name.f, name_run t hn (a + 1) (by omega) 20 k (a + 1) (by omega) (by omega) (by omega) (by omega)]
      unfold nameAt
      by_cases c3 : nend 20 t (a + 1) (a + 1) < (t.size : Int) ∧ bt t (nend 20 t (a + 1) (a + 1)) = 59 ∧ nend 20 t (a + 1) (a + 1) ≠ a + 1
      · rw [if_pos c3, if_pos c3]
        simp only [Option.bind_some]
        rw [if_neg (by simp), if_pos hs, if_pos (by omega), if_pos (by omega)]
        rfl
      · rw [if_neg c3, if_neg c3]
        rfl
    · have e : oneAt t a = (a, false) := by unfold oneAt; rw [if_neg c1, if_neg c2]
      rw [if_neg c2, e]
      rfl
theorem impl_kind (t : ByteArray) (hn : t.size ≤ 140737488351232) (k : Nat) (hk : 21 < k) (a : Int) (h0 : 0 ≤ a) (h1 : a ≤ (t.size : Int)) :
    impl_reader_kind.f k t a false = some ((if (tyAt t a).2 = true then t.extract a.toNat (tyAt t a).1.toNat else ⟨#[]⟩), t, (tyAt t a).1, !(tyAt t a).2) := by
  unfold impl_reader_kind.f
  rw [take_ok t hn a 91 h0]
  unfold tyAt
  by_cases c : a < (t.size : Int) ∧ bt t a = 91
  · rw [if_pos c, if_pos c]
    exact kind_tail t hn k hk a (a + 1) h0 (by omega) (by omega)
  · rw [if_neg c, if_neg c]
    exact kind_tail t hn k hk a a h0 (by omega) (by omega)

theorem bt_ext (s t : ByteArray) (h : s.size = t.size) (hb : ∀ i : Nat, i < s.size → bt s i = bt t i) : s = t := by
  apply ByteArray.ext
  apply Array.ext
  · exact h
  · intro i h1 h2
    have e := hb i h1
    have a := bt_at s i (by simpa using h1)
    have b := bt_at t i (by simpa using h2)
    rw [← a, ← b] at e
    exact UInt8.toNat_inj.mp (by exact_mod_cast e)
theorem str_one (s : ByteArray) (c : UInt8) : s.toList = [c] ↔ s.size = 1 ∧ bt s 0 = (c.toNat : Int) := by
  constructor
  · intro h
    have e : s = ⟨#[c]⟩ := WideShapes.bytes_inj (by rw [← Lib.toList_data]; exact h)
    subst e
    exact ⟨rfl, rfl⟩
  · intro h
    have e : s = ⟨#[c]⟩ := by
      refine bt_ext _ _ h.1 (fun i hi => ?_)
      obtain rfl : i = 0 := by omega
      exact h.2
    subst e
    rw [Lib.toList_data]
theorem str_two (s : ByteArray) (c d : UInt8) : s.toList = [c, d] ↔ s.size = 2 ∧ bt s 0 = (c.toNat : Int) ∧ bt s 1 = (d.toNat : Int) := by
  constructor
  · intro h
    have e : s = ⟨#[c, d]⟩ := WideShapes.bytes_inj (by rw [← Lib.toList_data]; exact h)
    subst e
    exact ⟨rfl, rfl, rfl⟩
  · intro h
    have e : s = ⟨#[c, d]⟩ := by
      refine bt_ext _ _ h.1 (fun i hi => ?_)
      rcases (by omega : i = 0 ∨ i = 1) with rfl | rfl
      · exact h.2.1
      · exact h.2.2
    subst e
    rw [Lib.toList_data]
theorem str_nil (s : ByteArray) : s.toList = [] ↔ s.size = 0 := by
  constructor
  · intro h
    have e : s = ⟨#[]⟩ := WideShapes.bytes_inj (by rw [← Lib.toList_data]; exact h)
    subst e
    rfl
  · intro h
    have e : s = ⟨#[]⟩ := bt_ext _ _ h (fun i hi => by omega)
    subst e
    rw [Lib.toList_data]
theorem bt_cut (s : ByteArray) (a b : Nat) (i : Int) (h0 : 0 ≤ i) (h : a + i.toNat < b) (hb : b ≤ s.size) : bt (s.extract a b) i = bt s (a + i) := by
  have h1 : i.toNat < (s.extract a b).size := by rw [ByteArray.size_extract]; omega
  have h2 : ((a : Int) + i).toNat < s.size := by omega
  have e : ((a : Int) + i).toNat = a + i.toNat := by omega
  unfold bt
  rw [dif_pos h1, dif_pos h2]
  congr 2
  rw [ByteArray.getElem_extract]
  congr 1
  exact e.symm

theorem is_text (s : ByteArray) : impl_isText.f 2 [s] = some (decide (s.size ≤ 20000)) := by
  by_cases h : s.size ≤ 20000
  · simp [impl_isText.f, impl_isText.l0, rdOf, wrap64, h]
    omega
  · simp [impl_isText.f, impl_isText.l0, rdOf, wrap64, h]
    omega
theorem i64_bounds {a : Int} (ha : (Lit.int .i64 a).wf = true) : -9223372036854775808 ≤ a ∧ a ≤ 9223372036854775807 := by
  have e1 : IntKind.i64.min = -9223372036854775808 := by decide
  have e2 : IntKind.i64.max = 9223372036854775807 := by decide
  simp only [Lit.wf, e1, e2, Bool.and_eq_true, decide_eq_true_eq] at ha
  exact ha
theorem is_text_at (s : ByteArray) (k : Nat) (hk : 2 ≤ k) : impl_isText.f k [s] = some (decide (s.size ≤ 20000)) := by
  obtain ⟨d, rfl⟩ : ∃ d, k = 2 + d := ⟨k - 2, by omega⟩
  induction d with
  | zero => exact is_text s
  | succ d ih => exact impl_isText.mono [s] (2 + d) _ (ih (by omega))

theorem one_shape (s : ByteArray) (a : Int) (h : oneAt s a = ((s.size : Int), true)) :
    (a + 1 = (s.size : Int) ∧ bt s a = 73) ∨ (a + 3 ≤ (s.size : Int) ∧ bt s a = 76) := by
  unfold oneAt at h
  split at h
  · rename_i c
    have := (Prod.mk.inj h).1
    exact .inl ⟨this, c.2⟩
  · split at h
    · rename_i c
      have hg := nend_ge s (a + 1) 20 (a + 1) (by omega)
      unfold nameAt at h
      split at h
      · rename_i c2
        have := (Prod.mk.inj h).1
        exact .inr ⟨by omega, c.2⟩
      · exact absurd (Prod.mk.inj h).2 (by simp)
    · exact absurd (Prod.mk.inj h).2 (by simp)
/-- What a right type looks like. -/
theorem right_shape (s : ByteArray) (h : tyAt s 0 = ((s.size : Int), true)) :
    (s.size = 1 ∧ bt s 0 = 73) ∨ (3 ≤ s.size ∧ bt s 0 = 76) ∨ (s.size = 2 ∧ bt s 0 = 91 ∧ bt s 1 = 73) ∨ (4 ≤ s.size ∧ bt s 0 = 91 ∧ bt s 1 = 76) := by
  unfold tyAt at h
  split at h
  · rename_i c
    rcases one_shape s _ h with h | h
    · exact .inr (.inr (.inl ⟨by omega, c.2, h.2⟩))
    · exact .inr (.inr (.inr ⟨by omega, c.2, h.2⟩))
  · rcases one_shape s _ h with h | h
    · exact .inl ⟨by omega, h.2⟩
    · exact .inr (.inl ⟨by omega, h.2⟩)
def tright (s : ByteArray) : Bool := (tyAt s 0).2 && (tyAt s 0).1 == (s.size : Int)
theorem tright_eq (s : ByteArray) (h : tright s = true) : tyAt s 0 = ((s.size : Int), true) := by
  unfold tright at h
  rw [Bool.and_eq_true, beq_iff_eq] at h
  exact Prod.ext h.2 h.1
/-- The name in a type. -/
def tclass (s : ByteArray) : ByteArray :=
  if tright s = true then if bt s 0 = 73 then ⟨#[]⟩ else if bt s 0 = 76 then s.extract 1 (s.size - 1) else if bt s 1 = 73 then ⟨#[]⟩ else s.extract 2 (s.size - 1) else ⟨#[]⟩
theorem spec_right (s : ByteArray) (hn : s.size ≤ 20000) (k : Nat) (hk : 24 < k) : spec_TypeRight.f k s = some (tright s) := by
  unfold spec_TypeRight.f tright
  rw [if_neg (by omega), spec_type s (by omega) k hk 0 (by omega) (by omega)]
  simp only [Option.bind_some]
  cases (tyAt s 0).2 <;> simp
theorem impl_right (s : ByteArray) (hn : s.size ≤ 140737488351232) (k : Nat) (hk : 24 < k) : impl_typeRight.f k s = some (tright s) := by
  unfold impl_typeRight.f tright
  rw [impl_kind s hn k (by omega) 0 (by omega) (by omega)]
  simp only [Option.bind_some, impl_length.f]
  cases (tyAt s 0).2 <;> simp
theorem impl_class (s : ByteArray) (hn : s.size ≤ 140737488351232) (k : Nat) (hk : 24 < k) : impl_typeClass.f k s = some (tclass s) := by
  obtain ⟨k, rfl⟩ : ∃ m, k = m + 1 := ⟨k - 1, by omega⟩
  unfold impl_typeClass.f tclass
  rw [impl_right s hn (k + 1) hk]
  simp only [Option.bind_some, str_one, str_two]
  by_cases c : tright s = true
  · rw [if_pos c]
    have hs := right_shape s (tright_eq s c)
    by_cases c1 : bt s 0 = 73
    · rw [if_pos c1, if_pos ⟨by omega, c1⟩]
      simp only [impl_typeClass.j0]; rw [if_pos trivial]
    · rw [if_neg c1, if_neg (fun h => c1 h.2)]
      by_cases c2 : bt s 0 = 76
      · rw [if_pos c2, if_neg (fun h => by have := h.2.1; simp at this; omega), c]
        have w1 : wrap64 ((s.size : Int) - 1) = (s.size : Int) - 1 := by unfold wrap64; omega
        have w2 : ((s.size : Int) - 1).toNat = s.size - 1 := by omega
        simp only [impl_typeClass.j0, w1]
        rw [if_neg (by simp), if_pos (by omega), if_neg (by omega), if_pos (by omega), if_pos (by omega), w2]
      · rw [if_neg c2]
        by_cases c3 : bt s 1 = 73
        · rw [if_pos c3, if_pos ⟨by omega, by simp; omega, c3⟩]
          simp only [impl_typeClass.j0]; rw [if_pos trivial]
        · rw [if_neg c3, if_neg (fun h => c3 h.2.2), c]
          have w1 : wrap64 ((s.size : Int) - 1) = (s.size : Int) - 1 := by unfold wrap64; omega
          have w2 : ((s.size : Int) - 1).toNat = s.size - 1 := by omega
          simp only [impl_typeClass.j0, w1]
          rw [if_neg (by simp), if_pos (by omega), if_pos (by omega), if_pos (by omega), if_pos (by omega), w2]
  · have c' : tright s = false := by simpa using c
    rw [if_neg c, c']
    simp only [impl_typeClass.j0]
    split
    · rw [if_pos trivial]
    · split
      · rw [if_pos trivial]
      · rw [if_pos (by simp)]
theorem spec_class (s : ByteArray) (hn : s.size ≤ 20000) (k : Nat) (hk : 24 < k) : spec_TypeClass.f k s = some (tclass s) := by
  obtain ⟨k, rfl⟩ : ∃ m, k = m + 1 := ⟨k - 1, by omega⟩
  unfold spec_TypeClass.f tclass
  rw [if_neg (by omega), spec_right s hn (k + 1) hk]
  simp only [Option.bind_some, spec_TypeClass.j0]
  by_cases c : tright s = true
  · rw [c, if_neg (by simp), if_pos rfl]
    have hs := right_shape s (tright_eq s c)
    rw [if_pos (by omega)]
    by_cases c0 : bt s 0 = 91
    · have e1 : (s.extract 1 s.size).size = s.size - 1 := by rw [ByteArray.size_extract]; omega
      have e2 : bt (s.extract 1 s.size) 0 = bt s 1 := bt_cut s 1 s.size 0 (by omega) (by omega) (by omega)
      have er : (if bt s 0 = 73 then (⟨#[]⟩ : ByteArray) else if bt s 0 = 76 then s.extract 1 (s.size - 1) else if bt s 1 = 73 then ⟨#[]⟩ else s.extract 2 (s.size - 1)) = if bt s 1 = 73 then ⟨#[]⟩ else s.extract 2 (s.size - 1) := by
        rw [if_neg (by omega), if_neg (by omega)]
      rw [er, if_pos c0, if_pos (by omega), e1, if_pos (by omega), e2]
      by_cases c1 : bt s 1 = 73
      · rw [if_pos c1, if_pos c1]
      · have w1 : wrap64 (((s.size - 1 : Nat) : Int) - 1) = ((s.size - 2 : Nat) : Int) := by unfold wrap64; omega
        rw [if_neg c1, if_neg c1, w1, if_pos (by omega), if_pos (by omega)]
        have e3 : (s.extract 1 s.size).extract 1 ((s.size - 2 : Nat) : Int).toNat = s.extract 2 (s.size - 1) := by
          rw [ByteArray.extract_extract, Int.toNat_natCast]
          congr 1
          omega
        rw [e3]
    · rw [if_neg c0]
      by_cases c1 : bt s 0 = 73
      · rw [if_pos c1, if_pos c1]
      · rw [if_neg c1, if_neg c1, if_pos (by omega : bt s 0 = 76)]
        have w1 : wrap64 ((s.size : Int) - 1) = (s.size : Int) - 1 := by unfold wrap64; omega
        have w2 : ((s.size : Int) - 1).toNat = s.size - 1 := by omega
        rw [w1, if_pos (by omega), if_pos (by omega), w2]
  · have c' : tright s = false := by simpa using c
    rw [c', if_pos (by simp), if_neg (by simp)]

theorem has_list (s : ByteArray) (h : 1 ≤ s.size) : strings_HasPrefix.f s ⟨#[91]⟩ = some (decide (bt s 0 = 91)) := by
  unfold strings_HasPrefix.f stringslite_HasPrefix.f
  have e1 : (((⟨#[91]⟩ : ByteArray).size : Nat) : Int) = 1 := rfl
  rw [e1, if_pos (by omega), if_pos (by omega), if_pos (by omega)]
  simp only [Option.bind_some]
  have e2 : ((s.extract 0 (1 : Int).toNat).toList == (⟨#[91]⟩ : ByteArray).toList) = decide (bt s 0 = 91) := by
    have e3 : (⟨#[91]⟩ : ByteArray).toList = [91] := by rw [Lib.toList_data]
    rw [e3, Bool.eq_iff_iff, beq_iff_eq, str_one, decide_eq_true_eq, ByteArray.size_extract, bt_cut s 0 (1 : Int).toNat 0 (by omega) (by decide) (by simpa using h)]
    simp
    omega
  rw [e2]
theorem tclass_nil (s : ByteArray) (h : tright s = true) : (tclass s).toList = [] ↔ bt s 0 = 73 ∨ (bt s 0 ≠ 76 ∧ bt s 1 = 73) := by
  have hs := right_shape s (tright_eq s h)
  have e0 : (⟨#[]⟩ : ByteArray).size = 0 := rfl
  rw [str_nil]
  unfold tclass
  rw [if_pos h]
  by_cases c1 : bt s 0 = 73
  · rw [if_pos c1]; omega
  · rw [if_neg c1]
    by_cases c2 : bt s 0 = 76
    · rw [if_pos c2, ByteArray.size_extract]; omega
    · rw [if_neg c2]
      by_cases c3 : bt s 1 = 73
      · rw [if_pos c3]; omega
      · rw [if_neg c3, ByteArray.size_extract]; omega
theorem tright_one (s : ByteArray) (h : s.size = 1 ∧ bt s 0 = 73) : tright s = true := by
  have e1 : oneAt s 0 = (1, true) := by unfold oneAt; rw [if_pos ⟨by omega, h.2⟩]; rfl
  unfold tright tyAt
  rw [if_neg (by omega), e1, h.1]
  rfl
theorem tright_two (s : ByteArray) (h : s.size = 2 ∧ bt s 0 = 91 ∧ bt s 1 = 73) : tright s = true := by
  have e1 : oneAt s (0 + 1) = (2, true) := by unfold oneAt; rw [if_pos ⟨by omega, h.2.2⟩]; rfl
  unfold tright tyAt
  rw [if_pos ⟨by omega, h.2.1⟩, e1, h.1]
  rfl
/-- The type of a type as text. -/
def tfrom (s : ByteArray) : Int × ByteArray × Int :=
  if tright s = true then (if bt s 0 = 73 then (1, ⟨#[]⟩, 0) else if bt s 0 ≠ 76 ∧ bt s 1 = 73 then (4, ⟨#[]⟩, 0) else if bt s 0 = 91 then (5, tclass s, 0) else (3, tclass s, 0)) else (0, ⟨#[]⟩, 0)
theorem impl_from (s : ByteArray) (hn : s.size ≤ 140737488351232) (k : Nat) (hk : 24 < k) : impl_typeFrom.f k s = some (tfrom s) := by
  unfold impl_typeFrom.f
  rw [impl_right s hn k hk, impl_class s hn k hk]
  simp only [Option.bind_some, str_one, str_two, impl_plain.f, impl_ref.f]
  have u1 : (UInt8.toNat 73 : Int) = 73 := rfl
  have u2 : (UInt8.toNat 91 : Int) = 91 := rfl
  simp only [u1, u2]
  by_cases r : tright s = true
  · have hs := right_shape s (tright_eq s r)
    rw [if_pos r]
    by_cases c1 : bt s 0 = 73
    · have e : tfrom s = (1, ⟨#[]⟩, 0) := by unfold tfrom; rw [if_pos r, if_pos c1]
      rw [e, if_pos (by omega)]
    · by_cases c3 : bt s 0 ≠ 76 ∧ bt s 1 = 73
      · have e : tfrom s = (4, ⟨#[]⟩, 0) := by unfold tfrom; rw [if_pos r, if_neg c1, if_pos c3]
        rw [e, if_neg (by omega), if_pos (by omega)]
      · rw [if_neg (by omega), if_neg (by omega), has_list s (by omega)]
        simp only [Option.bind_some]
        by_cases c4 : bt s 0 = 91
        · have e : tfrom s = (5, tclass s, 0) := by unfold tfrom; rw [if_pos r, if_neg c1, if_neg c3, if_pos c4]
          rw [e, decide_eq_true c4, if_pos rfl]
        · have e : tfrom s = (3, tclass s, 0) := by unfold tfrom; rw [if_pos r, if_neg c1, if_neg c3, if_neg c4]
          rw [e, decide_eq_false c4, if_neg (by simp)]
  · have e : tfrom s = (0, ⟨#[]⟩, 0) := by unfold tfrom; rw [if_neg r]
    rw [if_neg r, e]
theorem spec_from (s : ByteArray) (hn : s.size ≤ 20000) (k : Nat) (hk : 24 < k) : spec_l06From.f k s = some (tfrom s) := by
  obtain ⟨k, rfl⟩ : ∃ m, k = m + 1 := ⟨k - 1, by omega⟩
  unfold spec_l06From.f
  rw [spec_class s hn (k + 1) hk]
  simp only [Option.bind_some, str_one, str_two]
  have u1 : (UInt8.toNat 73 : Int) = 73 := rfl
  have u2 : (UInt8.toNat 91 : Int) = 91 := rfl
  simp only [u1, u2]
  by_cases r : tright s = true
  · have hs := right_shape s (tright_eq s r)
    have hc := tclass_nil s r
    by_cases c1 : bt s 0 = 73
    · have e : tfrom s = (1, ⟨#[]⟩, 0) := by unfold tfrom; rw [if_pos r, if_pos c1]
      rw [e, if_pos (by omega)]
    · by_cases c3 : bt s 0 ≠ 76 ∧ bt s 1 = 73
      · have e : tfrom s = (4, ⟨#[]⟩, 0) := by unfold tfrom; rw [if_pos r, if_neg c1, if_pos c3]
        rw [e, if_neg (by omega), if_pos (by omega)]
      · have hne : ¬ (tclass s).toList = [] := fun h => by
          rcases hc.mp h with h | h
          · exact c1 h
          · exact c3 h
        rw [if_neg (by omega), if_neg (by omega), if_neg hne, if_pos (by omega)]
        simp only [spec_l06From.j0]
        by_cases c4 : bt s 0 = 91
        · have e : tfrom s = (5, tclass s, 0) := by unfold tfrom; rw [if_pos r, if_neg c1, if_neg c3, if_pos c4]
          rw [e, if_pos (by simpa using c4)]
        · have e : tfrom s = (3, tclass s, 0) := by unfold tfrom; rw [if_pos r, if_neg c1, if_neg c3, if_neg c4]
          rw [e, if_neg (by simpa using c4), if_neg hne]
  · have e : tfrom s = (0, ⟨#[]⟩, 0) := by unfold tfrom; rw [if_neg r]
    have e2 : tclass s = ⟨#[]⟩ := by unfold tclass; rw [if_neg r]
    have en : (⟨#[]⟩ : ByteArray).toList = [] := by simp
    rw [e, if_neg (fun h => r (tright_one s h)), if_neg (fun h => r (tright_two s h)), e2, if_pos en]
    simp only [spec_l06From.j0]
    rw [if_neg (by simp), if_pos en]

theorem FnExactTypeFrom : laws_FnExactTypeFrom.Pure := by
  intro s hn
  refine ⟨30, ?_⟩
  unfold laws_FnExactTypeFrom.f
  by_cases hbig : (s.size : Int) > 1048576
  · rw [if_pos hbig]
  rw [if_neg hbig]
  have key : ∃ r, spec_TypeFrom.f 30 s = some r ∧ impl_TypeFrom.f 30 s = some r := by
    unfold impl_TypeFrom.f spec_TypeFrom.f
    rw [is_text_at s 30 (by omega)]
    by_cases c : s.size ≤ 20000
    · rw [if_neg (by omega), decide_eq_true c]
      simp only [Option.bind_some]
      rw [if_pos trivial, spec_from s c 30 (by omega), impl_from s hn 30 (by omega)]
      exact ⟨_, rfl, rfl⟩
    · rw [if_pos (by omega), decide_eq_false c]
      exact ⟨_, rfl, rfl⟩
  obtain ⟨r, e1, e2⟩ := key
  rw [e1, e2]
  simp only [Option.bind_some, laws_eqType.f]
  rw [if_pos trivial, if_pos trivial, if_pos trivial]
  rfl

end Go.Proofs.Ytjmochmnioegoaa.Pure
