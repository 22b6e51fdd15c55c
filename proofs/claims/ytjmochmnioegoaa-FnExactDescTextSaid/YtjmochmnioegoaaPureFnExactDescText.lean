/- The program's DescText returns what the reference's returns, for every Desc whose texts and list the model can hold. -/
import Derived.Test.YtjmochmnioegoaaPFnExactDescTextx4
namespace Go.Proofs.Ytjmochmnioegoaa.Pure
open Go.RowKit Go.Proofs.Ytjmochmnioegoaa.PFnExactDescText Go.Proofs.YtjmochmnioegoaaW.PrintWords Go.Proofs.YtjmochmnioegoaaW.PrintLast
set_option linter.unusedVariables false
set_option linter.unusedSimpArgs false

theorem step64 {i : Int} {n : Nat} (h0 : 0 ≤ i) (h : i < (n : Int)) (hn : n ≤ 140737488351232) : wrap64 (i + 1) = i + 1 := by
  unfold wrap64
  omega

theorem name_byte_nat : ∀ c : Nat, c < 256 → impl_isNameByte.f (c : Int) 0 = spec_l01NameByte.f (c : Int) true ∧ impl_isNameByte.f (c : Int) 1 = spec_l01NameByte.f (c : Int) false := by decide +kernel
theorem name_byte_some (c : Int) (b : Bool) : ∃ r, spec_l01NameByte.f c b = some r := by
  unfold spec_l01NameByte.f
  repeat' split
  all_goals exact ⟨_, rfl⟩
theorem name_byte (c i : Int) (h0 : 0 ≤ c) (h1 : c ≤ 255) (hi : 0 ≤ i) : impl_isNameByte.f c i = spec_l01NameByte.f c (i == 0) := by
  obtain ⟨n, rfl⟩ := Int.eq_ofNat_of_zero_le h0
  have h := name_byte_nat n (by omega)
  by_cases e : i = 0
  · subst e; simpa using h.1
  · have e1 : (i == 0) = false := by simpa using e
    rw [e1, ← h.2]
    unfold impl_isNameByte.f
    have e2 : decide (i > 0) = decide ((1 : Int) > 0) := by simp; omega
    rw [e2]

/-- The place behind the name's bytes that stand from a place on, `n` at the most. -/
def nend : Nat → ByteArray → Int → Int → Int
  | 0, _, _, i => i
  | n + 1, t, f, i => if i < (t.size : Int) ∧ spec_l01NameByte.f (bt t i) (i == f) = some true then nend n t f (i + 1) else i
def nameAt (t : ByteArray) (f : Int) : Int × Bool :=
  if nend 20 t f f < (t.size : Int) ∧ bt t (nend 20 t f f) = 59 ∧ nend 20 t f f ≠ f then (nend 20 t f f + 1, true) else (nend 20 t f f, false)
def oneAt (t : ByteArray) (a : Int) : Int × Bool :=
  if a < (t.size : Int) ∧ bt t a = 73 then (a + 1, true) else if a < (t.size : Int) ∧ bt t a = 76 then nameAt t (a + 1) else (a, false)
/-- A type that is read at a place: the place behind it, or the first that is wrong. -/
def tyAt (t : ByteArray) (a : Int) : Int × Bool := if a < (t.size : Int) ∧ bt t a = 91 then oneAt t (a + 1) else oneAt t a
theorem nend_ge (t : ByteArray) (f : Int) : ∀ (n : Nat) (i : Int), i ≤ (t.size : Int) → i ≤ nend n t f i ∧ nend n t f i ≤ (t.size : Int)
  | 0, i, h => ⟨Int.le_refl _, h⟩
  | n + 1, i, h => by
    unfold nend
    by_cases c : i < (t.size : Int) ∧ spec_l01NameByte.f (bt t i) (i == f) = some true
    · rw [if_pos c]
      have := nend_ge t f n (i + 1) (by omega)
      omega
    · rw [if_neg c]
      omega
theorem nameAt_ge (t : ByteArray) (f : Int) (h : f ≤ (t.size : Int)) : f ≤ (nameAt t f).1 ∧ (nameAt t f).1 ≤ (t.size : Int) := by
  have := nend_ge t f 20 f h
  unfold nameAt
  split
  · dsimp only; omega
  · dsimp only; omega
theorem oneAt_ge (t : ByteArray) (a : Int) (h : a ≤ (t.size : Int)) : a ≤ (oneAt t a).1 ∧ (oneAt t a).1 ≤ (t.size : Int) ∧ ((oneAt t a).2 = true → a < (oneAt t a).1) := by
  unfold oneAt
  split
  · dsimp only; omega
  · split
    · have := nameAt_ge t (a + 1) (by omega)
      exact ⟨by omega, this.2, fun _ => by omega⟩
    · simpa using h
theorem tyAt_ge (t : ByteArray) (a : Int) (h : a ≤ (t.size : Int)) : a ≤ (tyAt t a).1 ∧ (tyAt t a).1 ≤ (t.size : Int) ∧ ((tyAt t a).2 = true → a < (tyAt t a).1) := by
  unfold tyAt
  split
  · have := oneAt_ge t (a + 1) (by omega)
    exact ⟨by omega, this.2.1, fun _ => by omega⟩
  · exact oneAt_ge t a h
theorem spec_name_run (t : ByteArray) (hn : t.size ≤ 140737488351232) (f : Int) (hf : 0 ≤ f) : ∀ (n k : Nat) (i : Int), f ≤ i → i - f = 20 - (n : Int) → i ≤ (t.size : Int) → n < k →
    spec_l02Type.l0 k t f i = some (if nend n t f i < (t.size : Int) ∧ bt t (nend n t f i) = 59 ∧ nend n t f i ≠ f then (nend n t f i + 1, true) else (nend n t f i, false)) := by
  intro n
  induction n with
  | zero =>
    intro k i h0 h1 h2 hk
    obtain ⟨k, rfl⟩ : ∃ m, k = m + 1 := ⟨k - 1, by omega⟩
    have w1 : wrap64 (i - f) = i - f := by unfold wrap64; omega
    rw [show nend 0 t f i = i from rfl]
    simp only [spec_l02Type.l0, w1]
    by_cases c1 : i < (t.size : Int)
    · rw [if_pos c1, if_neg (by omega), if_neg (by omega), if_pos (by omega), step64 (by omega) c1 hn]
      by_cases c2 : bt t i = 59
      · by_cases c3 : i = f
        · rw [if_pos c2, if_pos c3, if_neg (by omega)]
        · rw [if_pos c2, if_neg c3, if_pos ⟨c1, c2, c3⟩]
      · rw [if_neg c2, if_neg (by omega)]
    · rw [if_neg c1, if_pos (by omega), if_neg (by omega)]
  | succ n ih =>
    intro k i h0 h1 h2 hk
    obtain ⟨k, rfl⟩ : ∃ m, k = m + 1 := ⟨k - 1, by omega⟩
    have w1 : wrap64 (i - f) = i - f := by unfold wrap64; omega
    obtain ⟨b, hb⟩ := name_byte_some (bt t i) (i == f)
    by_cases c1 : i < (t.size : Int)
    · simp only [spec_l02Type.l0, w1]
      rw [if_pos c1, if_pos (by omega), if_pos (by omega), hb, step64 (by omega) c1 hn]
      cases b with
      | true =>
        have e : nend (n + 1) t f i = nend n t f (i + 1) := by
          rw [nend, if_pos ⟨c1, hb⟩]
        rw [e]
        simpa using ih k (i + 1) (by omega) (by omega) (by omega) (by omega)
      | false =>
        have e : nend (n + 1) t f i = i := by
          rw [nend, hb]; simp
        rw [e]
        simp only [Option.bind_some]
        rw [if_neg (by simp), if_neg (by omega)]
        by_cases c2 : bt t i = 59
        · by_cases c3 : i = f
          · rw [if_pos c2, if_pos c3, if_neg (by omega)]
          · rw [if_pos c2, if_neg c3, if_pos ⟨c1, c2, c3⟩]
        · rw [if_neg c2, if_neg (by omega)]
    · have e : nend (n + 1) t f i = i := by
        rw [nend, if_neg (by omega)]
      rw [e]
      simp only [spec_l02Type.l0]
      rw [if_neg c1, if_pos (by omega), if_neg (by omega)]
theorem want_bad (t : ByteArray) (i : Int) (b : Int) : impl_reader_want.f t i true b = some (t, i, true) := by
  simp [impl_reader_want.f, impl_reader_take.f, impl_reader_is.f]
theorem take_bad (t : ByteArray) (i : Int) (b : Int) : impl_reader_take.f t i true b = some (false, t, i, true) := by
  simp [impl_reader_take.f, impl_reader_is.f]
theorem take_ok (t : ByteArray) (hn : t.size ≤ 140737488351232) (i b : Int) (h0 : 0 ≤ i) :
    impl_reader_take.f t i false b = some (if i < (t.size : Int) ∧ bt t i = b then (true, t, i + 1, false) else (false, t, i, false)) := by
  unfold impl_reader_take.f impl_reader_is.f
  simp only [impl_length.f, Option.bind_some]
  rw [if_neg (by simp)]
  by_cases c : i < (t.size : Int)
  · rw [if_pos c, if_pos h0, if_pos c]
    simp only [Option.bind_some]
    by_cases c2 : bt t i = b
    · rw [if_pos (by simpa using c2), if_pos ⟨c, c2⟩, step64 h0 c hn]
    · rw [if_neg (by simpa using c2), if_neg (fun h => c2 h.2)]
  · rw [if_neg c, if_neg (by omega)]
    rfl
theorem want_ok (t : ByteArray) (hn : t.size ≤ 140737488351232) (i b : Int) (h0 : 0 ≤ i) :
    impl_reader_want.f t i false b = some (if i < (t.size : Int) ∧ bt t i = b then (t, i + 1, false) else (t, i, true)) := by
  unfold impl_reader_want.f
  rw [take_ok t hn i b h0]
  by_cases c : i < (t.size : Int) ∧ bt t i = b
  · rw [if_pos c, if_pos c]; rfl
  · rw [if_neg c, if_neg c]; rfl
theorem name_run (t : ByteArray) (hn : t.size ≤ 140737488351232) (f : Int) (hf : 0 ≤ f) : ∀ (n k : Nat) (i : Int), f ≤ i → i - f = 20 - (n : Int) → i ≤ (t.size : Int) → n < k →
    impl_reader_name.l0 k f t i false = some (if nend n t f i < (t.size : Int) ∧ bt t (nend n t f i) = 59 ∧ nend n t f i ≠ f then (t, nend n t f i + 1, false) else (t, nend n t f i, true)) := by
  have w2 : f ≤ (t.size : Int) → wrap64 (f + 20) = f + 20 := fun _ => by unfold wrap64; omega
  intro n
  induction n with
  | zero =>
    intro k i h0 h1 h2 hk
    obtain ⟨k, rfl⟩ : ∃ m, k = m + 1 := ⟨k - 1, by omega⟩
    rw [show nend 0 t f i = i from rfl]
    simp only [impl_reader_name.l0, impl_length.f, Option.bind_some, w2 (by omega)]
    rw [if_neg (by simp)]
    by_cases c1 : i < (t.size : Int)
    · rw [if_pos c1, if_neg (by omega), if_neg (by omega), want_ok t hn i 59 (by omega)]
      by_cases c2 : bt t i = 59
      · rw [if_pos ⟨c1, c2⟩, if_pos ⟨c1, c2, by omega⟩]; rfl
      · rw [if_neg (fun h => c2 h.2), if_neg (fun h => c2 h.2.1)]; rfl
    · rw [if_neg c1, if_neg (by omega), want_ok t hn i 59 (by omega), if_neg (by omega), if_neg (by omega)]; rfl
  | succ n ih =>
    intro k i h0 h1 h2 hk
    obtain ⟨k, rfl⟩ : ∃ m, k = m + 1 := ⟨k - 1, by omega⟩
    have w1 : wrap64 (i - f) = i - f := by unfold wrap64; omega
    obtain ⟨b, hb⟩ := name_byte_some (bt t i) (i == f)
    have hr := bt_range t i
    have hbi := name_byte (bt t i) (i - f) hr.1 hr.2 (by omega)
    have e0 : (i - f == 0) = (i == f) := by
      by_cases c : i = f
      · subst c; simp
      · rw [beq_eq_false_iff_ne.mpr c, beq_eq_false_iff_ne.mpr (by omega)]
    rw [e0, hb] at hbi
    by_cases c1 : i < (t.size : Int)
    · simp only [impl_reader_name.l0, impl_length.f, Option.bind_some, w2 (by omega), w1]
      rw [if_neg (by simp), if_pos c1, if_pos (by omega), if_pos (by omega), if_pos c1, hbi, step64 (by omega) c1 hn]
      cases b with
      | true =>
        have e : nend (n + 1) t f i = nend n t f (i + 1) := by
          rw [nend, if_pos ⟨c1, hb⟩]
        rw [e]
        simpa using ih k (i + 1) (by omega) (by omega) (by omega) (by omega)
      | false =>
        have e : nend (n + 1) t f i = i := by
          rw [nend, hb]; simp
        rw [e]
        simp only [Option.bind_some]
        rw [if_neg (by simp)]
        by_cases c3 : i = f
        · rw [if_pos c3, want_bad, if_neg (by omega)]; rfl
        · rw [if_neg c3, want_ok t hn i 59 (by omega)]
          by_cases c2 : bt t i = 59
          · rw [if_pos ⟨c1, c2⟩, if_pos ⟨c1, c2, c3⟩]; rfl
          · rw [if_neg (fun h => c2 h.2), if_neg (fun h => c2 h.2.1)]; rfl
    · have e : nend (n + 1) t f i = i := by
        rw [nend, if_neg (by omega)]
      rw [e]
      simp only [impl_reader_name.l0, impl_length.f, Option.bind_some]
      rw [if_neg (by simp), if_neg c1]
      by_cases c3 : i = f
      · rw [if_pos c3, want_bad, if_neg (by omega)]; rfl
      · rw [if_neg c3, want_ok t hn i 59 (by omega), if_neg (by omega), if_neg (by omega)]; rfl
theorem spec_type_one (t : ByteArray) (hn : t.size ≤ 140737488351232) (k : Nat) (hk : 21 < k) (a : Int) (h0 : 0 ≤ a) (h1 : a < (t.size : Int)) (h2 : bt t a ≠ 73) :
    spec_l02Type.j0 k t a false = some (oneAt t a) := by
  obtain ⟨k, rfl⟩ : ∃ m, k = m + 1 := ⟨k - 1, by omega⟩
  simp only [spec_l02Type.j0]
  rw [if_neg (by simp), if_pos h0, if_pos h1, step64 h0 h1 hn]
  have e : oneAt t a = if a < (t.size : Int) ∧ bt t a = 76 then nameAt t (a + 1) else (a, false) := by
    unfold oneAt
    exact if_neg (fun h => h2 h.2)
  rw [e]
  by_cases c : bt t a = 76
  · rw [if_pos c, if_pos ⟨h1, c⟩]
    exact spec_name_run t hn (a + 1) (by omega) 20 k (a + 1) (by omega) (by omega) (by omega) (by omega)
  · rw [if_neg c, if_neg (fun h => c h.2)]
theorem spec_type_list (t : ByteArray) (hn : t.size ≤ 140737488351232) (k : Nat) (hk : 22 < k) (a : Int) (h0 : 0 ≤ a) (h1 : a ≤ (t.size : Int)) :
    spec_l02Type.f k t a true = some (oneAt t a) := by
  obtain ⟨k, rfl⟩ : ∃ m, k = m + 1 := ⟨k - 1, by omega⟩
  simp only [spec_l02Type.f]
  by_cases c : a < (t.size : Int)
  · rw [if_neg (by omega), if_pos h0, if_pos c, step64 h0 c hn]
    by_cases c2 : bt t a = 73
    · rw [if_pos c2]; unfold oneAt; rw [if_pos ⟨c, c2⟩]
    · rw [if_neg c2]
      have e := spec_type_one t hn k (by omega) a h0 c c2
      by_cases c3 : bt t a = 91
      · rw [if_pos c3]; exact e
      · rw [if_neg c3]; exact e
  · rw [if_pos (by omega)]; unfold oneAt; rw [if_neg (by omega), if_neg (by omega)]
theorem spec_type (t : ByteArray) (hn : t.size ≤ 140737488351232) (k : Nat) (hk : 24 < k) (a : Int) (h0 : 0 ≤ a) (h1 : a ≤ (t.size : Int)) :
    spec_l02Type.f k t a false = some (tyAt t a) := by
  obtain ⟨k, rfl⟩ : ∃ m, k = m + 1 := ⟨k - 1, by omega⟩
  simp only [spec_l02Type.f]
  unfold tyAt
  by_cases c : a < (t.size : Int)
  · rw [if_neg (by omega), if_pos h0, if_pos c, step64 h0 c hn]
    by_cases c2 : bt t a = 73
    · rw [if_pos c2, if_neg (by omega)]; unfold oneAt; rw [if_pos ⟨c, c2⟩]
    · rw [if_neg c2]
      by_cases c3 : bt t a = 91
      · rw [if_pos c3, if_pos ⟨c, c3⟩]
        obtain ⟨k, rfl⟩ : ∃ m, k = m + 1 := ⟨k - 1, by omega⟩
        simp only [spec_l02Type.j0]
        rw [if_pos (by simp), step64 h0 c hn, spec_type_list t hn k (by omega) (a + 1) (by omega) (by omega)]
        rfl
      · rw [if_neg c3, if_neg (fun h => c3 h.2)]
        exact spec_type_one t hn k (by omega) a h0 c c2
  · rw [if_pos (by omega), if_neg (by omega)]; unfold oneAt; rw [if_neg (by omega), if_neg (by omega)]
/-- The reader's kind behind its '['. -/
theorem kind_tail (t : ByteArray) (hn : t.size ≤ 140737488351232) (k : Nat) (hk : 21 < k) (s a : Int) (hs : 0 ≤ s) (hsa : s ≤ a) (h1 : a ≤ (t.size : Int)) :
    ((impl_reader_take.f t a false 73).bind fun (x : Bool × ByteArray × Int × Bool) => (if x.1 = true then (if x.2.2.2 = true then (some ((⟨#[]⟩ : ByteArray), x.2.1, x.2.2.1, x.2.2.2)) else (if 0 ≤ s then (if s ≤ x.2.2.1 then (if x.2.2.1 ≤ (x.2.1.size : Int) then (some (x.2.1.extract (s : Int).toNat (x.2.2.1 : Int).toNat, x.2.1, x.2.2.1, x.2.2.2)) else (none)) else (none)) else (none))) else ((impl_reader_take.f x.2.1 x.2.2.1 x.2.2.2 76).bind fun y => (if y.1 = true then ((impl_reader_name.f k y.2.1 y.2.2.1 y.2.2.2).bind fun z => (if z.2.2 = true then (some ((⟨#[]⟩ : ByteArray), z.1, z.2.1, z.2.2)) else (if 0 ≤ s then (if s ≤ z.2.1 then (if z.2.1 ≤ (z.1.size : Int) then (some (z.1.extract (s : Int).toNat (z.2.1 : Int).toNat, z.1, z.2.1, z.2.2)) else (none)) else (none)) else (none)))) else (some ((⟨#[]⟩ : ByteArray), y.2.1, y.2.2.1, true))))))
      = some ((if (oneAt t a).2 = true then t.extract s.toNat (oneAt t a).1.toNat else ⟨#[]⟩), t, (oneAt t a).1, !(oneAt t a).2) := by
  have h0 : 0 ≤ a := by omega
  rw [take_ok t hn a 73 h0]
  by_cases c1 : a < (t.size : Int) ∧ bt t a = 73
  · have e : oneAt t a = (a + 1, true) := by unfold oneAt; rw [if_pos c1]
    rw [if_pos c1, e]
    simp only [Option.bind_some]
    rw [if_pos trivial, if_neg (by simp), if_pos hs, if_pos (by omega), if_pos (by omega)]
    rfl
  · rw [if_neg c1]
    simp only [Option.bind_some]
    rw [if_neg (by simp), take_ok t hn a 76 h0]
    by_cases c2 : a < (t.size : Int) ∧ bt t a = 76
    · have e : oneAt t a = nameAt t (a + 1) := by unfold oneAt; rw [if_neg c1, if_pos c2]
      rw [if_pos c2, e]
      simp only [Option.bind_some]
      have hg := nend_ge t (a + 1) 20 (a + 1) (by omega)
      rw [if_pos trivial, impl_reader_name.f, name_run t hn (a + 1) (by omega) 20 k (a + 1) (by omega) (by omega) (by omega) (by omega)]
      unfold nameAt
      by_cases c3 : nend 20 t (a + 1) (a + 1) < (t.size : Int) ∧ bt t (nend 20 t (a + 1) (a + 1)) = 59 ∧ nend 20 t (a + 1) (a + 1) ≠ a + 1
      · rw [if_pos c3, if_pos c3]
        simp only [Option.bind_some]
        rw [if_neg (by simp), if_pos hs, if_pos (by omega), if_pos (by omega)]
        rfl
      · rw [if_neg c3, if_neg c3]
        rfl
    · have e : oneAt t a = (a, false) := by unfold oneAt; rw [if_neg c1, if_neg c2]
      rw [if_neg c2, e]
      rfl
theorem impl_kind (t : ByteArray) (hn : t.size ≤ 140737488351232) (k : Nat) (hk : 21 < k) (a : Int) (h0 : 0 ≤ a) (h1 : a ≤ (t.size : Int)) :
    impl_reader_kind.f k t a false = some ((if (tyAt t a).2 = true then t.extract a.toNat (tyAt t a).1.toNat else ⟨#[]⟩), t, (tyAt t a).1, !(tyAt t a).2) := by
  unfold impl_reader_kind.f
  rw [take_ok t hn a 91 h0]
  unfold tyAt
  by_cases c : a < (t.size : Int) ∧ bt t a = 91
  · rw [if_pos c, if_pos c]
    exact kind_tail t hn k hk a (a + 1) h0 (by omega) (by omega)
  · rw [if_neg c, if_neg c]
    exact kind_tail t hn k hk a a h0 (by omega) (by omega)

theorem bt_ext (s t : ByteArray) (h : s.size = t.size) (hb : ∀ i : Nat, i < s.size → bt s i = bt t i) : s = t := by
  apply ByteArray.ext
  apply Array.ext
  · exact h
  · intro i h1 h2
    have e := hb i h1
    have a := bt_at s i (by simpa using h1)
    have b := bt_at t i (by simpa using h2)
    rw [← a, ← b] at e
    exact UInt8.toNat_inj.mp (by exact_mod_cast e)
theorem str_one (s : ByteArray) (c : UInt8) : s.toList = [c] ↔ s.size = 1 ∧ bt s 0 = (c.toNat : Int) := by
  constructor
  · intro h
    have e : s = ⟨#[c]⟩ := WideShapes.bytes_inj (by rw [← Lib.toList_data]; exact h)
    subst e
    exact ⟨rfl, rfl⟩
  · intro h
    have e : s = ⟨#[c]⟩ := by
      refine bt_ext _ _ h.1 (fun i hi => ?_)
      obtain rfl : i = 0 := by omega
      exact h.2
    subst e
    rw [Lib.toList_data]
theorem str_two (s : ByteArray) (c d : UInt8) : s.toList = [c, d] ↔ s.size = 2 ∧ bt s 0 = (c.toNat : Int) ∧ bt s 1 = (d.toNat : Int) := by
  constructor
  · intro h
    have e : s = ⟨#[c, d]⟩ := WideShapes.bytes_inj (by rw [← Lib.toList_data]; exact h)
    subst e
    exact ⟨rfl, rfl, rfl⟩
  · intro h
    have e : s = ⟨#[c, d]⟩ := by
      refine bt_ext _ _ h.1 (fun i hi => ?_)
      rcases (by omega : i = 0 ∨ i = 1) with rfl | rfl
      · exact h.2.1
      · exact h.2.2
    subst e
    rw [Lib.toList_data]
theorem str_nil (s : ByteArray) : s.toList = [] ↔ s.size = 0 := by
  constructor
  · intro h
    have e : s = ⟨#[]⟩ := WideShapes.bytes_inj (by rw [← Lib.toList_data]; exact h)
    subst e
    rfl
  · intro h
    have e : s = ⟨#[]⟩ := bt_ext _ _ h (fun i hi => by omega)
    subst e
    rw [Lib.toList_data]
theorem bt_cut (s : ByteArray) (a b : Nat) (i : Int) (h0 : 0 ≤ i) (h : a + i.toNat < b) (hb : b ≤ s.size) : bt (s.extract a b) i = bt s (a + i) := by
  have h1 : i.toNat < (s.extract a b).size := by rw [ByteArray.size_extract]; omega
  have h2 : ((a : Int) + i).toNat < s.size := by omega
  have e : ((a : Int) + i).toNat = a + i.toNat := by omega
  unfold bt
  rw [dif_pos h1, dif_pos h2]
  congr 2
  rw [ByteArray.getElem_extract]
  congr 1
  exact e.symm

theorem one_shape (s : ByteArray) (a : Int) (h : oneAt s a = ((s.size : Int), true)) :
    (a + 1 = (s.size : Int) ∧ bt s a = 73) ∨ (a + 3 ≤ (s.size : Int) ∧ bt s a = 76) := by
  unfold oneAt at h
  split at h
  · rename_i c
    have := (Prod.mk.inj h).1
    exact .inl ⟨this, c.2⟩
  · split at h
    · rename_i c
      have hg := nend_ge s (a + 1) 20 (a + 1) (by omega)
      unfold nameAt at h
      split at h
      · rename_i c2
        have := (Prod.mk.inj h).1
        exact .inr ⟨by omega, c.2⟩
      · exact absurd (Prod.mk.inj h).2 (by simp)
    · exact absurd (Prod.mk.inj h).2 (by simp)
/-- What a right type looks like. -/
theorem right_shape (s : ByteArray) (h : tyAt s 0 = ((s.size : Int), true)) :
    (s.size = 1 ∧ bt s 0 = 73) ∨ (3 ≤ s.size ∧ bt s 0 = 76) ∨ (s.size = 2 ∧ bt s 0 = 91 ∧ bt s 1 = 73) ∨ (4 ≤ s.size ∧ bt s 0 = 91 ∧ bt s 1 = 76) := by
  unfold tyAt at h
  split at h
  · rename_i c
    rcases one_shape s _ h with h | h
    · exact .inr (.inr (.inl ⟨by omega, c.2, h.2⟩))
    · exact .inr (.inr (.inr ⟨by omega, c.2, h.2⟩))
  · rcases one_shape s _ h with h | h
    · exact .inl ⟨by omega, h.2⟩
    · exact .inr (.inl ⟨by omega, h.2⟩)
def tright (s : ByteArray) : Bool := (tyAt s 0).2 && (tyAt s 0).1 == (s.size : Int)
theorem tright_eq (s : ByteArray) (h : tright s = true) : tyAt s 0 = ((s.size : Int), true) := by
  unfold tright at h
  rw [Bool.and_eq_true, beq_iff_eq] at h
  exact Prod.ext h.2 h.1
theorem spec_right (s : ByteArray) (hn : s.size ≤ 20000) (k : Nat) (hk : 24 < k) : spec_TypeRight.f k s = some (tright s) := by
  unfold spec_TypeRight.f tright
  rw [if_neg (by omega), spec_type s (by omega) k hk 0 (by omega) (by omega)]
  simp only [Option.bind_some]
  cases (tyAt s 0).2 <;> simp
theorem impl_right (s : ByteArray) (hn : s.size ≤ 140737488351232) (k : Nat) (hk : 24 < k) : impl_typeRight.f k s = some (tright s) := by
  unfold impl_typeRight.f tright
  rw [impl_kind s hn k (by omega) 0 (by omega) (by omega)]
  simp only [Option.bind_some, impl_length.f]
  cases (tyAt s 0).2 <;> simp

theorem rdOf_at {α : Type} (d : α) (l : List α) (i : Int) (h : i.toNat < l.length) : rdOf d l i = l[i.toNat] := by
  simp [rdOf, List.getD_eq_getElem?_getD, List.getElem?_eq_getElem h]
/-- A list that is filled from the left. -/
theorem fill_end {α : Type} (l acc : List α) (hl : acc.length = l.length) (h : ∀ j, j < l.length → acc[j]? = l[j]?) : acc = l := by
  apply List.ext_getElem?
  intro j
  by_cases hj : j < l.length
  · exact h j hj
  · rw [List.getElem?_eq_none (by omega), List.getElem?_eq_none (by omega)]
theorem fill_step {α : Type} (l acc : List α) (i : Nat) (v : α) (hl : acc.length = l.length) (hi : i < l.length) (hv : l[i]? = some v) (h : ∀ j, j < i → acc[j]? = l[j]?) : ∀ j, j < i + 1 → (acc.set i v)[j]? = l[j]? := by
  intro j hj
  by_cases e : j = i
  · subst e; rw [List.getElem?_set_self (by omega), hv]
  · rw [List.getElem?_set_ne (by omega)]; exact h j (by omega)
theorem ev_le {α : Type} {g : Nat → Option α} {r : α} (h : Ev g r) : ∃ K, ∀ k, K ≤ k → g k = some r := h

theorem eq_loop (a b : List ByteArray) (hl : a.length = b.length) (hb : a.length ≤ 17592186044416) (d : Nat) : ∀ (i : Nat), i + d = a.length → Ev (fun k => laws_eqStringS.l0 k a b i) (decide (a.drop i = b.drop i)) := by
  induction d with
  | zero =>
    intro i hd
    rw [decide_eq_true (by rw [List.drop_eq_nil_of_le (by omega), List.drop_eq_nil_of_le (by omega)])]
    refine Ev.step (f := fun _ => some true) (fun k => ?_) (Ev.now _)
    simp only [laws_eqStringS.l0]; rw [if_neg (by omega)]
  | succ d ih =>
    intro i hd
    have hi : ((i : Int)).toNat < a.length := by omega
    have hi2 : ((i : Int)).toNat < b.length := by omega
    have e2 : wrap64 ((i : Int) + 1) = ((i + 1 : Nat) : Int) := by unfold wrap64; omega
    have ea : a.drop i = a[i] :: a.drop (i + 1) := List.drop_eq_getElem_cons (by omega)
    have eb : b.drop i = b[i] :: b.drop (i + 1) := List.drop_eq_getElem_cons (by omega)
    have ra : rdOf ByteArray.empty a i = a[i] := rdOf_at _ _ _ hi
    have rb : rdOf ByteArray.empty b i = b[i] := rdOf_at _ _ _ hi2
    by_cases c : (a[i]).toList = (b[i]).toList
    · have c2 : a[i] = b[i] := WideShapes.bytes_inj (by rw [← Lib.toList_data, ← Lib.toList_data]; exact c)
      have e3 : decide (a.drop i = b.drop i) = decide (a.drop (i + 1) = b.drop (i + 1)) := decide_eq_decide.mpr (by rw [ea, eb, c2]; exact ⟨fun h => (List.cons.inj h).2, fun h => by rw [h]⟩)
      rw [e3]
      refine Ev.step (fun k => ?_) (ih (i + 1) (by omega))
      simp only [laws_eqStringS.l0, e2, ra, rb]; rw [if_pos (by omega), if_pos (by omega), if_pos (by omega), if_pos c]
    · rw [decide_eq_false (by rw [ea, eb]; intro h; exact c (congrArg ByteArray.toList (List.cons.inj h).1))]
      refine Ev.step (f := fun _ => some false) (fun k => ?_) (Ev.now _)
      simp only [laws_eqStringS.l0, ra, rb]; rw [if_pos (by omega), if_pos (by omega), if_pos (by omega), if_neg c]
theorem eq_strs (a b : List ByteArray) (hb : a.length ≤ 17592186044416) : Ev (fun k => laws_eqStringS.f k a b) (decide (a = b)) := by
  by_cases hl : a.length = b.length
  · refine Ev.congr (fun k => ?_) (eq_loop a b hl hb a.length 0 (by omega))
    unfold laws_eqStringS.f; rw [if_pos (by omega)]; rfl
  · rw [decide_eq_false (fun h => hl (congrArg List.length h))]
    refine Ev.congr (f := fun _ => some false) (fun k => ?_) (Ev.now _)
    unfold laws_eqStringS.f; rw [if_neg (by omega)]

theorem nend_le (t : ByteArray) (f : Int) : ∀ (n : Nat) (i : Int), nend n t f i ≤ i + n
  | 0, i => by unfold nend; omega
  | n + 1, i => by
    unfold nend
    split
    · have := nend_le t f n (i + 1)
      omega
    · omega
theorem one_le (t : ByteArray) (a : Int) : (oneAt t a).1 ≤ a + 22 := by
  have := nend_le t (a + 1) 20 (a + 1)
  unfold oneAt nameAt
  repeat' split
  all_goals (dsimp only; omega)
theorem tright_le (s : ByteArray) (h : tright s = true) : s.size ≤ 23 := by
  have e := tright_eq s h
  unfold tyAt at e
  split at e
  · have := one_le s (0 + 1)
    rw [e] at this
    dsimp only at this
    omega
  · have := one_le s 0
    rw [e] at this
    dsimp only at this
    omega
theorem spec_right_all (s : ByteArray) (k : Nat) (hk : 24 < k) : spec_TypeRight.f k s = some (tright s) := by
  by_cases c : s.size ≤ 20000
  · exact spec_right s c k hk
  · have e : tright s = false := by
      cases h : tright s with
      | false => rfl
      | true => have := tright_le s h; omega
    rw [e]
    unfold spec_TypeRight.f
    rw [if_pos (by omega)]
def resRight (r : ByteArray) : Bool := decide (r.toList = [86]) || tright r
/-- What makes a Desc right. -/
def dright (ps : List ByteArray) (r : ByteArray) : Bool := decide (ps.length ≤ 8) && (ps.all tright && resRight r)
theorem spec_dright_loop (ps : List ByteArray) (r : ByteArray) (hl : ps.length ≤ maxLen) (d : Nat) : ∀ (k i : Nat), i + d = ps.length → d + 30 ≤ k →
    spec_DescRight.l0 k i ps r = some ((ps.drop i).all tright && resRight r) := by
  unfold maxLen at hl
  induction d with
  | zero =>
    intro k i hd hk
    obtain ⟨k, rfl⟩ : ∃ m, k = m + 1 := ⟨k - 1, by omega⟩
    rw [List.drop_eq_nil_of_le (by omega)]
    simp only [spec_DescRight.l0, List.all_nil, Bool.true_and]
    rw [if_neg (by omega)]
    unfold resRight
    by_cases c : r.toList = [86]
    · rw [if_pos c, decide_eq_true c]; rfl
    · rw [if_neg c, decide_eq_false c, spec_right_all r k (by omega)]; rfl
  | succ d ih =>
    intro k i hd hk
    obtain ⟨k, rfl⟩ : ∃ m, k = m + 1 := ⟨k - 1, by omega⟩
    have hi : ((i : Int)).toNat < ps.length := by omega
    have e2 : wrap64 ((i : Int) + 1) = ((i + 1 : Nat) : Int) := by unfold wrap64; omega
    have e3 : rdOf ByteArray.empty ps i = ps[i] := rdOf_at _ _ _ hi
    rw [List.drop_eq_getElem_cons (by omega), List.all_cons]
    simp only [spec_DescRight.l0, e2, e3]
    rw [if_pos (by omega), if_pos (by omega), spec_right_all _ k (by omega)]
    simp only [Option.bind_some]
    by_cases c : tright ps[i] = true
    · rw [if_pos c, c, ih k (i + 1) (by omega) (by omega)]
      rfl
    · have c' : tright ps[i] = false := by simpa using c
      rw [if_neg c, c']
      rfl
theorem spec_dright (ps : List ByteArray) (r : ByteArray) (hl : ps.length ≤ maxLen) (k : Nat) (hk : 40 ≤ k) : spec_DescRight.f k ps r = some (dright ps r) := by
  unfold spec_DescRight.f dright
  by_cases c : ps.length ≤ 8
  · rw [if_neg (by omega), decide_eq_true c]
    exact spec_dright_loop ps r hl ps.length k 0 (by omega) (by omega)
  · rw [if_pos (by omega), decide_eq_false c]
    rfl
theorem impl_dright_loop (ps : List ByteArray) (r : ByteArray) (hl : ps.length ≤ maxLen) (hs : ∀ x ∈ ps, x.size ≤ 1048576) (hr : r.size ≤ 1048576) (d : Nat) : ∀ (k i : Nat), i + d = ps.length → d + 30 ≤ k →
    impl_DescRight.l0 k ps (ps.length : Int) i ps r = some (decide (ps.length ≤ 8) && ((ps.drop i).all tright && resRight r)) := by
  unfold maxLen at hl
  induction d with
  | zero =>
    intro k i hd hk
    obtain ⟨k, rfl⟩ : ∃ m, k = m + 1 := ⟨k - 1, by omega⟩
    rw [List.drop_eq_nil_of_le (by omega)]
    simp only [impl_DescRight.l0, List.all_nil, Bool.true_and]
    rw [if_neg (by omega)]
    unfold resRight
    by_cases c0 : ps.length ≤ 8
    · rw [if_pos (by omega), decide_eq_true c0]
      by_cases c : r.toList = [86]
      · rw [if_pos c, decide_eq_true c]; rfl
      · rw [if_neg c, decide_eq_false c, impl_right r (by omega) k (by omega)]; rfl
    · rw [if_neg (by omega), decide_eq_false c0]; rfl
  | succ d ih =>
    intro k i hd hk
    obtain ⟨k, rfl⟩ : ∃ m, k = m + 1 := ⟨k - 1, by omega⟩
    have hi : ((i : Int)).toNat < ps.length := by omega
    have e2 : wrap64 ((i : Int) + 1) = ((i + 1 : Nat) : Int) := by unfold wrap64; omega
    have e3 : rdOf ByteArray.empty ps i = ps[i] := rdOf_at _ _ _ hi
    have hz := hs ps[i] (List.getElem_mem (by omega))
    rw [List.drop_eq_getElem_cons (by omega), List.all_cons]
    simp only [impl_DescRight.l0, e2, e3]
    rw [if_pos (by omega), if_pos (by omega), if_pos (by omega), impl_right _ (by omega) k (by omega)]
    simp only [Option.bind_some]
    by_cases c : tright ps[i] = true
    · rw [if_pos c, c, ih k (i + 1) (by omega) (by omega)]
      rfl
    · have c' : tright ps[i] = false := by simpa using c
      rw [if_neg c, c']
      cases decide (ps.length ≤ 8) <;> rfl
theorem impl_dright (ps : List ByteArray) (r : ByteArray) (hl : ps.length ≤ maxLen) (hs : ∀ x ∈ ps, x.size ≤ 1048576) (hr : r.size ≤ 1048576) (k : Nat) (hk : ps.length + 30 ≤ k) : impl_DescRight.f k ps r = some (dright ps r) := by
  unfold impl_DescRight.f dright
  exact impl_dright_loop ps r hl hs hr ps.length k 0 (by omega) (by omega)

/-- The text of a Desc. -/
def dbody (x : ByteArray) (ps : List ByteArray) : ByteArray := ps.foldl (fun a b => a ++ b) x
def dtext (ps : List ByteArray) (r : ByteArray) : ByteArray := (dbody ⟨#[40]⟩ ps ++ ⟨#[41]⟩) ++ r
theorem dtext_spec_loop (ps : List ByteArray) (r : ByteArray) (hl : ps.length ≤ 8) (hs : ∀ x ∈ ps, x.size ≤ 23) (hr : r.size ≤ 23) (d : Nat) : ∀ (k i : Nat) (x : ByteArray), i + d = ps.length → d < k → x.size ≤ 1 + 23 * i →
    spec_l02Text.l0 k x i ps r = some ((dbody x (ps.drop i) ++ ⟨#[41]⟩) ++ r) := by
  have e0 : (⟨#[41]⟩ : ByteArray).size = 1 := rfl
  induction d with
  | zero =>
    intro k i x hd hk hx
    obtain ⟨k, rfl⟩ : ∃ m, k = m + 1 := ⟨k - 1, by omega⟩
    rw [List.drop_eq_nil_of_le (by omega)]
    simp only [spec_l02Text.l0]
    rw [if_neg (by omega), if_pos (by omega), if_pos (by rw [ByteArray.size_append, e0]; omega)]
    rfl
  | succ d ih =>
    intro k i x hd hk hx
    obtain ⟨k, rfl⟩ : ∃ m, k = m + 1 := ⟨k - 1, by omega⟩
    have hi : ((i : Int)).toNat < ps.length := by omega
    have e2 : wrap64 ((i : Int) + 1) = ((i + 1 : Nat) : Int) := by unfold wrap64; omega
    have e3 : rdOf ByteArray.empty ps i = ps[i] := rdOf_at _ _ _ hi
    have hz := hs ps[i] (List.getElem_mem (by omega))
    rw [List.drop_eq_getElem_cons (by omega)]
    simp only [spec_l02Text.l0, e2, e3]
    rw [if_pos (by omega), if_pos (by omega), if_pos (by omega)]
    exact ih k (i + 1) (x ++ ps[i]) (by omega) (by omega) (by rw [ByteArray.size_append]; omega)
theorem dtext_impl_loop (ps : List ByteArray) (r : ByteArray) (hl : ps.length ≤ 8) (hs : ∀ x ∈ ps, x.size ≤ 23) (hr : r.size ≤ 23) (d : Nat) : ∀ (k i : Nat) (x : ByteArray), i + d = ps.length → d < k → x.size ≤ 1 + 23 * i →
    impl_DescText.l0 k x ps (ps.length : Int) i ps r = some ((dbody x (ps.drop i) ++ ⟨#[41]⟩) ++ r) := by
  have e0 : (⟨#[41]⟩ : ByteArray).size = 1 := rfl
  induction d with
  | zero =>
    intro k i x hd hk hx
    obtain ⟨k, rfl⟩ : ∃ m, k = m + 1 := ⟨k - 1, by omega⟩
    rw [List.drop_eq_nil_of_le (by omega)]
    simp only [impl_DescText.l0]
    rw [if_neg (by omega), if_pos (by omega), if_pos (by rw [ByteArray.size_append, e0]; omega)]
    rfl
  | succ d ih =>
    intro k i x hd hk hx
    obtain ⟨k, rfl⟩ : ∃ m, k = m + 1 := ⟨k - 1, by omega⟩
    have hi : ((i : Int)).toNat < ps.length := by omega
    have e2 : wrap64 ((i : Int) + 1) = ((i + 1 : Nat) : Int) := by unfold wrap64; omega
    have e3 : rdOf ByteArray.empty ps i = ps[i] := rdOf_at _ _ _ hi
    have hz := hs ps[i] (List.getElem_mem (by omega))
    rw [List.drop_eq_getElem_cons (by omega)]
    simp only [impl_DescText.l0, e2, e3]
    rw [if_pos (by omega), if_pos (by omega), if_pos (by omega), if_pos (by omega)]
    exact ih k (i + 1) (x ++ ps[i]) (by omega) (by omega) (by rw [ByteArray.size_append]; omega)
theorem dright_le (ps : List ByteArray) (r : ByteArray) (h : dright ps r = true) : ps.length ≤ 8 ∧ (∀ x ∈ ps, x.size ≤ 23) ∧ r.size ≤ 23 := by
  unfold dright resRight at h
  simp only [Bool.and_eq_true, Bool.or_eq_true, decide_eq_true_eq, List.all_eq_true] at h
  refine ⟨h.1, fun x hx => tright_le x (h.2.1 x hx), ?_⟩
  rcases h.2.2 with h | h
  · have := (str_one r 86).mp h
    omega
  · exact tright_le r h
def dshown (ps : List ByteArray) (r : ByteArray) : ByteArray := if dright ps r = true then dtext ps r else ⟨#[]⟩
theorem spec_dtext (ps : List ByteArray) (r : ByteArray) (h : dright ps r = true) (k : Nat) (hk : 9 ≤ k) : spec_l02Text.f k ps r = some (dtext ps r) := by
  obtain ⟨h1, h2, h3⟩ := dright_le ps r h
  unfold spec_l02Text.f dtext
  exact dtext_spec_loop ps r h1 h2 h3 ps.length k 0 ⟨#[40]⟩ (by omega) (by omega) (by show 1 ≤ _; omega)
theorem impl_dtext (ps : List ByteArray) (r : ByteArray) (hl : ps.length ≤ maxLen) (hs : ∀ x ∈ ps, x.size ≤ 1048576) (hr : r.size ≤ 1048576) (k : Nat) (hk : ps.length + 30 ≤ k) : impl_DescText.f k ps r = some (dshown ps r) := by
  unfold impl_DescText.f dshown
  rw [impl_dright ps r hl hs hr k hk]
  simp only [Option.bind_some]
  by_cases c : dright ps r = true
  · obtain ⟨h1, h2, h3⟩ := dright_le ps r c
    rw [if_pos c, if_pos c]
    exact dtext_impl_loop ps r h1 h2 h3 ps.length k 0 ⟨#[40]⟩ (by omega) (by omega) (by show 1 ≤ _; omega)
  · rw [if_neg c, if_neg c]

theorem spec_dshown (ps : List ByteArray) (r : ByteArray) (hl : ps.length ≤ maxLen) (k : Nat) (hk : 40 ≤ k) : spec_DescText.f k ps r = some (dshown ps r) := by
  unfold spec_DescText.f dshown
  rw [spec_dright ps r hl k hk]
  simp only [Option.bind_some]
  by_cases c : dright ps r = true
  · rw [if_pos c, if_pos c, spec_dtext ps r c k (by omega)]
    rfl
  · rw [if_neg c, if_neg c]

theorem szs_loop (l : List ByteArray) (hs : ∀ x ∈ l, x.size ≤ maxLen) (hl : l.length ≤ maxLen) (d : Nat) : ∀ (i : Nat) (a : Int), 0 ≤ a → a ≤ 1048576 → i + d = l.length →
    ∃ r, Ev (fun k => laws_szStringS.l0 k l a i) r ∧ (r < 0 ∨ (0 ≤ r ∧ r ≤ a ∧ ∀ j, i ≤ j → (h : j < l.length) → (l[j].size : Int) ≤ a)) := by
  unfold maxLen at hs hl
  induction d with
  | zero =>
    intro i a h0 h1 hd
    refine ⟨a, Ev.step (f := fun _ => some a) (fun k => ?_) (Ev.now a), .inr ⟨h0, Int.le_refl _, fun j hj hj2 => by omega⟩⟩
    simp only [laws_szStringS.l0]; rw [if_neg (by omega)]
  | succ d ih =>
    intro i a h0 h1 hd
    have hi : ((i : Int)).toNat < l.length := by omega
    have er : rdOf ByteArray.empty l i = l[i] := rdOf_at _ _ _ hi
    have hz := hs l[i] (List.getElem_mem (by omega))
    have e1 : wrap64 (a - (l[i].size : Int)) = a - (l[i].size : Int) := by unfold wrap64; omega
    have e2 : wrap64 ((i : Int) + 1) = ((i + 1 : Nat) : Int) := by unfold wrap64; omega
    by_cases c : a - (l[i].size : Int) < 0
    · refine ⟨-1, Ev.step (f := fun _ => some (-1)) (fun k => ?_) (Ev.now _), .inl (by omega)⟩
      simp only [laws_szStringS.l0, er, e1]; rw [if_pos (by omega), if_pos (by omega), if_pos c]
    · obtain ⟨r, hr, hb⟩ := ih (i + 1) (a - (l[i].size : Int)) (by omega) (by omega) (by omega)
      refine ⟨r, Ev.step (fun k => ?_) hr, ?_⟩
      · simp only [laws_szStringS.l0, er, e1, e2]; rw [if_pos (by omega), if_pos (by omega), if_neg c]
      · rcases hb with hb | ⟨hb0, hb1, hb2⟩
        · exact .inl hb
        · refine .inr ⟨hb0, by omega, fun j hj hj2 => ?_⟩
          by_cases e : j = i
          · subst e; omega
          · have := hb2 j (by omega) hj2
            omega
theorem szs_strs (l : List ByteArray) (a : Int) (h0 : 0 ≤ a) (h1 : a ≤ 1048576) (hl : l.length ≤ maxLen) (hs : ∀ x ∈ l, x.size ≤ maxLen) :
    ∃ r, Ev (fun k => laws_szStringS.f k l a) r ∧ (r < 0 ∨ (0 ≤ r ∧ r ≤ a ∧ (l.length : Int) ≤ a ∧ ∀ x ∈ l, x.size ≤ 1048576)) := by
  have e1 : wrap64 (a - (l.length : Int)) = a - (l.length : Int) := by unfold wrap64; unfold maxLen at hl; omega
  by_cases c : a - (l.length : Int) < 0
  · refine ⟨-1, Ev.congr (f := fun _ => some (-1)) (fun k => ?_) (Ev.now _), .inl (by omega)⟩
    unfold laws_szStringS.f; rw [e1, if_pos c]
  · obtain ⟨r, hr, hb⟩ := szs_loop l hs hl l.length 0 (a - (l.length : Int)) (by omega) (by omega) (by omega)
    refine ⟨r, Ev.congr (fun k => ?_) hr, ?_⟩
    · unfold laws_szStringS.f; rw [e1, if_neg c]; rfl
    · rcases hb with hb | ⟨hb0, hb1, hb2⟩
      · exact .inl hb
      · refine .inr ⟨hb0, by omega, by omega, fun x hx => ?_⟩
        obtain ⟨j, hj, rfl⟩ := List.mem_iff_getElem.mp hx
        have := hb2 j (by omega) hj
        omega

theorem sz_desc (ps : List ByteArray) (r : ByteArray) (hl : ps.length ≤ maxLen) (hs : ∀ x ∈ ps, x.size ≤ maxLen) (hr : r.size ≤ maxLen) (a : Int) (h0 : 0 ≤ a) (h1 : a ≤ 1048576) :
    ∃ v, Ev (fun k => laws_szDesc.f k ps r a) v ∧ (v < 0 ∨ (0 ≤ v ∧ v ≤ a ∧ (ps.length : Int) ≤ a ∧ (∀ x ∈ ps, x.size ≤ 1048576) ∧ r.size ≤ 1048576)) := by
  obtain ⟨v, hv, hb⟩ := szs_strs ps a h0 h1 hl hs
  unfold maxLen at hr
  rcases hb with hb | ⟨hb0, hb1, hb2, hb3⟩
  · exact ⟨-1, Ev.congr (fun k => rfl) (Ev.bind hv (Ev.congr (f := fun _ => some (-1)) (fun k => by rw [if_pos hb]) (Ev.now _))), .inl (by omega)⟩
  · have e2 : wrap64 (v - (r.size : Int)) = v - (r.size : Int) := by unfold wrap64; omega
    by_cases c2 : v - (r.size : Int) < 0
    · exact ⟨-1, Ev.congr (fun k => rfl) (Ev.bind hv (Ev.congr (f := fun _ => some (-1)) (fun k => by rw [if_neg (by omega), e2, if_pos c2]) (Ev.now _))), .inl (by omega)⟩
    · exact ⟨v - (r.size : Int), Ev.congr (fun k => rfl) (Ev.bind hv (Ev.congr (f := fun _ => some (v - (r.size : Int))) (fun k => by rw [if_neg (by omega), e2, if_neg c2]) (Ev.now _))), .inr ⟨by omega, by omega, by omega, hb3, by omega⟩⟩

theorem to_loop (l : List ByteArray) (hl : l.length ≤ 17592186044416) (d : Nat) : ∀ (i : Nat) (acc : List ByteArray), acc.length = l.length → (∀ j, j < i → acc[j]? = l[j]?) → i + d = l.length →
    Ev (fun k => laws_toStringS.l0 k l acc i) l := by
  induction d with
  | zero =>
    intro i acc h0 h1 hd
    refine Ev.step (f := fun _ => some l) (fun k => ?_) (Ev.now l)
    simp only [laws_toStringS.l0]; rw [if_neg (by omega), fill_end l acc h0 (fun j hj => h1 j (by omega))]
  | succ d ih =>
    intro i acc h0 h1 hd
    have hi : ((i : Int)).toNat < l.length := by omega
    have e2 : wrap64 ((i : Int) + 1) = ((i + 1 : Nat) : Int) := by unfold wrap64; omega
    refine Ev.step (fun k => ?_) (ih (i + 1) (acc.set i (rdOf ByteArray.empty l i)) (by simpa using h0) (fill_step l acc i _ h0 (by omega) (by rw [rdOf_at _ _ _ hi]; exact List.getElem?_eq_getElem (by omega)) h1) (by omega))
    simp only [laws_toStringS.l0, e2]; rw [if_pos (by omega), if_pos (by omega), if_pos (by omega)]; rfl
theorem to_strs (l : List ByteArray) (hl : l.length ≤ 17592186044416) : Ev (fun k => laws_toStringS.f k l) l := by
  refine Ev.congr (fun k => ?_) (to_loop l hl l.length 0 (List.replicate l.length (⟨#[]⟩ : ByteArray)) (by simp) (fun j hj => absurd hj (by omega)) (by omega))
  unfold laws_toStringS.f; rw [if_pos (by omega), if_pos (by omega)]; rfl

theorem FnExactDescText : laws_FnExactDescText.Pure := by
  intro x hx
  obtain ⟨⟨hl, hs⟩, hr⟩ := hx
  obtain ⟨v, ⟨K1, h1⟩, hv⟩ := sz_desc x.f0 x.f1 hl hs hr 1048576 (by omega) (by omega)
  have f1 := h1
  dsimp only at f1
  by_cases c : v < 0
  · refine ⟨K1, ?_⟩
    unfold laws_FnExactDescText.f
    rw [f1 K1 (by omega)]
    simp only [Option.bind_some]
    rw [if_pos c]
  · obtain ⟨_, _, hl', hs', hr'⟩ := hv.resolve_left c
    obtain ⟨K2, h2⟩ := to_strs x.f0 (by omega)
    obtain ⟨K3, h3⟩ := eq_strs x.f0 x.f0 (by omega)
    dsimp only at h2 h3
    refine ⟨K1 + K2 + K3 + x.f0.length + 40, ?_⟩
    have h3' := h3 (K1 + K2 + K3 + x.f0.length + 40) (by omega)
    rw [decide_eq_true rfl] at h3'
    unfold laws_FnExactDescText.f
    rw [f1 _ (by omega)]
    simp only [Option.bind_some, laws_toDesc.f, h2 (K1 + K2 + K3 + x.f0.length + 40) (by omega), laws_eqDesc.f, h3', spec_dshown x.f0 x.f1 hl _ (show 40 ≤ K1 + K2 + K3 + x.f0.length + 40 by omega), impl_dtext x.f0 x.f1 hl hs' hr' _ (show x.f0.length + 30 ≤ K1 + K2 + K3 + x.f0.length + 40 by omega)]
    rw [if_neg c]
    repeat (first | rw [if_pos rfl] | rw [if_pos trivial] | simp only [Option.bind_some])

end Go.Proofs.Ytjmochmnioegoaa.Pure
