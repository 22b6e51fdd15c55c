/- The law FnTexts holds for every draw: texts that are put one behind the other are read back, and what cannot be put is refused by both. -/
import Derived.Test.YtkijcgeicdldgaaPFnTextsx4
namespace Go.Proofs.Ytkijcgeicdldgaa.Pure
open Go.RowKit Go.Proofs.Ytkijcgeicdldgaa.PFnTexts Go.Proofs.YtkijcgeicdldgaaW.PrintWords Go.Proofs.YtkijcgeicdldgaaW.PrintLast
set_option linter.unusedVariables false
set_option linter.unusedSimpArgs false

theorem put_1 (n : Int) : impl_put.f 2 n 1 = some (strOfNums [n % 256]) := by
  simp [impl_put.f, impl_put.l0, wrap64]
theorem put_2 (n : Int) : impl_put.f 3 n 2 = some (strOfNums [n / 256 % 256, n % 256]) := by
  simp [impl_put.f, impl_put.l0, wrap64, List.replicate]
theorem put_4 (n : Int) : impl_put.f 5 n 4 = some (strOfNums [n / 256 / 256 / 256 % 256, n / 256 / 256 % 256, n / 256 % 256, n % 256]) := by
  simp [impl_put.f, impl_put.l0, wrap64, List.replicate]

theorem step64 {i : Int} {n : Nat} (h0 : 0 ≤ i) (h : i < (n : Int)) (hn : n ≤ 140737488351232) : wrap64 (i + 1) = i + 1 := by
  unfold wrap64
  omega

theorem plain_both (s : ByteArray) (hn : s.size ≤ 140737488351232) (d : Nat) : ∀ (k k' : Nat) (i : Int), 0 ≤ i → i ≤ s.size → (s.size : Int) - i = d → d < k → d < k' →
    ∃ b, spec_l01Plain.l0 k s i = some b ∧ impl_isPlain.l0 k' s (s.size : Int) i = some b := by
  induction d with
  | zero =>
    intro k k' i h0 h1 hd hk hk'
    obtain ⟨k, rfl⟩ : ∃ m, k = m + 1 := ⟨k - 1, by omega⟩
    obtain ⟨k', rfl⟩ : ∃ m, k' = m + 1 := ⟨k' - 1, by omega⟩
    refine ⟨true, ?_, ?_⟩
    · simp only [spec_l01Plain.l0]; rw [if_neg (by omega)]
    · simp only [impl_isPlain.l0]; rw [if_neg (by omega)]
  | succ d ih =>
    intro k k' i h0 h1 hd hk hk'
    obtain ⟨k, rfl⟩ : ∃ m, k = m + 1 := ⟨k - 1, by omega⟩
    obtain ⟨k', rfl⟩ : ∃ m, k' = m + 1 := ⟨k' - 1, by omega⟩
    have hlt : i < (s.size : Int) := by omega
    simp only [spec_l01Plain.l0, impl_isPlain.l0]
    rw [if_pos hlt, if_pos h0, if_pos hlt, if_pos h0, if_pos hlt, step64 h0 hlt hn]
    by_cases c1 : bt s i < 32
    · exact ⟨false, by rw [if_pos c1], by rw [if_pos c1]⟩
    · by_cases c2 : bt s i > 126
      · exact ⟨false, by rw [if_neg c1, if_pos c2], by rw [if_neg c1, if_pos c2]⟩
      · obtain ⟨b, e1, e2⟩ := ih k k' (i + 1) (by omega) (by omega) (by omega) (by omega) (by omega)
        exact ⟨b, by rw [if_neg c1, if_neg c2]; exact e1, by rw [if_neg c1, if_neg c2]; exact e2⟩

theorem is_text (s : ByteArray) : impl_isText.f 2 [s] = some (decide (s.size ≤ 20000)) := by
  by_cases h : s.size ≤ 20000
  · simp [impl_isText.f, impl_isText.l0, rdOf, wrap64, h]
    omega
  · simp [impl_isText.f, impl_isText.l0, rdOf, wrap64, h]
    omega
theorem i64_bounds {a : Int} (ha : (Lit.int .i64 a).wf = true) : -9223372036854775808 ≤ a ∧ a ≤ 9223372036854775807 := by
  have e1 : IntKind.i64.min = -9223372036854775808 := by decide
  have e2 : IntKind.i64.max = 9223372036854775807 := by decide
  simp only [Lit.wf, e1, e2, Bool.and_eq_true, decide_eq_true_eq] at ha
  exact ha
theorem is_text_at (s : ByteArray) (k : Nat) (hk : 2 ≤ k) : impl_isText.f k [s] = some (decide (s.size ≤ 20000)) := by
  obtain ⟨d, rfl⟩ : ∃ d, k = 2 + d := ⟨k - 2, by omega⟩
  induction d with
  | zero => exact is_text s
  | succ d ih => exact impl_isText.mono [s] (2 + d) _ (ih (by omega))

theorem num_step (s : ByteArray) (a m n i : Int) (k : Nat) (h1 : i < a + m) (h0 : 0 ≤ i) (hm : a + m ≤ s.size) (hs : s.size ≤ 20000) (hn : 0 ≤ n ∧ n ≤ 4294967296) :
    impl_numberAt.l0 (k + 1) s a m n i = impl_numberAt.l0 k s a m (n * 256 + bt s i) (i + 1) := by
  have hb := bt_range s i
  have e1 : i < wrap64 (a + m) ∨ a + m < 0 := by unfold wrap64; omega
  rcases e1 with e1 | e1
  · simp only [impl_numberAt.l0]
    rw [if_pos e1, if_pos h0, if_pos (by omega)]
    have e2 : wrap64 (wrap64 (n * 256) + wrap64 (bt s i)) = n * 256 + bt s i := by unfold wrap64; omega
    have e3 : wrap64 (i + 1) = i + 1 := by unfold wrap64; omega
    rw [e2, e3]
  · omega
theorem num_end (s : ByteArray) (a m n i : Int) (k : Nat) (h1 : i = a + m) (h0 : 0 ≤ i) (hm : a + m ≤ s.size) (hs : s.size ≤ 20000) :
    impl_numberAt.l0 (k + 1) s a m n i = some (n, a + m, 0) := by
  have e1 : wrap64 (a + m) = a + m := by unfold wrap64; omega
  simp only [impl_numberAt.l0]
  rw [e1, if_neg (by omega)]
theorem num_at (s : ByteArray) (a m : Int) (k : Nat) (h0 : 0 ≤ a) (hm : a + m ≤ s.size) (h1 : 0 ≤ m) (hs : s.size ≤ 20000) (hk : 2 ≤ k) :
    impl_numberAt.f k s a m = impl_numberAt.l0 k s a m 0 a := by
  have e1 : wrap64 ((s.size : Int) - m) = (s.size : Int) - m := by unfold wrap64; omega
  unfold impl_numberAt.f
  rw [at_rounds (impl_isText.mono [s]) hk (is_text s)]
  simp only [Option.bind_some, impl_length.f, e1]
  rw [if_pos (by simpa using hs), if_neg (by omega), if_neg (by omega)]
theorem num_short (s : ByteArray) (a m : Int) (k : Nat) (h0 : 0 ≤ a) (hm : a + m > s.size) (h1 : 0 ≤ m) (h2 : m ≤ 8) (hs : s.size ≤ 20000) (hk : 2 ≤ k) :
    impl_numberAt.f k s a m = some (0, 0, 4) := by
  have e1 : wrap64 ((s.size : Int) - m) = (s.size : Int) - m := by unfold wrap64; omega
  unfold impl_numberAt.f
  rw [at_rounds (impl_isText.mono [s]) hk (is_text s)]
  simp only [Option.bind_some, impl_length.f, e1]
  rw [if_pos (by simpa using hs), if_neg (by omega), if_pos (by omega)]
theorem num_1 (s : ByteArray) (a : Int) (k : Nat) (h0 : 0 ≤ a) (hm : a + 1 ≤ s.size) (hs : s.size ≤ 20000) :
    impl_numberAt.f (k + 2) s a 1 = some (bt s a, a + 1, 0) := by
  rw [num_at s a 1 _ h0 hm (by omega) hs (by omega), num_step s a 1 _ _ (k + 1) (by omega) (by omega) hm hs (by omega), num_end s a 1 _ _ k (by omega) (by omega) hm hs]
  simp
theorem num_2 (s : ByteArray) (a : Int) (k : Nat) (h0 : 0 ≤ a) (hm : a + 2 ≤ s.size) (hs : s.size ≤ 20000) :
    impl_numberAt.f (k + 3) s a 2 = some (bt s a * 256 + bt s (a + 1), a + 2, 0) := by
  have b0 := bt_range s a
  rw [num_at s a 2 _ h0 hm (by omega) hs (by omega), num_step s a 2 _ _ (k + 2) (by omega) (by omega) hm hs (by omega), num_step s a 2 _ _ (k + 1) (by omega) (by omega) hm hs (by omega), num_end s a 2 _ _ k (by omega) (by omega) hm hs]
  simp
theorem num_4 (s : ByteArray) (a : Int) (k : Nat) (h0 : 0 ≤ a) (hm : a + 4 ≤ s.size) (hs : s.size ≤ 20000) :
    impl_numberAt.f (k + 5) s a 4 = some (((bt s a * 256 + bt s (a + 1)) * 256 + bt s (a + 2)) * 256 + bt s (a + 3), a + 4, 0) := by
  have b0 := bt_range s a
  have b1 := bt_range s (a + 1)
  have b2 := bt_range s (a + 2)
  have e2 : a + 1 + 1 = a + 2 := by omega
  have e3 : a + 2 + 1 = a + 3 := by omega
  have e4 : a + 3 + 1 = a + 4 := by omega
  rw [num_at s a 4 _ h0 hm (by omega) hs (by omega), num_step s a 4 _ _ (k + 4) (by omega) (by omega) hm hs (by omega), num_step s a 4 _ _ (k + 3) (by omega) (by omega) hm hs (by omega), e2,
    num_step s a 4 _ _ (k + 2) (by omega) (by omega) hm hs (by omega), e3, num_step s a 4 _ _ (k + 1) (by omega) (by omega) hm hs (by omega), e4, num_end s a 4 _ _ k (by omega) (by omega) hm hs]
  simp

theorem bt_append_left (a b : ByteArray) (i : Int) (h : i.toNat < a.size) : bt (a ++ b) i = bt a i := by
  have h2 : i.toNat < (a ++ b).size := by rw [ByteArray.size_append]; omega
  unfold bt
  rw [dif_pos h2, dif_pos h]
  congr 2
  exact ByteArray.getElem_append_left h
theorem bt_append_right (a b : ByteArray) (i : Int) (h0 : 0 ≤ i) (h : (a.size : Int) ≤ i) : bt (a ++ b) i = bt b (i - a.size) := by
  have e : (i - a.size).toNat = i.toNat - a.size := by omega
  unfold bt
  by_cases c : i.toNat - a.size < b.size
  · have h2 : i.toNat < (a ++ b).size := by rw [ByteArray.size_append]; omega
    rw [dif_pos h2, dif_pos (by rw [e]; exact c)]
    congr 2
    rw [ByteArray.getElem_append_right (by omega)]
    congr 1
    exact e.symm
  · have h2 : ¬ i.toNat < (a ++ b).size := by rw [ByteArray.size_append]; omega
    rw [dif_neg h2, dif_neg (by rw [e]; exact c)]
theorem bt_str (xs : List Int) (i : Int) (hx : ∀ x ∈ xs, 0 ≤ x ∧ x < 256) (h : i.toNat < xs.length) : bt (strOfNums xs) i = xs[i.toNat] := by
  have h2 : i.toNat < (strOfNums xs).size := by rw [strOfNums_size]; exact h
  unfold bt
  rw [dif_pos h2]
  have e : (strOfNums xs)[i.toNat] = UInt8.ofNat (xs[i.toNat]).toNat := by
    show (strOfNums xs).data[i.toNat] = _
    simp [strOfNums]
  rw [e]
  have := hx _ (List.getElem_mem h)
  simp
  omega

theorem bt_ext (s t : ByteArray) (h : s.size = t.size) (hb : ∀ i : Nat, i < s.size → bt s i = bt t i) : s = t := by
  apply ByteArray.ext
  apply Array.ext
  · exact h
  · intro i h1 h2
    have e := hb i h1
    have a := bt_at s i (by simpa using h1)
    have b := bt_at t i (by simpa using h2)
    rw [← a, ← b] at e
    exact UInt8.toNat_inj.mp (by exact_mod_cast e)
theorem str_one (s : ByteArray) (c : UInt8) : s.toList = [c] ↔ s.size = 1 ∧ bt s 0 = (c.toNat : Int) := by
  constructor
  · intro h
    have e : s = ⟨#[c]⟩ := WideShapes.bytes_inj (by rw [← Lib.toList_data]; exact h)
    subst e
    exact ⟨rfl, rfl⟩
  · intro h
    have e : s = ⟨#[c]⟩ := by
      refine bt_ext _ _ h.1 (fun i hi => ?_)
      obtain rfl : i = 0 := by omega
      exact h.2
    subst e
    rw [Lib.toList_data]
theorem str_two (s : ByteArray) (c d : UInt8) : s.toList = [c, d] ↔ s.size = 2 ∧ bt s 0 = (c.toNat : Int) ∧ bt s 1 = (d.toNat : Int) := by
  constructor
  · intro h
    have e : s = ⟨#[c, d]⟩ := WideShapes.bytes_inj (by rw [← Lib.toList_data]; exact h)
    subst e
    exact ⟨rfl, rfl, rfl⟩
  · intro h
    have e : s = ⟨#[c, d]⟩ := by
      refine bt_ext _ _ h.1 (fun i hi => ?_)
      rcases (by omega : i = 0 ∨ i = 1) with rfl | rfl
      · exact h.2.1
      · exact h.2.2
    subst e
    rw [Lib.toList_data]
theorem str_nil (s : ByteArray) : s.toList = [] ↔ s.size = 0 := by
  constructor
  · intro h
    have e : s = ⟨#[]⟩ := WideShapes.bytes_inj (by rw [← Lib.toList_data]; exact h)
    subst e
    rfl
  · intro h
    have e : s = ⟨#[]⟩ := bt_ext _ _ h (fun i hi => by omega)
    subst e
    rw [Lib.toList_data]
theorem bt_cut (s : ByteArray) (a b : Nat) (i : Int) (h0 : 0 ≤ i) (h : a + i.toNat < b) (hb : b ≤ s.size) : bt (s.extract a b) i = bt s (a + i) := by
  have h1 : i.toNat < (s.extract a b).size := by rw [ByteArray.size_extract]; omega
  have h2 : ((a : Int) + i).toNat < s.size := by omega
  have e : ((a : Int) + i).toNat = a + i.toNat := by omega
  unfold bt
  rw [dif_pos h1, dif_pos h2]
  congr 2
  rw [ByteArray.getElem_extract]
  congr 1
  exact e.symm

theorem bt_mid (p x q : ByteArray) (i : Int) (h0 : (p.size : Int) ≤ i) (h1 : i < (p.size : Int) + x.size) : bt ((p ++ x) ++ q) i = bt x (i - p.size) := by
  rw [bt_append_left _ _ _ (by rw [ByteArray.size_append]; omega), bt_append_right _ _ _ (by omega) h0]
theorem cut_mid (p x q : ByteArray) : ((p ++ x) ++ q).extract p.size (p.size + x.size) = x := by
  have hz : (((p ++ x) ++ q).extract p.size (p.size + x.size)).size = x.size := by
    rw [ByteArray.size_extract, ByteArray.size_append, ByteArray.size_append]; omega
  refine bt_ext _ _ hz (fun i hi => ?_)
  rw [hz] at hi
  rw [bt_cut _ _ _ _ (by omega) (by omega) (by rw [ByteArray.size_append, ByteArray.size_append]; omega), bt_mid p x q _ (by omega) (by omega)]
  congr 1
  omega
/-- What PutText makes of a text. -/
def putted (s : ByteArray) (p : Bool) : ByteArray := if p = true then strOfNums [(s.size : Int) % 256] ++ s else ⟨#[]⟩
theorem puttext_same (s : ByteArray) (hn : s.size ≤ 140737488351232) : ∃ p : Bool, (p = true → s.size ≤ 255 ∧ ∀ k, 1000 ≤ k → impl_isPlain.f k s = some true) ∧
    (∀ k, 1001 ≤ k → spec_PutText.f k s = some (putted s p)) ∧ (∀ k, 1001 ≤ k → impl_PutText.f k s = some (putted s p)) := by
  by_cases hbig : (s.size : Int) > 255
  · refine ⟨false, fun h => by simp at h, fun k hk => ?_, fun k hk => ?_⟩
    · unfold spec_PutText.f putted
      rw [if_pos hbig, if_neg (by simp)]
    · obtain ⟨k, rfl⟩ : ∃ m, k = m + 1 := ⟨k - 1, by omega⟩
      unfold impl_PutText.f putted
      rw [if_pos hbig, if_neg (by simp)]
      simp only [impl_PutText.j0]
      rw [if_pos trivial]
  · have hp : ∀ k, 1000 ≤ k → ∃ b, spec_l01Plain.l0 k s 0 = some b ∧ impl_isPlain.l0 k s (s.size : Int) 0 = some b := fun k hk =>
      plain_both s hn s.size k k 0 (by omega) (by omega) (by omega) (by omega) (by omega)
    obtain ⟨b, e1, e2⟩ := hp 1000 (by omega)
    have f1 : ∀ k, 1000 ≤ k → spec_l01Plain.l0 k s 0 = some b := fun k hk => at_rounds (g := fun k => spec_l01Plain.l0 k s 0) (fun k => spec_l01Plain.mono_l k s 0) hk e1
    have f2 : ∀ k, 1000 ≤ k → impl_isPlain.l0 k s (s.size : Int) 0 = some b := fun k hk => at_rounds (g := fun k => impl_isPlain.l0 k s (s.size : Int) 0) (fun k => impl_isPlain.mono_l k s (s.size : Int) 0) hk e2
    have hz : (strOfNums [(s.size : Int) % 256]).size = 1 := strOfNums_size _
    refine ⟨b, fun h => ⟨by omega, fun k hk => by unfold impl_isPlain.f; rw [f2 k hk, h]⟩, fun k hk => ?_, fun k hk => ?_⟩
    · unfold spec_PutText.f spec_l01Plain.f putted
      rw [if_neg hbig, f1 k (by omega)]
      simp only [Option.bind_some, spec_Put1.f]
      cases b with
      | false => rfl
      | true =>
        rw [if_pos rfl, if_pos rfl, if_neg (by omega), if_neg (by omega)]
        simp only [Option.bind_some]
        rw [if_pos (by rw [hz]; omega)]
    · obtain ⟨k, rfl⟩ : ∃ m, k = m + 1 := ⟨k - 1, by omega⟩
      unfold impl_PutText.f impl_isPlain.f putted
      rw [if_neg hbig, f2 (k + 1) (by omega)]
      simp only [Option.bind_some, impl_PutText.j0]
      cases b with
      | false => rfl
      | true =>
        rw [if_neg (by simp), if_pos rfl]
        simp only [impl_length.f, Option.bind_some]
        rw [at_rounds (g := fun k => impl_put.f k (s.size : Int) 1) (fun k => impl_put.mono (s.size : Int) 1 k) (by omega : 2 ≤ k) (put_1 (s.size : Int))]
        simp only [Option.bind_some]
        rw [if_pos (by rw [hz]; omega)]
theorem putted_size (s : ByteArray) : (putted s true).size = 1 + s.size := by
  unfold putted
  rw [if_pos rfl, ByteArray.size_append, strOfNums_size]
  rfl
/-- A text that was put is read where it lies. -/
theorem gettext_at (a x b : ByteArray) (hx : x.size ≤ 255) (hp : ∀ k, 1000 ≤ k → impl_isPlain.f k x = some true) (hs : ((a ++ putted x true) ++ b).size ≤ 20000) (k : Nat) (hk : 1002 ≤ k) :
    impl_GetText.f k ((a ++ putted x true) ++ b) (a.size : Int) = some (x, (a.size : Int) + 1 + x.size, 0) := by
  have z1 := putted_size x
  have z2 : ((a ++ putted x true) ++ b).size = a.size + (1 + x.size) + b.size := by rw [ByteArray.size_append, ByteArray.size_append, z1]
  have hb : bt ((a ++ putted x true) ++ b) (a.size : Int) = (x.size : Int) := by
    rw [bt_mid _ _ _ _ (by omega) (by omega)]
    unfold putted
    rw [if_pos rfl, Int.sub_self, bt_append_left _ _ _ (by rw [strOfNums_size]; simp), bt_str _ _ (fun y hy => by simp at hy; omega) (by simp)]
    simp
    omega
  obtain ⟨k, rfl⟩ : ∃ m, k = m + 2 := ⟨k - 2, by omega⟩
  have hn := num_1 ((a ++ putted x true) ++ b) (a.size : Int) k (by omega) (by omega) hs
  rw [hb] at hn
  have hc : ((a ++ putted x true) ++ b).extract (a.size + 1) (a.size + 1 + x.size) = x := by
    have e : (a ++ putted x true) ++ b = ((a ++ strOfNums [(x.size : Int) % 256]) ++ x) ++ b := by
      unfold putted
      rw [if_pos rfl, ← ByteArray.append_assoc]
    have z3 : (a ++ strOfNums [(x.size : Int) % 256]).size = a.size + 1 := by rw [ByteArray.size_append, strOfNums_size]; rfl
    rw [e, ← z3]
    exact cut_mid _ _ _
  have w1 : wrap64 ((((a ++ putted x true) ++ b).size : Int) - (x.size : Int)) = (((a ++ putted x true) ++ b).size : Int) - (x.size : Int) := by unfold wrap64; omega
  have w2 : wrap64 ((a.size : Int) + 1 + (x.size : Int)) = (a.size : Int) + 1 + (x.size : Int) := by unfold wrap64; omega
  unfold impl_GetText.f impl_Get1.f
  rw [hn]
  simp only [Option.bind_some, impl_length.f, w1, w2]
  rw [if_pos trivial, if_neg (by omega), if_pos (by omega), if_pos (by omega), if_pos (by omega)]
  have t1 : ((a.size : Int) + 1).toNat = a.size + 1 := by omega
  have t2 : ((a.size : Int) + 1 + (x.size : Int)).toNat = a.size + 1 + x.size := by omega
  rw [t1, t2, hc, hp (k + 2) (by omega)]
  simp only [Option.bind_some]
  first | rfl | rw [if_pos trivial] | rw [if_pos rfl]

theorem u64_w (n : Int) : IntKind.u64.wrap n = n % 18446744073709551616 := IntKind.wrap_u64 n
theorem draw_n (b : List Int) (i m z : Int) (most : Int) (h0 : 0 ≤ i) (hb : b.length ≤ 140737488355328) (hm : most ≤ 9223372036854775807) :
    ∃ r i' m', spec_l01Src_n.f b i m z most = some (r, i', m', z) ∧ 0 ≤ i' ∧ 0 ≤ r ∧ (1 ≤ most → r < most) := by
  unfold spec_l01Src_n.f
  by_cases c1 : most ≤ 1
  · rw [if_pos c1]
    exact ⟨_, _, _, rfl, h0, by omega, fun h => by omega⟩
  · rw [if_neg c1]
    have e1 : IntKind.u64.wrap most = most := by rw [u64_w]; omega
    have key : ∀ X : Int, 0 ≤ wrap64 (Int.tmod (IntKind.u64.wrap X) most) ∧ wrap64 (Int.tmod (IntKind.u64.wrap X) most) < most := by
      intro X
      have hx : 0 ≤ IntKind.u64.wrap X := by rw [u64_w]; omega
      rw [Int.tmod_eq_emod_of_nonneg hx]
      have a1 := Int.emod_nonneg (IntKind.u64.wrap X) (b := most) (by omega)
      have a2 := Int.emod_lt_of_pos (IntKind.u64.wrap X) (b := most) (by omega)
      have e : wrap64 (IntKind.u64.wrap X % most) = IntKind.u64.wrap X % most := by unfold wrap64; omega
      rw [e]
      exact ⟨a1, a2⟩
    rw [e1]
    by_cases c2 : i < (b.length : Int)
    · rw [if_pos c2, if_pos h0, if_neg (by omega)]
      refine ⟨_, _, _, rfl, ?_, (key _).1, fun _ => (key _).2⟩
      unfold wrap64; omega
    · rw [if_neg c2, if_neg (by omega)]
      exact ⟨_, _, _, rfl, h0, (key _).1, fun _ => (key _).2⟩
theorem draw_loop (l0 : List Int) (hb : l0.length ≤ 140737488355328) (d : Nat) : ∀ (k : Nat) (i m : Int), 0 ≤ i → i + d = 64 → d < k → ∃ m' z, spec_l01Source.l0 k l0 i l0 0 m 0 = some (l0, 0, m', z) := by
  have fin : ∀ m : Int, ∃ m' z, (if (wrap64 ((l0.length : Int) / 20)) > 12 then (some (l0, (0 : Int), m, (12 : Int))) else (some (l0, 0, m, wrap64 ((l0.length : Int) / 20)))) = some (l0, 0, m', z) := by
    intro m
    split
    · exact ⟨_, _, rfl⟩
    · exact ⟨_, _, rfl⟩
  induction d with
  | zero =>
    intro k i m h0 h1 hk
    obtain ⟨k, rfl⟩ : ∃ m, k = m + 1 := ⟨k - 1, by omega⟩
    simp only [spec_l01Source.l0]
    by_cases c1 : i < (l0.length : Int)
    · rw [if_pos c1, if_neg (by omega)]; exact fin m
    · rw [if_neg c1]; exact fin m
  | succ d ih =>
    intro k i m h0 h1 hk
    obtain ⟨k, rfl⟩ : ∃ m, k = m + 1 := ⟨k - 1, by omega⟩
    simp only [spec_l01Source.l0]
    by_cases c1 : i < (l0.length : Int)
    · rw [if_pos c1, if_pos (by omega), if_pos h0]
      have e : wrap64 (i + 1) = i + 1 := by unfold wrap64; omega
      rw [e]
      exact ih k _ _ (by omega) (by omega) (by omega)
    · rw [if_neg c1]; exact fin m
theorem draw_source (l0 : List Int) (hb : l0.length ≤ 140737488355328) : ∃ m z, spec_l01Source.f 65 l0 = some (l0, 0, m, z) := draw_loop l0 hb 64 65 0 _ (by omega) (by omega) (by omega)

theorem draw_one (b : List Int) (i m z most : Int) (h0 : 0 ≤ i) (hb : b.length ≤ 140737488355328) (hm : most ≤ 9223372036854775807) :
    ∃ t i' m', spec_l01Src_one.f b i m z most = some (t, i', m', z) ∧ 0 ≤ i' := by
  obtain ⟨r, i', m', e, h1, _⟩ := draw_n b i m z most h0 hb hm
  unfold spec_l01Src_one.f
  rw [e]
  exact ⟨_, _, _, rfl, h1⟩
theorem draw_pick (b : List Int) (i m z : Int) (l : List ByteArray) (h0 : 0 ≤ i) (hb : b.length ≤ 140737488355328) (hl : 1 ≤ l.length) (hl2 : l.length ≤ 1000) :
    ∃ t i' m', spec_l01Src_pick.f b i m z l = some (t, i', m', z) ∧ 0 ≤ i' ∧ t ∈ l := by
  obtain ⟨r, i', m', e, h1, h2, h3⟩ := draw_n b i m z (l.length : Int) h0 hb (by omega)
  have h4 := h3 (by omega)
  unfold spec_l01Src_pick.f
  rw [e]
  simp only [Option.bind_some]
  rw [if_pos h2, if_pos h4]
  refine ⟨_, _, _, rfl, h1, ?_⟩
  have hr : r.toNat < l.length := by omega
  have er : rdOf ByteArray.empty l r = l[r.toNat] := by
    simp [rdOf, List.getD_eq_getElem?_getD, List.getElem?_eq_getElem hr]
  rw [er]
  exact List.getElem_mem hr
theorem draw_as (d : Nat) : ∀ (k : Nat) (xs : List Int), xs.length + d ≤ 1000 → d < k → ∃ s, spec_DrawPutText.l0 k xs d = some s ∧ s.size ≤ 1000 := by
  induction d with
  | zero =>
    intro k xs h hk
    obtain ⟨k, rfl⟩ : ∃ m, k = m + 1 := ⟨k - 1, by omega⟩
    refine ⟨strOfNums xs, ?_, by rw [strOfNums_size]; omega⟩
    simp only [spec_DrawPutText.l0]
    rw [if_neg (by omega)]
  | succ d ih =>
    intro k xs h hk
    obtain ⟨k, rfl⟩ : ∃ m, k = m + 1 := ⟨k - 1, by omega⟩
    obtain ⟨s, e, hs⟩ := ih k (xs ++ [97]) (by simp; omega) (by omega)
    refine ⟨s, ?_, hs⟩
    have e2 : wrap64 (((d + 1 : Nat) : Int) - 1) = (d : Int) := by unfold wrap64; omega
    simp only [spec_DrawPutText.l0, e2]
    rw [if_pos (by omega), if_pos (by omega)]
    exact e
theorem draw_text (l0 : List Int) (hb : l0.length ≤ 140737488355328) (k : Nat) (hk : 1000 ≤ k) : ∃ s, spec_DrawPutText.f k l0 = some s ∧ s.size ≤ 1000 := by
  obtain ⟨m, z, e⟩ := draw_source l0 hb
  have e' := at_rounds (g := fun k => spec_l01Source.f k l0) (fun k => spec_l01Source.mono l0 k) (by omega : 65 ≤ k) e
  obtain ⟨t, i', m', e2, h2⟩ := draw_one l0 0 m z 20 (by omega) hb (by omega)
  unfold spec_DrawPutText.f
  rw [e']
  simp only [Option.bind_some, e2]
  cases t with
  | true =>
    obtain ⟨r, i2, m2, e3, h3, h4, h5⟩ := draw_n l0 i' m' z 4 h2 hb (by omega)
    have h6 := h5 (by omega)
    rw [if_pos rfl, e3]
    simp only [Option.bind_some]
    have e4 : wrap64 (253 + r) = ((253 + r.toNat : Nat) : Int) := by unfold wrap64; omega
    rw [e4]
    exact draw_as (253 + r.toNat) k [] (by simp; omega) (by omega)
  | false =>
    rw [if_neg (by simp)]
    unfold spec_l01Src_word.f
    obtain ⟨t2, i2, m2, e3, h3⟩ := draw_one l0 i' m' z 30 h2 hb (by omega)
    simp only [e3, Option.bind_some]
    cases t2 with
    | true =>
      rw [if_pos rfl]
      obtain ⟨s, i3, m3, e4, h4, h5⟩ := draw_pick l0 i2 m2 z ([(⟨#[]⟩ : ByteArray), (⟨#[49, 97]⟩ : ByteArray), (⟨#[97, 32, 98]⟩ : ByteArray), (⟨#[97, 98, 99, 100, 101, 102, 103, 104, 105, 106, 107, 108, 109, 110, 111, 112, 113, 114, 115, 116]⟩ : ByteArray), (⟨#[97, 98, 99, 100, 101, 102, 103, 104, 105, 106, 107, 108, 109, 110, 111, 112, 113, 114, 115, 116, 117]⟩ : ByteArray), (⟨#[10]⟩ : ByteArray), (⟨#[255]⟩ : ByteArray)] : List ByteArray) h3 hb (by simp) (by simp)
      rw [e4]
      refine ⟨s, rfl, ?_⟩
      simp only [List.mem_cons, List.not_mem_nil, or_false] at h5
      rcases h5 with rfl | rfl | rfl | rfl | rfl | rfl | rfl <;> decide
    | false =>
      rw [if_neg (by simp)]
      obtain ⟨s, i3, m3, e4, h4, h5⟩ := draw_pick l0 i2 m2 z ([(⟨#[65]⟩ : ByteArray), (⟨#[66]⟩ : ByteArray), (⟨#[79, 98, 106, 101, 99, 116]⟩ : ByteArray), (⟨#[120, 36, 49]⟩ : ByteArray), (⟨#[114, 117, 110]⟩ : ByteArray), (⟨#[102]⟩ : ByteArray), (⟨#[109, 97, 105, 110]⟩ : ByteArray)] : List ByteArray) h3 hb (by simp) (by simp)
      rw [e4]
      refine ⟨s, rfl, ?_⟩
      simp only [List.mem_cons, List.not_mem_nil, or_false] at h5
      rcases h5 with rfl | rfl | rfl | rfl | rfl | rfl | rfl <;> decide
theorem FnTexts : laws_FnTexts.Pure := by
  intro l0 l1 _ hb0 _ _ hb1 _
  refine ⟨1202, ?_⟩
  unfold laws_FnTexts.f
  have hskip : ∀ (b : Bool), b = true → laws_FnTexts.j0 1202 l0 l1 b = some true := fun b h => by
    simp only [laws_FnTexts.j0]; rw [if_pos h]
  by_cases c0 : (l0.length : Int) > 1048576
  · rw [if_pos c0]; exact hskip _ rfl
  rw [if_neg c0]
  by_cases c1 : (l1.length : Int) > 1048576
  · exact hskip _ (decide_eq_true c1)
  rw [decide_eq_false c1]
  simp only [laws_FnTexts.j0]
  rw [if_neg (by simp)]
  obtain ⟨x, ex, hx⟩ := draw_text l0 (by omega) 1201 (by omega)
  obtain ⟨y, ey, hy⟩ := draw_text l1 (by omega) 1201 (by omega)
  obtain ⟨p, hp, p1, p2⟩ := puttext_same x (by omega)
  obtain ⟨q, hq, q1, q2⟩ := puttext_same y (by omega)
  rw [ex, ey]
  simp only [Option.bind_some, p1 1201 (by omega), q1 1201 (by omega)]
  have hsame : laws_FnTexts.j1 1201 x y true = some true := by
    simp only [laws_FnTexts.j1]
    rw [if_pos trivial, p2 1200 (by omega), p1 1200 (by omega)]
    simp
  have hne : ∀ s : ByteArray, ¬ (putted s true).toList = [] := fun s h => by
    have h1 := (str_nil _).mp h
    rw [putted_size] at h1
    omega
  have hnil : ∀ s : ByteArray, (putted s false).toList = [] := fun s => by
    unfold putted
    rw [if_neg (by simp)]
    simp
  cases p with
  | false => rw [if_pos (hnil x)]; exact hsame
  | true =>
    rw [if_neg (hne x)]
    cases q with
    | false =>
      have e : ((putted y false).toList == ([] : List UInt8)) = true := by rw [beq_iff_eq]; exact hnil y
      rw [e]; exact hsame
    | true =>
      have e : ((putted y true).toList == ([] : List UInt8)) = false := by rw [beq_eq_false_iff_ne]; exact hne y
      rw [e]
      obtain ⟨hx1, hx2⟩ := hp rfl
      obtain ⟨hy1, hy2⟩ := hq rfl
      have zx := putted_size x
      have zy := putted_size y
      have g1 := gettext_at ⟨#[]⟩ x (putted y true) hx1 hx2 (by rw [ByteArray.size_append, ByteArray.size_append, zx, zy]; show 0 + _ + _ ≤ _; omega) 1200 (by omega)
      have g2 := gettext_at (putted x true) y ⟨#[]⟩ hy1 hy2 (by rw [ByteArray.size_append, ByteArray.size_append, zx, zy]; show _ + 0 ≤ _; omega) 1200 (by omega)
      have n1 : (⟨#[]⟩ : ByteArray) ++ putted x true = putted x true := ByteArray.empty_append
      have n2 : (putted x true ++ putted y true) ++ (⟨#[]⟩ : ByteArray) = putted x true ++ putted y true := ByteArray.append_empty
      rw [n1] at g1
      rw [n2, zx] at g2
      have z0 : (((⟨#[]⟩ : ByteArray).size : Nat) : Int) = 0 := rfl
      rw [z0] at g1
      have a1 : (0 : Int) + 1 + (x.size : Int) = ((1 + x.size : Nat) : Int) := by omega
      rw [a1] at g1
      simp only [laws_FnTexts.j1]
      rw [if_neg (by simp), p2 1200 (by omega), q2 1200 (by omega)]
      simp only [Option.bind_some]
      rw [if_pos (by omega), g1]
      simp only [Option.bind_some]
      rw [g2]
      simp only [Option.bind_some]
      rw [if_pos trivial, if_pos trivial, ByteArray.size_append, zx, zy]
      simp
      omega

end Go.Proofs.Ytkijcgeicdldgaa.Pure
