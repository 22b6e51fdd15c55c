/- The law FnNums returns true for every list of bytes (a slice that the model can read). -/
import Derived.Test.YtkijcgeicdldgaaPFnNumsx4
namespace Go.Proofs.Ytkijcgeicdldgaa.Pure
open Go.RowKit Go.Proofs.Ytkijcgeicdldgaa.PFnNums Go.Proofs.YtkijcgeicdldgaaW.PrintWords Go.Proofs.YtkijcgeicdldgaaW.PrintLast
set_option linter.unusedVariables false
set_option linter.unusedSimpArgs false

theorem put_1 (n : Int) : impl_put.f 2 n 1 = some (strOfNums [n % 256]) := by
  simp [impl_put.f, impl_put.l0, wrap64]
theorem put_2 (n : Int) : impl_put.f 3 n 2 = some (strOfNums [n / 256 % 256, n % 256]) := by
  simp [impl_put.f, impl_put.l0, wrap64, List.replicate]
theorem put_4 (n : Int) : impl_put.f 5 n 4 = some (strOfNums [n / 256 / 256 / 256 % 256, n / 256 / 256 % 256, n / 256 % 256, n % 256]) := by
  simp [impl_put.f, impl_put.l0, wrap64, List.replicate]

theorem bt_append_left (a b : ByteArray) (i : Int) (h : i.toNat < a.size) : bt (a ++ b) i = bt a i := by
  have h2 : i.toNat < (a ++ b).size := by rw [ByteArray.size_append]; omega
  unfold bt
  rw [dif_pos h2, dif_pos h]
  congr 2
  exact ByteArray.getElem_append_left h
theorem bt_append_right (a b : ByteArray) (i : Int) (h0 : 0 ≤ i) (h : (a.size : Int) ≤ i) : bt (a ++ b) i = bt b (i - a.size) := by
  have e : (i - a.size).toNat = i.toNat - a.size := by omega
  unfold bt
  by_cases c : i.toNat - a.size < b.size
  · have h2 : i.toNat < (a ++ b).size := by rw [ByteArray.size_append]; omega
    rw [dif_pos h2, dif_pos (by rw [e]; exact c)]
    congr 2
    rw [ByteArray.getElem_append_right (by omega)]
    congr 1
    exact e.symm
  · have h2 : ¬ i.toNat < (a ++ b).size := by rw [ByteArray.size_append]; omega
    rw [dif_neg h2, dif_neg (by rw [e]; exact c)]
theorem bt_str (xs : List Int) (i : Int) (hx : ∀ x ∈ xs, 0 ≤ x ∧ x < 256) (h : i.toNat < xs.length) : bt (strOfNums xs) i = xs[i.toNat] := by
  have h2 : i.toNat < (strOfNums xs).size := by rw [strOfNums_size]; exact h
  unfold bt
  rw [dif_pos h2]
  have e : (strOfNums xs)[i.toNat] = UInt8.ofNat (xs[i.toNat]).toNat := by
    show (strOfNums xs).data[i.toNat] = _
    simp [strOfNums]
  rw [e]
  have := hx _ (List.getElem_mem h)
  simp
  omega

theorem is_text (s : ByteArray) : impl_isText.f 2 [s] = some (decide (s.size ≤ 20000)) := by
  by_cases h : s.size ≤ 20000
  · simp [impl_isText.f, impl_isText.l0, rdOf, wrap64, h]
    omega
  · simp [impl_isText.f, impl_isText.l0, rdOf, wrap64, h]
    omega
theorem i64_bounds {a : Int} (ha : (Lit.int .i64 a).wf = true) : -9223372036854775808 ≤ a ∧ a ≤ 9223372036854775807 := by
  have e1 : IntKind.i64.min = -9223372036854775808 := by decide
  have e2 : IntKind.i64.max = 9223372036854775807 := by decide
  simp only [Lit.wf, e1, e2, Bool.and_eq_true, decide_eq_true_eq] at ha
  exact ha

theorem num_step (s : ByteArray) (a m n i : Int) (k : Nat) (h1 : i < a + m) (h0 : 0 ≤ i) (hm : a + m ≤ s.size) (hs : s.size ≤ 20000) (hn : 0 ≤ n ∧ n ≤ 4294967296) :
    impl_numberAt.l0 (k + 1) s a m n i = impl_numberAt.l0 k s a m (n * 256 + bt s i) (i + 1) := by
  have hb := bt_range s i
  have e1 : i < wrap64 (a + m) ∨ a + m < 0 := by unfold wrap64; omega
  rcases e1 with e1 | e1
  · simp only [impl_numberAt.l0]
    rw [if_pos e1, if_pos h0, if_pos (by omega)]
    have e2 : wrap64 (wrap64 (n * 256) + wrap64 (bt s i)) = n * 256 + bt s i := by unfold wrap64; omega
    have e3 : wrap64 (i + 1) = i + 1 := by unfold wrap64; omega
    rw [e2, e3]
  · omega
theorem num_end (s : ByteArray) (a m n i : Int) (k : Nat) (h1 : i = a + m) (h0 : 0 ≤ i) (hm : a + m ≤ s.size) (hs : s.size ≤ 20000) :
    impl_numberAt.l0 (k + 1) s a m n i = some (n, a + m, 0) := by
  have e1 : wrap64 (a + m) = a + m := by unfold wrap64; omega
  simp only [impl_numberAt.l0]
  rw [e1, if_neg (by omega)]
theorem num_at (s : ByteArray) (a m : Int) (k : Nat) (h0 : 0 ≤ a) (hm : a + m ≤ s.size) (h1 : 0 ≤ m) (hs : s.size ≤ 20000) (hk : 2 ≤ k) :
    impl_numberAt.f k s a m = impl_numberAt.l0 k s a m 0 a := by
  have e1 : wrap64 ((s.size : Int) - m) = (s.size : Int) - m := by unfold wrap64; omega
  unfold impl_numberAt.f
  rw [at_rounds (impl_isText.mono [s]) hk (is_text s)]
  simp only [Option.bind_some, impl_length.f, e1]
  rw [if_pos (by simpa using hs), if_neg (by omega), if_neg (by omega)]
theorem num_short (s : ByteArray) (a m : Int) (k : Nat) (h0 : 0 ≤ a) (hm : a + m > s.size) (h1 : 0 ≤ m) (h2 : m ≤ 8) (hs : s.size ≤ 20000) (hk : 2 ≤ k) :
    impl_numberAt.f k s a m = some (0, 0, 4) := by
  have e1 : wrap64 ((s.size : Int) - m) = (s.size : Int) - m := by unfold wrap64; omega
  unfold impl_numberAt.f
  rw [at_rounds (impl_isText.mono [s]) hk (is_text s)]
  simp only [Option.bind_some, impl_length.f, e1]
  rw [if_pos (by simpa using hs), if_neg (by omega), if_pos (by omega)]
theorem num_1 (s : ByteArray) (a : Int) (k : Nat) (h0 : 0 ≤ a) (hm : a + 1 ≤ s.size) (hs : s.size ≤ 20000) :
    impl_numberAt.f (k + 2) s a 1 = some (bt s a, a + 1, 0) := by
  rw [num_at s a 1 _ h0 hm (by omega) hs (by omega), num_step s a 1 _ _ (k + 1) (by omega) (by omega) hm hs (by omega), num_end s a 1 _ _ k (by omega) (by omega) hm hs]
  simp
theorem num_2 (s : ByteArray) (a : Int) (k : Nat) (h0 : 0 ≤ a) (hm : a + 2 ≤ s.size) (hs : s.size ≤ 20000) :
    impl_numberAt.f (k + 3) s a 2 = some (bt s a * 256 + bt s (a + 1), a + 2, 0) := by
  have b0 := bt_range s a
  rw [num_at s a 2 _ h0 hm (by omega) hs (by omega), num_step s a 2 _ _ (k + 2) (by omega) (by omega) hm hs (by omega), num_step s a 2 _ _ (k + 1) (by omega) (by omega) hm hs (by omega), num_end s a 2 _ _ k (by omega) (by omega) hm hs]
  simp
theorem num_4 (s : ByteArray) (a : Int) (k : Nat) (h0 : 0 ≤ a) (hm : a + 4 ≤ s.size) (hs : s.size ≤ 20000) :
    impl_numberAt.f (k + 5) s a 4 = some (((bt s a * 256 + bt s (a + 1)) * 256 + bt s (a + 2)) * 256 + bt s (a + 3), a + 4, 0) := by
  have b0 := bt_range s a
  have b1 := bt_range s (a + 1)
  have b2 := bt_range s (a + 2)
  have e2 : a + 1 + 1 = a + 2 := by omega
  have e3 : a + 2 + 1 = a + 3 := by omega
  have e4 : a + 3 + 1 = a + 4 := by omega
  rw [num_at s a 4 _ h0 hm (by omega) hs (by omega), num_step s a 4 _ _ (k + 4) (by omega) (by omega) hm hs (by omega), num_step s a 4 _ _ (k + 3) (by omega) (by omega) hm hs (by omega), e2,
    num_step s a 4 _ _ (k + 2) (by omega) (by omega) hm hs (by omega), e3, num_step s a 4 _ _ (k + 1) (by omega) (by omega) hm hs (by omega), e4, num_end s a 4 _ _ k (by omega) (by omega) hm hs]
  simp

theorem u64_w (n : Int) : IntKind.u64.wrap n = n % 18446744073709551616 := IntKind.wrap_u64 n
theorem draw_n (b : List Int) (i m z : Int) (most : Int) (h0 : 0 ≤ i) (hb : b.length ≤ 140737488355328) (hm : most ≤ 9223372036854775807) :
    ∃ r i' m', spec_l01Src_n.f b i m z most = some (r, i', m', z) ∧ 0 ≤ i' ∧ 0 ≤ r ∧ (1 ≤ most → r < most) := by
  unfold spec_l01Src_n.f
  by_cases c1 : most ≤ 1
  · rw [if_pos c1]
    exact ⟨_, _, _, rfl, h0, by omega, fun h => by omega⟩
  · rw [if_neg c1]
    have e1 : IntKind.u64.wrap most = most := by rw [u64_w]; omega
    have key : ∀ X : Int, 0 ≤ wrap64 (Int.tmod (IntKind.u64.wrap X) most) ∧ wrap64 (Int.tmod (IntKind.u64.wrap X) most) < most := by
      intro X
      have hx : 0 ≤ IntKind.u64.wrap X := by rw [u64_w]; omega
      rw [Int.tmod_eq_emod_of_nonneg hx]
      have a1 := Int.emod_nonneg (IntKind.u64.wrap X) (b := most) (by omega)
      have a2 := Int.emod_lt_of_pos (IntKind.u64.wrap X) (b := most) (by omega)
      have e : wrap64 (IntKind.u64.wrap X % most) = IntKind.u64.wrap X % most := by unfold wrap64; omega
      rw [e]
      exact ⟨a1, a2⟩
    rw [e1]
    by_cases c2 : i < (b.length : Int)
    · rw [if_pos c2, if_pos h0, if_neg (by omega)]
      refine ⟨_, _, _, rfl, ?_, (key _).1, fun _ => (key _).2⟩
      unfold wrap64; omega
    · rw [if_neg c2, if_neg (by omega)]
      exact ⟨_, _, _, rfl, h0, (key _).1, fun _ => (key _).2⟩
theorem draw_loop (l0 : List Int) (hb : l0.length ≤ 140737488355328) (d : Nat) : ∀ (k : Nat) (i m : Int), 0 ≤ i → i + d = 64 → d < k → ∃ m' z, spec_l01Source.l0 k l0 i l0 0 m 0 = some (l0, 0, m', z) := by
  have fin : ∀ m : Int, ∃ m' z, (if (wrap64 ((l0.length : Int) / 20)) > 12 then (some (l0, (0 : Int), m, (12 : Int))) else (some (l0, 0, m, wrap64 ((l0.length : Int) / 20)))) = some (l0, 0, m', z) := by
    intro m
    split
    · exact ⟨_, _, rfl⟩
    · exact ⟨_, _, rfl⟩
  induction d with
  | zero =>
    intro k i m h0 h1 hk
    obtain ⟨k, rfl⟩ : ∃ m, k = m + 1 := ⟨k - 1, by omega⟩
    simp only [spec_l01Source.l0]
    by_cases c1 : i < (l0.length : Int)
    · rw [if_pos c1, if_neg (by omega)]; exact fin m
    · rw [if_neg c1]; exact fin m
  | succ d ih =>
    intro k i m h0 h1 hk
    obtain ⟨k, rfl⟩ : ∃ m, k = m + 1 := ⟨k - 1, by omega⟩
    simp only [spec_l01Source.l0]
    by_cases c1 : i < (l0.length : Int)
    · rw [if_pos c1, if_pos (by omega), if_pos h0]
      have e : wrap64 (i + 1) = i + 1 := by unfold wrap64; omega
      rw [e]
      exact ih k _ _ (by omega) (by omega) (by omega)
    · rw [if_neg c1]; exact fin m
theorem draw_source (l0 : List Int) (hb : l0.length ≤ 140737488355328) : ∃ m z, spec_l01Source.f 65 l0 = some (l0, 0, m, z) := draw_loop l0 hb 64 65 0 _ (by omega) (by omega) (by omega)

theorem draw_edge (b : List Int) (i m z : Int) (h0 : 0 ≤ i) (hb : b.length ≤ 140737488355328) : ∃ r i' m', spec_l01Src_edge.f b i m z = some (r, i', m', z) ∧ 0 ≤ i' := by
  obtain ⟨r, i', m', e, h1, h2, h3⟩ := draw_n b i m z 14 h0 hb (by omega)
  have h4 := h3 (by omega)
  unfold spec_l01Src_edge.f
  simp only [Option.bind_some, e]
  rw [if_pos h2, if_pos (by simpa using h4)]
  exact ⟨_, _, _, rfl, h1⟩
theorem draw_number (b : List Int) (i m z : Int) (h0 : 0 ≤ i) (hb : b.length ≤ 140737488355328) : ∃ r i' m', spec_l01Src_number.f b i m z = some (r, i', m', z) ∧ 0 ≤ i' := by
  obtain ⟨r, i', m', e, h1, h2, h3⟩ := draw_n b i m z 6 h0 hb (by omega)
  unfold spec_l01Src_number.f
  simp only [Option.bind_some, e]
  by_cases c1 : r = 0
  · obtain ⟨r2, i2, m2, e2, h4⟩ := draw_edge b i' m' z h1 hb
    rw [if_pos c1, e2]
    exact ⟨_, _, _, rfl, h4⟩
  · rw [if_neg c1]
    by_cases c2 : r = 1
    · obtain ⟨r2, i2, m2, e2, h4, h5, h6⟩ := draw_n b i' m' z 10 h1 hb (by omega)
      have h7 := h6 (by omega)
      rw [if_pos c2, e2]
      simp only [Option.bind_some]
      rw [if_pos h5, if_pos (by simpa using h7)]
      exact ⟨_, _, _, rfl, h4⟩
    · obtain ⟨r2, i2, m2, e2, h4, h5, h6⟩ := draw_n b i' m' z 300 h1 hb (by omega)
      rw [if_neg c2, e2]
      exact ⟨_, _, _, rfl, h4⟩
theorem draw_put4 (l0 : List Int) (hb : l0.length ≤ 140737488355328) : ∃ n, spec_DrawPut4.f 65 l0 = some n := by
  obtain ⟨m, z, e⟩ := draw_source l0 hb
  obtain ⟨r, i', m', e2, _⟩ := draw_number l0 0 m z (by omega) hb
  unfold spec_DrawPut4.f
  rw [e]
  simp only [Option.bind_some, e2]
  exact ⟨_, rfl⟩

theorem nums_4 (n : Int) (hn : -2147483648 ≤ n ∧ n ≤ 2147483647) (k : Nat) :
    impl_Put4.f (k + 5) n = some (strOfNums [n / 256 / 256 / 256 % 256, n / 256 / 256 % 256, n / 256 % 256, n % 256]) := by
  have hp := at_rounds (k' := k + 5) (impl_put.mono n 4) (by omega) (put_4 n)
  unfold impl_Put4.f impl_isInt.f impl_within.f
  rw [if_pos (by omega), hp]
  simp [hn.2]
theorem nums_j4 (n : Int) (k : Nat) (x : Bool) (hx : x = decide (n < 0 ∨ n > 255)) : laws_FnNums.j4 (k + 4) n x = some true := by
  have hp := at_rounds (k' := k + 3) (impl_put.mono n 1) (by omega) (put_1 n)
  simp only [laws_FnNums.j4]
  unfold impl_Put1.f impl_within.f
  by_cases c : n < 0 ∨ n > 255
  · rw [hx, decide_eq_true c, if_pos rfl]
    by_cases c1 : n ≥ 0
    · rw [if_pos c1, decide_eq_false (by omega)]; simp
    · rw [if_neg c1]; simp
  · rw [hx, decide_eq_false c, if_neg (by simp), if_pos (by omega), decide_eq_true (by omega)]
    simp only [Option.bind_some, if_true, hp]
    have hz : (strOfNums [n % 256]).size = 1 := strOfNums_size _
    unfold impl_Get1.f
    rw [num_1 _ 0 (k + 1) (by omega) (by omega) (by omega)]
    have hbt : bt (strOfNums [n % 256]) 0 = n % 256 := by
      rw [bt_str _ _ (by simp; omega) (by simp)]; simp
    rw [hbt]
    have e : n % 256 = n := by omega
    simp [e]
theorem nums_j3 (n : Int) (k : Nat) : laws_FnNums.j3 (k + 5) n = some true := by
  simp only [laws_FnNums.j3]
  by_cases c : n < 0
  · rw [if_pos c]; exact nums_j4 n k true (by simp [c])
  · rw [if_neg c]; exact nums_j4 n k _ (by simp [c])
theorem nums_j2 (n : Int) (k : Nat) (x : Bool) (hx : x = decide (0 ≤ n ∧ n ≤ 65535)) : laws_FnNums.j2 (k + 6) n x = some true := by
  have hp := at_rounds (k' := k + 5) (impl_put.mono n 2) (by omega) (put_2 n)
  simp only [laws_FnNums.j2]
  unfold impl_Put2.f impl_within.f
  by_cases c : 0 ≤ n ∧ n ≤ 65535
  · rw [hx, decide_eq_true c, if_pos rfl, if_pos (by omega), decide_eq_true (by omega)]
    rw [Option.bind_some, if_pos rfl, hp, Option.bind_some, Option.bind_some]
    have hz : (strOfNums [n / 256 % 256, n % 256]).size = 2 := strOfNums_size _
    rw [hz, if_pos (by omega), if_pos (by omega)]
    have hz2 : (strOfNums [n / 256 % 256, n % 256] ++ (⟨#[120]⟩ : ByteArray)).size = 3 := by rw [ByteArray.size_append, hz]; rfl
    unfold impl_Get2.f
    rw [num_2 _ 0 (k + 2) (by omega) (by omega) (by omega)]
    have b0 : bt (strOfNums [n / 256 % 256, n % 256] ++ (⟨#[120]⟩ : ByteArray)) 0 = n / 256 % 256 := by
      rw [bt_append_left _ _ _ (by omega), bt_str _ _ (by simp; omega) (by simp)]; simp
    have b1 : bt (strOfNums [n / 256 % 256, n % 256] ++ (⟨#[120]⟩ : ByteArray)) (0 + 1) = n % 256 := by
      rw [bt_append_left _ _ _ (by omega), bt_str _ _ (by simp; omega) (by simp)]; simp
    rw [b0, b1]
    have e : n / 256 % 256 * 256 + n % 256 = n := by omega
    rw [Option.bind_some, Option.bind_some, e, if_neg (by simp)]
    exact nums_j3 n k
  · rw [hx, decide_eq_false c, if_neg (by simp)]
    have e : (if n ≥ 0 then some (decide (n ≤ 65535)) else some false) = some false := by
      by_cases c1 : n ≥ 0
      · rw [if_pos c1, decide_eq_false (by omega)]
      · rw [if_neg c1]
    rw [e, Option.bind_some, if_neg (by simp), Option.bind_some, if_pos (by simp)]
    exact nums_j3 n k
theorem nums_j1 (n : Int) (k : Nat) : laws_FnNums.j1 (k + 7) n = some true := by
  simp only [laws_FnNums.j1]
  by_cases c : n ≥ 0
  · rw [if_pos c]; exact nums_j2 n k _ (decide_eq_decide.mpr (by omega))
  · rw [if_neg c]; exact nums_j2 n k false (by rw [decide_eq_false (by omega)])
theorem nums_j0 (n : Int) (k : Nat) (x : Bool) (hx : x = decide (-2147483648 ≤ n ∧ n ≤ 2147483647)) : laws_FnNums.j0 (k + 8) n x = some true := by
  simp only [laws_FnNums.j0]
  by_cases c : -2147483648 ≤ n ∧ n ≤ 2147483647
  · rw [hx, decide_eq_true c, if_pos rfl, nums_4 n c (k + 2), Option.bind_some]
    obtain ⟨s, hs⟩ : ∃ s, s = strOfNums [n / 256 / 256 / 256 % 256, n / 256 / 256 % 256, n / 256 % 256, n % 256] := ⟨_, rfl⟩
    have hz : s.size = 4 := by rw [hs]; exact strOfNums_size _
    have d0 : bt s 0 = n / 256 / 256 / 256 % 256 := by rw [hs, bt_str _ _ (by simp; omega) (by simp)]; simp
    have d1 : bt s 1 = n / 256 / 256 % 256 := by rw [hs, bt_str _ _ (by simp; omega) (by simp)]; simp
    have d2 : bt s 2 = n / 256 % 256 := by rw [hs, bt_str _ _ (by simp; omega) (by simp)]; simp
    have d3 : bt s 3 = n % 256 := by rw [hs, bt_str _ _ (by simp; omega) (by simp)]; simp
    rw [← hs, hz, if_pos (by omega), if_pos (by omega)]
    have hq : ((⟨#[120]⟩ : ByteArray).size) = 1 := rfl
    obtain ⟨t, ht⟩ : ∃ t, t = (⟨#[120]⟩ : ByteArray) ++ s := ⟨_, rfl⟩
    have hz2 : t.size = 5 := by rw [ht, ByteArray.size_append, hz]; rfl
    have b0 : bt t 1 = n / 256 / 256 / 256 % 256 := by rw [ht, bt_append_right _ _ _ (by omega) (by omega), hq]; exact d0
    have b1 : bt t (1 + 1) = n / 256 / 256 % 256 := by rw [ht, bt_append_right _ _ _ (by omega) (by omega), hq]; exact d1
    have b2 : bt t (1 + 2) = n / 256 % 256 := by rw [ht, bt_append_right _ _ _ (by omega) (by omega), hq]; exact d2
    have b3 : bt t (1 + 3) = n % 256 := by rw [ht, bt_append_right _ _ _ (by omega) (by omega), hq]; exact d3
    rw [← ht]
    unfold impl_Get4.f
    rw [num_4 t 1 (k + 2) (by omega) (by omega) (by omega), num_short s 1 4 (k + 7) (by omega) (by omega) (by omega) (by omega) (by omega) (by omega), b0, b1, b2, b3]
    have e : wrap64 (wrap32 ((((n / 256 / 256 / 256 % 256 * 256 + n / 256 / 256 % 256) * 256 + n / 256 % 256) * 256 + n % 256) % 4294967296)) = n := by
      unfold wrap64 wrap32; omega
    rw [Option.bind_some, Option.bind_some, e, if_neg (by simp), Option.bind_some, Option.bind_some, if_pos rfl]
    exact nums_j1 n k
  · rw [hx, decide_eq_false c, if_neg (by simp)]
    have e : impl_Put4.f (k + 7) n = some (⟨#[]⟩ : ByteArray) := by
      unfold impl_Put4.f impl_isInt.f impl_within.f
      by_cases c1 : n ≥ -2147483648
      · rw [if_pos c1, decide_eq_false (by omega)]; simp
      · rw [if_neg c1]; simp
    rw [e, Option.bind_some, if_pos (by simp)]
    exact nums_j1 n k
theorem FnNums : laws_FnNums.Pure := by
  intro l0 _ hb _
  have hb' : l0.length ≤ 140737488355328 := by omega
  obtain ⟨n, hn⟩ := draw_put4 l0 hb'
  refine ⟨65 + 8, ?_⟩
  unfold laws_FnNums.f
  by_cases hbig : (l0.length : Int) > 1048576
  · rw [if_pos hbig]
  rw [if_neg hbig, at_rounds (spec_DrawPut4.mono l0) (show 65 ≤ 65 + 8 by omega) hn]
  simp only [Option.bind_some]
  by_cases c : n ≥ -2147483648
  · rw [if_pos c]; exact nums_j0 n 65 _ (decide_eq_decide.mpr (by omega))
  · rw [if_neg c]; exact nums_j0 n 65 false (by rw [decide_eq_false (by omega)])

end Go.Proofs.Ytkijcgeicdldgaa.Pure
