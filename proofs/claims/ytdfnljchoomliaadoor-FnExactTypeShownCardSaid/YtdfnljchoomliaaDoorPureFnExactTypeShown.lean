/- The program's TypeShown returns what the reference's returns, for every type that the model can read. -/
import Derived.Test.YtdfnljchoomliaaDoorPFnExactTypeShownx1
namespace Go.Proofs.YtdfnljchoomliaaDoor.Pure
open Go.RowKit Go.Proofs.YtdfnljchoomliaaDoor.PFnExactTypeShown Go.Proofs.YtdfnljchoomliaaDoorW.PrintWords Go.Proofs.YtdfnljchoomliaaDoorW.PrintLast
set_option linter.unusedVariables false
set_option linter.unusedSimpArgs false

theorem i64_in {a : Int} (ha : (Lit.int .i64 a).wf = true) : -9223372036854775808 ≤ a ∧ a ≤ 9223372036854775807 := by
  have e1 : IntKind.i64.min = -9223372036854775808 := by decide
  have e2 : IntKind.i64.max = 9223372036854775807 := by decide
  simp only [Lit.wf, e1, e2, Bool.and_eq_true, decide_eq_true_eq] at ha
  exact ha
/-- The decimal digits as a text. -/
def digT (u : Nat) : ByteArray := ⟨(Lib.decDigits u).toArray⟩
def decT (n : Int) : ByteArray := ⟨(Lib.itoa n).toArray⟩
theorem digT_small (u : Nat) (h : u < 10) : digT u = ⟨#[UInt8.ofNat (48 + u)]⟩ := by unfold digT; rw [Lib.decDigits_one h]
theorem digT_big (u : Nat) (h : ¬ u < 10) : digT u = digT (u / 10) ++ ⟨#[UInt8.ofNat (48 + u % 10)]⟩ := by
  unfold digT
  rw [show Lib.decDigits u = Lib.decDigits (u / 10) ++ [UInt8.ofNat (48 + u % 10)] by rw [Lib.decDigits, dif_neg h]]
  apply ByteArray.ext
  rw [ByteArray.data_append]
  simp
theorem strOf_digit (u : Nat) : strOfNums [(wrap64 (48 + ((u % 10 : Nat) : Int))) % 256] = ⟨#[UInt8.ofNat (48 + u % 10)]⟩ := by
  have e : (wrap64 (48 + ((u % 10 : Nat) : Int))) % 256 = ((48 + u % 10 : Nat) : Int) := by unfold wrap64; omega
  rw [e]
  rfl
theorem tmod_abs (n : Int) : (0 ≤ n → Int.tmod n 10 = ((n.natAbs % 10 : Nat) : Int) ∧ Int.tdiv n 10 = ((n.natAbs / 10 : Nat) : Int)) ∧ (n < 0 → Int.tmod n 10 = -((n.natAbs % 10 : Nat) : Int) ∧ Int.tdiv n 10 = -((n.natAbs / 10 : Nat) : Int)) := by
  have key : ∀ u : Nat, Int.tmod (u : Int) 10 = ((u % 10 : Nat) : Int) ∧ Int.tdiv (u : Int) 10 = ((u / 10 : Nat) : Int) := fun u => ⟨rfl, rfl⟩
  constructor
  · intro h
    obtain ⟨u, rfl⟩ : ∃ u : Nat, n = u := ⟨n.toNat, by omega⟩
    exact key u
  · intro h
    obtain ⟨u, rfl⟩ : ∃ u : Nat, n = -(u : Int) := ⟨n.natAbs, by omega⟩
    rw [Int.neg_tmod, Int.neg_tdiv, Int.natAbs_neg]
    exact ⟨by rw [(key u).1]; rfl, by rw [(key u).2]; rfl⟩
def decFin (neg : Bool) (s : ByteArray) : ByteArray := if neg = true then (⟨#[45]⟩ : ByteArray) ++ s else s
theorem dec_end (k : Nat) (neg : Bool) (s : ByteArray) (h : s.size ≤ 50) : spec_l01Dec.l0 (k + 1) 0 neg s = some (decFin neg s) := by
  unfold spec_l01Dec.l0 decFin
  rw [if_pos rfl]
  cases neg
  · rfl
  · rw [if_pos rfl, if_pos (by omega), if_pos rfl]
theorem dec_run : ∀ (f u k : Nat) (n : Int) (neg : Bool) (out : ByteArray), n.natAbs = u → 1 ≤ u → u < 10 ^ f → f < k → out.size + f ≤ 40 → -9223372036854775808 ≤ n → n ≤ 9223372036854775807 →
    spec_l01Dec.l0 k n neg out = some (decFin neg (digT u ++ out))
  | 0, u, k, n, neg, out, _, h1, h2, _, _, _, _ => by simp at h2; omega
  | f + 1, u, k, n, neg, out, hu, h1, h2, hk, ho, hl, hh => by
    obtain ⟨k, rfl⟩ : ∃ m, k = m + 1 := ⟨k - 1, by omega⟩
    have hs : ∀ y : List Int, (strOfNums y).size = y.length := strOfNums_size
    have step : ∀ d : ByteArray, d = ⟨#[UInt8.ofNat (48 + u % 10)]⟩ → spec_l01Dec.l0 k (wrap64 (Int.tdiv n 10)) neg (d ++ out) = some (decFin neg (digT u ++ out)) := by
      intro d hd
      have hz : (d ++ out).size = 1 + out.size := by rw [ByteArray.size_append, hd]; rfl
      by_cases h10 : u < 10
      · have e0 : wrap64 (Int.tdiv n 10) = 0 := by
          have h3 := tmod_abs n
          by_cases hn : 0 ≤ n
          · rw [(h3.1 hn).2]; unfold wrap64; omega
          · rw [(h3.2 (by omega)).2]; unfold wrap64; omega
        obtain ⟨k, rfl⟩ : ∃ m, k = m + 1 := ⟨k - 1, by omega⟩
        rw [e0, dec_end k neg _ (by omega), hd, digT_small u h10, Nat.mod_eq_of_lt h10]
      · have h3 := tmod_abs n
        have e1 : (wrap64 (Int.tdiv n 10)).natAbs = u / 10 ∧ -9223372036854775808 ≤ wrap64 (Int.tdiv n 10) ∧ wrap64 (Int.tdiv n 10) ≤ 9223372036854775807 := by
          by_cases hn : 0 ≤ n
          · rw [(h3.1 hn).2]; unfold wrap64; omega
          · rw [(h3.2 (by omega)).2]; unfold wrap64; omega
        rw [dec_run f (u / 10) k _ neg (d ++ out) e1.1 (by omega) (by rw [Nat.pow_succ] at h2; omega) (by omega) (by omega) e1.2.1 e1.2.2, digT_big u h10, hd, ByteArray.append_assoc]
    have h3 := tmod_abs n
    unfold spec_l01Dec.l0
    rw [if_neg (by omega)]
    by_cases hn : 0 ≤ n
    · rw [if_neg (by rw [(h3.1 hn).1]; omega)]
      simp only [Option.bind_some]
      rw [(h3.1 hn).1, hu, strOf_digit]
      rw [if_pos (by have : (⟨#[UInt8.ofNat (48 + u % 10)]⟩ : ByteArray).size = 1 := rfl
                     omega)]
      exact step _ rfl
    · have h4 := (h3.2 (by omega)).1
      by_cases hd : Int.tmod n 10 < 0
      · rw [if_pos hd]
        simp only [Option.bind_some]
        rw [h4, Int.neg_neg, show wrap64 ((n.natAbs % 10 : Nat) : Int) = ((n.natAbs % 10 : Nat) : Int) by unfold wrap64; omega, hu, strOf_digit]
        rw [if_pos (by have : (⟨#[UInt8.ofNat (48 + u % 10)]⟩ : ByteArray).size = 1 := rfl
                       omega)]
        exact step _ rfl
      · rw [if_neg hd]
        simp only [Option.bind_some]
        rw [show Int.tmod n 10 = ((u % 10 : Nat) : Int) by omega, strOf_digit]
        rw [if_pos (by have : (⟨#[UInt8.ofNat (48 + u % 10)]⟩ : ByteArray).size = 1 := rfl
                       omega)]
        exact step _ rfl
/-- The reference's own digits are the numeral. -/
theorem spec_dec (n : Int) (hl : -9223372036854775808 ≤ n) (hh : n ≤ 9223372036854775807) (k : Nat) (hk : 20 < k) : spec_l01Dec.f k n = some (decT n) := by
  unfold spec_l01Dec.f
  by_cases h0 : n = 0
  · rw [if_pos h0, h0]
    exact congrArg some (show (⟨#[48]⟩ : ByteArray) = decT 0 by unfold decT Lib.itoa; rw [if_neg (by omega), show (0 : Int).toNat = 0 from rfl, Lib.decDigits_one (by omega)]; rfl)
  · rw [if_neg h0, dec_run 20 n.natAbs k n _ ⟨#[]⟩ rfl (by omega) (by have : (10 : Nat) ^ 20 = 100000000000000000000 := by decide
                                                                      omega) hk (by show 0 + 20 ≤ 40; omega) hl hh]
    have ea : digT n.natAbs ++ (⟨#[]⟩ : ByteArray) = digT n.natAbs := ByteArray.append_empty
    rw [ea]
    refine congrArg some ?_
    unfold decFin decT Lib.itoa
    by_cases hn : n < 0
    · rw [if_pos (decide_eq_true hn), if_pos hn]
      apply ByteArray.ext
      rw [ByteArray.data_append]
      simp [digT]
    · rw [if_neg (by simp; omega), if_neg hn, show n.natAbs = n.toNat by omega]
      rfl
theorem dig_len : ∀ (f u : Nat), u < 10 ^ (f + 1) → (Lib.decDigits u).length ≤ f + 1
  | 0, u, h => by rw [Lib.decDigits_one (by simpa using h)]; simp
  | f + 1, u, h => by
    by_cases c : u < 10
    · rw [Lib.decDigits_one c]; simp
    · rw [show Lib.decDigits u = Lib.decDigits (u / 10) ++ [UInt8.ofNat (48 + u % 10)] by rw [Lib.decDigits, dif_neg c]]
      have := dig_len f (u / 10) (by rw [Nat.pow_succ] at h; omega)
      simp only [List.length_append, List.length_cons, List.length_nil]
      omega
theorem decT_size (n : Int) (hl : -9223372036854775808 ≤ n) (hh : n ≤ 9223372036854775807) : (decT n).size ≤ 21 := by
  show (Lib.itoa n).toArray.size ≤ 21
  rw [List.size_toArray]
  have k1 : (10 : Nat) ^ 20 = 100000000000000000000 := by decide
  unfold Lib.itoa
  by_cases h : n < 0
  · rw [if_pos h]
    have := dig_len 19 n.natAbs (by omega)
    simp only [List.length_cons]
    omega
  · rw [if_neg h]
    have := dig_len 19 n.toNat (by omega)
    omega
theorem impl_dec (n : Int) (hl : -9223372036854775808 ≤ n) (hh : n ≤ 9223372036854775807) : impl_text.f n = some (decT n) := by
  unfold impl_text.f strconv_FormatInt_38.f strconv_FormatInt_62.f
  rw [if_pos ⟨rfl, hl, hh⟩]
  rfl

/-- A type as a text: the program's and the reference's. -/
def typeT (t : Int) (c : ByteArray) (n : Int) : ByteArray :=
  if t = 0 then ⟨#[116, 111, 112]⟩ else if t = 1 then ⟨#[105, 110, 116]⟩ else if t = 2 then ⟨#[110, 117, 108, 108]⟩ else if t = 3 then c else if t = 4 then ⟨#[105, 110, 116, 91, 93]⟩ else
  if t = 5 then c ++ ⟨#[91, 93]⟩ else if t = 6 then ((⟨#[110, 101, 119]⟩ ++ c) ++ ⟨#[64]⟩) ++ decT n else if t = 7 then ⟨#[116, 104, 105, 115]⟩ else ⟨#[]⟩
theorem spec_typeT (t : Int) (c : ByteArray) (n : Int) (hc : c.size ≤ 140737488351232) (hl : -9223372036854775808 ≤ n) (hh : n ≤ 9223372036854775807) (k : Nat) (hk : 20 < k) : spec_TypeShown.f k t c n = some (typeT t c n) := by
  unfold spec_TypeShown.f typeT
  have z2 : (⟨#[91, 93]⟩ : ByteArray).size = 2 := rfl
  have z3 : (⟨#[110, 101, 119]⟩ : ByteArray).size = 3 := rfl
  have z1 : (⟨#[64]⟩ : ByteArray).size = 1 := rfl
  have zd := decT_size n hl hh
  rw [spec_dec n hl hh k hk]
  simp only [Option.bind_some]
  rw [if_pos (show c.size + 2 ≤ 9223372036854775807 by omega), if_pos (show 3 + c.size ≤ 9223372036854775807 by omega), if_pos (show ((⟨#[110, 101, 119]⟩ : ByteArray) ++ c).size + 1 ≤ 9223372036854775807 by rw [ByteArray.size_append]; omega),
    if_pos (show (((⟨#[110, 101, 119]⟩ : ByteArray) ++ c) ++ (⟨#[64]⟩ : ByteArray)).size + (decT n).size ≤ 9223372036854775807 by rw [ByteArray.size_append, ByteArray.size_append]; omega)]
  repeat' (first | rfl | split)
theorem impl_typeT (t : Int) (c : ByteArray) (n : Int) (hc : c.size ≤ 140737488351232) (hl : -9223372036854775808 ≤ n) (hh : n ≤ 9223372036854775807) : impl_TypeShown.f t c n = some (typeT t c n) := by
  unfold impl_TypeShown.f typeT
  have z2 : (⟨#[91, 93]⟩ : ByteArray).size = 2 := rfl
  have z3 : (⟨#[110, 101, 119]⟩ : ByteArray).size = 3 := rfl
  have z1 : (⟨#[64]⟩ : ByteArray).size = 1 := rfl
  have zd := decT_size n hl hh
  rw [impl_dec n hl hh]
  simp only [Option.bind_some]
  rw [if_pos (show c.size + 2 ≤ 9223372036854775807 by omega), if_pos (show 3 + c.size ≤ 9223372036854775807 by omega), if_pos (show ((⟨#[110, 101, 119]⟩ : ByteArray) ++ c).size + 1 ≤ 9223372036854775807 by rw [ByteArray.size_append]; omega),
    if_pos (show (((⟨#[110, 101, 119]⟩ : ByteArray) ++ c) ++ (⟨#[64]⟩ : ByteArray)).size + (decT n).size ≤ 9223372036854775807 by rw [ByteArray.size_append, ByteArray.size_append]; omega)]
  repeat' (first | rfl | split)

theorem FnExactTypeShown : laws_FnExactTypeShown.Pure := by
  intro x ok
  obtain ⟨h0, h1, h2⟩ : (Lit.int .i64 x.f0).wf = true ∧ x.f1.size ≤ maxLen ∧ (Lit.int .i64 x.f2).wf = true := ok
  unfold maxLen at h1
  have hw : -9223372036854775808 ≤ x.f2 ∧ x.f2 ≤ 9223372036854775807 := i64_in h2
  have hs : wrap64 (1048576 - (x.f1.size : Int)) = 1048576 - (x.f1.size : Int) := by unfold wrap64; omega
  refine ⟨30, ?_⟩
  unfold laws_FnExactTypeShown.f laws_szType.f
  rw [hs]
  by_cases hbig : 1048576 - (x.f1.size : Int) < 0
  · rw [if_pos hbig]
    simp only [Option.bind_some]
    rw [if_pos (by decide)]
  · rw [if_neg hbig]
    have hm : x.f1.size ≤ 140737488351232 := by omega
    simp only [Option.bind_some, laws_toType.f]
    rw [if_neg hbig, spec_typeT _ _ _ hm hw.1 hw.2 30 (by omega)]
    simp only [Option.bind_some]
    rw [impl_typeT _ _ _ hm hw.1 hw.2]
    simp only [Option.bind_some]
    rw [if_pos trivial]

end Go.Proofs.YtdfnljchoomliaaDoor.Pure
