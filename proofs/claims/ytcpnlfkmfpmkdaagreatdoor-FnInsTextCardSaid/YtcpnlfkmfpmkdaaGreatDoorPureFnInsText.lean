/- Of a drawn right instruction the text is read back as it was, no wrong one has a text, and a text that is read as an instruction is that instruction's own. -/
import Derived.Test.YtcpnlfkmfpmkdaaGreatDoorPFnInsTextx16
namespace Go.Proofs.YtcpnlfkmfpmkdaaGreatDoor.Pure
open Go.RowKit Go.Proofs.YtcpnlfkmfpmkdaaGreatDoor.PFnInsText Go.Proofs.YtcpnlfkmfpmkdaaGreatDoorW.PrintWords Go.Proofs.YtcpnlfkmfpmkdaaGreatDoorW.PrintLast
set_option linter.unusedVariables false
set_option linter.unusedSimpArgs false

/-- What is joined with one blank between. -/
def joinB (l : List ByteArray) : ByteArray := ⟨(Lib.join (l.map (·.data.toList)) (⟨#[32]⟩ : ByteArray).data.toList).toArray⟩
theorem dtl (a b : ByteArray) : (a ++ b).data.toList = a.data.toList ++ b.data.toList := by rw [ByteArray.data_append, Array.toList_append]
theorem jt_cons (s x : List UInt8) (r : List (List UInt8)) : Lib.joinTail s (x :: r) = (s ++ x) ++ Lib.joinTail s r := by simp [Lib.joinTail]
theorem joinB_list (x : ByteArray) (r : List ByteArray) : (joinB (x :: r)).data.toList = x.data.toList ++ Lib.joinTail [32] (r.map (·.data.toList)) := by
  show Lib.join ((x :: r).map (·.data.toList)) [32] = _
  rw [List.map_cons, Lib.join_cons]
theorem jt_len (M : Nat) : ∀ l : List ByteArray, (∀ x ∈ l, x.size ≤ M) → (Lib.joinTail [32] (l.map (·.data.toList))).length ≤ l.length * (M + 1)
  | [], _ => by simp [Lib.joinTail]
  | x :: r, h => by
    have h1 := jt_len M r (fun y hy => h y (List.mem_cons_of_mem _ hy))
    have h2 : x.data.toList.length ≤ M := by
      have := h x List.mem_cons_self
      rw [Array.length_toList]; exact this
    rw [List.map_cons, jt_cons, List.length_append, List.length_append, List.length_cons, List.length_cons, List.length_nil, Nat.succ_mul]
    omega
theorem joinB_size (M : Nat) (l : List ByteArray) (h : ∀ x ∈ l, x.size ≤ M) : (joinB l).size ≤ l.length * (M + 1) := by
  cases l with
  | nil => exact Nat.zero_le _
  | cons x r =>
    have h1 := jt_len M r (fun y hy => h y (List.mem_cons_of_mem _ hy))
    have h2 : x.data.toList.length ≤ M := by
      have := h x List.mem_cons_self
      rw [Array.length_toList]; exact this
    have e : (joinB (x :: r)).size = (joinB (x :: r)).data.toList.length := by rw [Array.length_toList]; rfl
    rw [e, joinB_list, List.length_append, List.length_cons, Nat.succ_mul]
    omega

/-- A text cut at each blank. -/
def splitL : List UInt8 → List (List UInt8)
  | [] => [[]]
  | c :: r => if c = 32 then [] :: splitL r else match splitL r with | h :: t => (c :: h) :: t | [] => [[c]]
def consHead (p : List UInt8) : List (List UInt8) → List (List UInt8)
  | h :: t => (p ++ h) :: t
  | [] => [p]
theorem splitL_ne : ∀ l, splitL l ≠ []
  | [] => by simp [splitL]
  | c :: r => by
    unfold splitL
    split
    · simp
    · split
      · simp
      · simp
theorem splitL_cons (c : UInt8) (r : List UInt8) (h : c ≠ 32) : splitL (c :: r) = consHead [c] (splitL r) := by
  have hn := splitL_ne r
  rw [splitL, if_neg h]
  cases hs : splitL r with
  | nil => exact absurd hs hn
  | cons a t => rfl
theorem splitL_sep (r : List UInt8) : splitL (32 :: r) = [] :: splitL r := by rw [splitL, if_pos rfl]
theorem consHead_two (p : List UInt8) (c : UInt8) (X : List (List UInt8)) (h : X ≠ []) : consHead p (consHead [c] X) = consHead (p ++ [c]) X := by
  cases X with
  | nil => exact absurd rfl h
  | cons a t => simp [consHead]
theorem consHead_nil (X : List (List UInt8)) (h : X ≠ []) : consHead [] X = X := by
  cases X with
  | nil => exact absurd rfl h
  | cons a t => rfl
theorem splitK_eq : ∀ l : List UInt8, Lib.splitK [32] 0 (l.count 32) l = splitL l
  | [] => rfl
  | c :: r => by
    have ih := splitK_eq r
    by_cases h : c = 32
    · subst h
      have hix : Lib.index (32 :: r) [32] = 0 := by rw [Lib.index]; simp [List.isPrefixOf]
      rw [splitL_sep, List.count_cons_self, Lib.splitK, if_neg (by rw [hix]; decide), hix, ← ih]
      rfl
    · rw [splitL_cons c r h, List.count_cons_of_ne (by simpa using h), ← ih]
      have hix : Lib.index (c :: r) [32] = if Lib.index r [32] == -1 then -1 else Lib.index r [32] + 1 := by
        rw [Lib.index, show ([32] : List UInt8).isPrefixOf (c :: r) = false by simp [List.isPrefixOf, Ne.symm h]]
        rfl
      cases hk : r.count 32 with
      | zero => rfl
      | succ k =>
        have hm : Lib.index r [32] ≠ -1 := fun e => by
          have h2 := Lib.count_miss e
          rw [Lib.count_one, hk] at h2
          omega
        have hge := Lib.index_ge r [32]
        obtain ⟨j, hj⟩ : ∃ j : Nat, Lib.index r [32] = j := ⟨(Lib.index r [32]).toNat, by omega⟩
        have hj2 : Lib.index (c :: r) [32] = ((j + 1 : Nat) : Int) := by rw [hix, if_neg (fun e => hm (beq_iff_eq.1 e)), hj]; omega
        rw [Lib.splitK, if_neg (by rw [hj2]; intro e; have := beq_iff_eq.1 e; omega), hj2, Lib.splitK, if_neg (by rw [hj]; intro e; have := beq_iff_eq.1 e; omega), hj]
        simp [consHead]
/-- The pieces of a text, as texts. -/
def pieces (s : ByteArray) : List ByteArray := (splitL s.data.toList).map fun l => (⟨l.toArray⟩ : ByteArray)
theorem map_of_lists {L : List ByteArray} {M : List (List UInt8)} (h : L.map (·.data.toList) = M) : L = M.map fun l => (⟨l.toArray⟩ : ByteArray) := by
  subst h
  rw [List.map_map]
  conv => lhs; rw [← List.map_id L]
  apply List.map_congr_left
  intro x _
  simp
theorem split_impl (s : ByteArray) (hs : s.size ≤ 20000) : strings_Split.f s (⟨#[32]⟩ : ByteArray) = some (pieces s) := by
  unfold strings_Split.f
  rw [if_pos ⟨by omega, by decide⟩]
  refine congrArg some (map_of_lists ?_)
  rw [Lib.splitB_data]
  show Lib.splitK [32] 0 (Lib.count s.data.toList [32]) s.data.toList = _
  rw [Lib.count_one, splitK_eq]
theorem spec_cut (s : ByteArray) (hs : s.size ≤ 20000) : ∀ (d i f : Nat) (out : List ByteArray), i + d = s.size → f ≤ i → out.length ≤ i →
    Ev (fun k => spec_l01Split.l0 k s 32 out (f : Int) (i : Int)) (out ++ (consHead ((s.data.toList.take i).drop f) (splitL (s.data.toList.drop i))).map fun l => (⟨l.toArray⟩ : ByteArray)) := by
  have hlen : s.data.toList.length = s.size := by rw [Array.length_toList]; rfl
  intro d
  induction d with
  | zero =>
    intro i f out hd hf ho
    obtain rfl : i = s.size := by omega
    have t1 : s.data.toList.take s.size = s.data.toList := List.take_of_length_le (by omega)
    have t2 : (s.data.toList.drop f).take (s.size - f) = s.data.toList.drop f := List.take_of_length_le (by rw [List.length_drop]; omega)
    have t3 : s.data.toList.drop s.size = [] := List.drop_eq_nil_of_le (by omega)
    have t4 : consHead (s.data.toList.drop f) (splitL []) = [s.data.toList.drop f] := by simp [splitL, consHead]
    have e1 : s.extract f s.size = (⟨(s.data.toList.drop f).toArray⟩ : ByteArray) := by rw [Lib.extract_eq, t2]
    rw [t1, t3, t4]
    refine Ev.step (f := fun _ => some (out ++ [s.extract f s.size])) (fun k => ?_) (by rw [e1]; exact Ev.now _)
    conv => lhs; unfold spec_l01Split.l0
    rw [if_neg (by omega), if_pos (by omega), if_pos (by omega), if_pos (by omega), show ((f : Int)).toNat = f by omega]
  | succ d ih =>
    intro i f out hd hf ho
    have hi : i < s.size := by omega
    have hil : i < s.data.toList.length := by omega
    have hbt : bt s (i : Int) = ((s.data.toList[i]).toNat : Int) := by
      unfold bt
      rw [dif_pos (show ((i : Int)).toNat < s.size by omega)]
      simp
      rfl
    have w1 : wrap64 ((i : Int) + 1) = ((i + 1 : Nat) : Int) := by unfold wrap64; omega
    have htk : (s.data.toList.take (i + 1)).drop f = (s.data.toList.take i).drop f ++ [s.data.toList[i]] := by
      rw [List.take_succ_eq_append_getElem hil, List.drop_append_of_le_length (by rw [List.length_take]; omega)]
    rw [List.drop_eq_getElem_cons hil]
    by_cases c : s.data.toList[i] = 32
    · have e1 : s.extract f i = (⟨((s.data.toList.take i).drop f).toArray⟩ : ByteArray) := by
        rw [Lib.extract_eq]
        congr 2
        rw [List.drop_take]
      have h := ih (i + 1) (i + 1) (out ++ [s.extract f i]) (by omega) (Nat.le_refl _) (by simp; omega)
      rw [List.drop_eq_nil_of_le (by rw [List.length_take]; omega), consHead_nil _ (splitL_ne _)] at h
      rw [c, splitL_sep]
      refine Ev.step (fun k => ?_) (show Ev (fun k => spec_l01Split.l0 k s 32 (out ++ [s.extract f i]) ((i + 1 : Nat) : Int) ((i + 1 : Nat) : Int)) _ from by rw [e1] at h; simpa [consHead, List.append_assoc, e1] using h)
      conv => lhs; unfold spec_l01Split.l0
      rw [if_pos (by omega), if_pos (by omega), if_pos (by rw [hbt, c]; rfl), if_pos (by omega), if_pos (by omega), if_pos (by omega), if_pos (by omega), w1]
      rfl
    · have h := ih (i + 1) f out (by omega) (by omega) (by omega)
      rw [htk] at h
      rw [splitL_cons _ _ c, consHead_two _ _ _ (splitL_ne _)]
      refine Ev.step (fun k => ?_) h
      conv => lhs; unfold spec_l01Split.l0
      rw [if_pos (by omega), if_pos (by omega), if_neg (fun e => c (by rw [hbt] at e; exact UInt8.toNat_inj.mp (by have : (32 : UInt8).toNat = 32 := rfl; omega))), w1]
theorem split_spec (s : ByteArray) (hs : s.size ≤ 20000) : Ev (fun k => spec_l01Split.f k s 32) (pieces s) := by
  have h := spec_cut s hs s.size 0 0 [] (by omega) (Nat.le_refl _) (Nat.le_refl _)
  rw [List.take_zero, List.drop_nil, List.drop_zero, consHead_nil _ (splitL_ne _)] at h
  exact h
theorem join_splitL : ∀ l : List UInt8, Lib.join (splitL l) [32] = l
  | [] => by simp [splitL, Lib.join_one]
  | c :: r => by
    have ih := join_splitL r
    have hn := splitL_ne r
    by_cases h : c = 32
    · subst h
      rw [splitL_sep]
      cases hs : splitL r with
      | nil => exact absurd hs hn
      | cons a t =>
        rw [hs] at ih
        rw [Lib.join_cons] at ih
        rw [Lib.join_cons, jt_cons, ← ih]
        simp
    · rw [splitL_cons c r h]
      cases hs : splitL r with
      | nil => exact absurd hs hn
      | cons a t =>
        rw [hs] at ih
        rw [Lib.join_cons] at ih
        show Lib.join (([c] ++ a) :: t) [32] = _
        rw [Lib.join_cons, ← ih]
        simp
/-- What was cut is got back by joining. -/
theorem join_pieces (s : ByteArray) : joinB (pieces s) = s := by
  apply WideShapes.bytes_inj
  show Lib.join ((pieces s).map (·.data.toList)) [32] = _
  unfold pieces
  rw [List.map_map]
  have e : ((fun x : ByteArray => x.data.toList) ∘ fun l : List UInt8 => (⟨l.toArray⟩ : ByteArray)) = id := by funext l; simp
  rw [e, List.map_id, join_splitL]
theorem splitL_len : ∀ l : List UInt8, ∀ p ∈ splitL l, p.length ≤ l.length
  | [], p, hp => by simp [splitL] at hp; subst hp; simp
  | c :: r, p, hp => by
    have ih := splitL_len r
    by_cases h : c = 32
    · subst h
      rw [splitL_sep] at hp
      rcases List.mem_cons.mp hp with rfl | hp
      · simp
      · have := ih p hp; simp; omega
    · rw [splitL_cons c r h] at hp
      cases hs : splitL r with
      | nil => exact absurd hs (splitL_ne r)
      | cons a t =>
        rw [hs] at hp ih
        rcases List.mem_cons.mp (show p ∈ ([c] ++ a) :: t from hp) with rfl | hp
        · have := ih a List.mem_cons_self; simp; omega
        · have := ih p (List.mem_cons_of_mem _ hp); simp; omega
theorem pieces_len (s : ByteArray) : ∀ p ∈ pieces s, p.size ≤ s.size := by
  intro p hp
  obtain ⟨l, hl, rfl⟩ := List.mem_map.mp hp
  have := splitL_len _ l hl
  rw [Array.length_toList] at this
  show l.toArray.size ≤ _
  rw [List.size_toArray]
  exact this
theorem pieces_ne (s : ByteArray) : pieces s ≠ [] := by
  unfold pieces
  intro h
  exact splitL_ne _ (List.map_eq_nil_iff.mp h)

/-- The decimal digits as a text. -/
def digT (u : Nat) : ByteArray := ⟨(Lib.decDigits u).toArray⟩
def decT (n : Int) : ByteArray := ⟨(Lib.itoa n).toArray⟩
theorem digT_small (u : Nat) (h : u < 10) : digT u = ⟨#[UInt8.ofNat (48 + u)]⟩ := by unfold digT; rw [Lib.decDigits_one h]
theorem digT_big (u : Nat) (h : ¬ u < 10) : digT u = digT (u / 10) ++ ⟨#[UInt8.ofNat (48 + u % 10)]⟩ := by
  unfold digT
  rw [show Lib.decDigits u = Lib.decDigits (u / 10) ++ [UInt8.ofNat (48 + u % 10)] by rw [Lib.decDigits, dif_neg h]]
  apply ByteArray.ext
  rw [ByteArray.data_append]
  simp
theorem strOf_digit (u : Nat) : strOfNums [(wrap64 (48 + ((u % 10 : Nat) : Int))) % 256] = ⟨#[UInt8.ofNat (48 + u % 10)]⟩ := by
  have e : (wrap64 (48 + ((u % 10 : Nat) : Int))) % 256 = ((48 + u % 10 : Nat) : Int) := by unfold wrap64; omega
  rw [e]
  rfl
theorem tmod_abs (n : Int) : (0 ≤ n → Int.tmod n 10 = ((n.natAbs % 10 : Nat) : Int) ∧ Int.tdiv n 10 = ((n.natAbs / 10 : Nat) : Int)) ∧ (n < 0 → Int.tmod n 10 = -((n.natAbs % 10 : Nat) : Int) ∧ Int.tdiv n 10 = -((n.natAbs / 10 : Nat) : Int)) := by
  have key : ∀ u : Nat, Int.tmod (u : Int) 10 = ((u % 10 : Nat) : Int) ∧ Int.tdiv (u : Int) 10 = ((u / 10 : Nat) : Int) := fun u => ⟨rfl, rfl⟩
  constructor
  · intro h
    obtain ⟨u, rfl⟩ : ∃ u : Nat, n = u := ⟨n.toNat, by omega⟩
    exact key u
  · intro h
    obtain ⟨u, rfl⟩ : ∃ u : Nat, n = -(u : Int) := ⟨n.natAbs, by omega⟩
    rw [Int.neg_tmod, Int.neg_tdiv, Int.natAbs_neg]
    exact ⟨by rw [(key u).1]; rfl, by rw [(key u).2]; rfl⟩
def decFin (neg : Bool) (s : ByteArray) : ByteArray := if neg = true then (⟨#[45]⟩ : ByteArray) ++ s else s
theorem dec_end (k : Nat) (neg : Bool) (s : ByteArray) (h : s.size ≤ 50) : spec_l01Dec.l0 (k + 1) 0 neg s = some (decFin neg s) := by
  unfold spec_l01Dec.l0 decFin
  rw [if_pos rfl]
  cases neg
  · rfl
  · rw [if_pos rfl, if_pos (by omega), if_pos rfl]
theorem dec_run : ∀ (f u k : Nat) (n : Int) (neg : Bool) (out : ByteArray), n.natAbs = u → 1 ≤ u → u < 10 ^ f → f < k → out.size + f ≤ 40 → -9223372036854775808 ≤ n → n ≤ 9223372036854775807 →
    spec_l01Dec.l0 k n neg out = some (decFin neg (digT u ++ out))
  | 0, u, k, n, neg, out, _, h1, h2, _, _, _, _ => by simp at h2; omega
  | f + 1, u, k, n, neg, out, hu, h1, h2, hk, ho, hl, hh => by
    obtain ⟨k, rfl⟩ : ∃ m, k = m + 1 := ⟨k - 1, by omega⟩
    have hs : ∀ y : List Int, (strOfNums y).size = y.length := strOfNums_size
    have step : ∀ d : ByteArray, d = ⟨#[UInt8.ofNat (48 + u % 10)]⟩ → spec_l01Dec.l0 k (wrap64 (Int.tdiv n 10)) neg (d ++ out) = some (decFin neg (digT u ++ out)) := by
      intro d hd
      have hz : (d ++ out).size = 1 + out.size := by rw [ByteArray.size_append, hd]; rfl
      by_cases h10 : u < 10
      · have e0 : wrap64 (Int.tdiv n 10) = 0 := by
          have h3 := tmod_abs n
          by_cases hn : 0 ≤ n
          · rw [(h3.1 hn).2]; unfold wrap64; omega
          · rw [(h3.2 (by omega)).2]; unfold wrap64; omega
        obtain ⟨k, rfl⟩ : ∃ m, k = m + 1 := ⟨k - 1, by omega⟩
        rw [e0, dec_end k neg _ (by omega), hd, digT_small u h10, Nat.mod_eq_of_lt h10]
      · have h3 := tmod_abs n
        have e1 : (wrap64 (Int.tdiv n 10)).natAbs = u / 10 ∧ -9223372036854775808 ≤ wrap64 (Int.tdiv n 10) ∧ wrap64 (Int.tdiv n 10) ≤ 9223372036854775807 := by
          by_cases hn : 0 ≤ n
          · rw [(h3.1 hn).2]; unfold wrap64; omega
          · rw [(h3.2 (by omega)).2]; unfold wrap64; omega
        rw [dec_run f (u / 10) k _ neg (d ++ out) e1.1 (by omega) (by rw [Nat.pow_succ] at h2; omega) (by omega) (by omega) e1.2.1 e1.2.2, digT_big u h10, hd, ByteArray.append_assoc]
    have h3 := tmod_abs n
    unfold spec_l01Dec.l0
    rw [if_neg (by omega)]
    by_cases hn : 0 ≤ n
    · rw [if_neg (by rw [(h3.1 hn).1]; omega)]
      simp only [Option.bind_some]
      rw [(h3.1 hn).1, hu, strOf_digit]
      rw [if_pos (by have : (⟨#[UInt8.ofNat (48 + u % 10)]⟩ : ByteArray).size = 1 := rfl
                     omega)]
      exact step _ rfl
    · have h4 := (h3.2 (by omega)).1
      by_cases hd : Int.tmod n 10 < 0
      · rw [if_pos hd]
        simp only [Option.bind_some]
        rw [h4, Int.neg_neg, show wrap64 ((n.natAbs % 10 : Nat) : Int) = ((n.natAbs % 10 : Nat) : Int) by unfold wrap64; omega, hu, strOf_digit]
        rw [if_pos (by have : (⟨#[UInt8.ofNat (48 + u % 10)]⟩ : ByteArray).size = 1 := rfl
                       omega)]
        exact step _ rfl
      · rw [if_neg hd]
        simp only [Option.bind_some]
        rw [show Int.tmod n 10 = ((u % 10 : Nat) : Int) by omega, strOf_digit]
        rw [if_pos (by have : (⟨#[UInt8.ofNat (48 + u % 10)]⟩ : ByteArray).size = 1 := rfl
                       omega)]
        exact step _ rfl
/-- The reference's own digits are the numeral. -/
theorem spec_dec (n : Int) (hl : -9223372036854775808 ≤ n) (hh : n ≤ 9223372036854775807) (k : Nat) (hk : 20 < k) : spec_l01Dec.f k n = some (decT n) := by
  unfold spec_l01Dec.f
  by_cases h0 : n = 0
  · rw [if_pos h0, h0]
    exact congrArg some (show (⟨#[48]⟩ : ByteArray) = decT 0 by unfold decT Lib.itoa; rw [if_neg (by omega), show (0 : Int).toNat = 0 from rfl, Lib.decDigits_one (by omega)]; rfl)
  · rw [if_neg h0, dec_run 20 n.natAbs k n _ ⟨#[]⟩ rfl (by omega) (by have : (10 : Nat) ^ 20 = 100000000000000000000 := by decide
                                                                      omega) hk (by show 0 + 20 ≤ 40; omega) hl hh]
    have ea : digT n.natAbs ++ (⟨#[]⟩ : ByteArray) = digT n.natAbs := ByteArray.append_empty
    rw [ea]
    refine congrArg some ?_
    unfold decFin decT Lib.itoa
    by_cases hn : n < 0
    · rw [if_pos (decide_eq_true hn), if_pos hn]
      apply ByteArray.ext
      rw [ByteArray.data_append]
      simp [digT]
    · rw [if_neg (by simp; omega), if_neg hn, show n.natAbs = n.toNat by omega]
      rfl
theorem dig_len : ∀ (f u : Nat), u < 10 ^ (f + 1) → (Lib.decDigits u).length ≤ f + 1
  | 0, u, h => by rw [Lib.decDigits_one (by simpa using h)]; simp
  | f + 1, u, h => by
    by_cases c : u < 10
    · rw [Lib.decDigits_one c]; simp
    · rw [show Lib.decDigits u = Lib.decDigits (u / 10) ++ [UInt8.ofNat (48 + u % 10)] by rw [Lib.decDigits, dif_neg c]]
      have := dig_len f (u / 10) (by rw [Nat.pow_succ] at h; omega)
      simp only [List.length_append, List.length_cons, List.length_nil]
      omega
theorem decT_size (n : Int) (hl : -9223372036854775808 ≤ n) (hh : n ≤ 9223372036854775807) : (decT n).size ≤ 21 := by
  show (Lib.itoa n).toArray.size ≤ 21
  rw [List.size_toArray]
  have k1 : (10 : Nat) ^ 20 = 100000000000000000000 := by decide
  unfold Lib.itoa
  by_cases h : n < 0
  · rw [if_pos h]
    have := dig_len 19 n.natAbs (by omega)
    simp only [List.length_cons]
    omega
  · rw [if_neg h]
    have := dig_len 19 n.toNat (by omega)
    omega
theorem impl_dec (n : Int) (hl : -9223372036854775808 ≤ n) (hh : n ≤ 9223372036854775807) : impl_text.f n = some (decT n) := by
  unfold impl_text.f strconv_FormatInt_108.f strconv_FormatInt_129.f
  rw [if_pos ⟨rfl, hl, hh⟩]
  rfl

/-- The number that digits spell. -/
def scanD : List UInt8 → Nat → Option Nat
  | [], acc => some acc
  | c :: r, acc => if 48 ≤ c.toNat ∧ c.toNat ≤ 57 then scanD r (10 * acc + (c.toNat - 48)) else none
theorem scan_app : ∀ (l m : List UInt8) (acc : Nat), scanD (l ++ m) acc = (scanD l acc).bind (scanD m)
  | [], m, acc => rfl
  | c :: r, m, acc => by
    show (if 48 ≤ c.toNat ∧ c.toNat ≤ 57 then scanD (r ++ m) (10 * acc + (c.toNat - 48)) else none) = (if 48 ≤ c.toNat ∧ c.toNat ≤ 57 then scanD r (10 * acc + (c.toNat - 48)) else none).bind (scanD m)
    split
    · exact scan_app r m _
    · rfl
theorem dig_toNat (d : Nat) (h : d < 10) : (UInt8.ofNat (48 + d)).toNat = 48 + d := by
  rw [UInt8.toNat_ofNat']
  omega
theorem scan_one (d acc : Nat) (h : d < 10) : scanD [UInt8.ofNat (48 + d)] acc = some (10 * acc + d) := by
  show (if 48 ≤ (UInt8.ofNat (48 + d)).toNat ∧ (UInt8.ofNat (48 + d)).toNat ≤ 57 then scanD [] (10 * acc + ((UInt8.ofNat (48 + d)).toNat - 48)) else none) = _
  rw [dig_toNat d h, if_pos (by omega), show 10 * acc + (48 + d - 48) = 10 * acc + d by omega]
  rfl
theorem scan_dig (u : Nat) : scanD (Lib.decDigits u) 0 = some u := by
  induction u using Nat.strongRecOn with
  | _ u ih =>
    by_cases h : u < 10
    · rw [Lib.decDigits_one h, scan_one u 0 h]
      simp
    · rw [show Lib.decDigits u = Lib.decDigits (u / 10) ++ [UInt8.ofNat (48 + u % 10)] by rw [Lib.decDigits, dif_neg h], scan_app, ih (u / 10) (by omega)]
      show scanD [UInt8.ofNat (48 + u % 10)] (u / 10) = some u
      rw [scan_one _ _ (by omega)]
      congr 1
      omega
theorem scan_ge : ∀ (l : List UInt8) (acc u : Nat), scanD l acc = some u → acc ≤ u
  | [], acc, u, h => by
    have e : some acc = some u := h
    exact Nat.le_of_eq (Option.some.inj e)
  | c :: r, acc, u, h => by
    unfold scanD at h
    split at h
    · have := scan_ge r _ u h
      omega
    · cases h
theorem parse_scan : ∀ (l : List UInt8) (acc u : Nat), scanD l acc = some u → u ≤ 1099511627776 → Lib.parseUintM 18446744073709551615 acc l = .ok u
  | [], acc, u, h, _ => by
    have e : some acc = some u := h
    rw [Lib.parseUintM, Option.some.inj e]
  | c :: r, acc, u, h, hu => by
    have h2 := h
    unfold scanD at h
    split at h
    · rename_i hc
      have hg := scan_ge r _ u h
      rw [Lib.parseUintM, if_pos hc, if_neg (by omega), if_neg (by omega), show acc * 10 + (c.toNat - 48) = 10 * acc + (c.toNat - 48) by omega]
      exact parse_scan r _ u h hu
    · cases h
theorem dig_ne (u : Nat) : Lib.decDigits u ≠ [] := by
  intro h
  have e := scan_dig u
  have l := Lib.decDigits_length u
  have := Lib.nDigits_pos u
  rw [h] at l
  simp at l
  omega
theorem parse_dig (u : Nat) (h : u ≤ 1099511627776) : Lib.parseUintB 64 (Lib.decDigits u) = .ok u := by
  unfold Lib.parseUintB
  rw [if_neg (dig_ne u)]
  exact parse_scan _ 0 u (scan_dig u) h
theorem parse_dec (n : Int) (hl : -2147483648 ≤ n) (hh : n ≤ 2147483647) : Lib.parseIntB 64 (Lib.itoa n) = .ok n := by
  unfold Lib.itoa
  by_cases h : n < 0
  · rw [if_pos h]
    have hp := parse_dig n.natAbs (by omega)
    have h45 : (45 : UInt8).toNat = 45 := rfl
    unfold Lib.parseIntB
    simp only [h45]
    rw [if_pos (Or.inr trivial), hp]
    simp only [not_true_eq_false, false_and, true_and, if_false, if_true]
    rw [if_neg (by have : (2 : Nat) ^ (64 - 1) = 9223372036854775808 := by decide
                   omega)]
    exact congrArg _ (by omega)
  · rw [if_neg h]
    have hp := parse_dig n.toNat (by omega)
    have hs := scan_dig n.toNat
    have hne := dig_ne n.toNat
    cases hL : Lib.decDigits n.toNat with
    | nil => exact absurd hL hne
    | cons c r =>
      rw [hL] at hp hs
      have hc : 48 ≤ c.toNat ∧ c.toNat ≤ 57 := by
        unfold scanD at hs
        split at hs
        · assumption
        · cases hs
      unfold Lib.parseIntB
      simp only []
      rw [if_neg (by omega), hp]
      have h45 : ¬ c.toNat = 45 := by omega
      simp only [h45, not_false_eq_true, true_and, false_and, if_false]
      rw [if_neg (by have : (2 : Nat) ^ (64 - 1) = 9223372036854775808 := by decide
                     omega)]
      exact congrArg _ (by omega)
def int32B (v : Int) : Bool := decide (-2147483648 ≤ v ∧ v ≤ 2147483647)
def numFin (x0 : ByteArray) (neg : Bool) (u : Nat) : Int × Bool := ((if neg = true then -(u : Int) else (u : Int)), decide ((decT (if neg = true then -(u : Int) else (u : Int))).toList = x0.toList) && int32B (if neg = true then -(u : Int) else (u : Int)))
theorem int_spec (v : Int) : spec_l01Int.f v = some (int32B v) := by
  unfold spec_l01Int.f int32B
  by_cases h : v ≥ -2147483648
  · rw [if_pos h]
    congr 1
    by_cases h2 : v ≤ 2147483647
    · rw [decide_eq_true h2, decide_eq_true ⟨h, h2⟩]
    · rw [decide_eq_false h2, decide_eq_false (fun e => h2 e.2)]
  · rw [if_neg h, decide_eq_false (fun e => h e.1)]
theorem int_impl (v : Int) : impl_isInt.f v = some (int32B v) := by
  unfold impl_isInt.f impl_within.f int32B
  by_cases h : v ≥ -2147483648
  · rw [if_pos h]
    simp only [Option.bind_some]
    congr 1
    by_cases h2 : v ≤ 2147483647
    · rw [decide_eq_true h2, decide_eq_true ⟨h, h2⟩]
    · rw [decide_eq_false h2, decide_eq_false (fun e => h2 e.2)]
  · rw [if_neg h]
    simp only [Option.bind_some]
    rw [decide_eq_false (fun e => h e.1)]
theorem ev_fin (x0 : ByteArray) (v : Int) (hl : -9223372036854775808 ≤ v) (hh : v ≤ 9223372036854775807) :
    Ev (fun k => (spec_l01Dec.f k v).bind fun t => if t.toList = x0.toList then ((spec_l01Int.f v).bind fun t2 => some (v, t2)) else some (v, false)) (v, decide ((decT v).toList = x0.toList) && int32B v) := by
  refine Ev.bind (f := fun _ t => if t.toList = x0.toList then ((spec_l01Int.f v).bind fun t2 => some (v, t2)) else some (v, false)) ⟨21, fun k hk => spec_dec v hl hh k (by omega)⟩ ?_
  rw [int_spec]
  by_cases c : (decT v).toList = x0.toList
  · rw [decide_eq_true c, Bool.true_and]
    exact Ev.congr (f := fun _ => some (v, int32B v)) (fun k => by rw [if_pos c]; rfl) (Ev.now _)
  · rw [decide_eq_false c, Bool.false_and]
    exact Ev.congr (f := fun _ => some (v, false)) (fun k => by rw [if_neg c]) (Ev.now _)
theorem num_l0_eq (k : Nat) (x0 : ByteArray) (x4 : Bool) (x5 : ByteArray) (x6 x7 : Int) : spec_l01Num.l0 (k + 1) x0 x4 x5 x6 x7 = if x7 < (x5.size : Int) then (if 0 ≤ x7 then (if (bt x5 x7) < 48 then (some (0, false)) else (if (bt x5 x7) > 57 then (some (0, false)) else (spec_l01Num.l0 k x0 x4 x5 (wrap64 ((wrap64 (10 * x6)) + (((bt x5 x7) - 48) % 256))) (wrap64 (x7 + 1))))) else (none)) else (if x4 = true then ((spec_l01Dec.f k (wrap64 (-x6))).bind fun t => (if t.toList = x0.toList then ((spec_l01Int.f (wrap64 (-x6))).bind fun t2 => (some (wrap64 (-x6), t2))) else (some (wrap64 (-x6), false)))) else ((spec_l01Dec.f k x6).bind fun t => (if t.toList = x0.toList then ((spec_l01Int.f x6).bind fun t2 => (some (x6, t2))) else (some (x6, false))))) := rfl
theorem step_num (acc m i : Nat) (ha : acc < 1000000000) (h1 : 48 ≤ m) (h2 : m ≤ 57) (hi : i < 100) : wrap64 (wrap64 (10 * (acc : Int)) + ((m : Int) - 48) % 256) = ((10 * acc + (m - 48) : Nat) : Int) ∧ wrap64 ((i : Int) + 1) = ((i + 1 : Nat) : Int) := by
  have e1 : wrap64 (10 * (acc : Int)) = 10 * (acc : Int) := by unfold wrap64; omega
  have e2 : ((m : Int) - 48) % 256 = ((m - 48 : Nat) : Int) := by omega
  rw [e1, e2]
  constructor
  · unfold wrap64; omega
  · unfold wrap64; omega
theorem num_loop (x0 x5 : ByteArray) (neg : Bool) (hx : x5.size ≤ 10) : ∀ (d i acc : Nat), i + d = x5.size → acc < 10 ^ i →
    Ev (fun k => spec_l01Num.l0 k x0 neg x5 (acc : Int) (i : Int)) (match scanD (x5.data.toList.drop i) acc with | none => (0, false) | some u => numFin x0 neg u) := by
  have hlen : x5.data.toList.length = x5.size := by rw [Array.length_toList]; rfl
  intro d
  induction d with
  | zero =>
    intro i acc hd ha
    have hb : acc < 10000000000 := Nat.lt_of_lt_of_le ha (Nat.le_trans (Nat.pow_le_pow_right (by decide) (show i ≤ 10 by omega)) (by decide))
    rw [List.drop_eq_nil_of_le (by omega)]
    show Ev _ (numFin x0 neg acc)
    unfold numFin
    cases neg with
    | true =>
      rw [if_pos rfl]
      refine Ev.step (fun k => ?_) (ev_fin x0 (-(acc : Int)) (by omega) (by omega))
      rw [num_l0_eq, if_neg (by omega), if_pos rfl, show wrap64 (-(acc : Int)) = -(acc : Int) by unfold wrap64; omega]
    | false =>
      rw [if_neg (by simp)]
      refine Ev.step (fun k => ?_) (ev_fin x0 (acc : Int) (by omega) (by omega))
      rw [num_l0_eq, if_neg (by omega), if_neg (by simp)]
  | succ d ih =>
    intro i acc hd ha
    have hi : i < x5.data.toList.length := by omega
    have hb : acc < 1000000000 := Nat.lt_of_lt_of_le ha (Nat.le_trans (Nat.pow_le_pow_right (by decide) (show i ≤ 9 by omega)) (by decide))
    have hbt : bt x5 (i : Int) = ((x5.data.toList[i]).toNat : Int) := by
      unfold bt
      rw [dif_pos (show ((i : Int)).toNat < x5.size by omega)]
      simp
      rfl
    rw [List.drop_eq_getElem_cons hi]
    generalize x5.data.toList[i] = c at hbt
    have hc := c.toNat_lt
    by_cases h1 : 48 ≤ c.toNat ∧ c.toNat ≤ 57
    · have e : scanD (c :: x5.data.toList.drop (i + 1)) acc = scanD (x5.data.toList.drop (i + 1)) (10 * acc + (c.toNat - 48)) := by
        conv => lhs; unfold scanD
        rw [if_pos h1]
      rw [e]
      refine Ev.step (fun k => ?_) (ih (i + 1) (10 * acc + (c.toNat - 48)) (by omega) (by rw [Nat.pow_succ]; omega))
      rw [num_l0_eq, if_pos (by omega), if_pos (by omega), if_neg (by rw [hbt]; omega), if_neg (by rw [hbt]; omega), hbt, (step_num acc c.toNat i hb h1.1 h1.2 (by omega)).1, (step_num acc c.toNat i hb h1.1 h1.2 (by omega)).2]
    · have e : scanD (c :: x5.data.toList.drop (i + 1)) acc = none := by
        conv => lhs; unfold scanD
        rw [if_neg h1]
      rw [e]
      refine Ev.step (f := fun _ => some (0, false)) (fun k => ?_) (Ev.now _)
      rw [num_l0_eq, if_pos (by omega), if_pos (by omega)]
      by_cases h2 : c.toNat < 48
      · rw [if_pos (by rw [hbt]; omega)]
      · rw [if_neg (by rw [hbt]; omega), if_pos (by rw [hbt]; omega)]
def negB (w : ByteArray) : Bool := decide (0 < w.size) && (bt w 0 == 45)
def digB (w : ByteArray) : ByteArray := if negB w = true then w.extract 1 w.size else w
def specNum (w : ByteArray) : Int × Bool :=
  if (digB w).size < 1 then (0, false) else if 10 < (digB w).size then (0, false) else match scanD (digB w).data.toList 0 with | none => (0, false) | some u => numFin w (negB w) u
theorem num_j2_eq (k : Nat) (x0 : ByteArray) (x4 : Bool) (x5 : ByteArray) (c : Bool) : spec_l01Num.j2 (k + 1) x0 x4 x5 c = if c = true then some (0, false) else spec_l01Num.l0 k x0 x4 x5 0 0 := rfl
theorem num_j1_eq (k : Nat) (x0 : ByteArray) (x4 : Bool) (x5 : ByteArray) : spec_l01Num.j1 (k + 1) x0 x4 x5 = if (x5.size : Int) < 1 then spec_l01Num.j2 k x0 x4 x5 true else spec_l01Num.j2 k x0 x4 x5 (decide ((x5.size : Int) > 10)) := rfl
theorem num_j0_eq (k : Nat) (x0 : ByteArray) (x4 : Bool) : spec_l01Num.j0 (k + 1) x0 x4 = if x4 = true then (if 1 ≤ (x0.size : Int) then spec_l01Num.j1 k x0 x4 (x0.extract 1 x0.size) else none) else spec_l01Num.j1 k x0 x4 x0 := rfl
theorem ev_num (w : ByteArray) : Ev (fun k => spec_l01Num.f k w) (specNum w) := by
  have j1 : Ev (fun k => spec_l01Num.j1 k w (negB w) (digB w)) (specNum w) := by
    unfold specNum
    by_cases c1 : (digB w).size < 1
    · rw [if_pos c1]
      exact Ev.step (f := fun k => spec_l01Num.j2 k w (negB w) (digB w) true) (fun k => by rw [num_j1_eq, if_pos (by omega)]) (Ev.step (f := fun _ => some (0, false)) (fun k => by rw [num_j2_eq, if_pos rfl]) (Ev.now _))
    · rw [if_neg c1]
      by_cases c2 : 10 < (digB w).size
      · rw [if_pos c2]
        exact Ev.step (f := fun k => spec_l01Num.j2 k w (negB w) (digB w) true) (fun k => by rw [num_j1_eq, if_neg (by omega), decide_eq_true (by omega)]) (Ev.step (f := fun _ => some (0, false)) (fun k => by rw [num_j2_eq, if_pos rfl]) (Ev.now _))
      · rw [if_neg c2]
        have h := num_loop w (digB w) (negB w) (by omega) (digB w).size 0 0 (by omega) (by decide)
        rw [List.drop_zero] at h
        exact Ev.step (f := fun k => spec_l01Num.j2 k w (negB w) (digB w) false) (fun k => by rw [num_j1_eq, if_neg (by omega), decide_eq_false (by omega)]) (Ev.step (fun k => by rw [num_j2_eq, if_neg (by simp)]; rfl) h)
  have j0 : Ev (fun k => spec_l01Num.j0 k w (negB w)) (specNum w) := by
    refine Ev.step (fun k => ?_) j1
    rw [num_j0_eq]
    unfold digB
    by_cases c : negB w = true
    · have hs : 0 < w.size := by
        unfold negB at c
        rw [Bool.and_eq_true] at c
        exact of_decide_eq_true c.1
      rw [if_pos c, if_pos c, if_pos (by omega)]
    · rw [if_neg c, if_neg c]
  refine Ev.congr (fun k => ?_) j0
  unfold spec_l01Num.f negB
  by_cases h : 0 < w.size
  · rw [if_pos (by omega), if_pos (by omega), decide_eq_true h, Bool.true_and]
  · rw [if_neg (by omega), decide_eq_false h, Bool.false_and]
theorem specNum_of (w : ByteArray) (n : Int) (hl : -2147483648 ≤ n) (hh : n ≤ 2147483647) (e : decT n = w) : specNum w = (n, true) := by
  have i32 : int32B n = true := decide_eq_true ⟨hl, hh⟩
  have p10 : (10 : Nat) ^ (9 + 1) = 10000000000 := by decide
  by_cases h : n < 0
  · have hw : w.data.toList = 45 :: Lib.decDigits n.natAbs := by
      rw [← e]
      show Lib.itoa n = _
      unfold Lib.itoa
      rw [if_pos h]
    have hz : w.size = 1 + (Lib.decDigits n.natAbs).length := by
      have : w.data.toList.length = w.size := by rw [Array.length_toList]; rfl
      rw [← this, hw, List.length_cons]
      omega
    have hn : negB w = true := by
      unfold negB
      rw [Bool.and_eq_true]
      refine ⟨decide_eq_true (by omega), ?_⟩
      have hb : bt w 0 = 45 := by
        unfold bt
        rw [dif_pos (show ((0 : Int)).toNat < w.size by show 0 < w.size; omega)]
        have h0 : w.data.toList[0]? = some 45 := by rw [hw]; rfl
        have : w[(0 : Int).toNat]'(by show 0 < w.size; omega) = 45 := by
          have h1 : 0 < w.data.toList.length := by rw [hw]; simp
          rw [List.getElem?_eq_getElem h1] at h0
          have h2 := Option.some.inj h0
          have h3 : w.data[0]'(by simpa using h1) = 45 := by simpa using h2
          exact h3
        rw [this]
        rfl
      rw [hb]
      rfl
    have hd : (digB w).data.toList = Lib.decDigits n.natAbs := by
      unfold digB
      rw [if_pos hn, Lib.extract_data, hw, hz]
      show (Lib.decDigits n.natAbs).take _ = _
      exact List.take_of_length_le (by omega)
    have hs : (digB w).size = (Lib.decDigits n.natAbs).length := by rw [← hd, Array.length_toList]; rfl
    have l1 := dig_len 9 n.natAbs (by omega)
    have l2 := Lib.decDigits_length n.natAbs
    have l3 := Lib.nDigits_pos n.natAbs
    unfold specNum
    rw [if_neg (by omega), if_neg (by omega), hd, scan_dig]
    show numFin w (negB w) n.natAbs = _
    unfold numFin
    rw [hn, if_pos rfl, show -(n.natAbs : Int) = n by omega, e, decide_eq_true rfl, i32]
    rfl
  · have hw : w.data.toList = Lib.decDigits n.toNat := by
      rw [← e]
      show Lib.itoa n = _
      unfold Lib.itoa
      rw [if_neg h]
    have hz : w.size = (Lib.decDigits n.toNat).length := by rw [← hw, Array.length_toList]; rfl
    have hs2 := scan_dig n.toNat
    have l1 := dig_len 9 n.toNat (by omega)
    have l2 := Lib.decDigits_length n.toNat
    have l3 := Lib.nDigits_pos n.toNat
    have hn : negB w = false := by
      unfold negB
      rw [decide_eq_true (show 0 < w.size by omega), Bool.true_and]
      cases hL : Lib.decDigits n.toNat with
      | nil => exact absurd hL (dig_ne _)
      | cons c r =>
        rw [hL] at hs2
        have hc : 48 ≤ c.toNat ∧ c.toNat ≤ 57 := by
          unfold scanD at hs2
          split at hs2
          · assumption
          · cases hs2
        have hb : bt w 0 = (c.toNat : Int) := by
          unfold bt
          rw [dif_pos (show ((0 : Int)).toNat < w.size by show 0 < w.size; omega)]
          have h0 : w.data.toList[0]? = some c := by rw [hw, hL]; rfl
          have : w[(0 : Int).toNat]'(by show 0 < w.size; omega) = c := by
            have h1 : 0 < w.data.toList.length := by rw [hw, hL]; simp
            rw [List.getElem?_eq_getElem h1] at h0
            have h2 := Option.some.inj h0
            have h3 : w.data[0]'(by simpa using h1) = c := by simpa using h2
            exact h3
          rw [this]
        rw [hb]
        exact beq_eq_false_iff_ne.mpr (by omega)
    have hd : digB w = w := by
      unfold digB
      rw [if_neg (by rw [hn]; simp)]
    unfold specNum
    rw [hd, if_neg (by omega), if_neg (by omega), hw, hs2]
    show numFin w (negB w) n.toNat = _
    unfold numFin
    rw [hn, if_neg (by simp), show (n.toNat : Int) = n by omega, e, decide_eq_true rfl, i32]
    rfl
theorem specNum_ok (w : ByteArray) (h : (specNum w).2 = true) : (-2147483648 ≤ (specNum w).1 ∧ (specNum w).1 ≤ 2147483647) ∧ decT (specNum w).1 = w := by
  unfold specNum at h ⊢
  split at h
  · cases h
  · rename_i c1
    rw [if_neg c1]
    split at h
    · cases h
    · rename_i c2
      rw [if_neg c2]
      cases hs : scanD (digB w).data.toList 0 with
      | none => rw [hs] at h; cases h
      | some u =>
        rw [hs] at h
        have h2 : (numFin w (negB w) u).2 = true := h
        show (-2147483648 ≤ (numFin w (negB w) u).1 ∧ (numFin w (negB w) u).1 ≤ 2147483647) ∧ decT (numFin w (negB w) u).1 = w
        unfold numFin at h2 ⊢
        rw [Bool.and_eq_true] at h2
        exact ⟨of_decide_eq_true h2.2, WideShapes.bytes_inj (by rw [← Lib.toList_data, ← Lib.toList_data]; exact of_decide_eq_true h2.1)⟩
theorem parse_range (l : List UInt8) (v : Int) (h : Lib.parseIntB 64 l = .ok v) : -9223372036854775808 ≤ v ∧ v ≤ 9223372036854775807 := by
  have p63 : (2 : Nat) ^ (64 - 1) = 9223372036854775808 := by decide
  unfold Lib.parseIntB at h
  cases l with
  | nil => cases h
  | cons c r =>
    simp only [p63] at h
    split at h
    · cases h
    · cases h
    · split at h
      · cases h
      · rename_i h1
        split at h
        · cases h
        · rename_i h2
          have e := Lib.NumEnd.ok.inj h
          subst e
          split
          · rename_i hn; omega
          · rename_i hn; omega
theorem impl_num (w : ByteArray) (hw : w.size ≤ 20000) : ∃ p : Int × Bool, impl_numberOf.f w = some p ∧ (p.2 = true → (-2147483648 ≤ p.1 ∧ p.1 ≤ 2147483647) ∧ decT p.1 = w) ∧ (∀ n, -2147483648 ≤ n → n ≤ 2147483647 → decT n = w → p = (n, true)) := by
  unfold impl_numberOf.f
  rw [if_pos (by omega)]
  have key : ∀ n, -2147483648 ≤ n → n ≤ 2147483647 → decT n = w → Lib.parseIntB 64 w.data.toList = .ok n := fun n hl hh e => by
    rw [← e]
    exact parse_dec n hl hh
  cases hP : Lib.parseIntB 64 w.data.toList with
  | ok v =>
    have hr := parse_range _ v hP
    simp only []
    rw [int_impl, impl_dec v hr.1 hr.2]
    simp only [Option.bind_some]
    by_cases c : int32B v = true
    · rw [if_pos c]
      have c2 := of_decide_eq_true c
      by_cases e : (decT v).toList = w.toList
      · rw [if_pos e]
        have e2 : decT v = w := WideShapes.bytes_inj (by rw [← Lib.toList_data, ← Lib.toList_data]; exact e)
        refine ⟨_, rfl, fun _ => ⟨c2, e2⟩, fun n hl hh en => ?_⟩
        have := key n hl hh en
        rw [hP] at this
        rw [Lib.NumEnd.ok.inj this]
      · rw [if_neg e]
        refine ⟨_, rfl, fun h => (by cases h), fun n hl hh en => ?_⟩
        have := key n hl hh en
        rw [hP] at this
        rw [Lib.NumEnd.ok.inj this] at e
        exact absurd (congrArg ByteArray.toList en) e
    · rw [if_neg c]
      refine ⟨_, rfl, fun h => (by cases h), fun n hl hh en => ?_⟩
      have := key n hl hh en
      rw [hP] at this
      rw [Lib.NumEnd.ok.inj this] at c
      exact absurd (decide_eq_true ⟨hl, hh⟩) c
  | _ => exact ⟨_, rfl, fun h => (by cases h), fun n hl hh en => by have := key n hl hh en; rw [hP] at this; cases this⟩
/-- A word as a number: both take the same words, and read the same. -/
theorem num_same (w : ByteArray) (hw : w.size ≤ 20000) : ∃ p q : Int × Bool, Ev (fun k => spec_l01Num.f k w) p ∧ impl_numberOf.f w = some q ∧ p.2 = q.2 ∧ (p.2 = true → p = q ∧ decT p.1 = w ∧ -2147483648 ≤ p.1 ∧ p.1 ≤ 2147483647) := by
  obtain ⟨q, h1, h2, h3⟩ := impl_num w hw
  refine ⟨specNum w, q, ev_num w, h1, ?_, ?_⟩
  · cases hb : (specNum w).2 with
    | true =>
      obtain ⟨⟨a, b⟩, c⟩ := specNum_ok w hb
      rw [h3 _ a b c]
    | false =>
      cases hq : q.2 with
      | false => rfl
      | true =>
        obtain ⟨⟨a, b⟩, c⟩ := h2 hq
        rw [specNum_of w _ a b c] at hb
        cases hb
  · intro hb
    obtain ⟨⟨a, b⟩, c⟩ := specNum_ok w hb
    have e := h3 _ a b c
    exact ⟨by rw [e, ← hb], c, a, b⟩

theorem op_forms_nat : ∀ n : Nat, n < 44 → spec_OpForm.f 16 (((n + 1 : Nat) : Int)) = impl_OpForm.f (((n + 1 : Nat) : Int)) ∧ (impl_OpForm.f (((n + 1 : Nat) : Int))).isSome = true := by decide +kernel
theorem op_form (a : Int) : ∃ F, impl_OpForm.f a = some F ∧ ∀ k, 16 ≤ k → spec_OpForm.f k a = some F := by
  have up : ∀ F, spec_OpForm.f 16 a = some F → ∀ k, 16 ≤ k → spec_OpForm.f k a = some F := fun F h k hk => at_rounds (g := fun k => spec_OpForm.f k a) (fun k => spec_OpForm.mono _ _) hk h
  by_cases h1 : 1 ≤ a ∧ a ≤ 44
  · have e : a = (((a - 1).toNat + 1 : Nat) : Int) := by omega
    have h := op_forms_nat (a - 1).toNat (by omega)
    rw [← e] at h
    obtain ⟨F, hF⟩ := Option.isSome_iff_exists.mp h.2
    exact ⟨F, hF, up F (h.1.trans hF)⟩
  · refine ⟨⟨#[33]⟩, ?_, up _ ?_⟩
    · unfold impl_OpForm.f impl_isOp.f impl_within.f
      by_cases c : a ≥ 1
      · rw [if_pos c]
        simp only [Option.bind_some]
        rw [if_neg (by simp; omega)]
      · rw [if_neg c]
        simp only [Option.bind_some]
        rw [if_neg (by simp)]
    · unfold spec_OpForm.f spec_l03Ops.f
      simp only [Option.bind_some]
      by_cases c : a < 1
      · rw [if_pos c]
        rfl
      · rw [if_neg c, decide_eq_true (by simp; omega)]
        rfl

def namesL : List ByteArray := (impl_opNames.f).getD []
def nm (n : Nat) : ByteArray := rdOf ByteArray.empty namesL (n : Int)
theorem names_len : namesL.length = 44 := rfl
theorem name_spec16 : ∀ n : Nat, n < 44 → spec_OpName.f 16 (((n + 1 : Nat) : Int)) = some (nm n) := by decide +kernel
theorem nm_size : ∀ n : Nat, n < 44 → (nm n).size ≤ 20 := by decide +kernel
theorem name_spec (n : Nat) (h : n < 44) (k : Nat) (hk : 16 ≤ k) : spec_OpName.f k (((n + 1 : Nat) : Int)) = some (nm n) :=
  at_rounds (g := fun k => spec_OpName.f k (((n + 1 : Nat) : Int))) (fun k => spec_OpName.mono _ _) hk (name_spec16 n h)
theorem nm_once0 : ∀ i : Nat, i < 44 → ∀ j : Nat, j < 44 → (nm i).data.toList = (nm j).data.toList → i = j := by decide +kernel
theorem nm_once {i j : Nat} (hi : i < 44) (hj : j < 44) (s : ByteArray) (h1 : (nm i).toList = s.toList) (h2 : (nm j).toList = s.toList) : i = j :=
  nm_once0 i hi j hj (by rw [← Lib.toList_data, ← Lib.toList_data, h1, h2])
def firstOp (s : ByteArray) : Nat → Nat → Nat
  | 0, _ => 0
  | d + 1, i => if (nm i).toList = s.toList then i + 1 else firstOp s d (i + 1)
def lastOp (s : ByteArray) : Nat → Nat → Nat → Nat
  | 0, _, c => c
  | d + 1, i, c => lastOp s d (i + 1) (if (nm i).toList = s.toList then i + 1 else c)
theorem last_stay (s : ByteArray) : ∀ d i c : Nat, (∀ j, i ≤ j → j < i + d → (nm j).toList ≠ s.toList) → lastOp s d i c = c
  | 0, i, c, _ => rfl
  | d + 1, i, c, h => by
    unfold lastOp
    rw [if_neg (h i (Nat.le_refl _) (by omega))]
    exact last_stay s d (i + 1) c (fun j h1 h2 => h j (by omega) (by omega))
theorem last_first (s : ByteArray) : ∀ d i : Nat, i + d = 44 → lastOp s d i 0 = firstOp s d i
  | 0, i, _ => rfl
  | d + 1, i, h => by
    unfold lastOp firstOp
    by_cases c : (nm i).toList = s.toList
    · rw [if_pos c, if_pos c]
      exact last_stay s d (i + 1) (i + 1) (fun j h1 h2 e => by have := nm_once (by omega) (by omega) s c e; omega)
    · rw [if_neg c, if_neg c]
      exact last_first s d (i + 1) (by omega)
theorem first_ok (s : ByteArray) : ∀ d i : Nat, i + d = 44 → firstOp s d i ≤ 44 ∧ (1 ≤ firstOp s d i → (nm (firstOp s d i - 1)).toList = s.toList)
  | 0, i, _ => ⟨Nat.zero_le _, fun h => absurd h (by simp [firstOp])⟩
  | d + 1, i, h => by
    unfold firstOp
    by_cases c : (nm i).toList = s.toList
    · rw [if_pos c]
      exact ⟨by omega, fun _ => by rw [Nat.add_sub_cancel]; exact c⟩
    · rw [if_neg c]
      exact first_ok s d (i + 1) (by omega)
def opOf (s : ByteArray) : Nat := firstOp s 44 0
theorem op_spec (s : ByteArray) : Ev (fun k => spec_l14Op.f k s) (opOf s : Int) := by
  have key : ∀ d i : Nat, i + d = 44 → Ev (fun k => spec_l14Op.l0 k s (((i + 1 : Nat) : Int))) (firstOp s d i : Int) := by
    intro d
    induction d with
    | zero =>
      intro i hd
      refine Ev.step (f := fun _ => some 0) (fun k => ?_) (Ev.now _)
      conv => lhs; unfold spec_l14Op.l0
      rw [if_neg (by omega)]
    | succ d ih =>
      intro i hd
      have hn : Ev (fun k => spec_OpName.f k (((i + 1 : Nat) : Int))) (nm i) := ⟨16, fun k hk => name_spec i (by omega) k hk⟩
      have w1 : wrap64 (((i + 1 : Nat) : Int) + 1) = ((i + 1 + 1 : Nat) : Int) := by unfold wrap64; omega
      refine Ev.step (f := fun k => (spec_OpName.f k (((i + 1 : Nat) : Int))).bind fun t => if t.toList = s.toList then some (((i + 1 : Nat) : Int)) else spec_l14Op.l0 k s (((i + 1 + 1 : Nat) : Int))) (fun k => ?_) (Ev.bind (f := fun k t => if t.toList = s.toList then some (((i + 1 : Nat) : Int)) else spec_l14Op.l0 k s (((i + 1 + 1 : Nat) : Int))) hn ?_)
      · conv => lhs; unfold spec_l14Op.l0
        rw [if_pos (by omega), w1]
      · unfold firstOp
        by_cases c : (nm i).toList = s.toList
        · rw [if_pos c]
          exact Ev.congr (f := fun _ => some _) (fun k => if_pos c) (Ev.now _)
        · rw [if_neg c]
          exact Ev.congr (fun k => if_neg c) (ih (i + 1) (by omega))
  exact key 44 0 (by omega)
theorem op_form_size (a : Int) : ∃ F, impl_OpForm.f a = some F ∧ (∀ k, 16 ≤ k → spec_OpForm.f k a = some F) ∧ (F.toList = [] ∨ F.toList = [110] ∨ F.toList = [105] ∨ F.toList = [116] ∨ F.toList = [99] ∨ F.toList = [121] ∨ F.toList = [102] ∨ F.toList = [109] ∨ F.toList = [33]) := by
  obtain ⟨F, h1, h2⟩ := op_form a
  refine ⟨F, h1, h2, ?_⟩
  have tab : ∀ n : Nat, n < 44 → (match impl_OpForm.f (((n + 1 : Nat) : Int)) with | some F => decide (F.data.toList = [] ∨ F.data.toList = [110] ∨ F.data.toList = [105] ∨ F.data.toList = [116] ∨ F.data.toList = [99] ∨ F.data.toList = [121] ∨ F.data.toList = [102] ∨ F.data.toList = [109] ∨ F.data.toList = [33]) | none => false) = true := by decide +kernel
  rw [Lib.toList_data]
  by_cases c : 1 ≤ a ∧ a ≤ 44
  · have e : a = (((a - 1).toNat + 1 : Nat) : Int) := by omega
    have h := tab (a - 1).toNat (by omega)
    rw [← e, h1] at h
    exact of_decide_eq_true h
  · have : impl_OpForm.f a = some ⟨#[33]⟩ := by
      unfold impl_OpForm.f impl_isOp.f impl_within.f
      by_cases c2 : a ≥ 1
      · rw [if_pos c2]
        simp only [Option.bind_some]
        rw [if_neg (by simp; omega)]
      · rw [if_neg c2]
        simp only [Option.bind_some]
        rw [if_neg (by simp)]
    rw [this] at h1
    rw [← Option.some.inj h1]
    right; right; right; right; right; right; right; right
    rfl

/-- An instruction as a text. -/
def insT (S F : ByteArray) (b : Bool) (a : Int) (c n d : ByteArray) : ByteArray :=
  if b = true then (S ++ ⟨#[32]⟩) ++ decT a else if F.toList = ([99] : List UInt8) then (S ++ ⟨#[32]⟩) ++ c else if F.toList = ([121] : List UInt8) then (S ++ ⟨#[32]⟩) ++ d else
  if F.toList = ([102] : List UInt8) then ((((((S ++ ⟨#[32]⟩) ++ c) ++ ⟨#[32]⟩) ++ n) ++ ⟨#[32]⟩) ++ d) else if F.toList = ([109] : List UInt8) then ((((((S ++ ⟨#[32]⟩) ++ c) ++ ⟨#[32]⟩) ++ n) ++ ⟨#[32]⟩) ++ d) else S
theorem ins_j0_spec (S F : ByteArray) (b : Bool) (o a : Int) (c n d : ByteArray) (hS : S.size ≤ 20) (hl : -9223372036854775808 ≤ a) (hh : a ≤ 9223372036854775807) (hc : c.size ≤ 1048576) (hn : n.size ≤ 1048576) (hd : d.size ≤ 1048576) (k : Nat) (hk : 20 < k) :
    spec_l14Ins.j0 (k + 1) S F b o a c n d = some (insT S F b a c n d) := by
  have z1 : (⟨#[32]⟩ : ByteArray).size = 1 := rfl
  have zd := decT_size a hl hh
  unfold insT
  simp only [spec_l14Ins.j0, spec_dec a hl hh k hk, Option.bind_some, ByteArray.size_append, z1]
  have q0 : (S.size + 1 ≤ 9223372036854775807) = True := eq_true (by omega)
  have q1 : (S.size + 1 + (decT a).size ≤ 9223372036854775807) = True := eq_true (by omega)
  have q2 : (S.size + 1 + c.size ≤ 9223372036854775807) = True := eq_true (by omega)
  have q3 : (S.size + 1 + d.size ≤ 9223372036854775807) = True := eq_true (by omega)
  have q4 : (S.size + 1 + c.size + 1 ≤ 9223372036854775807) = True := eq_true (by omega)
  have q5 : (S.size + 1 + c.size + 1 + n.size ≤ 9223372036854775807) = True := eq_true (by omega)
  have q6 : (S.size + 1 + c.size + 1 + n.size + 1 ≤ 9223372036854775807) = True := eq_true (by omega)
  have q7 : (S.size + 1 + c.size + 1 + n.size + 1 + d.size ≤ 9223372036854775807) = True := eq_true (by omega)
  simp only [q0, q1, q2, q3, q4, q5, q6, q7, if_true]
  repeat' (first | rfl | split)
def insTx (S F : ByteArray) (a : Int) (c n d : ByteArray) : ByteArray :=
  if F.toList = ([110] : List UInt8) then insT S F (F.toList == ([110] : List UInt8)) a c n d else if F.toList = ([105] : List UInt8) then insT S F (F.toList == ([105] : List UInt8)) a c n d else insT S F (F.toList == ([116] : List UInt8)) a c n d
/-- The reference's text of an instruction. -/
theorem spec_ins (S F : ByteArray) (o a : Int) (c n d : ByteArray) (s2 : ∀ k, 16 ≤ k → spec_OpName.f k o = some S) (hS : S.size ≤ 20) (f2 : ∀ k, 16 ≤ k → spec_OpForm.f k o = some F) (hl : -9223372036854775808 ≤ a) (hh : a ≤ 9223372036854775807) (hc : c.size ≤ 1048576) (hn : n.size ≤ 1048576) (hd : d.size ≤ 1048576) (k : Nat) (hk : 22 ≤ k) :
    spec_l14Ins.f k o a c n d = some (insTx S F a c n d) := by
  obtain ⟨k, rfl⟩ : ∃ m, k = m + 1 := ⟨k - 1, by omega⟩
  unfold spec_l14Ins.f insTx
  rw [s2 _ (by omega), f2 _ (by omega)]
  simp only [Option.bind_some, ins_j0_spec S F _ o a c n d hS hl hh hc hn hd k (by omega)]
  repeat' (first | rfl | split)

theorem joinB_1 (x : ByteArray) : joinB [x] = x := by
  apply WideShapes.bytes_inj
  rw [joinB_list]
  simp [Lib.joinTail]
theorem joinB_2 (x a : ByteArray) : joinB [x, a] = (x ++ ⟨#[32]⟩) ++ a := by
  apply WideShapes.bytes_inj
  rw [joinB_list, dtl, dtl]
  simp [Lib.joinTail]
theorem joinB_4 (x a b c : ByteArray) : joinB [x, a, b, c] = ((((((x ++ ⟨#[32]⟩) ++ a) ++ ⟨#[32]⟩) ++ b) ++ ⟨#[32]⟩) ++ c) := by
  apply WideShapes.bytes_inj
  rw [joinB_list]
  simp only [dtl]
  simp [Lib.joinTail]

theorem step64 {i : Int} {n : Nat} (h0 : 0 ≤ i) (h : i < (n : Int)) (hn : n ≤ 140737488351232) : wrap64 (i + 1) = i + 1 := by
  unfold wrap64
  omega

theorem name_byte_nat : ∀ c : Nat, c < 256 → impl_isNameByte.f (c : Int) 0 = spec_l01NameByte.f (c : Int) true ∧ impl_isNameByte.f (c : Int) 1 = spec_l01NameByte.f (c : Int) false := by decide +kernel
theorem name_byte_some (c : Int) (b : Bool) : ∃ r, spec_l01NameByte.f c b = some r := by
  unfold spec_l01NameByte.f
  repeat' split
  all_goals exact ⟨_, rfl⟩
theorem name_byte (c i : Int) (h0 : 0 ≤ c) (h1 : c ≤ 255) (hi : 0 ≤ i) : impl_isNameByte.f c i = spec_l01NameByte.f c (i == 0) := by
  obtain ⟨n, rfl⟩ := Int.eq_ofNat_of_zero_le h0
  have h := name_byte_nat n (by omega)
  by_cases e : i = 0
  · subst e; simpa using h.1
  · have e1 : (i == 0) = false := by simpa using e
    rw [e1, ← h.2]
    unfold impl_isNameByte.f
    have e2 : decide (i > 0) = decide ((1 : Int) > 0) := by simp; omega
    rw [e2]

theorem name_run_both (s : ByteArray) (hn : s.size ≤ 140737488351232) (d : Nat) : ∀ (k k' : Nat) (i : Int), 0 ≤ i → i ≤ s.size → (s.size : Int) - i = d → d < k → d < k' →
    ∃ b, spec_NameRight.l0 k s i = some b ∧ impl_NameRight.l0 k' s (s.size : Int) i = some (b && decide (1 ≤ s.size ∧ s.size ≤ 20)) := by
  induction d with
  | zero =>
    intro k k' i h0 h1 hd hk hk'
    obtain ⟨k, rfl⟩ : ∃ m, k = m + 1 := ⟨k - 1, by omega⟩
    obtain ⟨k', rfl⟩ : ∃ m, k' = m + 1 := ⟨k' - 1, by omega⟩
    refine ⟨true, ?_, ?_⟩
    · simp only [spec_NameRight.l0]; rw [if_neg (by omega)]
    · simp only [impl_NameRight.l0]
      rw [if_neg (by omega)]
      simp only [impl_length.f, impl_within.f, Option.bind_some]
      by_cases c1 : (s.size : Int) ≥ 1
      · rw [if_pos c1]
        simp only [Option.bind_some, Bool.true_and]
        exact congrArg some (decide_eq_decide.mpr (by omega))
      · rw [if_neg c1, decide_eq_false (show ¬ (1 ≤ s.size ∧ s.size ≤ 20) by omega)]
        rfl
  | succ d ih =>
    intro k k' i h0 h1 hd hk hk'
    obtain ⟨k, rfl⟩ : ∃ m, k = m + 1 := ⟨k - 1, by omega⟩
    obtain ⟨k', rfl⟩ : ∃ m, k' = m + 1 := ⟨k' - 1, by omega⟩
    have hlt : i < (s.size : Int) := by omega
    have hb := bt_range s i
    simp only [spec_NameRight.l0, impl_NameRight.l0]
    rw [if_pos hlt, if_pos h0, if_pos hlt, if_pos h0, if_pos hlt, step64 h0 hlt hn, name_byte _ _ hb.1 hb.2 h0]
    obtain ⟨r, hr⟩ := name_byte_some (bt s i) (i == 0)
    rw [hr]
    cases r with
    | false => exact ⟨false, by simp, by simp⟩
    | true =>
      obtain ⟨b, e1, e2⟩ := ih k k' (i + 1) (by omega) (by omega) (by omega) (by omega) (by omega)
      exact ⟨b, by simpa using e1, by simpa using e2⟩
/-- Both name laws come to one answer. -/
theorem names_same (s : ByteArray) (hn : s.size ≤ 140737488351232) : ∃ b, (∀ k, s.size + 3 ≤ k → spec_NameRight.f k s = some b) ∧ (∀ k, s.size + 3 ≤ k → impl_NameRight.f k s = some b) := by
  obtain ⟨b, e1, e2⟩ := name_run_both s hn s.size (s.size + 1) (s.size + 1) 0 (by omega) (by omega) (by omega) (by omega) (by omega)
  refine ⟨b && decide (1 ≤ s.size ∧ s.size ≤ 20), fun k hk => ?_, fun k hk => ?_⟩
  · obtain ⟨k, rfl⟩ : ∃ m, k = m + 1 := ⟨k - 1, by omega⟩
    have e1' := at_rounds (g := fun k => spec_NameRight.l0 k s 0) (k' := k) (fun k => (spec_NameRight.mono_l k).2 s 0) (by omega) e1
    unfold spec_NameRight.f
    by_cases c1 : (s.size : Int) < 1
    · rw [if_pos c1]
      simp only [spec_NameRight.j0]
      simp; omega
    · rw [if_neg c1]
      by_cases c2 : (s.size : Int) > 20
      · simp only [spec_NameRight.j0, c2]
        simp; omega
      · simp only [spec_NameRight.j0, c2]
        rw [decide_eq_false (by simp), if_neg (by simp), e1']
        simp; omega
  · unfold impl_NameRight.f
    exact at_rounds (g := fun k => impl_NameRight.l0 k s (s.size : Int) 0) (fun k => impl_NameRight.mono_l k s (s.size : Int) 0) (by omega) e2

/-- The place behind the name's bytes that stand from a place on, `n` at the most. -/
def nend : Nat → ByteArray → Int → Int → Int
  | 0, _, _, i => i
  | n + 1, t, f, i => if i < (t.size : Int) ∧ spec_l01NameByte.f (bt t i) (i == f) = some true then nend n t f (i + 1) else i
def nameAt (t : ByteArray) (f : Int) : Int × Bool :=
  if nend 20 t f f < (t.size : Int) ∧ bt t (nend 20 t f f) = 59 ∧ nend 20 t f f ≠ f then (nend 20 t f f + 1, true) else (nend 20 t f f, false)
def oneAt (t : ByteArray) (a : Int) : Int × Bool :=
  if a < (t.size : Int) ∧ bt t a = 73 then (a + 1, true) else if a < (t.size : Int) ∧ bt t a = 76 then nameAt t (a + 1) else (a, false)
/-- A type that is read at a place: the place behind it, or the first that is wrong. -/
def tyAt (t : ByteArray) (a : Int) : Int × Bool := if a < (t.size : Int) ∧ bt t a = 91 then oneAt t (a + 1) else oneAt t a
theorem nend_ge (t : ByteArray) (f : Int) : ∀ (n : Nat) (i : Int), i ≤ (t.size : Int) → i ≤ nend n t f i ∧ nend n t f i ≤ (t.size : Int)
  | 0, i, h => ⟨Int.le_refl _, h⟩
  | n + 1, i, h => by
    unfold nend
    by_cases c : i < (t.size : Int) ∧ spec_l01NameByte.f (bt t i) (i == f) = some true
    · rw [if_pos c]
      have := nend_ge t f n (i + 1) (by omega)
      omega
    · rw [if_neg c]
      omega
theorem nameAt_ge (t : ByteArray) (f : Int) (h : f ≤ (t.size : Int)) : f ≤ (nameAt t f).1 ∧ (nameAt t f).1 ≤ (t.size : Int) := by
  have := nend_ge t f 20 f h
  unfold nameAt
  split
  · dsimp only; omega
  · dsimp only; omega
theorem oneAt_ge (t : ByteArray) (a : Int) (h : a ≤ (t.size : Int)) : a ≤ (oneAt t a).1 ∧ (oneAt t a).1 ≤ (t.size : Int) ∧ ((oneAt t a).2 = true → a < (oneAt t a).1) := by
  unfold oneAt
  split
  · dsimp only; omega
  · split
    · have := nameAt_ge t (a + 1) (by omega)
      exact ⟨by omega, this.2, fun _ => by omega⟩
    · simpa using h
theorem tyAt_ge (t : ByteArray) (a : Int) (h : a ≤ (t.size : Int)) : a ≤ (tyAt t a).1 ∧ (tyAt t a).1 ≤ (t.size : Int) ∧ ((tyAt t a).2 = true → a < (tyAt t a).1) := by
  unfold tyAt
  split
  · have := oneAt_ge t (a + 1) (by omega)
    exact ⟨by omega, this.2.1, fun _ => by omega⟩
  · exact oneAt_ge t a h
theorem spec_name_run (t : ByteArray) (hn : t.size ≤ 140737488351232) (f : Int) (hf : 0 ≤ f) : ∀ (n k : Nat) (i : Int), f ≤ i → i - f = 20 - (n : Int) → i ≤ (t.size : Int) → n < k →
    spec_l02Type.l0 k t f i = some (if nend n t f i < (t.size : Int) ∧ bt t (nend n t f i) = 59 ∧ nend n t f i ≠ f then (nend n t f i + 1, true) else (nend n t f i, false)) := by
  intro n
  induction n with
  | zero =>
    intro k i h0 h1 h2 hk
    obtain ⟨k, rfl⟩ : ∃ m, k = m + 1 := ⟨k - 1, by omega⟩
    have w1 : wrap64 (i - f) = i - f := by unfold wrap64; omega
    rw [show nend 0 t f i = i from rfl]
    simp only [spec_l02Type.l0, w1]
    by_cases c1 : i < (t.size : Int)
    · rw [if_pos c1, if_neg (by omega), if_neg (by omega), if_pos (by omega), step64 (by omega) c1 hn]
      by_cases c2 : bt t i = 59
      · by_cases c3 : i = f
        · rw [if_pos c2, if_pos c3, if_neg (by omega)]
        · rw [if_pos c2, if_neg c3, if_pos ⟨c1, c2, c3⟩]
      · rw [if_neg c2, if_neg (by omega)]
    · rw [if_neg c1, if_pos (by omega), if_neg (by omega)]
  | succ n ih =>
    intro k i h0 h1 h2 hk
    obtain ⟨k, rfl⟩ : ∃ m, k = m + 1 := ⟨k - 1, by omega⟩
    have w1 : wrap64 (i - f) = i - f := by unfold wrap64; omega
    obtain ⟨b, hb⟩ := name_byte_some (bt t i) (i == f)
    by_cases c1 : i < (t.size : Int)
    · simp only [spec_l02Type.l0, w1]
      rw [if_pos c1, if_pos (by omega), if_pos (by omega), hb, step64 (by omega) c1 hn]
      cases b with
      | true =>
        have e : nend (n + 1) t f i = nend n t f (i + 1) := by
          rw [nend, if_pos ⟨c1, hb⟩]
        rw [e]
        simpa using ih k (i + 1) (by omega) (by omega) (by omega) (by omega)
      | false =>
        have e : nend (n + 1) t f i = i := by
          rw [nend, hb]; simp
        rw [e]
        simp only [Option.bind_some]
        rw [if_neg (by simp), if_neg (by omega)]
        by_cases c2 : bt t i = 59
        · by_cases c3 : i = f
          · rw [if_pos c2, if_pos c3, if_neg (by omega)]
          · rw [if_pos c2, if_neg c3, if_pos ⟨c1, c2, c3⟩]
        · rw [if_neg c2, if_neg (by omega)]
    · have e : nend (n + 1) t f i = i := by
        rw [nend, if_neg (by omega)]
      rw [e]
      simp only [spec_l02Type.l0]
      rw [if_neg c1, if_pos (by omega), if_neg (by omega)]
theorem want_bad (t : ByteArray) (i : Int) (b : Int) : impl_reader_want.f t i true b = some (t, i, true) := by
  simp [impl_reader_want.f, impl_reader_take.f, impl_reader_is.f]
theorem take_bad (t : ByteArray) (i : Int) (b : Int) : impl_reader_take.f t i true b = some (false, t, i, true) := by
  simp [impl_reader_take.f, impl_reader_is.f]
theorem take_ok (t : ByteArray) (hn : t.size ≤ 140737488351232) (i b : Int) (h0 : 0 ≤ i) :
    impl_reader_take.f t i false b = some (if i < (t.size : Int) ∧ bt t i = b then (true, t, i + 1, false) else (false, t, i, false)) := by
  unfold impl_reader_take.f impl_reader_is.f
  simp only [impl_length.f, Option.bind_some]
  rw [if_neg (by simp)]
  by_cases c : i < (t.size : Int)
  · rw [if_pos c, if_pos h0, if_pos c]
    simp only [Option.bind_some]
    by_cases c2 : bt t i = b
    · rw [if_pos (by simpa using c2), if_pos ⟨c, c2⟩, step64 h0 c hn]
    · rw [if_neg (by simpa using c2), if_neg (fun h => c2 h.2)]
  · rw [if_neg c, if_neg (by omega)]
    rfl
theorem want_ok (t : ByteArray) (hn : t.size ≤ 140737488351232) (i b : Int) (h0 : 0 ≤ i) :
    impl_reader_want.f t i false b = some (if i < (t.size : Int) ∧ bt t i = b then (t, i + 1, false) else (t, i, true)) := by
  unfold impl_reader_want.f
  rw [take_ok t hn i b h0]
  by_cases c : i < (t.size : Int) ∧ bt t i = b
  · rw [if_pos c, if_pos c]; rfl
  · rw [if_neg c, if_neg c]; rfl
theorem name_run (t : ByteArray) (hn : t.size ≤ 140737488351232) (f : Int) (hf : 0 ≤ f) : ∀ (n k : Nat) (i : Int), f ≤ i → i - f = 20 - (n : Int) → i ≤ (t.size : Int) → n < k →
    impl_reader_name.l0 k f t i false = some (if nend n t f i < (t.size : Int) ∧ bt t (nend n t f i) = 59 ∧ nend n t f i ≠ f then (t, nend n t f i + 1, false) else (t, nend n t f i, true)) := by
  have w2 : f ≤ (t.size : Int) → wrap64 (f + 20) = f + 20 := fun _ => by unfold wrap64; omega
  intro n
  induction n with
  | zero =>
    intro k i h0 h1 h2 hk
    obtain ⟨k, rfl⟩ : ∃ m, k = m + 1 := ⟨k - 1, by omega⟩
    rw [show nend 0 t f i = i from rfl]
    simp only [impl_reader_name.l0, impl_length.f, Option.bind_some, w2 (by omega)]
    rw [if_neg (by simp)]
    by_cases c1 : i < (t.size : Int)
    · rw [if_pos c1, if_neg (by omega), if_neg (by omega), want_ok t hn i 59 (by omega)]
      by_cases c2 : bt t i = 59
      · rw [if_pos ⟨c1, c2⟩, if_pos ⟨c1, c2, by omega⟩]; rfl
      · rw [if_neg (fun h => c2 h.2), if_neg (fun h => c2 h.2.1)]; rfl
    · rw [if_neg c1, if_neg (by omega), want_ok t hn i 59 (by omega), if_neg (by omega), if_neg (by omega)]; rfl
  | succ n ih =>
    intro k i h0 h1 h2 hk
    obtain ⟨k, rfl⟩ : ∃ m, k = m + 1 := ⟨k - 1, by omega⟩
    have w1 : wrap64 (i - f) = i - f := by unfold wrap64; omega
    obtain ⟨b, hb⟩ := name_byte_some (bt t i) (i == f)
    have hr := bt_range t i
    have hbi := name_byte (bt t i) (i - f) hr.1 hr.2 (by omega)
    have e0 : (i - f == 0) = (i == f) := by
      by_cases c : i = f
      · subst c; simp
      · rw [beq_eq_false_iff_ne.mpr c, beq_eq_false_iff_ne.mpr (by omega)]
    rw [e0, hb] at hbi
    by_cases c1 : i < (t.size : Int)
    · simp only [impl_reader_name.l0, impl_length.f, Option.bind_some, w2 (by omega), w1]
      rw [if_neg (by simp), if_pos c1, if_pos (by omega), if_pos (by omega), if_pos c1, hbi, step64 (by omega) c1 hn]
      cases b with
      | true =>
        have e : nend (n + 1) t f i = nend n t f (i + 1) := by
          rw [nend, if_pos ⟨c1, hb⟩]
        rw [e]
        simpa using ih k (i + 1) (by omega) (by omega) (by omega) (by omega)
      | false =>
        have e : nend (n + 1) t f i = i := by
          rw [nend, hb]; simp
        rw [e]
        simp only [Option.bind_some]
        rw [if_neg (by simp)]
        by_cases c3 : i = f
        · rw [if_pos c3, want_bad, if_neg (by omega)]; rfl
        · rw [if_neg c3, want_ok t hn i 59 (by omega)]
          by_cases c2 : bt t i = 59
          · rw [if_pos ⟨c1, c2⟩, if_pos ⟨c1, c2, c3⟩]; rfl
          · rw [if_neg (fun h => c2 h.2), if_neg (fun h => c2 h.2.1)]; rfl
    · have e : nend (n + 1) t f i = i := by
        rw [nend, if_neg (by omega)]
      rw [e]
      simp only [impl_reader_name.l0, impl_length.f, Option.bind_some]
      rw [if_neg (by simp), if_neg c1]
      by_cases c3 : i = f
      · rw [if_pos c3, want_bad, if_neg (by omega)]; rfl
      · rw [if_neg c3, want_ok t hn i 59 (by omega), if_neg (by omega), if_neg (by omega)]; rfl
theorem spec_type_one (t : ByteArray) (hn : t.size ≤ 140737488351232) (k : Nat) (hk : 21 < k) (a : Int) (h0 : 0 ≤ a) (h1 : a < (t.size : Int)) (h2 : bt t a ≠ 73) :
    spec_l02Type.j0 k t a false = some (oneAt t a) := by
  obtain ⟨k, rfl⟩ : ∃ m, k = m + 1 := ⟨k - 1, by omega⟩
  simp only [spec_l02Type.j0]
  rw [if_neg (by simp), if_pos h0, if_pos h1, step64 h0 h1 hn]
  have e : oneAt t a = if a < (t.size : Int) ∧ bt t a = 76 then nameAt t (a + 1) else (a, false) := by
    unfold oneAt
    exact if_neg (fun h => h2 h.2)
  rw [e]
  by_cases c : bt t a = 76
  · rw [if_pos c, if_pos ⟨h1, c⟩]
    exact spec_name_run t hn (a + 1) (by omega) 20 k (a + 1) (by omega) (by omega) (by omega) (by omega)
  · rw [if_neg c, if_neg (fun h => c h.2)]
theorem spec_type_list (t : ByteArray) (hn : t.size ≤ 140737488351232) (k : Nat) (hk : 22 < k) (a : Int) (h0 : 0 ≤ a) (h1 : a ≤ (t.size : Int)) :
    spec_l02Type.f k t a true = some (oneAt t a) := by
  obtain ⟨k, rfl⟩ : ∃ m, k = m + 1 := ⟨k - 1, by omega⟩
  simp only [spec_l02Type.f]
  by_cases c : a < (t.size : Int)
  · rw [if_neg (by omega), if_pos h0, if_pos c, step64 h0 c hn]
    by_cases c2 : bt t a = 73
    · rw [if_pos c2]; unfold oneAt; rw [if_pos ⟨c, c2⟩]
    · rw [if_neg c2]
      have e := spec_type_one t hn k (by omega) a h0 c c2
      by_cases c3 : bt t a = 91
      · rw [if_pos c3]; exact e
      · rw [if_neg c3]; exact e
  · rw [if_pos (by omega)]; unfold oneAt; rw [if_neg (by omega), if_neg (by omega)]
theorem spec_type (t : ByteArray) (hn : t.size ≤ 140737488351232) (k : Nat) (hk : 24 < k) (a : Int) (h0 : 0 ≤ a) (h1 : a ≤ (t.size : Int)) :
    spec_l02Type.f k t a false = some (tyAt t a) := by
  obtain ⟨k, rfl⟩ : ∃ m, k = m + 1 := ⟨k - 1, by omega⟩
  simp only [spec_l02Type.f]
  unfold tyAt
  by_cases c : a < (t.size : Int)
  · rw [if_neg (by omega), if_pos h0, if_pos c, step64 h0 c hn]
    by_cases c2 : bt t a = 73
    · rw [if_pos c2, if_neg (by omega)]; unfold oneAt; rw [if_pos ⟨c, c2⟩]
    · rw [if_neg c2]
      by_cases c3 : bt t a = 91
      · rw [if_pos c3, if_pos ⟨c, c3⟩]
        obtain ⟨k, rfl⟩ : ∃ m, k = m + 1 := ⟨k - 1, by omega⟩
        simp only [spec_l02Type.j0]
        rw [if_pos (by simp), step64 h0 c hn, spec_type_list t hn k (by omega) (a + 1) (by omega) (by omega)]
        rfl
      · rw [if_neg c3, if_neg (fun h => c3 h.2)]
        exact spec_type_one t hn k (by omega) a h0 c c2
  · rw [if_pos (by omega), if_neg (by omega)]; unfold oneAt; rw [if_neg (by omega), if_neg (by omega)]
/-- The reader's kind behind its '['. -/
theorem kind_tail (t : ByteArray) (hn : t.size ≤ 140737488351232) (k : Nat) (hk : 21 < k) (s a : Int) (hs : 0 ≤ s) (hsa : s ≤ a) (h1 : a ≤ (t.size : Int)) :
    ((impl_reader_take.f t a false 73).bind fun (x : Bool × ByteArray × Int × Bool) => (if x.1 = true then (if x.2.2.2 = true then (some ((⟨#[]⟩ : ByteArray), x.2.1, x.2.2.1, x.2.2.2)) else (if 0 ≤ s then (if s ≤ x.2.2.1 then (if x.2.2.1 ≤ (x.2.1.size : Int) then (some (x.2.1.extract (s : Int).toNat (x.2.2.1 : Int).toNat, x.2.1, x.2.2.1, x.2.2.2)) else (none)) else (none)) else (none))) else ((impl_reader_take.f x.2.1 x.2.2.1 x.2.2.2 76).bind fun y => (if y.1 = true then ((impl_reader_name.f k y.2.1 y.2.2.1 y.2.2.2).bind fun z => (if z.2.2 = true then (some ((⟨#[]⟩ : ByteArray), z.1, z.2.1, z.2.2)) else (if 0 ≤ s then (if s ≤ z.2.1 then (if z.2.1 ≤ (z.1.size : Int) then (some (z.1.extract (s : Int).toNat (z.2.1 : Int).toNat, z.1, z.2.1, z.2.2)) else (none)) else (none)) else (none)))) else (some ((⟨#[]⟩ : ByteArray), y.2.1, y.2.2.1, true))))))
      = some ((if (oneAt t a).2 = true then t.extract s.toNat (oneAt t a).1.toNat else ⟨#[]⟩), t, (oneAt t a).1, !(oneAt t a).2) := by
  have h0 : 0 ≤ a := by omega
  rw [take_ok t hn a 73 h0]
  by_cases c1 : a < (t.size : Int) ∧ bt t a = 73
  · have e : oneAt t a = (a + 1, true) := by unfold oneAt; rw [if_pos c1]
    rw [if_pos c1, e]
    simp only [Option.bind_some]
    rw [if_pos trivial, if_neg (by simp), if_pos hs, if_pos (by omega), if_pos (by omega)]
    rfl
  · rw [if_neg c1]
    simp only [Option.bind_some]
    rw [if_neg (by simp), take_ok t hn a 76 h0]
    by_cases c2 : a < (t.size : Int) ∧ bt t a = 76
    · have e : oneAt t a = nameAt t (a + 1) := by unfold oneAt; rw [if_neg c1, if_pos c2]
      rw [if_pos c2, e]
      simp only [Option.bind_some]
      have hg := nend_ge t (a + 1) 20 (a + 1) (by omega)
      rw [if_pos trivial, impl_reader_name.f, name_run t hn (a + 1) (by omega) 20 k (a + 1) (by omega) (by omega) (by omega) (by omega)]
      unfold nameAt
      by_cases c3 : nend 20 t (a + 1) (a + 1) < (t.size : Int) ∧ bt t (nend 20 t (a + 1) (a + 1)) = 59 ∧ nend 20 t (a + 1) (a + 1) ≠ a + 1
      · rw [if_pos c3, if_pos c3]
        simp only [Option.bind_some]
        rw [if_neg (by simp), if_pos hs, if_pos (by omega), if_pos (by omega)]
        rfl
      · rw [if_neg c3, if_neg c3]
        rfl
    · have e : oneAt t a = (a, false) := by unfold oneAt; rw [if_neg c1, if_neg c2]
      rw [if_neg c2, e]
      rfl
theorem impl_kind (t : ByteArray) (hn : t.size ≤ 140737488351232) (k : Nat) (hk : 21 < k) (a : Int) (h0 : 0 ≤ a) (h1 : a ≤ (t.size : Int)) :
    impl_reader_kind.f k t a false = some ((if (tyAt t a).2 = true then t.extract a.toNat (tyAt t a).1.toNat else ⟨#[]⟩), t, (tyAt t a).1, !(tyAt t a).2) := by
  unfold impl_reader_kind.f
  rw [take_ok t hn a 91 h0]
  unfold tyAt
  by_cases c : a < (t.size : Int) ∧ bt t a = 91
  · rw [if_pos c, if_pos c]
    exact kind_tail t hn k hk a (a + 1) h0 (by omega) (by omega)
  · rw [if_neg c, if_neg c]
    exact kind_tail t hn k hk a a h0 (by omega) (by omega)

theorem bt_ext (s t : ByteArray) (h : s.size = t.size) (hb : ∀ i : Nat, i < s.size → bt s i = bt t i) : s = t := by
  apply ByteArray.ext
  apply Array.ext
  · exact h
  · intro i h1 h2
    have e := hb i h1
    have a := bt_at s i (by simpa using h1)
    have b := bt_at t i (by simpa using h2)
    rw [← a, ← b] at e
    exact UInt8.toNat_inj.mp (by exact_mod_cast e)
theorem str_one (s : ByteArray) (c : UInt8) : s.toList = [c] ↔ s.size = 1 ∧ bt s 0 = (c.toNat : Int) := by
  constructor
  · intro h
    have e : s = ⟨#[c]⟩ := WideShapes.bytes_inj (by rw [← Lib.toList_data]; exact h)
    subst e
    exact ⟨rfl, rfl⟩
  · intro h
    have e : s = ⟨#[c]⟩ := by
      refine bt_ext _ _ h.1 (fun i hi => ?_)
      obtain rfl : i = 0 := by omega
      exact h.2
    subst e
    rw [Lib.toList_data]
theorem one_shape (s : ByteArray) (a : Int) (h : oneAt s a = ((s.size : Int), true)) :
    (a + 1 = (s.size : Int) ∧ bt s a = 73) ∨ (a + 3 ≤ (s.size : Int) ∧ bt s a = 76) := by
  unfold oneAt at h
  split at h
  · rename_i c
    have := (Prod.mk.inj h).1
    exact .inl ⟨this, c.2⟩
  · split at h
    · rename_i c
      have hg := nend_ge s (a + 1) 20 (a + 1) (by omega)
      unfold nameAt at h
      split at h
      · rename_i c2
        have := (Prod.mk.inj h).1
        exact .inr ⟨by omega, c.2⟩
      · exact absurd (Prod.mk.inj h).2 (by simp)
    · exact absurd (Prod.mk.inj h).2 (by simp)
/-- What a right type looks like. -/
theorem right_shape (s : ByteArray) (h : tyAt s 0 = ((s.size : Int), true)) :
    (s.size = 1 ∧ bt s 0 = 73) ∨ (3 ≤ s.size ∧ bt s 0 = 76) ∨ (s.size = 2 ∧ bt s 0 = 91 ∧ bt s 1 = 73) ∨ (4 ≤ s.size ∧ bt s 0 = 91 ∧ bt s 1 = 76) := by
  unfold tyAt at h
  split at h
  · rename_i c
    rcases one_shape s _ h with h | h
    · exact .inr (.inr (.inl ⟨by omega, c.2, h.2⟩))
    · exact .inr (.inr (.inr ⟨by omega, c.2, h.2⟩))
  · rcases one_shape s _ h with h | h
    · exact .inl ⟨by omega, h.2⟩
    · exact .inr (.inl ⟨by omega, h.2⟩)
def tright (s : ByteArray) : Bool := (tyAt s 0).2 && (tyAt s 0).1 == (s.size : Int)
theorem tright_eq (s : ByteArray) (h : tright s = true) : tyAt s 0 = ((s.size : Int), true) := by
  unfold tright at h
  rw [Bool.and_eq_true, beq_iff_eq] at h
  exact Prod.ext h.2 h.1
theorem spec_right (s : ByteArray) (hn : s.size ≤ 20000) (k : Nat) (hk : 24 < k) : spec_TypeRight.f k s = some (tright s) := by
  unfold spec_TypeRight.f tright
  rw [if_neg (by omega), spec_type s (by omega) k hk 0 (by omega) (by omega)]
  simp only [Option.bind_some]
  cases (tyAt s 0).2 <;> simp
theorem impl_right (s : ByteArray) (hn : s.size ≤ 140737488351232) (k : Nat) (hk : 24 < k) : impl_typeRight.f k s = some (tright s) := by
  unfold impl_typeRight.f tright
  rw [impl_kind s hn k (by omega) 0 (by omega) (by omega)]
  simp only [Option.bind_some, impl_length.f]
  cases (tyAt s 0).2 <;> simp

theorem nend_le (t : ByteArray) (f : Int) : ∀ (n : Nat) (i : Int), nend n t f i ≤ i + n
  | 0, i => by unfold nend; omega
  | n + 1, i => by
    unfold nend
    split
    · have := nend_le t f n (i + 1)
      omega
    · omega
theorem one_le (t : ByteArray) (a : Int) : (oneAt t a).1 ≤ a + 22 := by
  have := nend_le t (a + 1) 20 (a + 1)
  unfold oneAt nameAt
  repeat' split
  all_goals (dsimp only; omega)
theorem tright_le (s : ByteArray) (h : tright s = true) : s.size ≤ 23 := by
  have e := tright_eq s h
  unfold tyAt at e
  split at e
  · have := one_le s (0 + 1)
    rw [e] at this
    dsimp only at this
    omega
  · have := one_le s 0
    rw [e] at this
    dsimp only at this
    omega
theorem spec_right_all (s : ByteArray) (k : Nat) (hk : 24 < k) : spec_TypeRight.f k s = some (tright s) := by
  by_cases c : s.size ≤ 20000
  · exact spec_right s c k hk
  · have e : tright s = false := by
      cases h : tright s with
      | false => rfl
      | true => have := tright_le s h; omega
    rw [e]
    unfold spec_TypeRight.f
    rw [if_pos (by omega)]

theorem tright_one (s : ByteArray) (h : s.size = 1 ∧ bt s 0 = 73) : tright s = true := by
  have e1 : oneAt s 0 = (1, true) := by unfold oneAt; rw [if_pos ⟨by omega, h.2⟩]; rfl
  unfold tright tyAt
  rw [if_neg (by omega), e1, h.1]
  rfl
theorem is_text (s : ByteArray) : impl_isText.f 2 [s] = some (decide (s.size ≤ 20000)) := by
  by_cases h : s.size ≤ 20000
  · simp [impl_isText.f, impl_isText.l0, rdOf, wrap64, h]
    omega
  · simp [impl_isText.f, impl_isText.l0, rdOf, wrap64, h]
    omega
theorem is_text_at (s : ByteArray) (k : Nat) (hk : 2 ≤ k) : impl_isText.f k [s] = some (decide (s.size ≤ 20000)) := by
  obtain ⟨d, rfl⟩ : ∃ d, k = 2 + d := ⟨k - 2, by omega⟩
  induction d with
  | zero => exact is_text s
  | succ d ih => exact impl_isText.mono [s] (2 + d) _ (ih (by omega))

abbrev DescR := List ByteArray × ByteArray × Int × Int
def dwrong (a : Int) : DescR := (([] : List ByteArray), (⟨#[]⟩ : ByteArray), a, 3)
/-- What is read behind the ')'. -/
def descTail (s : ByteArray) (a : Int) (ps : List ByteArray) : DescR :=
  if a < (s.size : Int) ∧ bt s a = 86 then (if a + 1 < (s.size : Int) then dwrong (a + 1) else (ps, (⟨#[86]⟩ : ByteArray), 0, 0))
  else if (tyAt s a).2 = true then (if (tyAt s a).1 < (s.size : Int) then dwrong (tyAt s a).1 else (ps, s.extract a.toNat (tyAt s a).1.toNat, 0, 0)) else dwrong (tyAt s a).1
def descLoop : Nat → ByteArray → Int → List ByteArray → DescR
  | 0, _, a, _ => dwrong a
  | n + 1, s, a, ps => if a < (s.size : Int) then
      (if bt s a = 41 then descTail s (a + 1) ps else if ps.length = 8 then dwrong a else
        if (tyAt s a).2 = true then descLoop n s (tyAt s a).1 (ps ++ [s.extract a.toNat (tyAt s a).1.toNat]) else dwrong (tyAt s a).1)
    else dwrong a
def descOf (s : ByteArray) : DescR := if 0 < (s.size : Int) ∧ bt s 0 = 40 then descLoop 9 s 1 [] else dwrong 0
theorem spec_desc_tail (s : ByteArray) (hn : s.size ≤ 140737488351232) (k : Nat) (hk : 25 < k) (a : Int) (h0 : 0 ≤ a) (h1 : a ≤ (s.size : Int)) (ps : List ByteArray) (b : Bool) (hb : b = decide (a < (s.size : Int) ∧ bt s a = 86)) :
    spec_DescRead.j3 k s a b ps ⟨#[]⟩ = some (descTail s a ps) := by
  obtain ⟨k, rfl⟩ : ∃ m, k = m + 1 := ⟨k - 1, by omega⟩
  have hg := tyAt_ge s a h1
  simp only [spec_DescRead.j3, spec_l02Wrong.f, Option.bind_some]
  unfold descTail
  by_cases c : a < (s.size : Int) ∧ bt s a = 86
  · rw [hb, decide_eq_true c, if_pos c, if_pos rfl, step64 h0 c.1 hn]
    by_cases c2 : a + 1 < (s.size : Int)
    · rw [if_pos c2, if_pos c2]; rfl
    · rw [if_neg c2, if_neg c2]
  · rw [hb, decide_eq_false c, if_neg c, if_neg (by simp), spec_type s hn k (by omega) a h0 h1]
    simp only [Option.bind_some]
    by_cases c2 : (tyAt s a).2 = true
    · rw [if_pos c2, if_pos c2, if_pos h0, if_pos hg.1, if_pos hg.2.1]
      by_cases c3 : (tyAt s a).1 < (s.size : Int)
      · rw [if_pos c3, if_pos c3]; rfl
      · rw [if_neg c3, if_neg c3]
    · rw [if_neg c2, if_neg c2]; rfl
theorem spec_desc_loop (s : ByteArray) (hn : s.size ≤ 140737488351232) : ∀ (n k : Nat) (a : Int) (ps : List ByteArray), 0 ≤ a → a ≤ (s.size : Int) → ps.length + n = 9 → 1 ≤ n → 30 + 2 * n ≤ k →
    spec_DescRead.l0 k s a ps ⟨#[]⟩ = some (descLoop n s a ps)
  | 0, k, a, ps, h0, h1, hp, h2, hk => by omega
  | n + 1, k, a, ps, h0, h1, hp, h2, hk => by
    obtain ⟨k, rfl⟩ : ∃ m, k = m + 2 := ⟨k - 2, by omega⟩
    have hg := tyAt_ge s a h1
    unfold descLoop
    simp only [spec_DescRead.l0]
    by_cases c : a < (s.size : Int)
    · rw [if_pos c, if_pos c, if_pos h0]
      simp only [spec_DescRead.j2, spec_l02Wrong.f, Option.bind_some]
      by_cases c2 : bt s a = 41
      · have e : (bt s a != 41) = false := bne_eq_false_iff_eq.mpr c2
        rw [if_pos c2, e, if_neg (by simp), if_neg (by omega), step64 h0 c hn]
        by_cases c3 : a + 1 < (s.size : Int)
        · rw [if_pos c3, if_pos (by omega)]
          exact spec_desc_tail s hn k (by omega) (a + 1) (by omega) (by omega) ps _ (by
            by_cases c4 : bt s (a + 1) = 86
            · rw [decide_eq_true ⟨c3, c4⟩]; simpa using c4
            · rw [decide_eq_false (fun h => c4 h.2)]; simpa using c4)
        · rw [if_neg c3]
          exact spec_desc_tail s hn k (by omega) (a + 1) (by omega) (by omega) ps _ (by rw [decide_eq_false (fun h => c3 h.1)])
      · have e : (bt s a != 41) = true := bne_iff_ne.mpr c2
        rw [if_neg c2, e, if_pos rfl]
        by_cases c3 : ps.length = 8
        · rw [if_pos (by omega), if_pos c3]; rfl
        · rw [if_neg (by omega), if_neg c3, spec_type s hn k (by omega) a h0 h1]
          simp only [Option.bind_some]
          by_cases c4 : (tyAt s a).2 = true
          · rw [if_pos c4, if_pos c4, if_pos h0, if_pos hg.1, if_pos hg.2.1, if_pos (by omega)]
            exact spec_desc_loop s hn n k _ _ (by omega) hg.2.1 (by simp; omega) (by omega) (by omega)
          · rw [if_neg c4, if_neg c4]; rfl
    · rw [if_neg c, if_neg c]
      simp only [spec_DescRead.j2, spec_l02Wrong.f, Option.bind_some]
      rw [if_neg (by simp), if_pos (by omega)]; rfl
theorem impl_desc_bad (s : ByteArray) (k : Nat) (hk : 0 < k) (a : Int) (ps : List ByteArray) : impl_descRead.j2 k s s a true ps ⟨#[]⟩ = some (dwrong a) := by
  obtain ⟨k, rfl⟩ : ∃ m, k = m + 1 := ⟨k - 1, by omega⟩
  simp only [impl_descRead.j2, take_bad, Option.bind_some]
  rfl
theorem impl_desc_tail (s : ByteArray) (hn : s.size ≤ 140737488351232) (k : Nat) (hk : 25 < k) (a : Int) (h0 : 0 ≤ a) (h1 : a ≤ (s.size : Int)) (ps : List ByteArray) :
    impl_descRead.j2 k s s a false ps ⟨#[]⟩ = some (descTail s a ps) := by
  obtain ⟨k, rfl⟩ : ∃ m, k = m + 1 := ⟨k - 1, by omega⟩
  have hg := tyAt_ge s a h1
  simp only [impl_descRead.j2, take_ok s hn a 86 h0, Option.bind_some, impl_length.f]
  unfold descTail
  by_cases c : a < (s.size : Int) ∧ bt s a = 86
  · rw [if_pos c, if_pos c]
    simp only [if_pos trivial]
    by_cases c2 : a + 1 < (s.size : Int)
    · rw [if_pos c2, if_pos c2, if_neg (by simp)]; rfl
    · rw [if_neg c2, if_neg c2, if_neg (by simp)]
  · rw [if_neg c, if_neg c]
    rw [if_neg (by simp), if_neg (by simp)]
    dsimp only
    rw [impl_kind s hn k (by omega) a h0 h1]
    simp only [Option.bind_some]
    by_cases c2 : (tyAt s a).2 = true
    · rw [if_pos c2, c2]
      simp only [if_pos trivial]
      rw [if_neg (by simp)]
      by_cases c3 : (tyAt s a).1 < (s.size : Int)
      · rw [if_pos c3, if_pos c3]; rfl
      · rw [if_neg c3, if_neg c3]
    · have c2' : (tyAt s a).2 = false := by simpa using c2
      rw [if_neg c2, c2']
      rfl
theorem impl_desc_loop (s : ByteArray) (hn : s.size ≤ 140737488351232) : ∀ (n k : Nat) (a : Int) (ps : List ByteArray), 0 ≤ a → a ≤ (s.size : Int) → ps.length + n = 9 → 1 ≤ n → 30 + 2 * n ≤ k →
    impl_descRead.l0 k s s a false ps ⟨#[]⟩ = some (descLoop n s a ps)
  | 0, k, a, ps, h0, h1, hp, h2, hk => by omega
  | n + 1, k, a, ps, h0, h1, hp, h2, hk => by
    obtain ⟨k, rfl⟩ : ∃ m, k = m + 2 := ⟨k - 2, by omega⟩
    have hg := tyAt_ge s a h1
    have hbad : ∀ (i : Int) (qs : List ByteArray), impl_descRead.l0 k s s i true qs ⟨#[]⟩ = some (dwrong i) := fun i qs => by
      obtain ⟨k, rfl⟩ : ∃ m, k = m + 2 := ⟨k - 2, by omega⟩
      simp only [impl_descRead.l0]
      rw [if_pos trivial]
      simp only [impl_descRead.j1]
      rw [if_neg (by simp)]
      exact impl_desc_bad s k (by omega) i qs
    unfold descLoop
    simp only [impl_descRead.l0]
    rw [if_neg (by simp), take_ok s hn a 41 h0]
    simp only [Option.bind_some]
    by_cases c : a < (s.size : Int)
    · rw [if_pos c]
      by_cases c2 : bt s a = 41
      · rw [if_pos ⟨c, c2⟩, if_pos c2]
        simp only [impl_descRead.j1]
        rw [if_neg (by simp)]
        exact impl_desc_tail s hn k (by omega) (a + 1) (by omega) (by omega) ps
      · rw [if_neg (fun h => c2 h.2), if_neg c2]
        simp only [impl_descRead.j1]
        rw [if_pos (by simp)]
        by_cases c3 : ps.length = 8
        · rw [if_pos (by omega), if_pos c3]
          exact impl_desc_bad s k (by omega) a ps
        · rw [if_neg (by omega), if_neg c3, impl_kind s hn k (by omega) a h0 h1]
          simp only [Option.bind_some]
          rw [if_pos (by omega)]
          by_cases c4 : (tyAt s a).2 = true
          · rw [if_pos c4, if_pos c4, c4]
            exact impl_desc_loop s hn n k _ _ (by omega) hg.2.1 (by simp; omega) (by omega) (by omega)
          · have c4' : (tyAt s a).2 = false := by simpa using c4
            rw [if_neg c4, if_neg c4, c4']
            exact hbad _ _
    · rw [if_neg c, if_neg (fun h => c h.1)]
      simp only [impl_descRead.j1]
      rw [if_pos (by simp)]
      by_cases c3 : ps.length = 8
      · rw [if_pos (by omega)]
        exact impl_desc_bad s k (by omega) a ps
      · rw [if_neg (by omega), impl_kind s hn k (by omega) a h0 h1]
        simp only [Option.bind_some]
        rw [if_pos (by omega)]
        have e : tyAt s a = (a, false) := by
          unfold tyAt oneAt
          rw [if_neg (fun h => c h.1), if_neg (fun h => c h.1), if_neg (fun h => c h.1)]
        rw [e]
        exact hbad _ _
theorem spec_desc (s : ByteArray) (hn : s.size ≤ 20000) (k : Nat) (hk : 60 ≤ k) : spec_DescRead.f k s = some (descOf s) := by
  obtain ⟨k, rfl⟩ : ∃ m, k = m + 1 := ⟨k - 1, by omega⟩
  unfold spec_DescRead.f descOf
  rw [if_neg (by omega)]
  by_cases c : (s.size : Int) = 0
  · rw [if_pos c, if_neg (by omega)]
    simp only [spec_DescRead.j0, spec_l02Wrong.f, Option.bind_some]
    rw [if_pos trivial]; rfl
  · rw [if_neg c, if_pos (by omega)]
    simp only [spec_DescRead.j0, spec_l02Wrong.f, Option.bind_some]
    by_cases c2 : bt s 0 = 40
    · rw [bne_eq_false_iff_eq.mpr c2, if_neg (by simp), if_pos ⟨by omega, c2⟩]
      exact spec_desc_loop s (by omega) 9 k 1 [] (by omega) (by omega) (by simp) (by omega) (by omega)
    · rw [bne_iff_ne.mpr c2, if_pos rfl, if_neg (fun h => c2 h.2)]; rfl
theorem impl_desc (s : ByteArray) (hn : s.size ≤ 140737488351232) (k : Nat) (hk : 60 ≤ k) : impl_descRead.f k s = some (descOf s) := by
  unfold impl_descRead.f descOf
  rw [want_ok s hn 0 40 (by omega)]
  simp only [Option.bind_some]
  by_cases c : (0 : Int) < (s.size : Int) ∧ bt s 0 = 40
  · rw [if_pos c, if_pos c]
    exact impl_desc_loop s hn 9 k 1 [] (by omega) (by omega) (by simp) (by omega) (by omega)
  · rw [if_neg c, if_neg c]
    obtain ⟨k, rfl⟩ : ∃ m, k = m + 2 := ⟨k - 2, by omega⟩
    simp only [impl_descRead.l0]
    rw [if_pos trivial]
    simp only [impl_descRead.j1]
    rw [if_neg (by simp)]
    exact impl_desc_bad s k (by omega) 0 []
/-- What DescRead returns: 'too long' where it is. -/
def descGot (s : ByteArray) : DescR := if s.size ≤ 20000 then descOf s else (([] : List ByteArray), (⟨#[]⟩ : ByteArray), 0, 2)
theorem spec_Desc (s : ByteArray) (k : Nat) (hk : 60 ≤ k) : spec_DescRead.f k s = some (descGot s) := by
  unfold descGot
  by_cases c : s.size ≤ 20000
  · rw [if_pos c]; exact spec_desc s c k hk
  · rw [if_neg c]
    unfold spec_DescRead.f
    rw [if_pos (by omega)]

def bareB (c n d : ByteArray) : Bool := decide (c.toList = []) && (decide (n.toList = []) && decide (d.toList = []))
theorem ins_bare (k : Nat) (o a : Int) (c n d : ByteArray) : impl_InsRight.f k o a c n d = impl_InsRight.j0 k (bareB c n d) o a c n d := by
  unfold impl_InsRight.f bareB
  by_cases h1 : c.toList = []
  · rw [if_pos h1, decide_eq_true h1]
    by_cases h2 : n.toList = []
    · rw [if_pos h2, decide_eq_true h2]
      have e : (d.toList == ([] : List UInt8)) = decide (d.toList = []) := by
        rw [Bool.eq_iff_iff, beq_iff_eq, decide_eq_true_eq]
      rw [e]; rfl
    · rw [if_neg h2, decide_eq_false h2]; rfl
  · rw [if_neg h1, decide_eq_false h1]; rfl
theorem spec_bare (o a : Int) (c n d : ByteArray) : spec_l03Empty.f o a c n d = some (bareB c n d) := by
  unfold spec_l03Empty.f bareB
  by_cases h1 : c.toList = []
  · rw [if_pos h1, decide_eq_true h1]
    by_cases h2 : n.toList = []
    · rw [if_pos h2, decide_eq_true h2]
      have e : (d.toList == ([] : List UInt8)) = decide (d.toList = []) := by
        rw [Bool.eq_iff_iff, beq_iff_eq, decide_eq_true_eq]
      rw [e]; rfl
    · rw [if_neg h2, decide_eq_false h2]; rfl
  · rw [if_neg h1, decide_eq_false h1]; rfl
theorem is_desc (s : ByteArray) (k : Nat) (hk : 60 ≤ k) : impl_isDesc.f k s = some ((descGot s).2.2.2 == 0) := by
  unfold impl_isDesc.f descGot
  rw [is_text_at s k (by omega)]
  by_cases c : s.size ≤ 20000
  · rw [decide_eq_true c, if_pos c]
    simp only [Option.bind_some]
    rw [if_pos trivial, impl_desc s (by omega) k hk]
    rfl
  · rw [decide_eq_false c, if_neg c]
    rfl
/-- Both laws on instructions come to one answer. -/
theorem ins_same (o a : Int) (c n d : ByteArray) (hc : c.size ≤ 1048576) (hn : n.size ≤ 1048576) (hd : d.size ≤ 1048576) :
    ∃ r, (∀ k, 1048600 ≤ k → spec_InsRight.f k o a c n d = some r) ∧ (∀ k, 1048600 ≤ k → impl_InsRight.f k o a c n d = some r) := by
  obtain ⟨F, hF1, hF2⟩ := op_form o
  obtain ⟨b1, s1, i1⟩ := names_same c (by omega)
  obtain ⟨b2, s2, i2⟩ := names_same n (by omega)
  have key : ∀ k, 1048599 ≤ k → ∃ r, spec_InsRight.f (k + 1) o a c n d = some r ∧ impl_InsRight.f (k + 1) o a c n d = some r := by
    intro k hk
    rw [ins_bare]
    unfold spec_InsRight.f
    simp only [impl_InsRight.j0, hF1, hF2 (k + 1) (by omega), Option.bind_some, spec_bare, s1 (k + 1) (by omega), s2 (k + 1) (by omega), i1 k (by omega), i2 k (by omega), spec_right_all d (k + 1) (by omega), impl_right d (by omega) k (by omega), spec_Desc d (k + 1) (by omega), is_desc d k (by omega), impl_isInt.f, impl_within.f, spec_l01Int.f, impl_isMethodName.f]
    generalize bareB c n d = B
    by_cases f0 : F.toList = []
    · rw [if_pos f0, if_pos f0]
      cases B <;> by_cases ha : a = 0 <;> simp [ha]
    rw [if_neg f0, if_neg f0]
    by_cases f1 : F.toList = [110]
    · rw [if_pos f1, if_pos f1]
      cases B <;> by_cases h1 : a ≥ -2147483648 <;> by_cases h2 : a ≤ 2147483647 <;> simp [h1, h2]
    rw [if_neg f1, if_neg f1]
    by_cases f2 : F.toList = [105]
    · rw [if_pos f2, if_pos f2]
      cases B <;> by_cases h1 : a ≥ 0 <;> by_cases h2 : a < 16 <;> simp [h1, h2] <;> omega
    rw [if_neg f2, if_neg f2]
    by_cases f3 : F.toList = [116]
    · rw [if_pos f3, if_pos f3]
      cases B <;> by_cases h1 : a ≥ 0 <;> by_cases h2 : a < 60 <;> simp [h1, h2] <;> omega
    rw [if_neg f3, if_neg f3]
    by_cases f4 : F.toList = [99]
    · rw [if_pos f4, if_pos f4]
      by_cases ha : a = 0 <;> by_cases h2 : n.toList = [] <;> cases b1 <;> simp [ha, h2]
    rw [if_neg f4, if_neg f4]
    by_cases f5 : F.toList = [121]
    · rw [if_pos f5, if_pos f5]
      by_cases ha : a = 0
      · rw [if_pos ha, if_pos ha]
        by_cases h1 : c.toList = []
        · rw [if_pos h1, if_pos h1]
          by_cases h2 : n.toList = []
          · rw [if_pos h2, if_pos h2]
            by_cases ht : tright d = true
            · have hs := right_shape d (tright_eq d ht)
              rw [ht, if_pos rfl, if_pos (by omega)]
              by_cases h3 : d.toList = [73]
              · rw [if_pos h3]
                have := (str_one d 73).mp h3
                have e : bt d 0 = 73 := this.2
                exact ⟨_, rfl, by rw [e]; rfl⟩
              · rw [if_neg h3, if_pos rfl, if_pos (by omega)]
                refine ⟨_, rfl, congrArg some ?_⟩
                have h4 : ¬ (d.size = 1 ∧ bt d 0 = 73) := fun h => h3 ((str_one d 73).mpr h)
                by_cases h5 : bt d 0 = 76
                · rw [h5]; rfl
                · have h6 : bt d 0 = 91 := by omega
                  rw [h6]; rfl
            · have h3 : ¬ d.toList = [73] := fun h => ht (tright_one d ((str_one d 73).mp h))
              rw [if_neg ht, if_neg h3, if_neg ht]
              exact ⟨_, rfl, rfl⟩
          · rw [if_neg h2, if_neg h2]
            exact ⟨_, rfl, rfl⟩
        · rw [if_neg h1, if_neg h1]
          exact ⟨_, rfl, rfl⟩
      · rw [if_neg ha, if_neg ha]
        exact ⟨_, rfl, rfl⟩
    rw [if_neg f5, if_neg f5]
    by_cases f6 : F.toList = [102]
    · rw [if_pos f6, if_pos f6]
      by_cases ha : a = 0 <;> cases b1 <;> cases b2 <;> simp [ha]
    rw [if_neg f6, if_neg f6]
    by_cases f7 : F.toList = [109]
    · rw [if_pos f7, if_pos f7]
      by_cases ha : a = 0
      · rw [if_pos ha, if_pos ha]
        cases b1
        · simp
        · cases b2
          · by_cases h3 : n.toList = [60, 105, 110, 105, 116, 62] <;> simp [h3]
          · simp
      · rw [if_neg ha, if_neg ha]
        exact ⟨_, rfl, rfl⟩
    rw [if_neg f7, if_neg f7]
    exact ⟨_, rfl, rfl⟩
  obtain ⟨r, e1, e2⟩ := key 1048599 (Nat.le_refl _)
  refine ⟨r, fun k hk => ?_, fun k hk => ?_⟩
  · exact at_rounds (g := fun k => spec_InsRight.f k o a c n d) (fun k => spec_InsRight.mono _ _ _ _ _ _) hk e1
  · exact at_rounds (g := fun k => impl_InsRight.f k o a c n d) (fun k => impl_InsRight.mono _ _ _ _ _ _) hk e2

theorem s_j0 (k : Nat) (W : List ByteArray) (F : ByteArray) (b : Bool) (o a : Int) (c n d : ByteArray) : spec_l14Read.j0 (k + 1) W F b o a c n d = if b = true then (if 1 < (W.length : Int) then ((spec_l01Num.f k (rdOf ByteArray.empty W 1)).bind fun p => some (o, p.1, c, n, d, p.2)) else none) else (if F.toList = ([99] : List UInt8) then spec_l14Read.j1 k W F ((W.length : Int) == 2) o a c n d else spec_l14Read.j1 k W F false o a c n d) := rfl
theorem s_j1 (k : Nat) (W : List ByteArray) (F : ByteArray) (b : Bool) (o a : Int) (c n d : ByteArray) : spec_l14Read.j1 (k + 1) W F b o a c n d = if b = true then (if 1 < (W.length : Int) then some (o, a, rdOf ByteArray.empty W 1, n, d, true) else none) else (if F.toList = ([121] : List UInt8) then spec_l14Read.j2 k W F ((W.length : Int) == 2) o a c n d else spec_l14Read.j2 k W F false o a c n d) := rfl
theorem s_j2 (k : Nat) (W : List ByteArray) (F : ByteArray) (b : Bool) (o a : Int) (c n d : ByteArray) : spec_l14Read.j2 (k + 1) W F b o a c n d = if b = true then (if 1 < (W.length : Int) then some (o, a, c, n, rdOf ByteArray.empty W 1, true) else none) else (if F.toList = ([102] : List UInt8) then (if (W.length : Int) = 4 then (if 1 < (W.length : Int) then (if 2 < (W.length : Int) then (if 3 < (W.length : Int) then some (o, a, rdOf ByteArray.empty W 1, rdOf ByteArray.empty W 2, rdOf ByteArray.empty W 3, true) else none) else none) else none) else (if F.toList = ([] : List UInt8) then some (o, a, c, n, d, ((W.length : Int) == 1)) else some (o, a, c, n, d, false))) else (if F.toList = ([109] : List UInt8) then (if (W.length : Int) = 4 then (if 1 < (W.length : Int) then (if 2 < (W.length : Int) then (if 3 < (W.length : Int) then some (o, a, rdOf ByteArray.empty W 1, rdOf ByteArray.empty W 2, rdOf ByteArray.empty W 3, true) else none) else none) else none) else (if F.toList = ([] : List UInt8) then some (o, a, c, n, d, ((W.length : Int) == 1)) else some (o, a, c, n, d, false))) else (if F.toList = ([] : List UInt8) then some (o, a, c, n, d, ((W.length : Int) == 1)) else some (o, a, c, n, d, false)))) := rfl
theorem i_j1 (k : Nat) (F : ByteArray) (R : List ByteArray) (b : Bool) (o a : Int) (c n d : ByteArray) : impl_insOf.j1 (k + 1) F R b o a c n d = if b = true then some (0, 0, (⟨#[]⟩ : ByteArray), (⟨#[]⟩ : ByteArray), (⟨#[]⟩ : ByteArray), false) else (if F.toList = ([110] : List UInt8) then impl_insOf.j2 k R true F (F.toList == ([110] : List UInt8)) o a c n d else (if F.toList = ([105] : List UInt8) then impl_insOf.j2 k R true F (F.toList == ([105] : List UInt8)) o a c n d else impl_insOf.j2 k R true F (F.toList == ([116] : List UInt8)) o a c n d)) := rfl
theorem i_j2 (k : Nat) (R : List ByteArray) (y : Bool) (F : ByteArray) (b : Bool) (o a : Int) (c n d : ByteArray) : impl_insOf.j2 (k + 1) R y F b o a c n d = if b = true then (if 0 < (R.length : Int) then ((impl_numberOf.f (rdOf ByteArray.empty R 0)).bind fun p => some (o, p.1, c, n, d, p.2)) else none) else (if F.toList = ([99] : List UInt8) then (if 0 < (R.length : Int) then some (o, a, rdOf ByteArray.empty R 0, n, d, y) else none) else (if F.toList = ([121] : List UInt8) then (if 0 < (R.length : Int) then some (o, a, c, n, rdOf ByteArray.empty R 0, y) else none) else (if F.toList = ([102] : List UInt8) then (if 0 < (R.length : Int) then (if 1 < (R.length : Int) then (if 2 < (R.length : Int) then some (o, a, rdOf ByteArray.empty R 0, rdOf ByteArray.empty R 1, rdOf ByteArray.empty R 2, y) else none) else none) else none) else (if F.toList = ([109] : List UInt8) then (if 0 < (R.length : Int) then (if 1 < (R.length : Int) then (if 2 < (R.length : Int) then some (o, a, rdOf ByteArray.empty R 0, rdOf ByteArray.empty R 1, rdOf ByteArray.empty R 2, y) else none) else none) else none) else some (o, a, c, n, d, y))))) := rfl
theorem i_l0 (k : Nat) (x0 x14 : List ByteArray) (x15 x16 o a : Int) (c n d : ByteArray) : impl_insOf.l0 (k + 1) x0 x14 x15 x16 o a c n d = if x16 < x15 then (if 0 ≤ x16 then (if x16 < (x14.length : Int) then (if 0 < (x0.length : Int) then (if (rdOf ByteArray.empty x0 0).toList = (rdOf ByteArray.empty x14 x16).toList then (impl_insOf.l0 k x0 x14 x15 (wrap64 (x16 + 1)) (wrap64 (x16 + 1)) a c n d) else (impl_insOf.l0 k x0 x14 x15 (wrap64 (x16 + 1)) o a c n d)) else (none)) else (none)) else (none)) else ((impl_OpForm.f o).bind fun F => (if 1 ≤ (x0.length : Int) then ((map_make46.f).bind fun _ => ((map_look46.f F).bind fun p => (if p.2 = true then (impl_insOf.j1 k F (x0.drop 1) (((x0.drop 1).length : Int) != p.1) o a c n d) else (impl_insOf.j1 k F (x0.drop 1) true o a c n d)))) else (none))) := rfl
def tailI (k : Nat) (x0 : List ByteArray) (o : Int) : Option (Int × Int × ByteArray × ByteArray × ByteArray × Bool) := (impl_OpForm.f o).bind fun F => (if 1 ≤ (x0.length : Int) then ((map_make46.f).bind fun _ => ((map_look46.f F).bind fun p => (if p.2 = true then (impl_insOf.j1 k F (x0.drop 1) (((x0.drop 1).length : Int) != p.1) o 0 ⟨#[]⟩ ⟨#[]⟩ ⟨#[]⟩) else (impl_insOf.j1 k F (x0.drop 1) true o 0 ⟨#[]⟩ ⟨#[]⟩ ⟨#[]⟩)))) else (none))
theorem op_impl (x0 : List ByteArray) (hx : 0 < x0.length) (r : Int × Int × ByteArray × ByteArray × ByteArray × Bool) (h : Ev (fun k => tailI k x0 (opOf (rdOf ByteArray.empty x0 0) : Int)) r) : Ev (fun k => impl_insOf.f k x0) r := by
  have key : ∀ d i c : Nat, i + d = 44 → Ev (fun k => tailI k x0 (lastOp (rdOf ByteArray.empty x0 0) d i c : Int)) r → Ev (fun k => impl_insOf.l0 k x0 namesL 44 (i : Int) (c : Int) 0 ⟨#[]⟩ ⟨#[]⟩ ⟨#[]⟩) r := by
    intro d
    induction d with
    | zero =>
      intro i c hd hh
      refine Ev.step (fun k => ?_) hh
      rw [i_l0, if_neg (by omega)]
      rfl
    | succ d ih =>
      intro i c hd hh
      have w1 : wrap64 ((i : Int) + 1) = ((i + 1 : Nat) : Int) := by unfold wrap64; omega
      have hlen : (namesL.length : Int) = 44 := by rw [names_len]; rfl
      unfold lastOp at hh
      by_cases e : (nm i).toList = (rdOf ByteArray.empty x0 0).toList
      · rw [if_pos e] at hh
        refine Ev.step (fun k => ?_) (ih (i + 1) (i + 1) (by omega) hh)
        rw [i_l0, if_pos (by omega), if_pos (by omega), if_pos (by omega), if_pos (by omega), if_pos (show (rdOf ByteArray.empty x0 0).toList = (rdOf ByteArray.empty namesL (i : Int)).toList from e.symm), w1]
      · rw [if_neg e] at hh
        refine Ev.step (fun k => ?_) (ih (i + 1) c (by omega) hh)
        rw [i_l0, if_pos (by omega), if_pos (by omega), if_pos (by omega), if_pos (by omega), if_neg (show ¬ (rdOf ByteArray.empty x0 0).toList = (rdOf ByteArray.empty namesL (i : Int)).toList from fun h => e h.symm), w1]
  have h0 : Ev (fun k => impl_insOf.l0 k x0 namesL 44 0 0 0 ⟨#[]⟩ ⟨#[]⟩ ⟨#[]⟩) r := key 44 0 0 (by omega) (by rw [last_first _ 44 0 (by omega)]; exact h)
  exact Ev.congr (fun k => rfl) h0
theorem look_at (F : ByteArray) (X : List UInt8) (p : Int × Bool) (hF : F.toList = X) (hX : X.length ≤ 5) (h : map46_L X = p) : map_look46.f F = some p := by
  have e : F.data.toList = X := by rw [← Lib.toList_data]; exact hF
  have hs : F.size = X.length := by rw [← e, Array.length_toList]; rfl
  unfold map_look46.f
  rw [if_pos (by unfold maxLen; omega), e, h]
def numF (F : ByteArray) : Prop := F.toList = [110] ∨ F.toList = [105] ∨ F.toList = [116]
/-- What both read of the words w0 :: R under the form F: how it ends. -/
theorem read_both (w0 : ByteArray) (R : List ByteArray) (F : ByteArray) (o : Int) (p q : Int × Bool)
    (hF : F.toList = [] ∨ F.toList = [110] ∨ F.toList = [105] ∨ F.toList = [116] ∨ F.toList = [99] ∨ F.toList = [121] ∨ F.toList = [102] ∨ F.toList = [109] ∨ F.toList = [33])
    (hf : impl_OpForm.f o = some F) (hp : ∀ x, R = [x] → Ev (fun k => spec_l01Num.f k x) p) (hq : ∀ x, R = [x] → impl_numberOf.f x = some q) (hpq : p.2 = q.2) :
    ∃ rs ri : Int × Int × ByteArray × ByteArray × ByteArray × Bool,
      Ev (fun k => if F.toList = ([110] : List UInt8) then (spec_l14Read.j0 k (w0 :: R) F (((w0 :: R).length : Int) == 2) o 0 (⟨#[]⟩ : ByteArray) (⟨#[]⟩ : ByteArray) (⟨#[]⟩ : ByteArray)) else (if F.toList = ([105] : List UInt8) then (spec_l14Read.j0 k (w0 :: R) F (((w0 :: R).length : Int) == 2) o 0 (⟨#[]⟩ : ByteArray) (⟨#[]⟩ : ByteArray) (⟨#[]⟩ : ByteArray)) else (if F.toList = ([116] : List UInt8) then (spec_l14Read.j0 k (w0 :: R) F (((w0 :: R).length : Int) == 2) o 0 (⟨#[]⟩ : ByteArray) (⟨#[]⟩ : ByteArray) (⟨#[]⟩ : ByteArray)) else (spec_l14Read.j0 k (w0 :: R) F false o 0 (⟨#[]⟩ : ByteArray) (⟨#[]⟩ : ByteArray) (⟨#[]⟩ : ByteArray))))) rs ∧
      Ev (fun k => tailI k (w0 :: R) o) ri ∧ rs.2.2.2.2.2 = ri.2.2.2.2.2 ∧
      (rs.2.2.2.2.2 = true → (numF F ∧ (∃ x, R = [x]) ∧ rs = (o, p.1, ⟨#[]⟩, ⟨#[]⟩, ⟨#[]⟩, p.2) ∧ ri = (o, q.1, ⟨#[]⟩, ⟨#[]⟩, ⟨#[]⟩, q.2)) ∨ (∃ x, R = [x] ∧ F.toList = [99] ∧ rs = (o, 0, x, ⟨#[]⟩, ⟨#[]⟩, true) ∧ ri = rs) ∨ (∃ x, R = [x] ∧ F.toList = [121] ∧ rs = (o, 0, ⟨#[]⟩, ⟨#[]⟩, x, true) ∧ ri = rs) ∨ (∃ x y z, R = [x, y, z] ∧ (F.toList = [102] ∨ F.toList = [109]) ∧ rs = (o, 0, x, y, z, true) ∧ ri = rs) ∨ (R = [] ∧ F.toList = [] ∧ rs = (o, 0, ⟨#[]⟩, ⟨#[]⟩, ⟨#[]⟩, true) ∧ ri = rs)) := by
  have no : Ev (fun k => impl_insOf.j1 k F R true o 0 (⟨#[]⟩ : ByteArray) (⟨#[]⟩ : ByteArray) (⟨#[]⟩ : ByteArray)) (0, 0, (⟨#[]⟩ : ByteArray), (⟨#[]⟩ : ByteArray), (⟨#[]⟩ : ByteArray), false) := Ev.step (f := fun _ => some _) (fun k => by rw [i_j1, if_pos rfl]) (Ev.now _)
  have tl : ∀ (X : List UInt8) (c : Int × Bool) (r), F.toList = X → X.length ≤ 5 → map46_L X = c → Ev (fun k => if c.2 = true then (impl_insOf.j1 k F R ((R.length : Int) != c.1) o 0 ⟨#[]⟩ ⟨#[]⟩ ⟨#[]⟩) else (impl_insOf.j1 k F R true o 0 ⟨#[]⟩ ⟨#[]⟩ ⟨#[]⟩)) r → Ev (fun k => tailI k (w0 :: R) o) r := by
    intro X c r h1 h2 h3 h4
    refine Ev.congr (fun k => ?_) h4
    unfold tailI
    rw [hf]
    simp only [Option.bind_some]
    rw [if_pos (by simp only [List.length_cons]; omega), look_at F X c h1 h2 h3]
    rfl
  rcases hF with h | h | h | h | h | h | h | h | h
  · -- no operand
    rcases R with _ | ⟨x, _ | ⟨y, _ | ⟨z, _ | ⟨u, r⟩⟩⟩⟩
    · exact ⟨(o, 0, ⟨#[]⟩, ⟨#[]⟩, ⟨#[]⟩, true), (o, 0, ⟨#[]⟩, ⟨#[]⟩, ⟨#[]⟩, true), by simp only [h]; exact Ev.step (fun k => by simp [s_j0, h] <;> rfl) (Ev.step (fun k => by simp [s_j1, h] <;> rfl) (Ev.step (f := fun _ => some _) (fun k => by simp [s_j2, h] <;> first | rfl | exact ⟨rfl, rfl, rfl⟩ | exact ⟨rfl, rfl⟩ | omega) (Ev.now _))), tl [] (0, true) _ h (by simp) rfl (Ev.step (fun k => by simp [i_j1, h] <;> rfl) (Ev.step (f := fun _ => some _) (fun k => by simp [i_j2, h] <;> first | rfl | exact ⟨rfl, rfl, rfl⟩ | exact ⟨rfl, rfl⟩) (Ev.now _))), rfl, fun _ => .inr (.inr (.inr (.inr ⟨rfl, h, rfl, rfl⟩)))⟩
    · exact ⟨(o, 0, ⟨#[]⟩, ⟨#[]⟩, ⟨#[]⟩, false), (0, 0, ⟨#[]⟩, ⟨#[]⟩, ⟨#[]⟩, false), by simp only [h]; exact Ev.step (fun k => by simp [s_j0, h] <;> rfl) (Ev.step (fun k => by simp [s_j1, h] <;> rfl) (Ev.step (f := fun _ => some _) (fun k => by simp [s_j2, h] <;> first | rfl | exact ⟨rfl, rfl, rfl⟩ | exact ⟨rfl, rfl⟩ | omega) (Ev.now _))), tl [] (0, true) _ h (by simp) rfl (Ev.congr (fun k => by rw [if_pos rfl]; first | rfl | (congr 1; exact bne_iff_ne.mpr (by simp only [List.length_cons, List.length_nil]; omega))) no), rfl, fun e => (by cases e)⟩
    · exact ⟨(o, 0, ⟨#[]⟩, ⟨#[]⟩, ⟨#[]⟩, false), (0, 0, ⟨#[]⟩, ⟨#[]⟩, ⟨#[]⟩, false), by simp only [h]; exact Ev.step (fun k => by simp [s_j0, h] <;> rfl) (Ev.step (fun k => by simp [s_j1, h] <;> rfl) (Ev.step (f := fun _ => some _) (fun k => by simp [s_j2, h] <;> first | rfl | exact ⟨rfl, rfl, rfl⟩ | exact ⟨rfl, rfl⟩ | omega) (Ev.now _))), tl [] (0, true) _ h (by simp) rfl (Ev.congr (fun k => by rw [if_pos rfl]; first | rfl | (congr 1; exact bne_iff_ne.mpr (by simp only [List.length_cons, List.length_nil]; omega))) no), rfl, fun e => (by cases e)⟩
    · exact ⟨(o, 0, ⟨#[]⟩, ⟨#[]⟩, ⟨#[]⟩, false), (0, 0, ⟨#[]⟩, ⟨#[]⟩, ⟨#[]⟩, false), by simp only [h]; exact Ev.step (fun k => by simp [s_j0, h] <;> rfl) (Ev.step (fun k => by simp [s_j1, h] <;> rfl) (Ev.step (f := fun _ => some _) (fun k => by simp [s_j2, h] <;> first | rfl | exact ⟨rfl, rfl, rfl⟩ | exact ⟨rfl, rfl⟩ | omega) (Ev.now _))), tl [] (0, true) _ h (by simp) rfl (Ev.congr (fun k => by rw [if_pos rfl]; first | rfl | (congr 1; exact bne_iff_ne.mpr (by simp only [List.length_cons, List.length_nil]; omega))) no), rfl, fun e => (by cases e)⟩
    · exact ⟨(o, 0, ⟨#[]⟩, ⟨#[]⟩, ⟨#[]⟩, false), (0, 0, ⟨#[]⟩, ⟨#[]⟩, ⟨#[]⟩, false), by simp only [h]; exact Ev.step (fun k => by simp [s_j0, h] <;> rfl) (Ev.step (fun k => by simp [s_j1, h] <;> rfl) (Ev.step (f := fun _ => some _) (fun k => by simp [s_j2, h] <;> first | rfl | exact ⟨rfl, rfl, rfl⟩ | exact ⟨rfl, rfl⟩ | omega) (Ev.now _))), tl [] (0, true) _ h (by simp) rfl (Ev.congr (fun k => by rw [if_pos rfl]; first | rfl | (congr 1; exact bne_iff_ne.mpr (by simp only [List.length_cons, List.length_nil]; omega))) no), rfl, fun e => (by cases e)⟩
  · -- n
    rcases R with _ | ⟨x, _ | ⟨y, _ | ⟨z, _ | ⟨u, r⟩⟩⟩⟩
    · exact ⟨(o, 0, ⟨#[]⟩, ⟨#[]⟩, ⟨#[]⟩, false), (0, 0, ⟨#[]⟩, ⟨#[]⟩, ⟨#[]⟩, false), by simp only [h]; exact Ev.step (fun k => by simp [s_j0, h] <;> rfl) (Ev.step (fun k => by simp [s_j1, h] <;> rfl) (Ev.step (f := fun _ => some _) (fun k => by simp [s_j2, h] <;> first | rfl | exact ⟨rfl, rfl, rfl⟩ | exact ⟨rfl, rfl⟩ | omega) (Ev.now _))), tl [110] (1, true) _ h (by simp) rfl (Ev.congr (fun k => by rw [if_pos rfl]; first | rfl | (congr 1; exact bne_iff_ne.mpr (by simp only [List.length_cons, List.length_nil]; omega))) no), rfl, fun e => (by cases e)⟩
    · exact ⟨(o, p.1, ⟨#[]⟩, ⟨#[]⟩, ⟨#[]⟩, p.2), (o, q.1, ⟨#[]⟩, ⟨#[]⟩, ⟨#[]⟩, q.2), by simp only [h]; exact Ev.step (f := fun k => (spec_l01Num.f k x).bind fun p => some (o, p.1, (⟨#[]⟩ : ByteArray), (⟨#[]⟩ : ByteArray), (⟨#[]⟩ : ByteArray), p.2)) (fun k => by simp [s_j0, h] <;> rfl) (Ev.bind (f := fun _ p => some (o, p.1, (⟨#[]⟩ : ByteArray), (⟨#[]⟩ : ByteArray), (⟨#[]⟩ : ByteArray), p.2)) (hp x rfl) (Ev.now _)), tl [110] (1, true) _ h (by simp) rfl (Ev.step (fun k => by simp [i_j1, h] <;> rfl) (Ev.step (f := fun _ => (impl_numberOf.f x).bind fun p => some (o, p.1, (⟨#[]⟩ : ByteArray), (⟨#[]⟩ : ByteArray), (⟨#[]⟩ : ByteArray), p.2)) (fun k => by simp [i_j2, h] <;> first | rfl | exact ⟨rfl, rfl, rfl⟩ | exact ⟨rfl, rfl⟩) (by rw [hq x rfl]; exact Ev.now _))), hpq, fun _ => .inl ⟨.inl h, ⟨x, rfl⟩, rfl, rfl⟩⟩
    · exact ⟨(o, 0, ⟨#[]⟩, ⟨#[]⟩, ⟨#[]⟩, false), (0, 0, ⟨#[]⟩, ⟨#[]⟩, ⟨#[]⟩, false), by simp only [h]; exact Ev.step (fun k => by simp [s_j0, h] <;> rfl) (Ev.step (fun k => by simp [s_j1, h] <;> rfl) (Ev.step (f := fun _ => some _) (fun k => by simp [s_j2, h] <;> first | rfl | exact ⟨rfl, rfl, rfl⟩ | exact ⟨rfl, rfl⟩ | omega) (Ev.now _))), tl [110] (1, true) _ h (by simp) rfl (Ev.congr (fun k => by rw [if_pos rfl]; first | rfl | (congr 1; exact bne_iff_ne.mpr (by simp only [List.length_cons, List.length_nil]; omega))) no), rfl, fun e => (by cases e)⟩
    · exact ⟨(o, 0, ⟨#[]⟩, ⟨#[]⟩, ⟨#[]⟩, false), (0, 0, ⟨#[]⟩, ⟨#[]⟩, ⟨#[]⟩, false), by simp only [h]; exact Ev.step (fun k => by simp [s_j0, h] <;> rfl) (Ev.step (fun k => by simp [s_j1, h] <;> rfl) (Ev.step (f := fun _ => some _) (fun k => by simp [s_j2, h] <;> first | rfl | exact ⟨rfl, rfl, rfl⟩ | exact ⟨rfl, rfl⟩ | omega) (Ev.now _))), tl [110] (1, true) _ h (by simp) rfl (Ev.congr (fun k => by rw [if_pos rfl]; first | rfl | (congr 1; exact bne_iff_ne.mpr (by simp only [List.length_cons, List.length_nil]; omega))) no), rfl, fun e => (by cases e)⟩
    · exact ⟨(o, 0, ⟨#[]⟩, ⟨#[]⟩, ⟨#[]⟩, false), (0, 0, ⟨#[]⟩, ⟨#[]⟩, ⟨#[]⟩, false), by simp only [h]; exact Ev.step (fun k => by simp [s_j0, h] <;> rfl) (Ev.step (fun k => by simp [s_j1, h] <;> rfl) (Ev.step (f := fun _ => some _) (fun k => by simp [s_j2, h] <;> first | rfl | exact ⟨rfl, rfl, rfl⟩ | exact ⟨rfl, rfl⟩ | omega) (Ev.now _))), tl [110] (1, true) _ h (by simp) rfl (Ev.congr (fun k => by rw [if_pos rfl]; first | rfl | (congr 1; exact bne_iff_ne.mpr (by simp only [List.length_cons, List.length_nil]; omega))) no), rfl, fun e => (by cases e)⟩
  · -- i
    rcases R with _ | ⟨x, _ | ⟨y, _ | ⟨z, _ | ⟨u, r⟩⟩⟩⟩
    · exact ⟨(o, 0, ⟨#[]⟩, ⟨#[]⟩, ⟨#[]⟩, false), (0, 0, ⟨#[]⟩, ⟨#[]⟩, ⟨#[]⟩, false), by simp only [h]; exact Ev.step (fun k => by simp [s_j0, h] <;> rfl) (Ev.step (fun k => by simp [s_j1, h] <;> rfl) (Ev.step (f := fun _ => some _) (fun k => by simp [s_j2, h] <;> first | rfl | exact ⟨rfl, rfl, rfl⟩ | exact ⟨rfl, rfl⟩ | omega) (Ev.now _))), tl [105] (1, true) _ h (by simp) rfl (Ev.congr (fun k => by rw [if_pos rfl]; first | rfl | (congr 1; exact bne_iff_ne.mpr (by simp only [List.length_cons, List.length_nil]; omega))) no), rfl, fun e => (by cases e)⟩
    · exact ⟨(o, p.1, ⟨#[]⟩, ⟨#[]⟩, ⟨#[]⟩, p.2), (o, q.1, ⟨#[]⟩, ⟨#[]⟩, ⟨#[]⟩, q.2), by simp only [h]; exact Ev.step (f := fun k => (spec_l01Num.f k x).bind fun p => some (o, p.1, (⟨#[]⟩ : ByteArray), (⟨#[]⟩ : ByteArray), (⟨#[]⟩ : ByteArray), p.2)) (fun k => by simp [s_j0, h] <;> rfl) (Ev.bind (f := fun _ p => some (o, p.1, (⟨#[]⟩ : ByteArray), (⟨#[]⟩ : ByteArray), (⟨#[]⟩ : ByteArray), p.2)) (hp x rfl) (Ev.now _)), tl [105] (1, true) _ h (by simp) rfl (Ev.step (fun k => by simp [i_j1, h] <;> rfl) (Ev.step (f := fun _ => (impl_numberOf.f x).bind fun p => some (o, p.1, (⟨#[]⟩ : ByteArray), (⟨#[]⟩ : ByteArray), (⟨#[]⟩ : ByteArray), p.2)) (fun k => by simp [i_j2, h] <;> first | rfl | exact ⟨rfl, rfl, rfl⟩ | exact ⟨rfl, rfl⟩) (by rw [hq x rfl]; exact Ev.now _))), hpq, fun _ => .inl ⟨.inr (.inl h), ⟨x, rfl⟩, rfl, rfl⟩⟩
    · exact ⟨(o, 0, ⟨#[]⟩, ⟨#[]⟩, ⟨#[]⟩, false), (0, 0, ⟨#[]⟩, ⟨#[]⟩, ⟨#[]⟩, false), by simp only [h]; exact Ev.step (fun k => by simp [s_j0, h] <;> rfl) (Ev.step (fun k => by simp [s_j1, h] <;> rfl) (Ev.step (f := fun _ => some _) (fun k => by simp [s_j2, h] <;> first | rfl | exact ⟨rfl, rfl, rfl⟩ | exact ⟨rfl, rfl⟩ | omega) (Ev.now _))), tl [105] (1, true) _ h (by simp) rfl (Ev.congr (fun k => by rw [if_pos rfl]; first | rfl | (congr 1; exact bne_iff_ne.mpr (by simp only [List.length_cons, List.length_nil]; omega))) no), rfl, fun e => (by cases e)⟩
    · exact ⟨(o, 0, ⟨#[]⟩, ⟨#[]⟩, ⟨#[]⟩, false), (0, 0, ⟨#[]⟩, ⟨#[]⟩, ⟨#[]⟩, false), by simp only [h]; exact Ev.step (fun k => by simp [s_j0, h] <;> rfl) (Ev.step (fun k => by simp [s_j1, h] <;> rfl) (Ev.step (f := fun _ => some _) (fun k => by simp [s_j2, h] <;> first | rfl | exact ⟨rfl, rfl, rfl⟩ | exact ⟨rfl, rfl⟩ | omega) (Ev.now _))), tl [105] (1, true) _ h (by simp) rfl (Ev.congr (fun k => by rw [if_pos rfl]; first | rfl | (congr 1; exact bne_iff_ne.mpr (by simp only [List.length_cons, List.length_nil]; omega))) no), rfl, fun e => (by cases e)⟩
    · exact ⟨(o, 0, ⟨#[]⟩, ⟨#[]⟩, ⟨#[]⟩, false), (0, 0, ⟨#[]⟩, ⟨#[]⟩, ⟨#[]⟩, false), by simp only [h]; exact Ev.step (fun k => by simp [s_j0, h] <;> rfl) (Ev.step (fun k => by simp [s_j1, h] <;> rfl) (Ev.step (f := fun _ => some _) (fun k => by simp [s_j2, h] <;> first | rfl | exact ⟨rfl, rfl, rfl⟩ | exact ⟨rfl, rfl⟩ | omega) (Ev.now _))), tl [105] (1, true) _ h (by simp) rfl (Ev.congr (fun k => by rw [if_pos rfl]; first | rfl | (congr 1; exact bne_iff_ne.mpr (by simp only [List.length_cons, List.length_nil]; omega))) no), rfl, fun e => (by cases e)⟩
  · -- t
    rcases R with _ | ⟨x, _ | ⟨y, _ | ⟨z, _ | ⟨u, r⟩⟩⟩⟩
    · exact ⟨(o, 0, ⟨#[]⟩, ⟨#[]⟩, ⟨#[]⟩, false), (0, 0, ⟨#[]⟩, ⟨#[]⟩, ⟨#[]⟩, false), by simp only [h]; exact Ev.step (fun k => by simp [s_j0, h] <;> rfl) (Ev.step (fun k => by simp [s_j1, h] <;> rfl) (Ev.step (f := fun _ => some _) (fun k => by simp [s_j2, h] <;> first | rfl | exact ⟨rfl, rfl, rfl⟩ | exact ⟨rfl, rfl⟩ | omega) (Ev.now _))), tl [116] (1, true) _ h (by simp) rfl (Ev.congr (fun k => by rw [if_pos rfl]; first | rfl | (congr 1; exact bne_iff_ne.mpr (by simp only [List.length_cons, List.length_nil]; omega))) no), rfl, fun e => (by cases e)⟩
    · exact ⟨(o, p.1, ⟨#[]⟩, ⟨#[]⟩, ⟨#[]⟩, p.2), (o, q.1, ⟨#[]⟩, ⟨#[]⟩, ⟨#[]⟩, q.2), by simp only [h]; exact Ev.step (f := fun k => (spec_l01Num.f k x).bind fun p => some (o, p.1, (⟨#[]⟩ : ByteArray), (⟨#[]⟩ : ByteArray), (⟨#[]⟩ : ByteArray), p.2)) (fun k => by simp [s_j0, h] <;> rfl) (Ev.bind (f := fun _ p => some (o, p.1, (⟨#[]⟩ : ByteArray), (⟨#[]⟩ : ByteArray), (⟨#[]⟩ : ByteArray), p.2)) (hp x rfl) (Ev.now _)), tl [116] (1, true) _ h (by simp) rfl (Ev.step (fun k => by simp [i_j1, h] <;> rfl) (Ev.step (f := fun _ => (impl_numberOf.f x).bind fun p => some (o, p.1, (⟨#[]⟩ : ByteArray), (⟨#[]⟩ : ByteArray), (⟨#[]⟩ : ByteArray), p.2)) (fun k => by simp [i_j2, h] <;> first | rfl | exact ⟨rfl, rfl, rfl⟩ | exact ⟨rfl, rfl⟩) (by rw [hq x rfl]; exact Ev.now _))), hpq, fun _ => .inl ⟨.inr (.inr h), ⟨x, rfl⟩, rfl, rfl⟩⟩
    · exact ⟨(o, 0, ⟨#[]⟩, ⟨#[]⟩, ⟨#[]⟩, false), (0, 0, ⟨#[]⟩, ⟨#[]⟩, ⟨#[]⟩, false), by simp only [h]; exact Ev.step (fun k => by simp [s_j0, h] <;> rfl) (Ev.step (fun k => by simp [s_j1, h] <;> rfl) (Ev.step (f := fun _ => some _) (fun k => by simp [s_j2, h] <;> first | rfl | exact ⟨rfl, rfl, rfl⟩ | exact ⟨rfl, rfl⟩ | omega) (Ev.now _))), tl [116] (1, true) _ h (by simp) rfl (Ev.congr (fun k => by rw [if_pos rfl]; first | rfl | (congr 1; exact bne_iff_ne.mpr (by simp only [List.length_cons, List.length_nil]; omega))) no), rfl, fun e => (by cases e)⟩
    · exact ⟨(o, 0, ⟨#[]⟩, ⟨#[]⟩, ⟨#[]⟩, false), (0, 0, ⟨#[]⟩, ⟨#[]⟩, ⟨#[]⟩, false), by simp only [h]; exact Ev.step (fun k => by simp [s_j0, h] <;> rfl) (Ev.step (fun k => by simp [s_j1, h] <;> rfl) (Ev.step (f := fun _ => some _) (fun k => by simp [s_j2, h] <;> first | rfl | exact ⟨rfl, rfl, rfl⟩ | exact ⟨rfl, rfl⟩ | omega) (Ev.now _))), tl [116] (1, true) _ h (by simp) rfl (Ev.congr (fun k => by rw [if_pos rfl]; first | rfl | (congr 1; exact bne_iff_ne.mpr (by simp only [List.length_cons, List.length_nil]; omega))) no), rfl, fun e => (by cases e)⟩
    · exact ⟨(o, 0, ⟨#[]⟩, ⟨#[]⟩, ⟨#[]⟩, false), (0, 0, ⟨#[]⟩, ⟨#[]⟩, ⟨#[]⟩, false), by simp only [h]; exact Ev.step (fun k => by simp [s_j0, h] <;> rfl) (Ev.step (fun k => by simp [s_j1, h] <;> rfl) (Ev.step (f := fun _ => some _) (fun k => by simp [s_j2, h] <;> first | rfl | exact ⟨rfl, rfl, rfl⟩ | exact ⟨rfl, rfl⟩ | omega) (Ev.now _))), tl [116] (1, true) _ h (by simp) rfl (Ev.congr (fun k => by rw [if_pos rfl]; first | rfl | (congr 1; exact bne_iff_ne.mpr (by simp only [List.length_cons, List.length_nil]; omega))) no), rfl, fun e => (by cases e)⟩
  · -- c
    rcases R with _ | ⟨x, _ | ⟨y, _ | ⟨z, _ | ⟨u, r⟩⟩⟩⟩
    · exact ⟨(o, 0, ⟨#[]⟩, ⟨#[]⟩, ⟨#[]⟩, false), (0, 0, ⟨#[]⟩, ⟨#[]⟩, ⟨#[]⟩, false), by simp only [h]; exact Ev.step (fun k => by simp [s_j0, h] <;> rfl) (Ev.step (fun k => by simp [s_j1, h] <;> rfl) (Ev.step (f := fun _ => some _) (fun k => by simp [s_j2, h] <;> first | rfl | exact ⟨rfl, rfl, rfl⟩ | exact ⟨rfl, rfl⟩ | omega) (Ev.now _))), tl [99] (1, true) _ h (by simp) rfl (Ev.congr (fun k => by rw [if_pos rfl]; first | rfl | (congr 1; exact bne_iff_ne.mpr (by simp only [List.length_cons, List.length_nil]; omega))) no), rfl, fun e => (by cases e)⟩
    · exact ⟨(o, 0, x, ⟨#[]⟩, ⟨#[]⟩, true), (o, 0, x, ⟨#[]⟩, ⟨#[]⟩, true), by simp only [h]; exact Ev.step (fun k => by simp [s_j0, h] <;> rfl) (Ev.step (f := fun _ => some _) (fun k => by simp [s_j1, h] <;> rfl) (Ev.now _)), tl [99] (1, true) _ h (by simp) rfl (Ev.step (fun k => by simp [i_j1, h] <;> rfl) (Ev.step (f := fun _ => some _) (fun k => by simp [i_j2, h] <;> first | rfl | exact ⟨rfl, rfl, rfl⟩ | exact ⟨rfl, rfl⟩) (Ev.now _))), rfl, fun _ => .inr (.inl ⟨x, rfl, h, rfl, rfl⟩)⟩
    · exact ⟨(o, 0, ⟨#[]⟩, ⟨#[]⟩, ⟨#[]⟩, false), (0, 0, ⟨#[]⟩, ⟨#[]⟩, ⟨#[]⟩, false), by simp only [h]; exact Ev.step (fun k => by simp [s_j0, h] <;> rfl) (Ev.step (fun k => by simp [s_j1, h] <;> rfl) (Ev.step (f := fun _ => some _) (fun k => by simp [s_j2, h] <;> first | rfl | exact ⟨rfl, rfl, rfl⟩ | exact ⟨rfl, rfl⟩ | omega) (Ev.now _))), tl [99] (1, true) _ h (by simp) rfl (Ev.congr (fun k => by rw [if_pos rfl]; first | rfl | (congr 1; exact bne_iff_ne.mpr (by simp only [List.length_cons, List.length_nil]; omega))) no), rfl, fun e => (by cases e)⟩
    · exact ⟨(o, 0, ⟨#[]⟩, ⟨#[]⟩, ⟨#[]⟩, false), (0, 0, ⟨#[]⟩, ⟨#[]⟩, ⟨#[]⟩, false), by simp only [h]; exact Ev.step (fun k => by simp [s_j0, h] <;> rfl) (Ev.step (fun k => by simp [s_j1, h] <;> rfl) (Ev.step (f := fun _ => some _) (fun k => by simp [s_j2, h] <;> first | rfl | exact ⟨rfl, rfl, rfl⟩ | exact ⟨rfl, rfl⟩ | omega) (Ev.now _))), tl [99] (1, true) _ h (by simp) rfl (Ev.congr (fun k => by rw [if_pos rfl]; first | rfl | (congr 1; exact bne_iff_ne.mpr (by simp only [List.length_cons, List.length_nil]; omega))) no), rfl, fun e => (by cases e)⟩
    · exact ⟨(o, 0, ⟨#[]⟩, ⟨#[]⟩, ⟨#[]⟩, false), (0, 0, ⟨#[]⟩, ⟨#[]⟩, ⟨#[]⟩, false), by simp only [h]; exact Ev.step (fun k => by simp [s_j0, h] <;> rfl) (Ev.step (fun k => by simp [s_j1, h] <;> rfl) (Ev.step (f := fun _ => some _) (fun k => by simp [s_j2, h] <;> first | rfl | exact ⟨rfl, rfl, rfl⟩ | exact ⟨rfl, rfl⟩ | omega) (Ev.now _))), tl [99] (1, true) _ h (by simp) rfl (Ev.congr (fun k => by rw [if_pos rfl]; first | rfl | (congr 1; exact bne_iff_ne.mpr (by simp only [List.length_cons, List.length_nil]; omega))) no), rfl, fun e => (by cases e)⟩
  · -- y
    rcases R with _ | ⟨x, _ | ⟨y, _ | ⟨z, _ | ⟨u, r⟩⟩⟩⟩
    · exact ⟨(o, 0, ⟨#[]⟩, ⟨#[]⟩, ⟨#[]⟩, false), (0, 0, ⟨#[]⟩, ⟨#[]⟩, ⟨#[]⟩, false), by simp only [h]; exact Ev.step (fun k => by simp [s_j0, h] <;> rfl) (Ev.step (fun k => by simp [s_j1, h] <;> rfl) (Ev.step (f := fun _ => some _) (fun k => by simp [s_j2, h] <;> first | rfl | exact ⟨rfl, rfl, rfl⟩ | exact ⟨rfl, rfl⟩ | omega) (Ev.now _))), tl [121] (1, true) _ h (by simp) rfl (Ev.congr (fun k => by rw [if_pos rfl]; first | rfl | (congr 1; exact bne_iff_ne.mpr (by simp only [List.length_cons, List.length_nil]; omega))) no), rfl, fun e => (by cases e)⟩
    · exact ⟨(o, 0, ⟨#[]⟩, ⟨#[]⟩, x, true), (o, 0, ⟨#[]⟩, ⟨#[]⟩, x, true), by simp only [h]; exact Ev.step (fun k => by simp [s_j0, h] <;> rfl) (Ev.step (fun k => by simp [s_j1, h] <;> rfl) (Ev.step (f := fun _ => some _) (fun k => by simp [s_j2, h] <;> rfl) (Ev.now _))), tl [121] (1, true) _ h (by simp) rfl (Ev.step (fun k => by simp [i_j1, h] <;> rfl) (Ev.step (f := fun _ => some _) (fun k => by simp [i_j2, h] <;> first | rfl | exact ⟨rfl, rfl, rfl⟩ | exact ⟨rfl, rfl⟩) (Ev.now _))), rfl, fun _ => .inr (.inr (.inl ⟨x, rfl, h, rfl, rfl⟩))⟩
    · exact ⟨(o, 0, ⟨#[]⟩, ⟨#[]⟩, ⟨#[]⟩, false), (0, 0, ⟨#[]⟩, ⟨#[]⟩, ⟨#[]⟩, false), by simp only [h]; exact Ev.step (fun k => by simp [s_j0, h] <;> rfl) (Ev.step (fun k => by simp [s_j1, h] <;> rfl) (Ev.step (f := fun _ => some _) (fun k => by simp [s_j2, h] <;> first | rfl | exact ⟨rfl, rfl, rfl⟩ | exact ⟨rfl, rfl⟩ | omega) (Ev.now _))), tl [121] (1, true) _ h (by simp) rfl (Ev.congr (fun k => by rw [if_pos rfl]; first | rfl | (congr 1; exact bne_iff_ne.mpr (by simp only [List.length_cons, List.length_nil]; omega))) no), rfl, fun e => (by cases e)⟩
    · exact ⟨(o, 0, ⟨#[]⟩, ⟨#[]⟩, ⟨#[]⟩, false), (0, 0, ⟨#[]⟩, ⟨#[]⟩, ⟨#[]⟩, false), by simp only [h]; exact Ev.step (fun k => by simp [s_j0, h] <;> rfl) (Ev.step (fun k => by simp [s_j1, h] <;> rfl) (Ev.step (f := fun _ => some _) (fun k => by simp [s_j2, h] <;> first | rfl | exact ⟨rfl, rfl, rfl⟩ | exact ⟨rfl, rfl⟩ | omega) (Ev.now _))), tl [121] (1, true) _ h (by simp) rfl (Ev.congr (fun k => by rw [if_pos rfl]; first | rfl | (congr 1; exact bne_iff_ne.mpr (by simp only [List.length_cons, List.length_nil]; omega))) no), rfl, fun e => (by cases e)⟩
    · exact ⟨(o, 0, ⟨#[]⟩, ⟨#[]⟩, ⟨#[]⟩, false), (0, 0, ⟨#[]⟩, ⟨#[]⟩, ⟨#[]⟩, false), by simp only [h]; exact Ev.step (fun k => by simp [s_j0, h] <;> rfl) (Ev.step (fun k => by simp [s_j1, h] <;> rfl) (Ev.step (f := fun _ => some _) (fun k => by simp [s_j2, h] <;> first | rfl | exact ⟨rfl, rfl, rfl⟩ | exact ⟨rfl, rfl⟩ | omega) (Ev.now _))), tl [121] (1, true) _ h (by simp) rfl (Ev.congr (fun k => by rw [if_pos rfl]; first | rfl | (congr 1; exact bne_iff_ne.mpr (by simp only [List.length_cons, List.length_nil]; omega))) no), rfl, fun e => (by cases e)⟩
  · -- f
    rcases R with _ | ⟨x, _ | ⟨y, _ | ⟨z, _ | ⟨u, r⟩⟩⟩⟩
    · exact ⟨(o, 0, ⟨#[]⟩, ⟨#[]⟩, ⟨#[]⟩, false), (0, 0, ⟨#[]⟩, ⟨#[]⟩, ⟨#[]⟩, false), by simp only [h]; exact Ev.step (fun k => by simp [s_j0, h] <;> rfl) (Ev.step (fun k => by simp [s_j1, h] <;> rfl) (Ev.step (f := fun _ => some _) (fun k => by simp [s_j2, h] <;> first | rfl | exact ⟨rfl, rfl, rfl⟩ | exact ⟨rfl, rfl⟩ | omega) (Ev.now _))), tl [102] (3, true) _ h (by simp) rfl (Ev.congr (fun k => by rw [if_pos rfl]; first | rfl | (congr 1; exact bne_iff_ne.mpr (by simp only [List.length_cons, List.length_nil]; omega))) no), rfl, fun e => (by cases e)⟩
    · exact ⟨(o, 0, ⟨#[]⟩, ⟨#[]⟩, ⟨#[]⟩, false), (0, 0, ⟨#[]⟩, ⟨#[]⟩, ⟨#[]⟩, false), by simp only [h]; exact Ev.step (fun k => by simp [s_j0, h] <;> rfl) (Ev.step (fun k => by simp [s_j1, h] <;> rfl) (Ev.step (f := fun _ => some _) (fun k => by simp [s_j2, h] <;> first | rfl | exact ⟨rfl, rfl, rfl⟩ | exact ⟨rfl, rfl⟩ | omega) (Ev.now _))), tl [102] (3, true) _ h (by simp) rfl (Ev.congr (fun k => by rw [if_pos rfl]; first | rfl | (congr 1; exact bne_iff_ne.mpr (by simp only [List.length_cons, List.length_nil]; omega))) no), rfl, fun e => (by cases e)⟩
    · exact ⟨(o, 0, ⟨#[]⟩, ⟨#[]⟩, ⟨#[]⟩, false), (0, 0, ⟨#[]⟩, ⟨#[]⟩, ⟨#[]⟩, false), by simp only [h]; exact Ev.step (fun k => by simp [s_j0, h] <;> rfl) (Ev.step (fun k => by simp [s_j1, h] <;> rfl) (Ev.step (f := fun _ => some _) (fun k => by simp [s_j2, h] <;> first | rfl | exact ⟨rfl, rfl, rfl⟩ | exact ⟨rfl, rfl⟩ | omega) (Ev.now _))), tl [102] (3, true) _ h (by simp) rfl (Ev.congr (fun k => by rw [if_pos rfl]; first | rfl | (congr 1; exact bne_iff_ne.mpr (by simp only [List.length_cons, List.length_nil]; omega))) no), rfl, fun e => (by cases e)⟩
    · exact ⟨(o, 0, x, y, z, true), (o, 0, x, y, z, true), by simp only [h]; exact Ev.step (fun k => by simp [s_j0, h] <;> rfl) (Ev.step (fun k => by simp [s_j1, h] <;> rfl) (Ev.step (f := fun _ => some _) (fun k => by simp [s_j2, h] <;> first | rfl | exact ⟨rfl, rfl, rfl⟩ | exact ⟨rfl, rfl⟩ | omega) (Ev.now _))), tl [102] (3, true) _ h (by simp) rfl (Ev.step (fun k => by simp [i_j1, h] <;> rfl) (Ev.step (f := fun _ => some _) (fun k => by simp [i_j2, h] <;> first | rfl | exact ⟨rfl, rfl, rfl⟩ | exact ⟨rfl, rfl⟩) (Ev.now _))), rfl, fun _ => .inr (.inr (.inr (.inl ⟨x, y, z, rfl, .inl h, rfl, rfl⟩)))⟩
    · exact ⟨(o, 0, ⟨#[]⟩, ⟨#[]⟩, ⟨#[]⟩, false), (0, 0, ⟨#[]⟩, ⟨#[]⟩, ⟨#[]⟩, false), by simp only [h]; exact Ev.step (fun k => by simp [s_j0, h] <;> rfl) (Ev.step (fun k => by simp [s_j1, h] <;> rfl) (Ev.step (f := fun _ => some _) (fun k => by simp [s_j2, h] <;> first | rfl | exact ⟨rfl, rfl, rfl⟩ | exact ⟨rfl, rfl⟩ | omega) (Ev.now _))), tl [102] (3, true) _ h (by simp) rfl (Ev.congr (fun k => by rw [if_pos rfl]; first | rfl | (congr 1; exact bne_iff_ne.mpr (by simp only [List.length_cons, List.length_nil]; omega))) no), rfl, fun e => (by cases e)⟩
  · -- m
    rcases R with _ | ⟨x, _ | ⟨y, _ | ⟨z, _ | ⟨u, r⟩⟩⟩⟩
    · exact ⟨(o, 0, ⟨#[]⟩, ⟨#[]⟩, ⟨#[]⟩, false), (0, 0, ⟨#[]⟩, ⟨#[]⟩, ⟨#[]⟩, false), by simp only [h]; exact Ev.step (fun k => by simp [s_j0, h] <;> rfl) (Ev.step (fun k => by simp [s_j1, h] <;> rfl) (Ev.step (f := fun _ => some _) (fun k => by simp [s_j2, h] <;> first | rfl | exact ⟨rfl, rfl, rfl⟩ | exact ⟨rfl, rfl⟩ | omega) (Ev.now _))), tl [109] (3, true) _ h (by simp) rfl (Ev.congr (fun k => by rw [if_pos rfl]; first | rfl | (congr 1; exact bne_iff_ne.mpr (by simp only [List.length_cons, List.length_nil]; omega))) no), rfl, fun e => (by cases e)⟩
    · exact ⟨(o, 0, ⟨#[]⟩, ⟨#[]⟩, ⟨#[]⟩, false), (0, 0, ⟨#[]⟩, ⟨#[]⟩, ⟨#[]⟩, false), by simp only [h]; exact Ev.step (fun k => by simp [s_j0, h] <;> rfl) (Ev.step (fun k => by simp [s_j1, h] <;> rfl) (Ev.step (f := fun _ => some _) (fun k => by simp [s_j2, h] <;> first | rfl | exact ⟨rfl, rfl, rfl⟩ | exact ⟨rfl, rfl⟩ | omega) (Ev.now _))), tl [109] (3, true) _ h (by simp) rfl (Ev.congr (fun k => by rw [if_pos rfl]; first | rfl | (congr 1; exact bne_iff_ne.mpr (by simp only [List.length_cons, List.length_nil]; omega))) no), rfl, fun e => (by cases e)⟩
    · exact ⟨(o, 0, ⟨#[]⟩, ⟨#[]⟩, ⟨#[]⟩, false), (0, 0, ⟨#[]⟩, ⟨#[]⟩, ⟨#[]⟩, false), by simp only [h]; exact Ev.step (fun k => by simp [s_j0, h] <;> rfl) (Ev.step (fun k => by simp [s_j1, h] <;> rfl) (Ev.step (f := fun _ => some _) (fun k => by simp [s_j2, h] <;> first | rfl | exact ⟨rfl, rfl, rfl⟩ | exact ⟨rfl, rfl⟩ | omega) (Ev.now _))), tl [109] (3, true) _ h (by simp) rfl (Ev.congr (fun k => by rw [if_pos rfl]; first | rfl | (congr 1; exact bne_iff_ne.mpr (by simp only [List.length_cons, List.length_nil]; omega))) no), rfl, fun e => (by cases e)⟩
    · exact ⟨(o, 0, x, y, z, true), (o, 0, x, y, z, true), by simp only [h]; exact Ev.step (fun k => by simp [s_j0, h] <;> rfl) (Ev.step (fun k => by simp [s_j1, h] <;> rfl) (Ev.step (f := fun _ => some _) (fun k => by simp [s_j2, h] <;> first | rfl | exact ⟨rfl, rfl, rfl⟩ | exact ⟨rfl, rfl⟩ | omega) (Ev.now _))), tl [109] (3, true) _ h (by simp) rfl (Ev.step (fun k => by simp [i_j1, h] <;> rfl) (Ev.step (f := fun _ => some _) (fun k => by simp [i_j2, h] <;> first | rfl | exact ⟨rfl, rfl, rfl⟩ | exact ⟨rfl, rfl⟩) (Ev.now _))), rfl, fun _ => .inr (.inr (.inr (.inl ⟨x, y, z, rfl, .inr h, rfl, rfl⟩)))⟩
    · exact ⟨(o, 0, ⟨#[]⟩, ⟨#[]⟩, ⟨#[]⟩, false), (0, 0, ⟨#[]⟩, ⟨#[]⟩, ⟨#[]⟩, false), by simp only [h]; exact Ev.step (fun k => by simp [s_j0, h] <;> rfl) (Ev.step (fun k => by simp [s_j1, h] <;> rfl) (Ev.step (f := fun _ => some _) (fun k => by simp [s_j2, h] <;> first | rfl | exact ⟨rfl, rfl, rfl⟩ | exact ⟨rfl, rfl⟩ | omega) (Ev.now _))), tl [109] (3, true) _ h (by simp) rfl (Ev.congr (fun k => by rw [if_pos rfl]; first | rfl | (congr 1; exact bne_iff_ne.mpr (by simp only [List.length_cons, List.length_nil]; omega))) no), rfl, fun e => (by cases e)⟩
  · -- no op
    rcases R with _ | ⟨x, _ | ⟨y, _ | ⟨z, _ | ⟨u, r⟩⟩⟩⟩
    · exact ⟨(o, 0, ⟨#[]⟩, ⟨#[]⟩, ⟨#[]⟩, false), (0, 0, ⟨#[]⟩, ⟨#[]⟩, ⟨#[]⟩, false), by simp only [h]; exact Ev.step (fun k => by simp [s_j0, h] <;> rfl) (Ev.step (fun k => by simp [s_j1, h] <;> rfl) (Ev.step (f := fun _ => some _) (fun k => by simp [s_j2, h] <;> first | rfl | exact ⟨rfl, rfl, rfl⟩ | exact ⟨rfl, rfl⟩ | omega) (Ev.now _))), tl [33] (0, false) _ h (by simp) rfl (Ev.congr (fun k => if_neg (by simp)) no), rfl, fun e => (by cases e)⟩
    · exact ⟨(o, 0, ⟨#[]⟩, ⟨#[]⟩, ⟨#[]⟩, false), (0, 0, ⟨#[]⟩, ⟨#[]⟩, ⟨#[]⟩, false), by simp only [h]; exact Ev.step (fun k => by simp [s_j0, h] <;> rfl) (Ev.step (fun k => by simp [s_j1, h] <;> rfl) (Ev.step (f := fun _ => some _) (fun k => by simp [s_j2, h] <;> first | rfl | exact ⟨rfl, rfl, rfl⟩ | exact ⟨rfl, rfl⟩ | omega) (Ev.now _))), tl [33] (0, false) _ h (by simp) rfl (Ev.congr (fun k => if_neg (by simp)) no), rfl, fun e => (by cases e)⟩
    · exact ⟨(o, 0, ⟨#[]⟩, ⟨#[]⟩, ⟨#[]⟩, false), (0, 0, ⟨#[]⟩, ⟨#[]⟩, ⟨#[]⟩, false), by simp only [h]; exact Ev.step (fun k => by simp [s_j0, h] <;> rfl) (Ev.step (fun k => by simp [s_j1, h] <;> rfl) (Ev.step (f := fun _ => some _) (fun k => by simp [s_j2, h] <;> first | rfl | exact ⟨rfl, rfl, rfl⟩ | exact ⟨rfl, rfl⟩ | omega) (Ev.now _))), tl [33] (0, false) _ h (by simp) rfl (Ev.congr (fun k => if_neg (by simp)) no), rfl, fun e => (by cases e)⟩
    · exact ⟨(o, 0, ⟨#[]⟩, ⟨#[]⟩, ⟨#[]⟩, false), (0, 0, ⟨#[]⟩, ⟨#[]⟩, ⟨#[]⟩, false), by simp only [h]; exact Ev.step (fun k => by simp [s_j0, h] <;> rfl) (Ev.step (fun k => by simp [s_j1, h] <;> rfl) (Ev.step (f := fun _ => some _) (fun k => by simp [s_j2, h] <;> first | rfl | exact ⟨rfl, rfl, rfl⟩ | exact ⟨rfl, rfl⟩ | omega) (Ev.now _))), tl [33] (0, false) _ h (by simp) rfl (Ev.congr (fun k => if_neg (by simp)) no), rfl, fun e => (by cases e)⟩
    · exact ⟨(o, 0, ⟨#[]⟩, ⟨#[]⟩, ⟨#[]⟩, false), (0, 0, ⟨#[]⟩, ⟨#[]⟩, ⟨#[]⟩, false), by simp only [h]; exact Ev.step (fun k => by simp [s_j0, h] <;> rfl) (Ev.step (fun k => by simp [s_j1, h] <;> rfl) (Ev.step (f := fun _ => some _) (fun k => by simp [s_j2, h] <;> first | rfl | exact ⟨rfl, rfl, rfl⟩ | exact ⟨rfl, rfl⟩ | omega) (Ev.now _))), tl [33] (0, false) _ h (by simp) rfl (Ev.congr (fun k => if_neg (by simp)) no), rfl, fun e => (by cases e)⟩
theorem insTx_num (S F : ByteArray) (a : Int) (h : numF F) : insTx S F a ⟨#[]⟩ ⟨#[]⟩ ⟨#[]⟩ = (S ++ ⟨#[32]⟩) ++ decT a := by
  rcases h with h | h | h <;> simp [insTx, insT, h]
theorem insTx_c (S F x : ByteArray) (h : F.toList = [99]) : insTx S F 0 x ⟨#[]⟩ ⟨#[]⟩ = (S ++ ⟨#[32]⟩) ++ x := by simp [insTx, insT, h]
theorem insTx_y (S F x : ByteArray) (h : F.toList = [121]) : insTx S F 0 ⟨#[]⟩ ⟨#[]⟩ x = (S ++ ⟨#[32]⟩) ++ x := by simp [insTx, insT, h]
theorem insTx_f (S F x y z : ByteArray) (h : F.toList = [102] ∨ F.toList = [109]) : insTx S F 0 x y z = ((((((S ++ ⟨#[32]⟩) ++ x) ++ ⟨#[32]⟩) ++ y) ++ ⟨#[32]⟩) ++ z) := by
  rcases h with h | h <;> simp [insTx, insT, h]
theorem insTx_0 (S F : ByteArray) (h : F.toList = []) : insTx S F 0 ⟨#[]⟩ ⟨#[]⟩ ⟨#[]⟩ = S := by simp [insTx, insT, h]
/-- What is read of a text tells that text. -/
def ParsedAs (r : Int × Int × ByteArray × ByteArray × ByteArray) (s : ByteArray) : Prop := ∃ F, impl_OpForm.f r.1 = some F ∧ (1 ≤ r.1 ∧ r.1 ≤ 44) ∧ (-9223372036854775808 ≤ r.2.1 ∧ r.2.1 ≤ 9223372036854775807) ∧ r.2.2.1.size ≤ 1048576 ∧ r.2.2.2.1.size ≤ 1048576 ∧ r.2.2.2.2.size ≤ 1048576 ∧
  (∀ k, 1048600 ≤ k → impl_InsRight.f k r.1 r.2.1 r.2.2.1 r.2.2.2.1 r.2.2.2.2 = some true) ∧ insTx (nm (r.1.toNat - 1)) F r.2.1 r.2.2.1 r.2.2.2.1 r.2.2.2.2 = s
theorem parse_both (s : ByteArray) (hs : s.size ≤ 20000) : ∃ r : Int × Int × ByteArray × ByteArray × ByteArray, Ev (fun k => spec_InsParse.f k s) r ∧ Ev (fun k => impl_InsParse.f k s) r ∧ (r.1 = 0 ∨ ParsedAs r s) := by
  have htext : Ev (fun k => impl_isText.f k [s]) true := ⟨2, fun k hk => by show impl_isText.f k [s] = _; rw [is_text_at s k hk, decide_eq_true hs]⟩
  have hsplit : Ev (fun _ => strings_Split.f s (⟨#[32]⟩ : ByteArray)) (pieces s) := by rw [split_impl s hs]; exact Ev.now _
  have hlenp := pieces_len s
  have hjoin := join_pieces s
  have hsp := split_spec s hs
  cases hW : pieces s with
  | nil => exact absurd hW (pieces_ne s)
  | cons w0 R =>
    rw [hW] at hlenp hjoin hsplit hsp
    obtain ⟨F, f1, f2, fc⟩ := op_form_size (opOf w0 : Int)
    have hR : ∀ x ∈ R, x.size ≤ 20000 := fun x hx => Nat.le_trans (hlenp x (List.mem_cons_of_mem _ hx)) hs
    have hnum : ∃ p q : Int × Bool, (∀ x, R = [x] → Ev (fun k => spec_l01Num.f k x) p) ∧ (∀ x, R = [x] → impl_numberOf.f x = some q) ∧ p.2 = q.2 ∧ (∀ x, R = [x] → p.2 = true → p = q ∧ decT p.1 = x ∧ -2147483648 ≤ p.1 ∧ p.1 ≤ 2147483647) := by
      by_cases c : ∃ x, R = [x]
      · obtain ⟨x, rfl⟩ := c
        obtain ⟨p, q, h1, h2, h3, h4⟩ := num_same x (hR x List.mem_cons_self)
        refine ⟨p, q, ?_, ?_, h3, ?_⟩
        · intro y hy
          obtain rfl := (List.cons.inj hy).1
          exact h1
        · intro y hy
          obtain rfl := (List.cons.inj hy).1
          exact h2
        · intro y hy
          obtain rfl := (List.cons.inj hy).1
          exact h4
      · exact ⟨(0, false), (0, false), fun x hx => absurd ⟨x, hx⟩ c, fun x hx => absurd ⟨x, hx⟩ c, rfl, fun x hx => absurd ⟨x, hx⟩ c⟩
    obtain ⟨p, q, hp, hq, hpq, hnum⟩ := hnum
    obtain ⟨rs, ri, e1, e2, e3, e4⟩ := read_both w0 R F (opOf w0 : Int) p q fc f1 hp hq hpq
    have hread : Ev (fun k => spec_l14Read.f k s) rs := by
      unfold spec_l14Read.f
      exact Ev.bind hsp (Ev.congr (fun k => if_pos (by simp only [List.length_cons]; omega)) (Ev.bind (op_spec w0) (Ev.bind ⟨16, f2⟩ e1)))
    have hins : Ev (fun k => impl_insOf.f k (w0 :: R)) ri := op_impl (w0 :: R) (by simp) ri e2
    have big : ¬ (s.size : Int) > 20000 := by omega
    cases hok : rs.2.2.2.2.2 with
    | false =>
      refine ⟨(0, 0, ⟨#[]⟩, ⟨#[]⟩, ⟨#[]⟩), ?_, ?_, .inl rfl⟩
      · unfold spec_InsParse.f
        exact Ev.congr (fun k => if_neg big) (Ev.bind hread (Ev.congr (f := fun _ => some _) (fun k => if_neg (by rw [hok]; simp)) (Ev.now _)))
      · unfold impl_InsParse.f
        exact Ev.bind htext (Ev.congr (fun k => if_pos rfl) (Ev.bind hsplit (Ev.bind hins (Ev.congr (f := fun _ => some _) (fun k => if_neg (by rw [← e3, hok]; simp)) (Ev.now _)))))
    | true =>
      obtain ⟨ho1, ho2⟩ := first_ok w0 44 0 (by omega)
      have key : ∃ (n : Int) (c m d : ByteArray), rs = ((opOf w0 : Int), n, c, m, d, true) ∧ ri = ((opOf w0 : Int), n, c, m, d, true) ∧ (-9223372036854775808 ≤ n ∧ n ≤ 9223372036854775807) ∧ c.size ≤ 1048576 ∧ m.size ≤ 1048576 ∧ d.size ≤ 1048576 ∧ F.toList ≠ [33] ∧ insTx w0 F n c m d = s := by
        have z0 : (⟨#[]⟩ : ByteArray).size ≤ 1048576 := by decide
        have hR2 : ∀ x ∈ R, x.size ≤ 1048576 := fun x hx => Nat.le_trans (hR x hx) (by decide)
        rcases e4 hok with ⟨h1, ⟨x, hx⟩, h2, h3⟩ | ⟨x, hx, h1, h2, h3⟩ | ⟨x, hx, h1, h2, h3⟩ | ⟨x, y, z, hx, h1, h2, h3⟩ | ⟨hx, h1, h2, h3⟩
        · have hpt : p.2 = true := by rw [h2] at hok; exact hok
          obtain ⟨h4, h5, h6, h7⟩ := hnum x hx hpt
          refine ⟨p.1, _, _, _, by rw [h2, hpt], by rw [h3, ← h4, hpt], ⟨by omega, by omega⟩, z0, z0, z0, ?_, ?_⟩
          · rcases h1 with h | h | h <;> (rw [h]; simp)
          · rw [insTx_num w0 F p.1 h1, h5, ← joinB_2, ← hx]
            exact hjoin
        · refine ⟨0, x, _, _, h2, by rw [h3, h2], ⟨by omega, by omega⟩, hR2 x (by rw [hx]; simp), z0, z0, by rw [h1]; simp, ?_⟩
          rw [insTx_c w0 F x h1, ← joinB_2, ← hx]
          exact hjoin
        · refine ⟨0, _, _, x, h2, by rw [h3, h2], ⟨by omega, by omega⟩, z0, z0, hR2 x (by rw [hx]; simp), by rw [h1]; simp, ?_⟩
          rw [insTx_y w0 F x h1, ← joinB_2, ← hx]
          exact hjoin
        · refine ⟨0, x, y, z, h2, by rw [h3, h2], ⟨by omega, by omega⟩, hR2 x (by rw [hx]; simp), hR2 y (by rw [hx]; simp), hR2 z (by rw [hx]; simp), ?_, ?_⟩
          · rcases h1 with h | h <;> (rw [h]; simp)
          · rw [insTx_f w0 F x y z h1, ← joinB_4, ← hx]
            exact hjoin
        · refine ⟨0, _, _, _, h2, by rw [h3, h2], ⟨by omega, by omega⟩, z0, z0, z0, by rw [h1]; simp, ?_⟩
          rw [insTx_0 w0 F h1, ← joinB_1 w0, ← hx]
          exact hjoin
      obtain ⟨n, c, m, d, hrs, hri, hnb, hc, hm, hd, hF, hT⟩ := key
      have ho : 1 ≤ opOf w0 := by
        rcases Nat.eq_zero_or_pos (opOf w0) with e | e
        · rw [e] at f1
          have e5 : impl_OpForm.f ((0 : Nat) : Int) = some ⟨#[33]⟩ := rfl
          rw [e5] at f1
          exact absurd (by rw [← Option.some.inj f1, Lib.toList_data]) hF
        · exact e
      have hname : nm (opOf w0 - 1) = w0 := WideShapes.bytes_inj (by rw [← Lib.toList_data, ← Lib.toList_data]; exact ho2 ho)
      have s2 : ∀ k, 16 ≤ k → spec_OpName.f k (opOf w0 : Int) = some w0 := fun k hk => by
        have h := name_spec (opOf w0 - 1) (by have : opOf w0 ≤ 44 := ho1; omega) k hk
        rw [show opOf w0 - 1 + 1 = opOf w0 by omega, hname] at h
        exact h
      have hS : w0.size ≤ 20 := by
        rw [← hname]
        exact nm_size _ (by have : opOf w0 ≤ 44 := ho1; omega)
      have htx : Ev (fun k => spec_l14Ins.f k (opOf w0 : Int) n c m d) s := ⟨22, fun k hk => by show spec_l14Ins.f k (opOf w0 : Int) n c m d = _; rw [spec_ins w0 F (opOf w0 : Int) n c m d s2 hS f2 hnb.1 hnb.2 hc hm hd k hk, hT]⟩
      obtain ⟨b, b1, b2⟩ := ins_same (opOf w0 : Int) n c m d hc hm hd
      have r1 : Ev (fun k => spec_InsRight.f k (opOf w0 : Int) n c m d) b := ⟨1048600, b1⟩
      have r2 : Ev (fun k => impl_InsRight.f k (opOf w0 : Int) n c m d) b := ⟨1048600, b2⟩
      rw [hrs] at hread
      rw [hri] at hins
      cases b with
      | false =>
        refine ⟨(0, 0, ⟨#[]⟩, ⟨#[]⟩, ⟨#[]⟩), ?_, ?_, .inl rfl⟩
        · unfold spec_InsParse.f
          exact Ev.congr (fun k => if_neg big) (Ev.bind hread (Ev.congr (fun k => if_pos rfl) (Ev.bind r1 (Ev.congr (f := fun _ => some _) (fun k => if_neg (by simp)) (Ev.now _)))))
        · unfold impl_InsParse.f
          exact Ev.bind htext (Ev.congr (fun k => if_pos rfl) (Ev.bind hsplit (Ev.bind hins (Ev.congr (fun k => if_pos rfl) (Ev.bind r2 (Ev.congr (f := fun _ => some _) (fun k => if_neg (by simp)) (Ev.now _)))))))
      | true =>
        refine ⟨((opOf w0 : Int), n, c, m, d), ?_, ?_, .inr ⟨F, f1, ⟨by show 1 ≤ (opOf w0 : Int); omega, by show (opOf w0 : Int) ≤ 44; have : opOf w0 ≤ 44 := ho1; omega⟩, hnb, hc, hm, hd, b2, by show insTx (nm ((opOf w0 : Int).toNat - 1)) F n c m d = s; rw [Int.toNat_natCast, hname]; exact hT⟩⟩
        · unfold spec_InsParse.f
          exact Ev.congr (fun k => if_neg big) (Ev.bind hread (Ev.congr (fun k => if_pos rfl) (Ev.bind r1 (Ev.congr (fun k => if_pos rfl) (Ev.bind htx (Ev.congr (f := fun _ => some _) (fun k => if_pos rfl) (Ev.now _)))))))
        · unfold impl_InsParse.f
          exact Ev.bind htext (Ev.congr (fun k => if_pos rfl) (Ev.bind hsplit (Ev.bind hins (Ev.congr (fun k => if_pos rfl) (Ev.bind r2 (Ev.congr (f := fun _ => some _) (fun k => if_pos rfl) (Ev.now _)))))))
theorem parse_same (s : ByteArray) : ∃ r : Int × Int × ByteArray × ByteArray × ByteArray, Ev (fun k => spec_InsParse.f k s) r ∧ Ev (fun k => impl_InsParse.f k s) r ∧ (r.1 = 0 ∨ ParsedAs r s) := by
  by_cases hs : s.size ≤ 20000
  · exact parse_both s hs
  · refine ⟨(0, 0, ⟨#[]⟩, ⟨#[]⟩, ⟨#[]⟩), ?_, ?_, .inl rfl⟩
    · unfold spec_InsParse.f
      exact Ev.congr (f := fun _ => some _) (fun k => if_pos (by omega)) (Ev.now _)
    · unfold impl_InsParse.f
      have htext : Ev (fun k => impl_isText.f k [s]) false := ⟨2, fun k hk => by show impl_isText.f k [s] = _; rw [is_text_at s k hk, decide_eq_false hs]⟩
      exact Ev.bind htext (Ev.congr (f := fun _ => some _) (fun k => if_neg (by simp)) (Ev.now _))

theorem ev_one {α : Type} {g : Nat → Option α} {a b : α} (h1 : Ev g a) (h2 : Ev g b) : a = b := by
  obtain ⟨K, hK⟩ := h1
  obtain ⟨L, hL⟩ := h2
  have e1 := hK (K + L) (by omega)
  have e2 := hL (K + L) (by omega)
  rw [e1] at e2
  exact Option.some.inj e2
def noBlank (s : ByteArray) : Prop := (32 : UInt8) ∉ s.data.toList
theorem splitL_plain : ∀ l : List UInt8, (32 : UInt8) ∉ l → splitL l = [l]
  | [], _ => rfl
  | c :: r, h => by
    have hc : c ≠ 32 := fun e => h (by rw [e]; exact List.mem_cons_self)
    rw [splitL_cons c r hc, splitL_plain r (fun e => h (List.mem_cons_of_mem _ e))]
    rfl
theorem splitL_app (p : List UInt8) (h : (32 : UInt8) ∉ p) (r : List UInt8) : splitL (p ++ (32 :: r)) = p :: splitL r := by
  induction p with
  | nil => exact splitL_sep r
  | cons c t ih =>
    have hc : c ≠ 32 := fun e => h (by rw [e]; exact List.mem_cons_self)
    rw [List.cons_append, splitL_cons c _ hc, ih (fun e => h (List.mem_cons_of_mem _ e))]
    rfl
theorem splitL_join : ∀ (r : List (List UInt8)) (x : List UInt8), (∀ y ∈ x :: r, (32 : UInt8) ∉ y) → splitL (Lib.join (x :: r) [32]) = x :: r
  | [], x, h => by rw [Lib.join_one]; exact splitL_plain x (h x List.mem_cons_self)
  | y :: r, x, h => by
    have ih := splitL_join r y (fun z hz => h z (List.mem_cons_of_mem _ hz))
    rw [Lib.join_cons, jt_cons]
    rw [Lib.join_cons] at ih
    rw [show x ++ (([32] ++ y) ++ Lib.joinTail [32] r) = x ++ (32 :: (y ++ Lib.joinTail [32] r)) by simp, splitL_app x (h x List.mem_cons_self), ih]
theorem pieces_join (x : ByteArray) (r : List ByteArray) (h : ∀ y ∈ x :: r, noBlank y) : pieces (joinB (x :: r)) = x :: r := by
  unfold pieces
  have e : (joinB (x :: r)).data.toList = Lib.join ((x :: r).map (·.data.toList)) [32] := by
    show (Lib.join ((x :: r).map (·.data.toList)) [32]).toArray.toList = _
    simp
  have h2 : splitL (Lib.join ((x :: r).map (·.data.toList)) [32]) = (x :: r).map (·.data.toList) := by
    refine splitL_join _ _ (fun y hy => ?_)
    have hy2 : y ∈ (x :: r).map (·.data.toList) := hy
    obtain ⟨z, hz, rfl⟩ := List.mem_map.mp hy2
    exact h z hz
  rw [e, h2, List.map_map]
  conv => rhs; rw [← List.map_id (x :: r)]
  apply List.map_congr_left
  intro y _
  simp
theorem first_at (s : ByteArray) (j : Nat) (hj : j < 44) (e : (nm j).toList = s.toList) : ∀ d i : Nat, i + d = 44 → i ≤ j → firstOp s d i = j + 1
  | 0, i, h, hi => by omega
  | d + 1, i, h, hi => by
    unfold firstOp
    by_cases c : (nm i).toList = s.toList
    · rw [if_pos c, nm_once (by omega) hj s c e]
    · rw [if_neg c]
      refine first_at s j hj e d (i + 1) (by omega) ?_
      rcases Nat.lt_or_ge i j with h1 | h1
      · omega
      · have : i = j := by omega
        subst this
        exact absurd e c
theorem opOf_nm (j : Nat) (hj : j < 44) : opOf (nm j) = j + 1 := first_at (nm j) j hj rfl 44 0 (by omega) (Nat.zero_le _)
theorem nm_blank : ∀ j : Nat, j < 44 → (nm j).data.toList.all (· != 32) = true := by decide +kernel
theorem nm_noBlank (j : Nat) (hj : j < 44) : noBlank (nm j) := by
  intro h
  have := List.all_eq_true.mp (nm_blank j hj) 32 h
  simp at this
theorem dig_noBlank : ∀ u : Nat, (32 : UInt8) ∉ Lib.decDigits u := by
  intro u
  induction u using Nat.strongRecOn with
  | _ u ih =>
    by_cases h : u < 10
    · rw [Lib.decDigits_one h]
      intro e
      have e2 := List.mem_singleton.mp e
      have e3 := congrArg UInt8.toNat e2
      rw [dig_toNat u h] at e3
      have : (32 : UInt8).toNat = 32 := rfl
      omega
    · rw [show Lib.decDigits u = Lib.decDigits (u / 10) ++ [UInt8.ofNat (48 + u % 10)] by rw [Lib.decDigits, dif_neg h]]
      intro e
      rcases List.mem_append.mp e with e | e
      · exact ih (u / 10) (by omega) e
      · have e2 := List.mem_singleton.mp e
        have e3 := congrArg UInt8.toNat e2
        rw [dig_toNat (u % 10) (by omega)] at e3
        have : (32 : UInt8).toNat = 32 := rfl
        omega
theorem dec_noBlank (n : Int) : noBlank (decT n) := by
  show (32 : UInt8) ∉ Lib.itoa n
  unfold Lib.itoa
  split
  · intro e
    rcases List.mem_cons.mp e with e | e
    · exact absurd e (by decide)
    · exact dig_noBlank _ e
  · exact dig_noBlank _
/-- What the reference reads of an instruction's words, where they fit its form. -/
theorem sr_num (w0 x F : ByteArray) (o : Int) (p : Int × Bool) (h : numF F) (hp : Ev (fun k => spec_l01Num.f k x) p) :
    Ev (fun k => if F.toList = ([110] : List UInt8) then (spec_l14Read.j0 k [w0, x] F ((([w0, x] : List ByteArray).length : Int) == 2) o 0 (⟨#[]⟩ : ByteArray) (⟨#[]⟩ : ByteArray) (⟨#[]⟩ : ByteArray)) else (if F.toList = ([105] : List UInt8) then (spec_l14Read.j0 k [w0, x] F ((([w0, x] : List ByteArray).length : Int) == 2) o 0 (⟨#[]⟩ : ByteArray) (⟨#[]⟩ : ByteArray) (⟨#[]⟩ : ByteArray)) else (if F.toList = ([116] : List UInt8) then (spec_l14Read.j0 k [w0, x] F ((([w0, x] : List ByteArray).length : Int) == 2) o 0 (⟨#[]⟩ : ByteArray) (⟨#[]⟩ : ByteArray) (⟨#[]⟩ : ByteArray)) else (spec_l14Read.j0 k [w0, x] F false o 0 (⟨#[]⟩ : ByteArray) (⟨#[]⟩ : ByteArray) (⟨#[]⟩ : ByteArray))))) (o, p.1, (⟨#[]⟩ : ByteArray), (⟨#[]⟩ : ByteArray), (⟨#[]⟩ : ByteArray), p.2) := by
  rcases h with h | h | h <;> (simp only [h]; exact Ev.step (f := fun k => (spec_l01Num.f k x).bind fun p => some (o, p.1, (⟨#[]⟩ : ByteArray), (⟨#[]⟩ : ByteArray), (⟨#[]⟩ : ByteArray), p.2)) (fun k => by simp [s_j0, h] <;> rfl) (Ev.bind (f := fun _ p => some (o, p.1, (⟨#[]⟩ : ByteArray), (⟨#[]⟩ : ByteArray), (⟨#[]⟩ : ByteArray), p.2)) hp (Ev.now _)))
theorem sr_c (w0 x F : ByteArray) (o : Int) (h : F.toList = [99]) :
    Ev (fun k => if F.toList = ([110] : List UInt8) then (spec_l14Read.j0 k [w0, x] F ((([w0, x] : List ByteArray).length : Int) == 2) o 0 (⟨#[]⟩ : ByteArray) (⟨#[]⟩ : ByteArray) (⟨#[]⟩ : ByteArray)) else (if F.toList = ([105] : List UInt8) then (spec_l14Read.j0 k [w0, x] F ((([w0, x] : List ByteArray).length : Int) == 2) o 0 (⟨#[]⟩ : ByteArray) (⟨#[]⟩ : ByteArray) (⟨#[]⟩ : ByteArray)) else (if F.toList = ([116] : List UInt8) then (spec_l14Read.j0 k [w0, x] F ((([w0, x] : List ByteArray).length : Int) == 2) o 0 (⟨#[]⟩ : ByteArray) (⟨#[]⟩ : ByteArray) (⟨#[]⟩ : ByteArray)) else (spec_l14Read.j0 k [w0, x] F false o 0 (⟨#[]⟩ : ByteArray) (⟨#[]⟩ : ByteArray) (⟨#[]⟩ : ByteArray))))) (o, 0, x, (⟨#[]⟩ : ByteArray), (⟨#[]⟩ : ByteArray), true) := by
  simp only [h]
  exact Ev.step (fun k => by simp [s_j0, h] <;> rfl) (Ev.step (f := fun _ => some _) (fun k => by simp [s_j1, h] <;> rfl) (Ev.now _))
theorem sr_y (w0 x F : ByteArray) (o : Int) (h : F.toList = [121]) :
    Ev (fun k => if F.toList = ([110] : List UInt8) then (spec_l14Read.j0 k [w0, x] F ((([w0, x] : List ByteArray).length : Int) == 2) o 0 (⟨#[]⟩ : ByteArray) (⟨#[]⟩ : ByteArray) (⟨#[]⟩ : ByteArray)) else (if F.toList = ([105] : List UInt8) then (spec_l14Read.j0 k [w0, x] F ((([w0, x] : List ByteArray).length : Int) == 2) o 0 (⟨#[]⟩ : ByteArray) (⟨#[]⟩ : ByteArray) (⟨#[]⟩ : ByteArray)) else (if F.toList = ([116] : List UInt8) then (spec_l14Read.j0 k [w0, x] F ((([w0, x] : List ByteArray).length : Int) == 2) o 0 (⟨#[]⟩ : ByteArray) (⟨#[]⟩ : ByteArray) (⟨#[]⟩ : ByteArray)) else (spec_l14Read.j0 k [w0, x] F false o 0 (⟨#[]⟩ : ByteArray) (⟨#[]⟩ : ByteArray) (⟨#[]⟩ : ByteArray))))) (o, 0, (⟨#[]⟩ : ByteArray), (⟨#[]⟩ : ByteArray), x, true) := by
  simp only [h]
  exact Ev.step (fun k => by simp [s_j0, h] <;> rfl) (Ev.step (fun k => by simp [s_j1, h] <;> rfl) (Ev.step (f := fun _ => some _) (fun k => by simp [s_j2, h] <;> rfl) (Ev.now _)))
theorem sr_f (w0 x y z F : ByteArray) (o : Int) (h : F.toList = [102] ∨ F.toList = [109]) :
    Ev (fun k => if F.toList = ([110] : List UInt8) then (spec_l14Read.j0 k [w0, x, y, z] F ((([w0, x, y, z] : List ByteArray).length : Int) == 2) o 0 (⟨#[]⟩ : ByteArray) (⟨#[]⟩ : ByteArray) (⟨#[]⟩ : ByteArray)) else (if F.toList = ([105] : List UInt8) then (spec_l14Read.j0 k [w0, x, y, z] F ((([w0, x, y, z] : List ByteArray).length : Int) == 2) o 0 (⟨#[]⟩ : ByteArray) (⟨#[]⟩ : ByteArray) (⟨#[]⟩ : ByteArray)) else (if F.toList = ([116] : List UInt8) then (spec_l14Read.j0 k [w0, x, y, z] F ((([w0, x, y, z] : List ByteArray).length : Int) == 2) o 0 (⟨#[]⟩ : ByteArray) (⟨#[]⟩ : ByteArray) (⟨#[]⟩ : ByteArray)) else (spec_l14Read.j0 k [w0, x, y, z] F false o 0 (⟨#[]⟩ : ByteArray) (⟨#[]⟩ : ByteArray) (⟨#[]⟩ : ByteArray))))) (o, 0, x, y, z, true) := by
  rcases h with h | h <;> (simp only [h]; exact Ev.step (fun k => by simp [s_j0, h] <;> rfl) (Ev.step (fun k => by simp [s_j1, h] <;> rfl) (Ev.step (f := fun _ => some _) (fun k => by simp [s_j2, h] <;> first | rfl | exact ⟨rfl, rfl, rfl⟩) (Ev.now _))))
theorem sr_0 (w0 F : ByteArray) (o : Int) (h : F.toList = []) :
    Ev (fun k => if F.toList = ([110] : List UInt8) then (spec_l14Read.j0 k [w0] F ((([w0] : List ByteArray).length : Int) == 2) o 0 (⟨#[]⟩ : ByteArray) (⟨#[]⟩ : ByteArray) (⟨#[]⟩ : ByteArray)) else (if F.toList = ([105] : List UInt8) then (spec_l14Read.j0 k [w0] F ((([w0] : List ByteArray).length : Int) == 2) o 0 (⟨#[]⟩ : ByteArray) (⟨#[]⟩ : ByteArray) (⟨#[]⟩ : ByteArray)) else (if F.toList = ([116] : List UInt8) then (spec_l14Read.j0 k [w0] F ((([w0] : List ByteArray).length : Int) == 2) o 0 (⟨#[]⟩ : ByteArray) (⟨#[]⟩ : ByteArray) (⟨#[]⟩ : ByteArray)) else (spec_l14Read.j0 k [w0] F false o 0 (⟨#[]⟩ : ByteArray) (⟨#[]⟩ : ByteArray) (⟨#[]⟩ : ByteArray))))) (o, 0, (⟨#[]⟩ : ByteArray), (⟨#[]⟩ : ByteArray), (⟨#[]⟩ : ByteArray), true) := by
  simp only [h]
  exact Ev.step (fun k => by simp [s_j0, h] <;> rfl) (Ev.step (fun k => by simp [s_j1, h] <;> rfl) (Ev.step (f := fun _ => some _) (fun k => by simp [s_j2, h] <;> rfl) (Ev.now _)))

def LW : List ByteArray := [⟨#[]⟩, ⟨#[49, 97]⟩, ⟨#[97, 32, 98]⟩, ⟨#[97, 98, 99, 100, 101, 102, 103, 104, 105, 106, 107, 108, 109, 110, 111, 112, 113, 114, 115, 116]⟩, ⟨#[97, 98, 99, 100, 101, 102, 103, 104, 105, 106, 107, 108, 109, 110, 111, 112, 113, 114, 115, 116, 117]⟩, ⟨#[10]⟩, ⟨#[255]⟩, ⟨#[65]⟩, ⟨#[66]⟩, ⟨#[79, 98, 106, 101, 99, 116]⟩, ⟨#[120, 36, 49]⟩, ⟨#[114, 117, 110]⟩, ⟨#[102]⟩, ⟨#[109, 97, 105, 110]⟩,
  ⟨#[86]⟩, ⟨#[76, 59]⟩, ⟨#[76, 65]⟩, ⟨#[91, 91, 73]⟩, ⟨#[73, 59]⟩, ⟨#[76, 49, 59]⟩, ⟨#[76, 97, 98, 99, 100, 101, 102, 103, 104, 105, 106, 107, 108, 109, 110, 111, 112, 113, 114, 115, 116, 59]⟩, ⟨#[76, 97, 98, 99, 100, 101, 102, 103, 104, 105, 106, 107, 108, 109, 110, 111, 112, 113, 114, 115, 116, 117, 59]⟩, ⟨#[73]⟩, ⟨#[76, 65, 59]⟩, ⟨#[76, 66, 59]⟩, ⟨#[76, 79, 98, 106, 101, 99, 116, 59]⟩, ⟨#[91, 73]⟩, ⟨#[91, 76, 65, 59]⟩,
  ⟨#[120]⟩, ⟨#[121]⟩, ⟨#[60, 105, 110, 105, 116, 62]⟩, ⟨#[40, 41, 86]⟩, ⟨#[40, 73, 41, 73]⟩]
def abT : ByteArray := ⟨#[97, 32, 98]⟩
theorem lw_size : ∀ s ∈ LW, s.size ≤ 23 := by decide +kernel
theorem lw_blank : ∀ s ∈ LW, (s.data.toList.all (· != 32) || s.data.toList == [97, 32, 98]) = true := by decide +kernel
theorem lw_case (s : ByteArray) (h : s ∈ LW) : noBlank s ∨ s = abT := by
  have h2 := lw_blank s h
  rw [Bool.or_eq_true] at h2
  rcases h2 with h2 | h2
  · left
    intro e
    have := List.all_eq_true.mp h2 32 e
    simp at this
  · right
    exact WideShapes.bytes_inj (by rw [beq_iff_eq.mp h2]; rfl)
theorem ab_name (k : Nat) (hk : 60 ≤ k) : spec_NameRight.f k abT = some false :=
  at_rounds (g := fun k => spec_NameRight.f k abT) (fun k => spec_NameRight.mono _ _) hk (by decide +kernel)
theorem ab_type (k : Nat) (hk : 60 ≤ k) : spec_TypeRight.f k abT = some false :=
  at_rounds (g := fun k => spec_TypeRight.f k abT) (fun k => spec_TypeRight.mono _ _) hk (by decide +kernel)
theorem ab_desc (k : Nat) (hk : 60 ≤ k) : ∃ r, spec_DescRead.f k abT = some r ∧ (r.2.2.2 == 0) = false := by
  have h0 : (match spec_DescRead.f 60 abT with | some r => (r.2.2.2 == 0) == false | none => false) = true := by decide +kernel
  cases h : spec_DescRead.f 60 abT with
  | none => rw [h] at h0; cases h0
  | some r =>
    rw [h] at h0
    exact ⟨r, at_rounds (g := fun k => spec_DescRead.f k abT) (fun k => spec_DescRead.mono _ _) hk h, by simpa using h0⟩
theorem emp_of (s : ByteArray) (h : s.toList = []) : s = ⟨#[]⟩ := WideShapes.bytes_inj (by rw [← Lib.toList_data, h])
theorem bare_emp (c n d : ByteArray) (h : bareB c n d = true) : c = ⟨#[]⟩ ∧ n = ⟨#[]⟩ ∧ d = ⟨#[]⟩ := by
  unfold bareB at h
  simp only [Bool.and_eq_true, decide_eq_true_eq] at h
  exact ⟨emp_of c h.1, emp_of n h.2.1, emp_of d h.2.2⟩
/-- What stands in a right instruction, by its form. -/
def RForm (F : ByteArray) (a : Int) (c n d : ByteArray) : Prop :=
  (F.toList = [] ∧ a = 0 ∧ c = ⟨#[]⟩ ∧ n = ⟨#[]⟩ ∧ d = ⟨#[]⟩) ∨ (numF F ∧ (-2147483648 ≤ a ∧ a ≤ 2147483647) ∧ c = ⟨#[]⟩ ∧ n = ⟨#[]⟩ ∧ d = ⟨#[]⟩) ∨ (F.toList = [99] ∧ a = 0 ∧ noBlank c ∧ n = ⟨#[]⟩ ∧ d = ⟨#[]⟩) ∨
  (F.toList = [121] ∧ a = 0 ∧ c = ⟨#[]⟩ ∧ n = ⟨#[]⟩ ∧ noBlank d) ∨ ((F.toList = [102] ∨ F.toList = [109]) ∧ a = 0 ∧ noBlank c ∧ noBlank n ∧ noBlank d)
theorem no_name (c : ByteArray) (hc : c ∈ LW) (k : Nat) (hk : 60 ≤ k) (h : spec_NameRight.f k c = some true) : noBlank c := by
  rcases lw_case c hc with h1 | h1
  · exact h1
  · rw [h1, ab_name k hk] at h; cases h
theorem no_type (c : ByteArray) (hc : c ∈ LW) (k : Nat) (hk : 60 ≤ k) (h : spec_TypeRight.f k c = some true) : noBlank c := by
  rcases lw_case c hc with h1 | h1
  · exact h1
  · rw [h1, ab_type k hk] at h; cases h
theorem no_desc (c : ByteArray) (hc : c ∈ LW) (k : Nat) (hk : 60 ≤ k) (r) (h : spec_DescRead.f k c = some r) (h2 : (r.2.2.2 == 0) = true) : noBlank c := by
  rcases lw_case c hc with h1 | h1
  · exact h1
  · obtain ⟨r', e1, e2⟩ := ab_desc k hk
    rw [h1, e1] at h
    rw [← Option.some.inj h, e2] at h2
    cases h2
theorem right_form (o a : Int) (c n d F : ByteArray) (f2 : ∀ k, 16 ≤ k → spec_OpForm.f k o = some F) (fc : F.toList = [] ∨ F.toList = [110] ∨ F.toList = [105] ∨ F.toList = [116] ∨ F.toList = [99] ∨ F.toList = [121] ∨ F.toList = [102] ∨ F.toList = [109] ∨ F.toList = [33])
    (hc : c ∈ LW) (hn : n ∈ LW) (hd : d ∈ LW) (hr : Ev (fun k => spec_InsRight.f k o a c n d) true) : RForm F a c n d := by
  obtain ⟨K, hK⟩ := hr
  have h : spec_InsRight.f (K + 60) o a c n d = some true := hK (K + 60) (by omega)
  have k60 : 60 ≤ K + 60 := by omega
  generalize K + 60 = k at h k60
  unfold spec_InsRight.f at h
  rw [f2 _ (by omega)] at h
  simp only [Option.bind_some, spec_bare, int_spec] at h
  rcases fc with e | e | e | e | e | e | e | e | e
  · rw [if_pos e] at h
    split at h
    · rename_i ha
      have hb := bare_emp c n d (by simpa using h)
      exact .inl ⟨e, ha, hb⟩
    · cases h
  · rw [if_neg (by rw [e]; simp), if_pos e] at h
    split at h
    · rename_i ha
      have hb := bare_emp c n d (by simpa using h)
      exact .inr (.inl ⟨.inl e, of_decide_eq_true ha, hb⟩)
    · cases h
  · rw [if_neg (by rw [e]; simp), if_neg (by rw [e]; simp), if_pos e] at h
    split at h
    · split at h
      · have hb := bare_emp c n d (by simpa using h)
        exact .inr (.inl ⟨.inr (.inl e), ⟨by omega, by omega⟩, hb⟩)
      · cases h
    · cases h
  · rw [if_neg (by rw [e]; simp), if_neg (by rw [e]; simp), if_neg (by rw [e]; simp), if_pos e] at h
    split at h
    · split at h
      · have hb := bare_emp c n d (by simpa using h)
        exact .inr (.inl ⟨.inr (.inr e), ⟨by omega, by omega⟩, hb⟩)
      · cases h
    · cases h
  · rw [if_neg (by rw [e]; simp), if_neg (by rw [e]; simp), if_neg (by rw [e]; simp), if_neg (by rw [e]; simp), if_pos e] at h
    split at h
    · rename_i ha
      obtain ⟨t, h1, h2⟩ := Option.bind_eq_some_iff.mp h
      split at h2
      · rename_i ht
        split at h2
        · rename_i h3
          rw [ht] at h1
          exact .inr (.inr (.inl ⟨e, ha, no_name c hc k k60 h1, emp_of n h3, emp_of d (by simpa using h2)⟩))
        · cases h2
      · cases h2
    · cases h
  · rw [if_neg (by rw [e]; simp), if_neg (by rw [e]; simp), if_neg (by rw [e]; simp), if_neg (by rw [e]; simp), if_neg (by rw [e]; simp), if_pos e] at h
    split at h
    · rename_i ha
      split at h
      · rename_i h3
        split at h
        · rename_i h4
          obtain ⟨t, h1, h2⟩ := Option.bind_eq_some_iff.mp h
          split at h2
          · rename_i ht
            rw [ht] at h1
            exact .inr (.inr (.inr (.inl ⟨e, ha, emp_of c h3, emp_of n h4, no_type d hd k k60 h1⟩)))
          · cases h2
        · cases h
      · cases h
    · cases h
  · rw [if_neg (by rw [e]; simp), if_neg (by rw [e]; simp), if_neg (by rw [e]; simp), if_neg (by rw [e]; simp), if_neg (by rw [e]; simp), if_neg (by rw [e]; simp), if_pos e] at h
    split at h
    · rename_i ha
      obtain ⟨t, h1, h2⟩ := Option.bind_eq_some_iff.mp h
      split at h2
      · rename_i ht
        rw [ht] at h1
        obtain ⟨t2, h3, h4⟩ := Option.bind_eq_some_iff.mp h2
        split at h4
        · rename_i ht2
          rw [ht2] at h3
          obtain ⟨t3, h5, h6⟩ := Option.bind_eq_some_iff.mp h4
          rw [Option.some.inj h6] at h5
          exact .inr (.inr (.inr (.inr ⟨.inl e, ha, no_name c hc k k60 h1, no_name n hn k k60 h3, no_type d hd k k60 h5⟩)))
        · cases h4
      · cases h2
    · cases h
  · rw [if_neg (by rw [e]; simp), if_neg (by rw [e]; simp), if_neg (by rw [e]; simp), if_neg (by rw [e]; simp), if_neg (by rw [e]; simp), if_neg (by rw [e]; simp), if_neg (by rw [e]; simp), if_pos e] at h
    split at h
    · rename_i ha
      obtain ⟨t, h1, h2⟩ := Option.bind_eq_some_iff.mp h
      split at h2
      · rename_i ht
        rw [ht] at h1
        obtain ⟨t2, h3, h4⟩ := Option.bind_eq_some_iff.mp h2
        split at h4
        · rename_i ht2
          rw [ht2] at h3
          obtain ⟨r, h5, h6⟩ := Option.bind_eq_some_iff.mp h4
          exact .inr (.inr (.inr (.inr ⟨.inr e, ha, no_name c hc k k60 h1, no_name n hn k k60 h3, no_desc d hd k k60 r h5 (Option.some.inj h6)⟩)))
        · split at h4
          · rename_i h7
            obtain ⟨r, h5, h6⟩ := Option.bind_eq_some_iff.mp h4
            have hb : noBlank n := by
              unfold noBlank
              rw [← Lib.toList_data, h7]
              decide
            exact .inr (.inr (.inr (.inr ⟨.inr e, ha, no_name c hc k k60 h1, hb, no_desc d hd k k60 r h5 (Option.some.inj h6)⟩)))
          · cases h4
      · cases h2
    · cases h
  · rw [if_neg (by rw [e]; simp), if_neg (by rw [e]; simp), if_neg (by rw [e]; simp), if_neg (by rw [e]; simp), if_neg (by rw [e]; simp), if_neg (by rw [e]; simp), if_neg (by rw [e]; simp), if_neg (by rw [e]; simp)] at h
    cases h
theorem read_then (T S : ByteArray) (R : List ByteArray) (F : ByteArray) (o a : Int) (c n d : ByteArray) (hT : T.size ≤ 20000) (hW : pieces T = S :: R) (ho : (opOf S : Int) = o) (f2 : ∀ k, 16 ≤ k → spec_OpForm.f k o = some F)
    (hb : Ev (fun k => if F.toList = ([110] : List UInt8) then (spec_l14Read.j0 k (S :: R) F (((S :: R).length : Int) == 2) o 0 (⟨#[]⟩ : ByteArray) (⟨#[]⟩ : ByteArray) (⟨#[]⟩ : ByteArray)) else (if F.toList = ([105] : List UInt8) then (spec_l14Read.j0 k (S :: R) F (((S :: R).length : Int) == 2) o 0 (⟨#[]⟩ : ByteArray) (⟨#[]⟩ : ByteArray) (⟨#[]⟩ : ByteArray)) else (if F.toList = ([116] : List UInt8) then (spec_l14Read.j0 k (S :: R) F (((S :: R).length : Int) == 2) o 0 (⟨#[]⟩ : ByteArray) (⟨#[]⟩ : ByteArray) (⟨#[]⟩ : ByteArray)) else (spec_l14Read.j0 k (S :: R) F false o 0 (⟨#[]⟩ : ByteArray) (⟨#[]⟩ : ByteArray) (⟨#[]⟩ : ByteArray))))) (o, a, c, n, d, true))
    (hr : Ev (fun k => spec_InsRight.f k o a c n d) true) (htx : Ev (fun k => spec_l14Ins.f k o a c n d) T) : Ev (fun k => spec_InsParse.f k T) (o, a, c, n, d) := by
  have hsp := split_spec T hT
  rw [hW] at hsp
  have hos := op_spec S
  rw [ho] at hos
  have hread : Ev (fun k => spec_l14Read.f k T) (o, a, c, n, d, true) := by
    unfold spec_l14Read.f
    exact Ev.bind hsp (Ev.congr (fun k => if_pos (by simp only [List.length_cons]; omega)) (Ev.bind hos (Ev.bind ⟨16, f2⟩ hb)))
  unfold spec_InsParse.f
  exact Ev.congr (fun k => if_neg (by omega)) (Ev.bind hread (Ev.congr (fun k => if_pos rfl) (Ev.bind hr (Ev.congr (fun k => if_pos rfl) (Ev.bind htx (Ev.congr (f := fun _ => some _) (fun k => if_pos rfl) (Ev.now _)))))))
/-- A right instruction is read back from its text. -/
theorem read_back (o a : Int) (c n d F : ByteArray) (ho : 1 ≤ o ∧ o ≤ 44) (f2 : ∀ k, 16 ≤ k → spec_OpForm.f k o = some F) (hl : -9223372036854775808 ≤ a) (hh : a ≤ 9223372036854775807)
    (hc : c.size ≤ 23) (hn : n.size ≤ 23) (hd : d.size ≤ 23) (hR : RForm F a c n d) (hr : Ev (fun k => spec_InsRight.f k o a c n d) true) :
    Ev (fun k => spec_InsParse.f k (insTx (nm (o.toNat - 1)) F a c n d)) (o, a, c, n, d) := by
  have hj : o.toNat - 1 < 44 := by omega
  have hop : (opOf (nm (o.toNat - 1)) : Int) = o := by rw [opOf_nm _ hj]; omega
  have hS := nm_size _ hj
  have hb := nm_noBlank _ hj
  have s2 : ∀ k, 16 ≤ k → spec_OpName.f k o = some (nm (o.toNat - 1)) := fun k hk => by
    have h := name_spec (o.toNat - 1) hj k hk
    rw [show ((o.toNat - 1 + 1 : Nat) : Int) = o by omega] at h
    exact h
  have htx : Ev (fun k => spec_l14Ins.f k o a c n d) (insTx (nm (o.toNat - 1)) F a c n d) := ⟨22, fun k hk => spec_ins _ F o a c n d s2 hS f2 hl hh (by omega) (by omega) (by omega) k hk⟩
  have zd := decT_size a hl hh
  have z1 : (⟨#[32]⟩ : ByteArray).size = 1 := rfl
  rcases hR with ⟨e, rfl, rfl, rfl, rfl⟩ | ⟨e, ha, rfl, rfl, rfl⟩ | ⟨e, rfl, hbc, rfl, rfl⟩ | ⟨e, rfl, rfl, rfl, hbd⟩ | ⟨e, rfl, hbc, hbn, hbd⟩
  · rw [insTx_0 _ F e] at htx ⊢
    refine read_then _ (nm (o.toNat - 1)) [] F o 0 _ _ _ (by omega) ?_ hop f2 (sr_0 _ F o e) hr htx
    have := pieces_join (nm (o.toNat - 1)) [] (fun y hy => by simp at hy; rw [hy]; exact hb)
    rwa [joinB_1] at this
  · rw [insTx_num _ F a e] at htx ⊢
    have hp : Ev (fun k => spec_l01Num.f k (decT a)) (a, true) := by
      have := ev_num (decT a)
      rwa [specNum_of (decT a) a ha.1 ha.2 rfl] at this
    refine read_then _ (nm (o.toNat - 1)) [decT a] F o a _ _ _ (by rw [ByteArray.size_append, ByteArray.size_append]; omega) ?_ hop f2 (sr_num _ _ F o (a, true) e hp) hr htx
    have := pieces_join (nm (o.toNat - 1)) [decT a] (fun y hy => by simp at hy; rcases hy with rfl | rfl; exact hb; exact dec_noBlank a)
    rwa [joinB_2] at this
  · rw [insTx_c _ F c e] at htx ⊢
    refine read_then _ (nm (o.toNat - 1)) [c] F o 0 _ _ _ (by rw [ByteArray.size_append, ByteArray.size_append]; omega) ?_ hop f2 (sr_c _ _ F o e) hr htx
    have := pieces_join (nm (o.toNat - 1)) [c] (fun y hy => by simp at hy; rcases hy with rfl | rfl; exact hb; exact hbc)
    rwa [joinB_2] at this
  · rw [insTx_y _ F d e] at htx ⊢
    refine read_then _ (nm (o.toNat - 1)) [d] F o 0 _ _ _ (by rw [ByteArray.size_append, ByteArray.size_append]; omega) ?_ hop f2 (sr_y _ _ F o e) hr htx
    have := pieces_join (nm (o.toNat - 1)) [d] (fun y hy => by simp at hy; rcases hy with rfl | rfl; exact hb; exact hbd)
    rwa [joinB_2] at this
  · rw [insTx_f _ F c n d e] at htx ⊢
    refine read_then _ (nm (o.toNat - 1)) [c, n, d] F o 0 _ _ _ (by simp only [ByteArray.size_append]; omega) ?_ hop f2 (sr_f _ _ _ _ F o e) hr htx
    have := pieces_join (nm (o.toNat - 1)) [c, n, d] (fun y hy => by simp at hy; rcases hy with rfl | rfl | rfl | rfl; exact hb; exact hbc; exact hbn; exact hbd)
    rwa [joinB_4] at this

theorem u64_w (n : Int) : IntKind.u64.wrap n = n % 18446744073709551616 := IntKind.wrap_u64 n
theorem draw_n (b : List Int) (i m z : Int) (most : Int) (h0 : 0 ≤ i) (hb : b.length ≤ 140737488355328) (hm : most ≤ 9223372036854775807) :
    ∃ r i' m', spec_l01Src_n.f b i m z most = some (r, i', m', z) ∧ 0 ≤ i' ∧ 0 ≤ r ∧ (1 ≤ most → r < most) := by
  unfold spec_l01Src_n.f
  by_cases c1 : most ≤ 1
  · rw [if_pos c1]
    exact ⟨_, _, _, rfl, h0, by omega, fun h => by omega⟩
  · rw [if_neg c1]
    have e1 : IntKind.u64.wrap most = most := by rw [u64_w]; omega
    have key : ∀ X : Int, 0 ≤ wrap64 (Int.tmod (IntKind.u64.wrap X) most) ∧ wrap64 (Int.tmod (IntKind.u64.wrap X) most) < most := by
      intro X
      have hx : 0 ≤ IntKind.u64.wrap X := by rw [u64_w]; omega
      rw [Int.tmod_eq_emod_of_nonneg hx]
      have a1 := Int.emod_nonneg (IntKind.u64.wrap X) (b := most) (by omega)
      have a2 := Int.emod_lt_of_pos (IntKind.u64.wrap X) (b := most) (by omega)
      have e : wrap64 (IntKind.u64.wrap X % most) = IntKind.u64.wrap X % most := by unfold wrap64; omega
      rw [e]
      exact ⟨a1, a2⟩
    rw [e1]
    by_cases c2 : i < (b.length : Int)
    · rw [if_pos c2, if_pos h0, if_neg (by omega)]
      refine ⟨_, _, _, rfl, ?_, (key _).1, fun _ => (key _).2⟩
      unfold wrap64; omega
    · rw [if_neg c2, if_neg (by omega)]
      exact ⟨_, _, _, rfl, h0, (key _).1, fun _ => (key _).2⟩
theorem draw_loop (l0 : List Int) (hb : l0.length ≤ 140737488355328) (d : Nat) : ∀ (k : Nat) (i m : Int), 0 ≤ i → i + d = 64 → d < k → ∃ m' z, spec_l01Source.l0 k l0 i l0 0 m 0 = some (l0, 0, m', z) := by
  have fin : ∀ m : Int, ∃ m' z, (if (wrap64 ((l0.length : Int) / 20)) > 12 then (some (l0, (0 : Int), m, (12 : Int))) else (some (l0, 0, m, wrap64 ((l0.length : Int) / 20)))) = some (l0, 0, m', z) := by
    intro m
    split
    · exact ⟨_, _, rfl⟩
    · exact ⟨_, _, rfl⟩
  induction d with
  | zero =>
    intro k i m h0 h1 hk
    obtain ⟨k, rfl⟩ : ∃ m, k = m + 1 := ⟨k - 1, by omega⟩
    simp only [spec_l01Source.l0]
    by_cases c1 : i < (l0.length : Int)
    · rw [if_pos c1, if_neg (by omega)]; exact fin m
    · rw [if_neg c1]; exact fin m
  | succ d ih =>
    intro k i m h0 h1 hk
    obtain ⟨k, rfl⟩ : ∃ m, k = m + 1 := ⟨k - 1, by omega⟩
    simp only [spec_l01Source.l0]
    by_cases c1 : i < (l0.length : Int)
    · rw [if_pos c1, if_pos (by omega), if_pos h0]
      have e : wrap64 (i + 1) = i + 1 := by unfold wrap64; omega
      rw [e]
      exact ih k _ _ (by omega) (by omega) (by omega)
    · rw [if_neg c1]; exact fin m
theorem draw_source (l0 : List Int) (hb : l0.length ≤ 140737488355328) : ∃ m z, spec_l01Source.f 65 l0 = some (l0, 0, m, z) := draw_loop l0 hb 64 65 0 _ (by omega) (by omega) (by omega)

theorem join_f (M : Nat) (l : List ByteArray) (h : ∀ x ∈ l, x.size ≤ M) (hn : l.length * (M + 1) ≤ 140737488355328) (hl : l.length ≤ 140737488355328) : strings_Join.f l (⟨#[32]⟩ : ByteArray) = some (joinB l) := by
  unfold strings_Join.f
  have h1 := joinB_size M l h
  have e : (Lib.join (l.map (·.data.toList)) (⟨#[32]⟩ : ByteArray).data.toList).length = (joinB l).size := by
    show _ = (Lib.join (l.map (·.data.toList)) (⟨#[32]⟩ : ByteArray).data.toList).toArray.size
    rw [List.size_toArray]
  rw [if_pos ⟨hl, by rw [e]; omega⟩]
  rfl

theorem op_names_nat : ∀ n : Nat, n < 44 → spec_OpName.f 16 (((n + 1 : Nat) : Int)) = impl_OpName.f (((n + 1 : Nat) : Int)) ∧ (match impl_OpName.f (((n + 1 : Nat) : Int)) with | some S => decide (S.size ≤ 20) | none => false) = true := by decide +kernel
/-- The name of an op: the program's and the reference's. -/
theorem op_name (a : Int) : ∃ S, impl_OpName.f a = some S ∧ S.size ≤ 20 ∧ ∀ k, 16 ≤ k → spec_OpName.f k a = some S := by
  have up : ∀ S, spec_OpName.f 16 a = some S → ∀ k, 16 ≤ k → spec_OpName.f k a = some S := fun S h k hk => at_rounds (g := fun k => spec_OpName.f k a) (fun k => spec_OpName.mono _ _) hk h
  by_cases h1 : 1 ≤ a ∧ a ≤ 44
  · have e : a = (((a - 1).toNat + 1 : Nat) : Int) := by omega
    have h := op_names_nat (a - 1).toNat (by omega)
    rw [← e] at h
    obtain ⟨h2, h3⟩ := h
    cases hS : impl_OpName.f a with
    | none => rw [hS] at h3; simp at h3
    | some S =>
      rw [hS] at h2 h3
      exact ⟨S, rfl, by simpa using h3, up S h2⟩
  · refine ⟨⟨#[]⟩, ?_, Nat.zero_le _, up _ ?_⟩
    · unfold impl_OpName.f impl_isOp.f impl_within.f
      by_cases c : a ≥ 1
      · rw [if_pos c]
        simp only [Option.bind_some]
        rw [if_neg (by simp; omega)]
      · rw [if_neg c]
        simp only [Option.bind_some]
        rw [if_neg (by simp)]
    · unfold spec_OpName.f spec_l03Ops.f
      simp only [Option.bind_some]
      by_cases c : a < 1
      · rw [if_pos c]
      · rw [if_neg c, if_pos (by simp; omega)]

theorem join_at (l : List ByteArray) (hl : l.length ≤ 4) (h : ∀ x ∈ l, x.size ≤ 1048620) : strings_Join.f l (⟨#[32]⟩ : ByteArray) = some (joinB l) :=
  join_f 1048620 l h (by omega) (by omega)
theorem ins_j0_impl (S F : ByteArray) (b : Bool) (o a : Int) (c n d : ByteArray) (hS : S.size ≤ 20) (hl : -9223372036854775808 ≤ a) (hh : a ≤ 9223372036854775807) (hc : c.size ≤ 1048576) (hn : n.size ≤ 1048576) (hd : d.size ≤ 1048576) (k : Nat) :
    impl_insText.j0 (k + 1) [S] F b o a c n d = some (insT S F b a c n d) := by
  have zd := decT_size a hl hh
  have two : ∀ x : ByteArray, x.size ≤ 1048620 → strings_Join.f ([S] ++ [x]) (⟨#[32]⟩ : ByteArray) = some ((S ++ ⟨#[32]⟩) ++ x) := fun x hx => by
    rw [← joinB_2]
    exact join_at [S, x] (by simp) (by intro y hy; simp at hy; rcases hy with rfl | rfl <;> omega)
  have four : strings_Join.f ([S] ++ [c, n, d]) (⟨#[32]⟩ : ByteArray) = some ((((((S ++ ⟨#[32]⟩) ++ c) ++ ⟨#[32]⟩) ++ n) ++ ⟨#[32]⟩) ++ d) := by
    rw [← joinB_4]
    exact join_at [S, c, n, d] (by simp) (by intro y hy; simp at hy; rcases hy with rfl | rfl | rfl | rfl <;> omega)
  have one : strings_Join.f [S] (⟨#[32]⟩ : ByteArray) = some S := by
    have := join_at [S] (by simp) (by intro y hy; simp at hy; subst hy; omega)
    rwa [joinB_1] at this
  unfold insT
  simp only [impl_insText.j0, impl_dec a hl hh, Option.bind_some, two (decT a) (by omega), two c (by omega), two d (by omega), four, one]
  have q0 : (([S] : List ByteArray).length < 8796093022208) = True := eq_true (by simp)
  have q1 : (([S] : List ByteArray).length + ([c, n, d] : List ByteArray).length < 8796093022208) = True := eq_true (by simp)
  simp only [q0, q1, if_true]
  repeat' (first | rfl | split)
/-- The program's text of an instruction. -/
theorem impl_ins (S F : ByteArray) (o a : Int) (c n d : ByteArray) (s1 : impl_OpName.f o = some S) (hS : S.size ≤ 20) (f1 : impl_OpForm.f o = some F) (hl : -9223372036854775808 ≤ a) (hh : a ≤ 9223372036854775807) (hc : c.size ≤ 1048576) (hn : n.size ≤ 1048576) (hd : d.size ≤ 1048576) (k : Nat) (hk : 22 ≤ k) :
    impl_insText.f k o a c n d = some (insTx S F a c n d) := by
  obtain ⟨k, rfl⟩ : ∃ m, k = m + 1 := ⟨k - 1, by omega⟩
  unfold impl_insText.f insTx
  rw [s1, f1]
  simp only [Option.bind_some, ins_j0_impl S F _ o a c n d hS hl hh hc hn hd k]
  repeat' (first | rfl | split)
theorem rdOf_at {α : Type} (d : α) (l : List α) (i : Int) (h : i.toNat < l.length) : rdOf d l i = l[i.toNat] := by
  simp [rdOf, List.getD_eq_getElem?_getD, List.getElem?_eq_getElem h]
theorem draw_one (b : List Int) (i m z most : Int) (h0 : 0 ≤ i) (hb : b.length ≤ 140737488355328) (hm : most ≤ 9223372036854775807) : ∃ r i' m', spec_l01Src_one.f b i m z most = some (r, i', m', z) ∧ 0 ≤ i' := by
  obtain ⟨r, i', m', e, h1, _⟩ := draw_n b i m z most h0 hb hm
  exact ⟨r == 0, i', m', by unfold spec_l01Src_one.f; rw [e]; rfl, h1⟩
theorem draw_pick (b : List Int) (i m z : Int) (l : List ByteArray) (h0 : 0 ≤ i) (hb : b.length ≤ 140737488355328) (hl : 0 < l.length) (hl2 : l.length ≤ 1000) : ∃ s i' m', spec_l01Src_pick.f b i m z l = some (s, i', m', z) ∧ 0 ≤ i' ∧ s ∈ l := by
  obtain ⟨r, i', m', e, h1, h2, h3⟩ := draw_n b i m z (l.length : Int) h0 hb (by omega)
  have h4 := h3 (by omega)
  refine ⟨rdOf ByteArray.empty l r, i', m', by unfold spec_l01Src_pick.f; rw [e]; simp only [Option.bind_some]; rw [if_pos h2, if_pos h4], h1, ?_⟩
  rw [rdOf_at _ _ _ (by omega)]
  exact List.getElem_mem _
theorem draw_word (b : List Int) (i m z : Int) (h0 : 0 ≤ i) (hb : b.length ≤ 140737488355328) : ∃ s i' m', spec_l01Src_word.f b i m z = some (s, i', m', z) ∧ 0 ≤ i' ∧ s ∈ LW := by
  obtain ⟨r, i1, m1, e1, h1⟩ := draw_one b i m z 30 h0 hb (by omega)
  unfold spec_l01Src_word.f
  rw [e1]
  simp only [Option.bind_some]
  split
  · obtain ⟨s, i2, m2, e2, h2, h3⟩ := draw_pick b i1 m1 z [(⟨#[]⟩ : ByteArray), (⟨#[49, 97]⟩ : ByteArray), (⟨#[97, 32, 98]⟩ : ByteArray), (⟨#[97, 98, 99, 100, 101, 102, 103, 104, 105, 106, 107, 108, 109, 110, 111, 112, 113, 114, 115, 116]⟩ : ByteArray), (⟨#[97, 98, 99, 100, 101, 102, 103, 104, 105, 106, 107, 108, 109, 110, 111, 112, 113, 114, 115, 116, 117]⟩ : ByteArray), (⟨#[10]⟩ : ByteArray), (⟨#[255]⟩ : ByteArray)] h1 hb (by decide) (by decide)
    rw [e2]
    refine ⟨s, i2, m2, rfl, h2, ?_⟩
    simp only [List.mem_cons, List.not_mem_nil, or_false] at h3
    rcases h3 with rfl | rfl | rfl | rfl | rfl | rfl | rfl <;> simp [LW]
  · obtain ⟨s, i2, m2, e2, h2, h3⟩ := draw_pick b i1 m1 z [(⟨#[65]⟩ : ByteArray), (⟨#[66]⟩ : ByteArray), (⟨#[79, 98, 106, 101, 99, 116]⟩ : ByteArray), (⟨#[120, 36, 49]⟩ : ByteArray), (⟨#[114, 117, 110]⟩ : ByteArray), (⟨#[102]⟩ : ByteArray), (⟨#[109, 97, 105, 110]⟩ : ByteArray)] h1 hb (by decide) (by decide)
    rw [e2]
    refine ⟨s, i2, m2, rfl, h2, ?_⟩
    simp only [List.mem_cons, List.not_mem_nil, or_false] at h3
    rcases h3 with rfl | rfl | rfl | rfl | rfl | rfl | rfl <;> simp [LW]
theorem draw_type (b : List Int) (i m z : Int) (h0 : 0 ≤ i) (hb : b.length ≤ 140737488355328) : ∃ s i' m', spec_l01Src_l02Type.f b i m z = some (s, i', m', z) ∧ 0 ≤ i' ∧ s ∈ LW := by
  obtain ⟨r, i1, m1, e1, h1⟩ := draw_one b i m z 30 h0 hb (by omega)
  unfold spec_l01Src_l02Type.f
  rw [e1]
  simp only [Option.bind_some]
  split
  · obtain ⟨s, i2, m2, e2, h2, h3⟩ := draw_pick b i1 m1 z [(⟨#[]⟩ : ByteArray), (⟨#[86]⟩ : ByteArray), (⟨#[76, 59]⟩ : ByteArray), (⟨#[76, 65]⟩ : ByteArray), (⟨#[91, 91, 73]⟩ : ByteArray), (⟨#[73, 59]⟩ : ByteArray), (⟨#[76, 49, 59]⟩ : ByteArray), (⟨#[76, 97, 98, 99, 100, 101, 102, 103, 104, 105, 106, 107, 108, 109, 110, 111, 112, 113, 114, 115, 116, 59]⟩ : ByteArray), (⟨#[76, 97, 98, 99, 100, 101, 102, 103, 104, 105, 106, 107, 108, 109, 110, 111, 112, 113, 114, 115, 116, 117, 59]⟩ : ByteArray)] h1 hb (by decide) (by decide)
    rw [e2]
    refine ⟨s, i2, m2, rfl, h2, ?_⟩
    simp only [List.mem_cons, List.not_mem_nil, or_false] at h3
    rcases h3 with rfl | rfl | rfl | rfl | rfl | rfl | rfl | rfl | rfl <;> simp [LW]
  · obtain ⟨s, i2, m2, e2, h2, h3⟩ := draw_pick b i1 m1 z [(⟨#[73]⟩ : ByteArray), (⟨#[73]⟩ : ByteArray), (⟨#[76, 65, 59]⟩ : ByteArray), (⟨#[76, 66, 59]⟩ : ByteArray), (⟨#[76, 79, 98, 106, 101, 99, 116, 59]⟩ : ByteArray), (⟨#[91, 73]⟩ : ByteArray), (⟨#[91, 76, 65, 59]⟩ : ByteArray)] h1 hb (by decide) (by decide)
    rw [e2]
    refine ⟨s, i2, m2, rfl, h2, ?_⟩
    simp only [List.mem_cons, List.not_mem_nil, or_false] at h3
    rcases h3 with rfl | rfl | rfl | rfl | rfl | rfl | rfl <;> simp [LW]
theorem draw_edge (b : List Int) (i m z : Int) (h0 : 0 ≤ i) (hb : b.length ≤ 140737488355328) : ∃ v i' m', spec_l01Src_edge.f b i m z = some (v, i', m', z) ∧ 0 ≤ i' ∧ -9223372036854775808 ≤ v ∧ v ≤ 9223372036854775807 := by
  obtain ⟨r, i1, m1, e1, h1, h2, h3⟩ := draw_n b i m z 14 h0 hb (by omega)
  have h4 := h3 (by omega)
  unfold spec_l01Src_edge.f
  rw [e1]
  simp only [Option.bind_some]
  rw [if_pos h2, if_pos (show r < (([0, 1, (-1), 2, 1000, 1001, 2147483648, 2147483647, (-2147483648), 4611686018427387904, 9223372036854775807, (-9223372036854775808), 1000000, 1000001] : List Int).length : Int) from h4)]
  refine ⟨_, i1, m1, rfl, h1, ?_⟩
  have key : ∀ n : Nat, n < 14 → -9223372036854775808 ≤ rd ([0, 1, (-1), 2, 1000, 1001, 2147483648, 2147483647, (-2147483648), 4611686018427387904, 9223372036854775807, (-9223372036854775808), 1000000, 1000001] : List Int) (n : Int) ∧ rd ([0, 1, (-1), 2, 1000, 1001, 2147483648, 2147483647, (-2147483648), 4611686018427387904, 9223372036854775807, (-9223372036854775808), 1000000, 1000001] : List Int) (n : Int) ≤ 9223372036854775807 := by decide
  have h5 := key r.toNat (by omega)
  rwa [show ((r.toNat : Nat) : Int) = r by omega] at h5
/-- What a drawn instruction is made of. -/
def DIns (o a : Int) (c n d : ByteArray) : Prop := (-1 ≤ o ∧ o ≤ 46) ∧ (-9223372036854775808 ≤ a ∧ a ≤ 9223372036854775807) ∧ c ∈ LW ∧ n ∈ LW ∧ d ∈ LW
theorem ins_j0_eq (k : Nat) (b : List Int) (i m z o a : Int) (c n d : ByteArray) : spec_l01Src_l03Ins.j0 (k + 1) b i m z o a c n d = (spec_l01Src_one.f b i m z 12).bind fun t => (if t.1 = true then ((spec_l01Src_n.f b t.2.1 t.2.2.1 t.2.2.2 5).bind fun u => (if u.1 = 0 then ((spec_l01Src_n.f b u.2.1 u.2.2.1 u.2.2.2 47).bind fun v => (some (wrap64 (v.1 - 1), a, c, n, d, v.2.1, v.2.2.1, v.2.2.2))) else (if u.1 = 1 then ((spec_l01Src_edge.f b u.2.1 u.2.2.1 u.2.2.2).bind fun v => (some (o, v.1, c, n, d, v.2.1, v.2.2.1, v.2.2.2))) else (if u.1 = 2 then ((spec_l01Src_word.f b u.2.1 u.2.2.1 u.2.2.2).bind fun v => (some (o, a, v.1, n, d, v.2.1, v.2.2.1, v.2.2.2))) else (if u.1 = 3 then ((spec_l01Src_word.f b u.2.1 u.2.2.1 u.2.2.2).bind fun v => (some (o, a, c, v.1, d, v.2.1, v.2.2.1, v.2.2.2))) else ((spec_l01Src_l02Type.f b u.2.1 u.2.2.1 u.2.2.2).bind fun v => (some (o, a, c, n, v.1, v.2.1, v.2.2.1, v.2.2.2)))))))) else (some (o, a, c, n, d, t.2.1, t.2.2.1, t.2.2.2))) := rfl
theorem spoil_yes (k : Nat) (t x : ByteArray) (r : Int) (b : List Int) (i m z : Int) : spec_l01Src_spoil.j0 (k + 1) t r x true b i m z = (if 0 ≤ r then (if r ≤ (t.size : Int) then (if (t.extract 0 r.toNat).size + x.size ≤ 9223372036854775807 then (if ((t.extract 0 r.toNat) ++ x).size + (t.extract r.toNat t.size).size ≤ 9223372036854775807 then (some (((t.extract 0 r.toNat) ++ x) ++ (t.extract r.toNat t.size), i, m, z)) else (none)) else (none)) else (none)) else (none)) := rfl
theorem spoil_no (k : Nat) (t x : ByteArray) (r : Int) (b : List Int) (i m z : Int) : spec_l01Src_spoil.j0 (k + 1) t r x false b i m z = (spec_l01Src_one.f b i m z 2).bind fun v => (if v.1 = true then (if 0 ≤ r then (if r ≤ (t.size : Int) then (if 0 ≤ (wrap64 (r + 1)) then (if (wrap64 (r + 1)) ≤ (t.size : Int) then (if (t.extract 0 r.toNat).size + (t.extract (wrap64 (r + 1)).toNat t.size).size ≤ 9223372036854775807 then (some ((t.extract 0 r.toNat) ++ (t.extract (wrap64 (r + 1)).toNat t.size), v.2.1, v.2.2.1, v.2.2.2)) else (none)) else (none)) else (none)) else (none)) else (none)) else (if 0 ≤ r then (if r ≤ (t.size : Int) then (if (t.extract 0 r.toNat).size + x.size ≤ 9223372036854775807 then (if 0 ≤ (wrap64 (r + 1)) then (if (wrap64 (r + 1)) ≤ (t.size : Int) then (if ((t.extract 0 r.toNat) ++ x).size + (t.extract (wrap64 (r + 1)).toNat t.size).size ≤ 9223372036854775807 then (some (((t.extract 0 r.toNat) ++ x) ++ (t.extract (wrap64 (r + 1)).toNat t.size), v.2.1, v.2.2.1, v.2.2.2)) else (none)) else (none)) else (none)) else (none)) else (none)) else (none))) := rfl
theorem draw_j0 (k : Nat) (b : List Int) (i m z o a : Int) (c n d : ByteArray) (h0 : 0 ≤ i) (hb : b.length ≤ 140737488355328) (h : DIns o a c n d) :
    ∃ o' a' c' n' d' i' m', spec_l01Src_l03Ins.j0 (k + 1) b i m z o a c n d = some (o', a', c', n', d', i', m', z) ∧ 0 ≤ i' ∧ DIns o' a' c' n' d' := by
  obtain ⟨ho, ha, hc, hn, hd⟩ := h
  obtain ⟨r, i1, m1, e1, h1⟩ := draw_one b i m z 12 h0 hb (by omega)
  rw [ins_j0_eq, e1]
  simp only [Option.bind_some]
  split
  · obtain ⟨r2, i2, m2, e2, h2, _⟩ := draw_n b i1 m1 z 5 h1 hb (by omega)
    rw [e2]
    simp only [Option.bind_some]
    split
    · obtain ⟨r3, i3, m3, e3, h3, h4, h5⟩ := draw_n b i2 m2 z 47 h2 hb (by omega)
      have h6 := h5 (by omega)
      rw [e3]
      exact ⟨_, _, _, _, _, _, _, rfl, h3, ⟨by unfold wrap64; omega, by unfold wrap64; omega⟩, ha, hc, hn, hd⟩
    · split
      · obtain ⟨v, i3, m3, e3, h3, h4⟩ := draw_edge b i2 m2 z h2 hb
        rw [e3]
        exact ⟨_, _, _, _, _, _, _, rfl, h3, ho, h4, hc, hn, hd⟩
      · split
        · obtain ⟨s, i3, m3, e3, h3, h4⟩ := draw_word b i2 m2 z h2 hb
          rw [e3]
          exact ⟨_, _, _, _, _, _, _, rfl, h3, ho, ha, h4, hn, hd⟩
        · split
          · obtain ⟨s, i3, m3, e3, h3, h4⟩ := draw_word b i2 m2 z h2 hb
            rw [e3]
            exact ⟨_, _, _, _, _, _, _, rfl, h3, ho, ha, hc, h4, hd⟩
          · obtain ⟨s, i3, m3, e3, h3, h4⟩ := draw_type b i2 m2 z h2 hb
            rw [e3]
            exact ⟨_, _, _, _, _, _, _, rfl, h3, ho, ha, hc, hn, h4⟩
  · exact ⟨_, _, _, _, _, _, _, rfl, h1, ho, ha, hc, hn, hd⟩
theorem lw0 : (⟨#[]⟩ : ByteArray) ∈ LW := by simp [LW]
theorem draw_ins (b : List Int) (i m z : Int) (h0 : 0 ≤ i) (hb : b.length ≤ 140737488355328) :
    ∃ o a c n d i' m', Ev (fun k => spec_l01Src_l03Ins.f k b i m z) (o, a, c, n, d, i', m', z) ∧ 0 ≤ i' ∧ DIns o a c n d := by
  suffices ∃ o a c n d i' m', spec_l01Src_l03Ins.f 20 b i m z = some (o, a, c, n, d, i', m', z) ∧ 0 ≤ i' ∧ DIns o a c n d by
    obtain ⟨o, a, c, n, d, i', m', h1, h2, h3⟩ := this
    exact ⟨o, a, c, n, d, i', m', ⟨20, fun k hk => at_rounds (g := fun k => spec_l01Src_l03Ins.f k b i m z) (fun k => spec_l01Src_l03Ins.mono _ _ _ _ _) hk h1⟩, h2, h3⟩
  obtain ⟨r, i1, m1, e1, h1, h2, h3⟩ := draw_n b i m z 44 h0 hb (by omega)
  have h4 := h3 (by omega)
  have w1 : wrap64 (1 + r) = 1 + r := by unfold wrap64; omega
  obtain ⟨F, _, f2⟩ := op_form (1 + r)
  unfold spec_l01Src_l03Ins.f
  rw [e1, Option.bind_some]
  show ∃ o a c n d i' m', ((spec_OpForm.f 20 (wrap64 (1 + r))).bind _) = _ ∧ _
  rw [w1, f2 20 (by omega), Option.bind_some]
  have ho : -1 ≤ 1 + r ∧ 1 + r ≤ 46 := by omega
  have z0 : (-9223372036854775808 : Int) ≤ 0 ∧ (0 : Int) ≤ 9223372036854775807 := by omega
  by_cases c0 : F.toList = ([110] : List UInt8)
  · rw [if_pos c0]
    obtain ⟨r2, i2, m2, e2, h5, h6, h7⟩ := draw_n b i1 m1 z 20 h1 hb (by omega)
    have h8 := h7 (by omega)
    rw [e2]
    exact draw_j0 19 b i2 m2 z _ _ _ _ _ h5 hb ⟨ho, ⟨by unfold wrap64; omega, by unfold wrap64; omega⟩, lw0, lw0, lw0⟩
  rw [if_neg c0]
  by_cases c1 : F.toList = ([105] : List UInt8)
  · rw [if_pos c1]
    obtain ⟨r2, i2, m2, e2, h5, h6, h7⟩ := draw_n b i1 m1 z 4 h1 hb (by omega)
    have h8 := h7 (by omega)
    rw [e2]
    exact draw_j0 19 b i2 m2 z _ _ _ _ _ h5 hb ⟨ho, ⟨by omega, by omega⟩, lw0, lw0, lw0⟩
  rw [if_neg c1]
  by_cases c2 : F.toList = ([116] : List UInt8)
  · rw [if_pos c2]
    obtain ⟨r2, i2, m2, e2, h5, h6, h7⟩ := draw_n b i1 m1 z 6 h1 hb (by omega)
    have h8 := h7 (by omega)
    rw [e2]
    exact draw_j0 19 b i2 m2 z _ _ _ _ _ h5 hb ⟨ho, ⟨by omega, by omega⟩, lw0, lw0, lw0⟩
  rw [if_neg c2]
  by_cases c3 : F.toList = ([99] : List UInt8)
  · rw [if_pos c3]
    obtain ⟨s, i2, m2, e2, h5, h6⟩ := draw_pick b i1 m1 z [(⟨#[65]⟩ : ByteArray), (⟨#[66]⟩ : ByteArray), (⟨#[79, 98, 106, 101, 99, 116]⟩ : ByteArray)] h1 hb (by decide) (by decide)
    rw [e2]
    refine draw_j0 19 b i2 m2 z _ _ _ _ _ h5 hb ⟨ho, z0, ?_, lw0, lw0⟩
    simp only [List.mem_cons, List.not_mem_nil, or_false] at h6
    rcases h6 with rfl | rfl | rfl <;> simp [LW]
  rw [if_neg c3]
  by_cases c4 : F.toList = ([121] : List UInt8)
  · rw [if_pos c4]
    obtain ⟨s, i2, m2, e2, h5, h6⟩ := draw_pick b i1 m1 z [(⟨#[73]⟩ : ByteArray), (⟨#[76, 65, 59]⟩ : ByteArray)] h1 hb (by decide) (by decide)
    rw [e2]
    refine draw_j0 19 b i2 m2 z _ _ _ _ _ h5 hb ⟨ho, z0, lw0, lw0, ?_⟩
    simp only [List.mem_cons, List.not_mem_nil, or_false] at h6
    rcases h6 with rfl | rfl <;> simp [LW]
  rw [if_neg c4]
  by_cases c5 : F.toList = ([102] : List UInt8)
  · rw [if_pos c5]
    obtain ⟨s, i2, m2, e2, h5, h6⟩ := draw_pick b i1 m1 z [(⟨#[120]⟩ : ByteArray), (⟨#[121]⟩ : ByteArray)] h1 hb (by decide) (by decide)
    rw [e2]
    refine draw_j0 19 b i2 m2 z _ _ _ _ _ h5 hb ⟨ho, z0, by simp [LW], ?_, by simp [LW]⟩
    simp only [List.mem_cons, List.not_mem_nil, or_false] at h6
    rcases h6 with rfl | rfl <;> simp [LW]
  rw [if_neg c5]
  by_cases c6 : F.toList = ([109] : List UInt8)
  · rw [if_pos c6]
    obtain ⟨s, i2, m2, e2, h5, h6⟩ := draw_pick b i1 m1 z [(⟨#[102]⟩ : ByteArray), (⟨#[60, 105, 110, 105, 116, 62]⟩ : ByteArray)] h1 hb (by decide) (by decide)
    obtain ⟨s2, i3, m3, e3, h7, h8⟩ := draw_pick b i2 m2 z [(⟨#[40, 41, 86]⟩ : ByteArray), (⟨#[40, 73, 41, 73]⟩ : ByteArray)] h5 hb (by decide) (by decide)
    rw [e2, Option.bind_some, e3]
    refine draw_j0 19 b i3 m3 z _ _ _ _ _ h7 hb ⟨ho, z0, by simp [LW], ?_, ?_⟩
    · simp only [List.mem_cons, List.not_mem_nil, or_false] at h6
      rcases h6 with rfl | rfl <;> simp [LW]
    · simp only [List.mem_cons, List.not_mem_nil, or_false] at h8
      rcases h8 with rfl | rfl <;> simp [LW]
  rw [if_neg c6]
  exact draw_j0 19 b i1 m1 z _ _ _ _ _ h1 hb ⟨ho, z0, lw0, lw0, lw0⟩
theorem draw_spoil (b : List Int) (i m z : Int) (t : ByteArray) (h0 : 0 ≤ i) (hb : b.length ≤ 140737488355328) (ht : t.size ≤ 1000) : ∃ u i' m', Ev (fun k => spec_l01Src_spoil.f k b i m z t) (u, i', m', z) := by
  suffices ∃ u i' m', spec_l01Src_spoil.f 2 b i m z t = some (u, i', m', z) by
    obtain ⟨u, i', m', h1⟩ := this
    exact ⟨u, i', m', ⟨2, fun k hk => at_rounds (g := fun k => spec_l01Src_spoil.f k b i m z t) (fun k => spec_l01Src_spoil.mono _ _ _ _ _ _) hk h1⟩⟩
  have w1 : wrap64 ((t.size : Int) + 1) = (t.size : Int) + 1 := by unfold wrap64; omega
  obtain ⟨r, i1, m1, e1, h1, h2, h3⟩ := draw_n b i m z ((t.size : Int) + 1) h0 hb (by omega)
  have h4 := h3 (by omega)
  obtain ⟨r2, i2, m2, e2, h5, h6, h7⟩ := draw_n b i1 m1 z 17 h1 hb (by omega)
  have h8 := h7 (by omega)
  unfold spec_l01Src_spoil.f
  rw [w1, e1]
  simp only [Option.bind_some]
  rw [e2]
  simp only [Option.bind_some]
  rw [if_pos h6, if_pos h8]
  have zx : ∀ x : Int, (strOfNums [x]).size = 1 := fun x => strOfNums_size _
  have ze : ∀ p q : Nat, (t.extract p q).size ≤ 1000 := fun p q => by rw [ByteArray.size_extract]; omega
  have yes : ∀ (x : ByteArray), x.size = 1 → ∀ i3 m3 : Int, ∃ u i' m', spec_l01Src_spoil.j0 2 t r x true b i3 m3 z = some (u, i', m', z) := fun x hx i3 m3 => by
    have a1 := ze 0 r.toNat
    have a2 := ze r.toNat t.size
    rw [spoil_yes, if_pos h2, if_pos (by omega), if_pos (by omega), if_pos (by rw [ByteArray.size_append]; omega)]
    exact ⟨_, _, _, rfl⟩
  have no : ∀ (x : ByteArray), x.size = 1 → r ≠ (t.size : Int) → ∀ i3 m3 : Int, 0 ≤ i3 → ∃ u i' m', spec_l01Src_spoil.j0 2 t r x false b i3 m3 z = some (u, i', m', z) := fun x hx hr i3 m3 h9 => by
    obtain ⟨v, i4, m4, e4, h10⟩ := draw_one b i3 m3 z 2 h9 hb (by omega)
    have w2 : wrap64 (r + 1) = r + 1 := by unfold wrap64; omega
    have a1 := ze 0 r.toNat
    have a3 := ze (r + 1).toNat t.size
    rw [spoil_no, e4, Option.bind_some]
    cases v with
    | true =>
      show ∃ u i' m', (if true = true then _ else _) = _
      rw [if_pos rfl, w2, if_pos h2, if_pos (by omega), if_pos (by omega), if_pos (by omega), if_pos (by omega)]
      exact ⟨_, _, _, rfl⟩
    | false =>
      show ∃ u i' m', (if false = true then _ else _) = _
      rw [if_neg (by simp), w2, if_pos h2, if_pos (by omega), if_pos (by omega), if_pos (by omega), if_pos (by omega), if_pos (by rw [ByteArray.size_append]; omega)]
      exact ⟨_, _, _, rfl⟩
  by_cases c : r = (t.size : Int)
  · rw [if_pos c]
    exact yes _ (zx _) _ _
  · rw [if_neg c]
    obtain ⟨v, i4, m4, e4, h10⟩ := draw_one b i2 m2 z 3 h5 hb (by omega)
    rw [e4]
    simp only [Option.bind_some]
    cases v with
    | true => exact yes _ (zx _) _ _
    | false => exact no _ (zx _) c _ _ h10

theorem tl_len (s : ByteArray) : s.toList.length = s.size := by
  rw [Lib.toList_data, Array.length_toList]
  rfl
theorem insTx_size (S F : ByteArray) (a : Int) (c n d : ByteArray) (hS : S.size ≤ 20) (hl : -9223372036854775808 ≤ a) (hh : a ≤ 9223372036854775807) (hc : c.size ≤ 23) (hn : n.size ≤ 23) (hd : d.size ≤ 23) : S.size ≤ (insTx S F a c n d).size ∧ (insTx S F a c n d).size ≤ 200 := by
  have zd := decT_size a hl hh
  have one : (⟨#[32]⟩ : ByteArray).size = 1 := rfl
  have key : ∀ b, S.size ≤ (insT S F b a c n d).size ∧ (insT S F b a c n d).size ≤ 200 := fun b => by
    unfold insT
    repeat' split
    all_goals ((try simp only [ByteArray.size_append, one]); omega)
  unfold insTx
  repeat' split
  all_goals exact key _
theorem nm_impl : ∀ n : Nat, n < 44 → impl_OpName.f (((n + 1 : Nat) : Int)) = some (nm n) := by decide +kernel
theorem nm_pos : ∀ n : Nat, n < 44 → 0 < (nm n).size := by decide +kernel
theorem nm_at (o : Int) (h : 1 ≤ o ∧ o ≤ 44) : impl_OpName.f o = some (nm (o.toNat - 1)) := by
  have := nm_impl (o.toNat - 1) (by omega)
  rwa [show ((o.toNat - 1 + 1 : Nat) : Int) = o by omega] at this
theorem form_out (o : Int) (h : ¬ (1 ≤ o ∧ o ≤ 44)) : impl_OpForm.f o = some ⟨#[33]⟩ := by
  unfold impl_OpForm.f impl_isOp.f impl_within.f
  by_cases c : o ≥ 1
  · rw [if_pos c]
    simp only [Option.bind_some]
    rw [if_neg (by simp; omega)]
  · rw [if_neg c]
    simp only [Option.bind_some]
    rw [if_neg (by simp)]
theorem lt_j1_eq (k : Nat) (x : List Int) : laws_FnInsText.j1 (k + 1) x = (spec_DrawInsParse.f k x).bind fun t => ((impl_InsParse.f k t).bind fun p => ((spec_InsParse.f k t).bind fun q => (if (!(p.1 == q.1) || (!(p.2.1 == q.2.1) || (!(p.2.2.1.toList == q.2.2.1.toList) || (!(p.2.2.2.1.toList == q.2.2.2.1.toList) || (!(p.2.2.2.2.toList == q.2.2.2.2.toList)))))) = true then (some false) else (if p.1 = 0 then (some true) else ((impl_InsText.f k p.1 p.2.1 p.2.2.1 p.2.2.2.1 p.2.2.2.2).bind fun s => (if s.toList = t.toList then ((impl_OpName.f p.1).bind fun v => (some (v.toList != ([] : List UInt8)))) else (some false))))))) := rfl
theorem lt_j0_eq (k : Nat) (x y : List Int) (b : Bool) : laws_FnInsText.j0 (k + 1) x y b = if b = true then (some true) else ((spec_DrawInsText.f k x).bind fun i => ((impl_InsText.f k i.1 i.2.1 i.2.2.1 i.2.2.2.1 i.2.2.2.2).bind fun t => ((spec_InsRight.f k i.1 i.2.1 i.2.2.1 i.2.2.2.1 i.2.2.2.2).bind fun v => (if v = true then (if t.toList = ([] : List UInt8) then (some false) else ((impl_InsParse.f k t).bind fun p => (if (!(p.1 == i.1) || (!(p.2.1 == i.2.1) || (!(p.2.2.1.toList == i.2.2.1.toList) || (!(p.2.2.2.1.toList == i.2.2.2.1.toList) || (!(p.2.2.2.2.toList == i.2.2.2.2.toList)))))) = true then (some false) else ((impl_InsRight.f k i.1 i.2.1 i.2.2.1 i.2.2.2.1 i.2.2.2.2).bind fun u => (if u = true then (laws_FnInsText.j1 k y) else (some false)))))) else (if t.toList = ([] : List UInt8) then (laws_FnInsText.j1 k y) else (some false)))))) := rfl
theorem src_ev (l0 : List Int) (hb : l0.length ≤ 140737488355328) : ∃ m z, Ev (fun k => spec_l01Source.f k l0) (l0, 0, m, z) := by
  obtain ⟨m, z, e⟩ := draw_source l0 hb
  exact ⟨m, z, 65, fun k hk => at_rounds (g := fun k => spec_l01Source.f k l0) (fun k => spec_l01Source.mono _ _) hk e⟩
theorem drawn_text (x : List Int) (hb : x.length ≤ 140737488355328) : ∃ u, Ev (fun k => spec_DrawInsParse.f k x) u := by
  obtain ⟨m, z, hs⟩ := src_ev x hb
  obtain ⟨o, a, c, n, d, i1, m1, h1, p1, ho, ⟨hl, hh⟩, hc, hn, hd⟩ := draw_ins x 0 m z (by omega) hb
  obtain ⟨F, f1, f2⟩ := op_form o
  obtain ⟨S, s1, hS, s2⟩ := op_name o
  have zc := lw_size c hc
  have zn := lw_size n hn
  have zd := lw_size d hd
  have ht : Ev (fun k => spec_l14Ins.f k o a c n d) (insTx S F a c n d) := ⟨22, spec_ins S F o a c n d s2 hS f2 hl hh (by omega) (by omega) (by omega)⟩
  have hz := (insTx_size S F a c n d hS hl hh zc zn zd).2
  obtain ⟨v, i2, m2, e2, p2⟩ := draw_one x i1 m1 z 3 p1 hb (by omega)
  unfold spec_DrawInsParse.f
  cases v with
  | true =>
    obtain ⟨u, i3, m3, h3⟩ := draw_spoil x i2 m2 z (insTx S F a c n d) p2 hb (by omega)
    exact ⟨u, Ev.bind hs (Ev.bind h1 (Ev.bind ht (Ev.congr (fun k => by rw [e2, Option.bind_some]; exact if_pos rfl) (Ev.bind h3 (Ev.now _)))))⟩
  | false =>
    exact ⟨insTx S F a c n d, Ev.bind hs (Ev.bind h1 (Ev.bind ht (Ev.congr (fun k => by rw [e2, Option.bind_some]; exact if_neg (by simp)) (Ev.now _))))⟩
theorem lt_two (x : List Int) (hb : x.length ≤ 140737488355328) : Ev (fun k => laws_FnInsText.j1 k x) true := by
  obtain ⟨u, hu⟩ := drawn_text x hb
  obtain ⟨r, h1, h2, h3⟩ := parse_same u
  refine Ev.step (fun k => lt_j1_eq k x) (Ev.bind hu (Ev.bind h2 (Ev.bind h1 ?_)))
  refine Ev.congr (fun k => if_neg (by simp)) ?_
  rcases h3 with h3 | ⟨F, f1, ho, ha, hc, hn, hd, hr, he⟩
  · exact Ev.congr (fun k => if_pos h3) (Ev.now _)
  · have hi : Ev (fun k => impl_InsText.f k r.1 r.2.1 r.2.2.1 r.2.2.2.1 r.2.2.2.2) u := by
      have h4 : Ev (fun k => impl_insText.f k r.1 r.2.1 r.2.2.1 r.2.2.2.1 r.2.2.2.2) u := ⟨22, fun k hk => by
        rw [← he]
        exact impl_ins _ F r.1 r.2.1 _ _ _ (nm_at r.1 ho) (nm_size _ (by omega)) f1 ha.1 ha.2 hc hn hd k hk⟩
      unfold impl_InsText.f
      exact Ev.bind (⟨1048600, hr⟩ : Ev (fun k => impl_InsRight.f k r.1 r.2.1 r.2.2.1 r.2.2.2.1 r.2.2.2.2) true) (Ev.congr (fun k => if_pos rfl) (Ev.bind h4 (Ev.now _)))
    refine Ev.congr (fun k => if_neg (by omega)) (Ev.bind hi (Ev.congr (fun k => if_pos rfl) ?_))
    refine Ev.congr (f := fun _ => some true) (fun k => ?_) (Ev.now _)
    rw [nm_at r.1 ho, Option.bind_some]
    have hp := nm_pos (r.1.toNat - 1) (by omega)
    have : (nm (r.1.toNat - 1)).toList ≠ [] := fun e => by
      rw [← tl_len, e] at hp
      exact absurd hp (by simp)
    rw [bne_iff_ne.mpr this]
theorem FnInsText : laws_FnInsText.Pure := by
  intro x y hx hy
  suffices Ev (fun k => laws_FnInsText.f k x y) true by
    obtain ⟨K, hK⟩ := this
    exact ⟨K, hK K (Nat.le_refl _)⟩
  have main : ∀ b, (b = false → x.length ≤ 140737488355328 ∧ y.length ≤ 140737488355328) → Ev (fun k => laws_FnInsText.j0 k x y b) true := by
    intro b hb0
    refine Ev.step (fun k => lt_j0_eq k x y b) ?_
    cases b with
    | true => exact Ev.congr (fun k => if_pos rfl) (Ev.now _)
    | false =>
      obtain ⟨hbx, hby⟩ := hb0 rfl
      refine Ev.congr (fun k => if_neg (by simp)) ?_
      obtain ⟨m, z, hs⟩ := src_ev x hbx
      obtain ⟨o, a, c, n, d, i1, m1, h1, p1, ho, ⟨hl, hh⟩, hc, hn, hd⟩ := draw_ins x 0 m z (by omega) hbx
      have hdr : Ev (fun k => spec_DrawInsText.f k x) (o, a, c, n, d) := by
        unfold spec_DrawInsText.f
        exact Ev.bind hs (Ev.bind h1 (Ev.now _))
      have zc := lw_size c hc
      have zn := lw_size n hn
      have zd := lw_size d hd
      obtain ⟨r, e1, e2⟩ := ins_same o a c n d (by omega) (by omega) (by omega)
      have w1 : Ev (fun k => spec_InsRight.f k o a c n d) r := ⟨_, e1⟩
      have w2 : Ev (fun k => impl_InsRight.f k o a c n d) r := ⟨_, e2⟩
      have two := lt_two y hby
      cases r with
      | false =>
        have hi : Ev (fun k => impl_InsText.f k o a c n d) (⟨#[]⟩ : ByteArray) := by
          unfold impl_InsText.f
          exact Ev.bind w2 (Ev.congr (fun k => if_neg (by simp)) (Ev.now _))
        exact Ev.bind hdr (Ev.bind hi (Ev.bind w1 (Ev.congr (fun k => if_neg (by simp)) (Ev.congr (fun k => if_pos (by rw [Lib.toList_data])) two))))
      | true =>
        obtain ⟨F, f1, f2, fc⟩ := op_form_size o
        have hR := right_form o a c n d F f2 fc hc hn hd w1
        have hop : 1 ≤ o ∧ o ≤ 44 := by
          by_cases q : 1 ≤ o ∧ o ≤ 44
          · exact q
          · rw [form_out o q] at f1
            cases Option.some.inj f1
            rcases hR with h | h | h | h | h
            · exact absurd h.1 (by simp [Lib.toList_data])
            · exact absurd h.1 (by simp [numF, Lib.toList_data])
            · exact absurd h.1 (by simp [Lib.toList_data])
            · exact absurd h.1 (by simp [Lib.toList_data])
            · exact absurd h.1 (by simp [Lib.toList_data])
        have hS := nm_size (o.toNat - 1) (by omega)
        have hi : Ev (fun k => impl_InsText.f k o a c n d) (insTx (nm (o.toNat - 1)) F a c n d) := by
          have h4 : Ev (fun k => impl_insText.f k o a c n d) (insTx (nm (o.toNat - 1)) F a c n d) := ⟨22, fun k hk => impl_ins _ F o a c n d (nm_at o hop) hS f1 hl hh (by omega) (by omega) (by omega) k hk⟩
          unfold impl_InsText.f
          exact Ev.bind w2 (Ev.congr (fun k => if_pos rfl) (Ev.bind h4 (Ev.now _)))
        have hz := (insTx_size (nm (o.toNat - 1)) F a c n d hS hl hh zc zn zd).1
        have hp := nm_pos (o.toNat - 1) (by omega)
        have hne : ¬ (insTx (nm (o.toNat - 1)) F a c n d).toList = [] := fun e => by
          rw [← tl_len (insTx _ _ _ _ _ _), e] at hz
          exact absurd hz (by simp only [List.length_nil]; omega)
        have hb := read_back o a c n d F hop f2 hl hh zc zn zd hR w1
        obtain ⟨r, h5, h6, _⟩ := parse_same (insTx (nm (o.toNat - 1)) F a c n d)
        cases ev_one h5 hb
        refine Ev.bind hdr (Ev.bind hi (Ev.bind w1 (Ev.congr (fun k => if_pos rfl) (Ev.congr (fun k => if_neg hne) (Ev.bind h6 ?_)))))
        exact Ev.congr (fun k => if_neg (by simp)) (Ev.bind w2 (Ev.congr (fun k => if_pos rfl) two))
  unfold laws_FnInsText.f
  by_cases q : (x.length : Int) > 1048576
  · exact Ev.congr (fun k => if_pos q) (main true (fun h => by cases h))
  · exact Ev.congr (fun k => if_neg q) (main _ (fun h => by have := of_decide_eq_false h; omega))

end Go.Proofs.YtcpnlfkmfpmkdaaGreatDoor.Pure
