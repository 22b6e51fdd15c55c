/- The program's FrameShown returns what the reference's returns, for every frame that the model can hold. -/
import Derived.Test.YtdfnljchoomliaaDoorPFnExactFrameShownx4
namespace Go.Proofs.YtdfnljchoomliaaDoor.Pure
open Go.RowKit Go.Proofs.YtdfnljchoomliaaDoor.PFnExactFrameShown Go.Proofs.YtdfnljchoomliaaDoorW.PrintWords Go.Proofs.YtdfnljchoomliaaDoorW.PrintLast
set_option linter.unusedVariables false
set_option linter.unusedSimpArgs false

/-- A list that is filled from the left. -/
theorem fill_end {α : Type} (l acc : List α) (hl : acc.length = l.length) (h : ∀ j, j < l.length → acc[j]? = l[j]?) : acc = l := by
  apply List.ext_getElem?
  intro j
  by_cases hj : j < l.length
  · exact h j hj
  · rw [List.getElem?_eq_none (by omega), List.getElem?_eq_none (by omega)]
theorem fill_step {α : Type} (l acc : List α) (i : Nat) (v : α) (hl : acc.length = l.length) (hi : i < l.length) (hv : l[i]? = some v) (h : ∀ j, j < i → acc[j]? = l[j]?) : ∀ j, j < i + 1 → (acc.set i v)[j]? = l[j]? := by
  intro j hj
  by_cases e : j = i
  · subst e; rw [List.getElem?_set_self (by omega), hv]
  · rw [List.getElem?_set_ne (by omega)]; exact h j (by omega)
/-- A bool that is told by a proposition. -/
def EvIff (g : Nat → Option Bool) (P : Prop) : Prop := ∃ r, Ev g r ∧ (r = true ↔ P)
theorem EvIff.iff {g : Nat → Option Bool} {P Q : Prop} (h : EvIff g P) (e : P ↔ Q) : EvIff g Q := by
  obtain ⟨r, h1, h2⟩ := h
  exact ⟨r, h1, h2.trans e⟩
theorem EvIff.congr {g f : Nat → Option Bool} {P : Prop} (e : ∀ k, g k = f k) (h : EvIff f P) : EvIff g P := by
  obtain ⟨r, h1, h2⟩ := h
  exact ⟨r, Ev.congr e h1, h2⟩
theorem EvIff.step {g f : Nat → Option Bool} {P : Prop} (e : ∀ k, g (k + 1) = f k) (h : EvIff f P) : EvIff g P := by
  obtain ⟨r, h1, h2⟩ := h
  exact ⟨r, Ev.step e h1, h2⟩
theorem EvIff.yes : EvIff (fun _ => some true) True := ⟨true, Ev.now _, by simp⟩
theorem EvIff.no : EvIff (fun _ => some false) False := ⟨false, Ev.now _, by simp⟩
theorem EvIff.ite {c : Prop} [Decidable c] {g : Nat → Option Bool} {P : Prop} (h : EvIff g P) : EvIff (fun k => if c then g k else some false) (c ∧ P) := by
  by_cases hc : c
  · exact EvIff.iff (EvIff.congr (fun k => if_pos hc) h) (by simp [hc])
  · exact EvIff.iff (EvIff.congr (f := fun _ => some false) (fun k => if_neg hc) EvIff.no) (by simp [hc])
theorem EvIff.bind {g h : Nat → Option Bool} {P Q : Prop} (hh : EvIff h Q) (hg : EvIff g P) : EvIff (fun k => (h k).bind fun t => if t = true then g k else some false) (Q ∧ P) := by
  obtain ⟨r, h1, h2⟩ := hh
  obtain ⟨s, g1, g2⟩ := hg
  cases r with
  | true => exact ⟨s, Ev.bind (f := fun k t => if t = true then g k else some false) h1 (Ev.congr (fun k => if_pos rfl) g1), by rw [g2, ← h2]; simp⟩
  | false => exact ⟨false, Ev.bind (f := fun k t => if t = true then g k else some false) h1 (Ev.congr (f := fun _ => some false) (fun k => if_neg (by simp)) (Ev.now _)), by rw [← h2]; simp⟩
theorem EvIff.true_ {g : Nat → Option Bool} {P : Prop} (h : EvIff g P) (p : P) : Ev g true := by
  obtain ⟨r, h1, h2⟩ := h
  rw [h2.mpr p] at h1; exact h1
theorem toList_eq (a b : ByteArray) : a.toList = b.toList ↔ a = b := ⟨fun h => WideShapes.bytes_inj (by rw [← Lib.toList_data, ← Lib.toList_data]; exact h), fun h => by rw [h]⟩
theorem drop_cons_iff {α : Type} {a b : List α} {i : Nat} (ha : i < a.length) (hb : i < b.length) : a.drop i = b.drop i ↔ a[i] = b[i] ∧ a.drop (i + 1) = b.drop (i + 1) := by
  rw [List.drop_eq_getElem_cons ha, List.drop_eq_getElem_cons hb]
  constructor
  · intro h; exact List.cons.inj h
  · intro h; rw [h.1, h.2]
theorem getD_at {α : Type} {a : List α} {z : α} {i : Nat} (h : i < a.length) : a.getD (i : Int).toNat z = a[i] := by
  simp [List.getD_eq_getElem?_getD, List.getElem?_eq_getElem h]
theorem up64 {i n : Nat} (h : i < n) (hn : n ≤ 4611686018427387904) : wrap64 ((i : Int) + 1) = ((i + 1 : Nat) : Int) := by unfold wrap64; omega
/-- The loop of an equality over lists, by a function on the elements. -/
theorem eq_list {α : Type} {z : α} {L : Nat → List α → List α → Int → Option Bool} {E : Nat → α → α → Option Bool}
    (hL : ∀ k a b i, L (k + 1) a b i = if i < (a.length : Int) then (if 0 ≤ i then (if i < (b.length : Int) then ((E k (a.getD i.toNat z) (b.getD i.toNat z)).bind fun t => (if t = true then (L k a b (wrap64 (i + 1))) else (some false))) else none) else none) else some true)
    (a b : List α) (hE : ∀ x ∈ a, ∀ y ∈ b, EvIff (fun k => E k x y) (x = y)) (hl : a.length = b.length) (hn : a.length ≤ 4611686018427387904) : EvIff (fun k => L k a b 0) (a = b) := by
  have key : ∀ (d i : Nat), i + d = a.length → EvIff (fun k => L k a b (i : Int)) (a.drop i = b.drop i) := by
    intro d
    induction d with
    | zero =>
      intro i hd
      refine EvIff.iff (P := True) (EvIff.step (f := fun _ => some true) (fun k => by rw [hL, if_neg (by omega)]) EvIff.yes) ?_
      rw [List.drop_eq_nil_of_le (by omega), List.drop_eq_nil_of_le (by omega)]; simp
    | succ d ih =>
      intro i hd
      have ha : i < a.length := by omega
      have hb : i < b.length := by omega
      rw [drop_cons_iff ha hb]
      refine EvIff.step (f := fun k => (E k a[i] b[i]).bind fun t => (if t = true then (L k a b ((i + 1 : Nat) : Int)) else (some false))) (fun k => ?_) (EvIff.bind (hE _ (List.getElem_mem ha) _ (List.getElem_mem hb)) (ih (i + 1) (by omega)))
      rw [hL, if_pos (by omega), if_pos (by omega), if_pos (by omega), getD_at ha, getD_at hb, up64 ha hn]
  exact key a.length 0 (by omega)
/-- The loop that reckons what a list takes. -/
theorem sz_list {α : Type} {z : α} {L : Nat → List α → Int → Int → Option Int} {Z : Nat → α → Int → Option Int} {B : α → Prop}
    (hL : ∀ k a m i, L (k + 1) a m i = if i < (a.length : Int) then (if 0 ≤ i then ((Z k (a.getD i.toNat z) m).bind fun t => (if t < 0 then (some (-1)) else (L k a t (wrap64 (i + 1))))) else none) else some m)
    (a : List α) (hn : a.length ≤ 4611686018427387904) (hZ : ∀ x ∈ a, ∀ m, 0 ≤ m → m ≤ 1048576 → ∃ v, Ev (fun k => Z k x m) v ∧ (v < 0 ∨ (0 ≤ v ∧ v ≤ m ∧ B x)))
    (m : Int) (h0 : 0 ≤ m) (h1 : m ≤ 1048576) : ∃ v, Ev (fun k => L k a m 0) v ∧ (v < 0 ∨ (0 ≤ v ∧ v ≤ m ∧ ∀ x ∈ a, B x)) := by
  have key : ∀ (d i : Nat) (m : Int), 0 ≤ m → m ≤ 1048576 → i + d = a.length → ∃ v, Ev (fun k => L k a m (i : Int)) v ∧ (v < 0 ∨ (0 ≤ v ∧ v ≤ m ∧ ∀ j, i ≤ j → (h : j < a.length) → B a[j])) := by
    intro d
    induction d with
    | zero =>
      intro i m h0 h1 hd
      exact ⟨m, Ev.step (f := fun _ => some m) (fun k => by rw [hL, if_neg (by omega)]) (Ev.now m), .inr ⟨h0, Int.le_refl _, fun j h2 h3 => by omega⟩⟩
    | succ d ih =>
      intro i m h0 h1 hd
      have ha : i < a.length := by omega
      obtain ⟨v, hv, hb⟩ := hZ _ (List.getElem_mem ha) m h0 h1
      have st : ∀ k, L (k + 1) a m (i : Int) = (Z k a[i] m).bind fun t => (if t < 0 then (some (-1)) else (L k a t ((i + 1 : Nat) : Int))) := fun k => by
        rw [hL, if_pos (by omega), if_pos (by omega), getD_at ha, up64 ha hn]
      rcases hb with hb | ⟨b0, b1, b2⟩
      · exact ⟨-1, Ev.step st (Ev.bind (f := fun k t => if t < 0 then (some (-1)) else (L k a t ((i + 1 : Nat) : Int))) hv (Ev.congr (f := fun _ => some (-1)) (fun k => by rw [if_pos hb]) (Ev.now _))), .inl (by omega)⟩
      · obtain ⟨u, hu, hc⟩ := ih (i + 1) v b0 (by omega) (by omega)
        refine ⟨u, Ev.step st (Ev.bind (f := fun k t => if t < 0 then (some (-1)) else (L k a t ((i + 1 : Nat) : Int))) hv (Ev.congr (fun k => by rw [if_neg (by omega)]) hu)), ?_⟩
        rcases hc with hc | ⟨c0, c1, c2⟩
        · exact .inl hc
        · refine .inr ⟨c0, by omega, fun j h2 h3 => ?_⟩
          by_cases e : j = i
          · subst e; exact b2
          · exact c2 j (by omega) h3
  obtain ⟨v, h2, h3⟩ := key a.length 0 m h0 h1 (by omega)
  refine ⟨v, h2, ?_⟩
  rcases h3 with h3 | ⟨h3, h4, h5⟩
  · exact .inl h3
  · refine .inr ⟨h3, h4, fun x hx => ?_⟩
    obtain ⟨j, hj, rfl⟩ := List.mem_iff_getElem.mp hx
    exact h5 j (by omega) hj
/-- The loop that copies a list element by element. -/
theorem to_list {α β γ : Type} {z : α} {L : Nat → List α → List β → Int → Option (List β)} {T : Nat → α → Option γ} {C : γ → β} {conv : α → β}
    (hL : ∀ k a c i, L (k + 1) a c i = if i < (a.length : Int) then (if 0 ≤ i then ((T k (a.getD i.toNat z)).bind fun t => (if i < (c.length : Int) then (L k a (c.set i.toNat (C t)) (wrap64 (i + 1))) else none)) else none) else some c)
    (a : List α) (hn : a.length ≤ 4611686018427387904) (hT : ∀ x ∈ a, ∃ t, Ev (fun k => T k x) t ∧ C t = conv x) (y : β) : Ev (fun k => L k a (List.replicate a.length y) 0) (a.map conv) := by
  have key : ∀ (d i : Nat) (c : List β), c.length = a.length → (∀ j, j < i → c[j]? = (a.map conv)[j]?) → i + d = a.length → Ev (fun k => L k a c (i : Int)) (a.map conv) := by
    intro d
    induction d with
    | zero =>
      intro i c hc h hd
      have e : c = a.map conv := fill_end _ _ (by simpa using hc) (fun j hj => h j (by simp at hj; omega))
      exact Ev.step (f := fun _ => some (a.map conv)) (fun k => by rw [hL, if_neg (by omega), e]) (Ev.now _)
    | succ d ih =>
      intro i c hc h hd
      have ha : i < a.length := by omega
      obtain ⟨t, ht, ht2⟩ := hT _ (List.getElem_mem ha)
      have hs : ∀ j, j < i + 1 → (c.set i (C t))[j]? = (a.map conv)[j]? := fill_step _ c i (C t) (by simpa using hc) (by simpa using ha) (by rw [ht2]; simp [ha]) h
      refine Ev.step (f := fun k => (T k a[i]).bind fun t => (L k a (c.set i (C t)) ((i + 1 : Nat) : Int))) (fun k => ?_) (Ev.bind (f := fun k t => L k a (c.set i (C t)) ((i + 1 : Nat) : Int)) ht (ih (i + 1) _ (by simpa using hc) hs (by omega)))
      rw [hL, if_pos (by omega), if_pos (by omega), getD_at ha, up64 ha hn]
      congr 1
      funext t
      rw [if_pos (by omega)]; rfl
  exact key a.length 0 _ (by simp) (fun j hj => absurd hj (by omega)) (by omega)
/-- What is left, less a size. -/
theorem less64 {m : Int} {n : Nat} (h0 : 0 ≤ m) (h1 : m ≤ 1048576) (hn : n ≤ 9223372036854775807) : wrap64 (m - (n : Int)) = m - (n : Int) := by unfold wrap64; omega
/-- What is told of a size: it is refused, or what is left is told with what is known. -/
def SzOk (g : Nat → Option Int) (m : Int) (B : Prop) : Prop := ∃ v, Ev g v ∧ (v < 0 ∨ (0 ≤ v ∧ v ≤ m ∧ B))
theorem SzOk.size {m : Int} {n : Nat} {g : Int → Nat → Option Int} {B : Prop} (h0 : 0 ≤ m) (h1 : m ≤ 1048576) (hn : n ≤ 9223372036854775807) (h : ∀ v, 0 ≤ v → v ≤ m → v = m - (n : Int) → SzOk (g v) v B) :
    SzOk (fun k => if wrap64 (m - (n : Int)) < 0 then some (-1) else g (wrap64 (m - (n : Int))) k) m ((n : Int) ≤ 1048576 ∧ B) := by
  rw [less64 h0 h1 hn]
  by_cases c : m - (n : Int) < 0
  · exact ⟨-1, Ev.congr (f := fun _ => some (-1)) (fun k => by rw [if_pos c]) (Ev.now _), .inl (by omega)⟩
  · obtain ⟨v, h2, h3⟩ := h (m - (n : Int)) (by omega) (by omega) rfl
    refine ⟨v, Ev.congr (fun k => by rw [if_neg c]) h2, ?_⟩
    rcases h3 with h3 | ⟨h3, h4, h5⟩
    · exact .inl h3
    · exact .inr ⟨h3, by omega, by omega, h5⟩
theorem SzOk.bind {m : Int} {f : Nat → Option Int} {g : Nat → Int → Option Int} {A B : Prop} (hf : SzOk f m A) (h : ∀ v, 0 ≤ v → v ≤ m → SzOk (fun k => g k v) v B) :
    SzOk (fun k => (f k).bind fun t => if t < 0 then some (-1) else g k t) m (A ∧ B) := by
  obtain ⟨v, hv, hb⟩ := hf
  rcases hb with hb | ⟨b0, b1, b2⟩
  · exact ⟨-1, Ev.bind (f := fun k t => if t < 0 then (some (-1)) else g k t) hv (Ev.congr (f := fun _ => some (-1)) (fun k => by rw [if_pos hb]) (Ev.now _)), .inl (by omega)⟩
  · obtain ⟨u, hu, hc⟩ := h v b0 b1
    refine ⟨u, Ev.bind (f := fun k t => if t < 0 then (some (-1)) else g k t) hv (Ev.congr (fun k => by rw [if_neg (by omega)]) hu), ?_⟩
    rcases hc with hc | ⟨c0, c1, c2⟩
    · exact .inl hc
    · exact .inr ⟨c0, by omega, b2, c2⟩
theorem SzOk.done {m : Int} (h0 : 0 ≤ m) : SzOk (fun _ => some m) m True := ⟨m, Ev.now _, .inr ⟨h0, Int.le_refl _, trivial⟩⟩
theorem SzOk.mono {m : Int} {f g : Nat → Option Int} {A B : Prop} (h : SzOk f m A) (e : ∀ k, g k = f k) (i : A → B) : SzOk g m B := by
  obtain ⟨v, h1, h2⟩ := h
  refine ⟨v, Ev.congr e h1, ?_⟩
  rcases h2 with h2 | ⟨h2, h3, h4⟩
  · exact .inl h2
  · exact .inr ⟨h2, h3, i h4⟩
theorem i64_in {a : Int} (ha : (Lit.int .i64 a).wf = true) : -9223372036854775808 ≤ a ∧ a ≤ 9223372036854775807 := by
  have e1 : IntKind.i64.min = -9223372036854775808 := by decide
  have e2 : IntKind.i64.max = 9223372036854775807 := by decide
  simp only [Lit.wf, e1, e2, Bool.and_eq_true, decide_eq_true_eq] at ha
  exact ha
/-- The decimal digits as a text. -/
def digT (u : Nat) : ByteArray := ⟨(Lib.decDigits u).toArray⟩
def decT (n : Int) : ByteArray := ⟨(Lib.itoa n).toArray⟩
theorem digT_small (u : Nat) (h : u < 10) : digT u = ⟨#[UInt8.ofNat (48 + u)]⟩ := by unfold digT; rw [Lib.decDigits_one h]
theorem digT_big (u : Nat) (h : ¬ u < 10) : digT u = digT (u / 10) ++ ⟨#[UInt8.ofNat (48 + u % 10)]⟩ := by
  unfold digT
  rw [show Lib.decDigits u = Lib.decDigits (u / 10) ++ [UInt8.ofNat (48 + u % 10)] by rw [Lib.decDigits, dif_neg h]]
  apply ByteArray.ext
  rw [ByteArray.data_append]
  simp
theorem strOf_digit (u : Nat) : strOfNums [(wrap64 (48 + ((u % 10 : Nat) : Int))) % 256] = ⟨#[UInt8.ofNat (48 + u % 10)]⟩ := by
  have e : (wrap64 (48 + ((u % 10 : Nat) : Int))) % 256 = ((48 + u % 10 : Nat) : Int) := by unfold wrap64; omega
  rw [e]
  rfl
theorem tmod_abs (n : Int) : (0 ≤ n → Int.tmod n 10 = ((n.natAbs % 10 : Nat) : Int) ∧ Int.tdiv n 10 = ((n.natAbs / 10 : Nat) : Int)) ∧ (n < 0 → Int.tmod n 10 = -((n.natAbs % 10 : Nat) : Int) ∧ Int.tdiv n 10 = -((n.natAbs / 10 : Nat) : Int)) := by
  have key : ∀ u : Nat, Int.tmod (u : Int) 10 = ((u % 10 : Nat) : Int) ∧ Int.tdiv (u : Int) 10 = ((u / 10 : Nat) : Int) := fun u => ⟨rfl, rfl⟩
  constructor
  · intro h
    obtain ⟨u, rfl⟩ : ∃ u : Nat, n = u := ⟨n.toNat, by omega⟩
    exact key u
  · intro h
    obtain ⟨u, rfl⟩ : ∃ u : Nat, n = -(u : Int) := ⟨n.natAbs, by omega⟩
    rw [Int.neg_tmod, Int.neg_tdiv, Int.natAbs_neg]
    exact ⟨by rw [(key u).1]; rfl, by rw [(key u).2]; rfl⟩
def decFin (neg : Bool) (s : ByteArray) : ByteArray := if neg = true then (⟨#[45]⟩ : ByteArray) ++ s else s
theorem dec_end (k : Nat) (neg : Bool) (s : ByteArray) (h : s.size ≤ 50) : spec_l01Dec.l0 (k + 1) 0 neg s = some (decFin neg s) := by
  unfold spec_l01Dec.l0 decFin
  rw [if_pos rfl]
  cases neg
  · rfl
  · rw [if_pos rfl, if_pos (by omega), if_pos rfl]
theorem dec_run : ∀ (f u k : Nat) (n : Int) (neg : Bool) (out : ByteArray), n.natAbs = u → 1 ≤ u → u < 10 ^ f → f < k → out.size + f ≤ 40 → -9223372036854775808 ≤ n → n ≤ 9223372036854775807 →
    spec_l01Dec.l0 k n neg out = some (decFin neg (digT u ++ out))
  | 0, u, k, n, neg, out, _, h1, h2, _, _, _, _ => by simp at h2; omega
  | f + 1, u, k, n, neg, out, hu, h1, h2, hk, ho, hl, hh => by
    obtain ⟨k, rfl⟩ : ∃ m, k = m + 1 := ⟨k - 1, by omega⟩
    have hs : ∀ y : List Int, (strOfNums y).size = y.length := strOfNums_size
    have step : ∀ d : ByteArray, d = ⟨#[UInt8.ofNat (48 + u % 10)]⟩ → spec_l01Dec.l0 k (wrap64 (Int.tdiv n 10)) neg (d ++ out) = some (decFin neg (digT u ++ out)) := by
      intro d hd
      have hz : (d ++ out).size = 1 + out.size := by rw [ByteArray.size_append, hd]; rfl
      by_cases h10 : u < 10
      · have e0 : wrap64 (Int.tdiv n 10) = 0 := by
          have h3 := tmod_abs n
          by_cases hn : 0 ≤ n
          · rw [(h3.1 hn).2]; unfold wrap64; omega
          · rw [(h3.2 (by omega)).2]; unfold wrap64; omega
        obtain ⟨k, rfl⟩ : ∃ m, k = m + 1 := ⟨k - 1, by omega⟩
        rw [e0, dec_end k neg _ (by omega), hd, digT_small u h10, Nat.mod_eq_of_lt h10]
      · have h3 := tmod_abs n
        have e1 : (wrap64 (Int.tdiv n 10)).natAbs = u / 10 ∧ -9223372036854775808 ≤ wrap64 (Int.tdiv n 10) ∧ wrap64 (Int.tdiv n 10) ≤ 9223372036854775807 := by
          by_cases hn : 0 ≤ n
          · rw [(h3.1 hn).2]; unfold wrap64; omega
          · rw [(h3.2 (by omega)).2]; unfold wrap64; omega
        rw [dec_run f (u / 10) k _ neg (d ++ out) e1.1 (by omega) (by rw [Nat.pow_succ] at h2; omega) (by omega) (by omega) e1.2.1 e1.2.2, digT_big u h10, hd, ByteArray.append_assoc]
    have h3 := tmod_abs n
    unfold spec_l01Dec.l0
    rw [if_neg (by omega)]
    by_cases hn : 0 ≤ n
    · rw [if_neg (by rw [(h3.1 hn).1]; omega)]
      simp only [Option.bind_some]
      rw [(h3.1 hn).1, hu, strOf_digit]
      rw [if_pos (by have : (⟨#[UInt8.ofNat (48 + u % 10)]⟩ : ByteArray).size = 1 := rfl
                     omega)]
      exact step _ rfl
    · have h4 := (h3.2 (by omega)).1
      by_cases hd : Int.tmod n 10 < 0
      · rw [if_pos hd]
        simp only [Option.bind_some]
        rw [h4, Int.neg_neg, show wrap64 ((n.natAbs % 10 : Nat) : Int) = ((n.natAbs % 10 : Nat) : Int) by unfold wrap64; omega, hu, strOf_digit]
        rw [if_pos (by have : (⟨#[UInt8.ofNat (48 + u % 10)]⟩ : ByteArray).size = 1 := rfl
                       omega)]
        exact step _ rfl
      · rw [if_neg hd]
        simp only [Option.bind_some]
        rw [show Int.tmod n 10 = ((u % 10 : Nat) : Int) by omega, strOf_digit]
        rw [if_pos (by have : (⟨#[UInt8.ofNat (48 + u % 10)]⟩ : ByteArray).size = 1 := rfl
                       omega)]
        exact step _ rfl
/-- The reference's own digits are the numeral. -/
theorem spec_dec (n : Int) (hl : -9223372036854775808 ≤ n) (hh : n ≤ 9223372036854775807) (k : Nat) (hk : 20 < k) : spec_l01Dec.f k n = some (decT n) := by
  unfold spec_l01Dec.f
  by_cases h0 : n = 0
  · rw [if_pos h0, h0]
    exact congrArg some (show (⟨#[48]⟩ : ByteArray) = decT 0 by unfold decT Lib.itoa; rw [if_neg (by omega), show (0 : Int).toNat = 0 from rfl, Lib.decDigits_one (by omega)]; rfl)
  · rw [if_neg h0, dec_run 20 n.natAbs k n _ ⟨#[]⟩ rfl (by omega) (by have : (10 : Nat) ^ 20 = 100000000000000000000 := by decide
                                                                      omega) hk (by show 0 + 20 ≤ 40; omega) hl hh]
    have ea : digT n.natAbs ++ (⟨#[]⟩ : ByteArray) = digT n.natAbs := ByteArray.append_empty
    rw [ea]
    refine congrArg some ?_
    unfold decFin decT Lib.itoa
    by_cases hn : n < 0
    · rw [if_pos (decide_eq_true hn), if_pos hn]
      apply ByteArray.ext
      rw [ByteArray.data_append]
      simp [digT]
    · rw [if_neg (by simp; omega), if_neg hn, show n.natAbs = n.toNat by omega]
      rfl
theorem dig_len : ∀ (f u : Nat), u < 10 ^ (f + 1) → (Lib.decDigits u).length ≤ f + 1
  | 0, u, h => by rw [Lib.decDigits_one (by simpa using h)]; simp
  | f + 1, u, h => by
    by_cases c : u < 10
    · rw [Lib.decDigits_one c]; simp
    · rw [show Lib.decDigits u = Lib.decDigits (u / 10) ++ [UInt8.ofNat (48 + u % 10)] by rw [Lib.decDigits, dif_neg c]]
      have := dig_len f (u / 10) (by rw [Nat.pow_succ] at h; omega)
      simp only [List.length_append, List.length_cons, List.length_nil]
      omega
theorem decT_size (n : Int) (hl : -9223372036854775808 ≤ n) (hh : n ≤ 9223372036854775807) : (decT n).size ≤ 21 := by
  show (Lib.itoa n).toArray.size ≤ 21
  rw [List.size_toArray]
  have k1 : (10 : Nat) ^ 20 = 100000000000000000000 := by decide
  unfold Lib.itoa
  by_cases h : n < 0
  · rw [if_pos h]
    have := dig_len 19 n.natAbs (by omega)
    simp only [List.length_cons]
    omega
  · rw [if_neg h]
    have := dig_len 19 n.toNat (by omega)
    omega
theorem impl_dec (n : Int) (hl : -9223372036854775808 ≤ n) (hh : n ≤ 9223372036854775807) : impl_text.f n = some (decT n) := by
  unfold impl_text.f strconv_FormatInt_38.f strconv_FormatInt_62.f
  rw [if_pos ⟨rfl, hl, hh⟩]
  rfl

/-- A type as a text: the program's and the reference's. -/
def typeT (t : Int) (c : ByteArray) (n : Int) : ByteArray :=
  if t = 0 then ⟨#[116, 111, 112]⟩ else if t = 1 then ⟨#[105, 110, 116]⟩ else if t = 2 then ⟨#[110, 117, 108, 108]⟩ else if t = 3 then c else if t = 4 then ⟨#[105, 110, 116, 91, 93]⟩ else
  if t = 5 then c ++ ⟨#[91, 93]⟩ else if t = 6 then ((⟨#[110, 101, 119]⟩ ++ c) ++ ⟨#[64]⟩) ++ decT n else if t = 7 then ⟨#[116, 104, 105, 115]⟩ else ⟨#[]⟩
theorem spec_typeT (t : Int) (c : ByteArray) (n : Int) (hc : c.size ≤ 140737488351232) (hl : -9223372036854775808 ≤ n) (hh : n ≤ 9223372036854775807) (k : Nat) (hk : 20 < k) : spec_TypeShown.f k t c n = some (typeT t c n) := by
  unfold spec_TypeShown.f typeT
  have z2 : (⟨#[91, 93]⟩ : ByteArray).size = 2 := rfl
  have z3 : (⟨#[110, 101, 119]⟩ : ByteArray).size = 3 := rfl
  have z1 : (⟨#[64]⟩ : ByteArray).size = 1 := rfl
  have zd := decT_size n hl hh
  rw [spec_dec n hl hh k hk]
  simp only [Option.bind_some]
  rw [if_pos (show c.size + 2 ≤ 9223372036854775807 by omega), if_pos (show 3 + c.size ≤ 9223372036854775807 by omega), if_pos (show ((⟨#[110, 101, 119]⟩ : ByteArray) ++ c).size + 1 ≤ 9223372036854775807 by rw [ByteArray.size_append]; omega),
    if_pos (show (((⟨#[110, 101, 119]⟩ : ByteArray) ++ c) ++ (⟨#[64]⟩ : ByteArray)).size + (decT n).size ≤ 9223372036854775807 by rw [ByteArray.size_append, ByteArray.size_append]; omega)]
  repeat' (first | rfl | split)
theorem impl_typeT (t : Int) (c : ByteArray) (n : Int) (hc : c.size ≤ 140737488351232) (hl : -9223372036854775808 ≤ n) (hh : n ≤ 9223372036854775807) : impl_TypeShown.f t c n = some (typeT t c n) := by
  unfold impl_TypeShown.f typeT
  have z2 : (⟨#[91, 93]⟩ : ByteArray).size = 2 := rfl
  have z3 : (⟨#[110, 101, 119]⟩ : ByteArray).size = 3 := rfl
  have z1 : (⟨#[64]⟩ : ByteArray).size = 1 := rfl
  have zd := decT_size n hl hh
  rw [impl_dec n hl hh]
  simp only [Option.bind_some]
  rw [if_pos (show c.size + 2 ≤ 9223372036854775807 by omega), if_pos (show 3 + c.size ≤ 9223372036854775807 by omega), if_pos (show ((⟨#[110, 101, 119]⟩ : ByteArray) ++ c).size + 1 ≤ 9223372036854775807 by rw [ByteArray.size_append]; omega),
    if_pos (show (((⟨#[110, 101, 119]⟩ : ByteArray) ++ c) ++ (⟨#[64]⟩ : ByteArray)).size + (decT n).size ≤ 9223372036854775807 by rw [ByteArray.size_append, ByteArray.size_append]; omega)]
  repeat' (first | rfl | split)

/-- What is joined with one blank between. -/
def joinB (l : List ByteArray) : ByteArray := ⟨(Lib.join (l.map (·.data.toList)) (⟨#[32]⟩ : ByteArray).data.toList).toArray⟩
/-- Each with a blank behind it; each with a blank ahead of it. -/
def headB : List ByteArray → ByteArray
  | [] => ⟨#[]⟩
  | x :: r => (x ++ ⟨#[32]⟩) ++ headB r
def tailB : List ByteArray → ByteArray
  | [] => ⟨#[]⟩
  | x :: r => (⟨#[32]⟩ ++ x) ++ tailB r
theorem dtl (a b : ByteArray) : (a ++ b).data.toList = a.data.toList ++ b.data.toList := by rw [ByteArray.data_append, Array.toList_append]
theorem jt_cons (s x : List UInt8) (r : List (List UInt8)) : Lib.joinTail s (x :: r) = (s ++ x) ++ Lib.joinTail s r := by simp [Lib.joinTail]
theorem tailB_list : ∀ l : List ByteArray, (tailB l).data.toList = Lib.joinTail [32] (l.map (·.data.toList))
  | [] => rfl
  | x :: r => by
    show (((⟨#[32]⟩ : ByteArray) ++ x) ++ tailB r).data.toList = _
    rw [dtl, dtl, tailB_list r, List.map_cons, jt_cons]
theorem headB_list : ∀ (r : List ByteArray) (x : ByteArray), (headB (x :: r)).data.toList = (x.data.toList ++ Lib.joinTail [32] (r.map (·.data.toList))) ++ [32]
  | [], x => by
    show ((x ++ (⟨#[32]⟩ : ByteArray)) ++ (⟨#[]⟩ : ByteArray)).data.toList = _
    rw [dtl, dtl]
    simp [Lib.joinTail]
  | y :: r, x => by
    show ((x ++ (⟨#[32]⟩ : ByteArray)) ++ headB (y :: r)).data.toList = _
    rw [dtl, dtl, headB_list r y, List.map_cons, jt_cons]
    simp
theorem joinB_list (x : ByteArray) (r : List ByteArray) : (joinB (x :: r)).data.toList = x.data.toList ++ Lib.joinTail [32] (r.map (·.data.toList)) := by
  show Lib.join ((x :: r).map (·.data.toList)) [32] = _
  rw [List.map_cons, Lib.join_cons]
theorem join_tail (l : List ByteArray) (h : l ≠ []) : (⟨#[32]⟩ : ByteArray) ++ joinB l = tailB l := by
  cases l with
  | nil => exact absurd rfl h
  | cons x r =>
    apply WideShapes.bytes_inj
    rw [dtl, joinB_list, tailB_list, List.map_cons, jt_cons]
    simp
theorem join_head (l : List ByteArray) (h : l ≠ []) : joinB l ++ (⟨#[32]⟩ : ByteArray) = headB l := by
  cases l with
  | nil => exact absurd rfl h
  | cons x r =>
    apply WideShapes.bytes_inj
    rw [dtl, joinB_list, headB_list]
theorem jt_len (M : Nat) : ∀ l : List ByteArray, (∀ x ∈ l, x.size ≤ M) → (Lib.joinTail [32] (l.map (·.data.toList))).length ≤ l.length * (M + 1)
  | [], _ => by simp [Lib.joinTail]
  | x :: r, h => by
    have h1 := jt_len M r (fun y hy => h y (List.mem_cons_of_mem _ hy))
    have h2 : x.data.toList.length ≤ M := by
      have := h x List.mem_cons_self
      rw [Array.length_toList]; exact this
    rw [List.map_cons, jt_cons, List.length_append, List.length_append, List.length_cons, List.length_cons, List.length_nil, Nat.succ_mul]
    omega
theorem joinB_size (M : Nat) (l : List ByteArray) (h : ∀ x ∈ l, x.size ≤ M) : (joinB l).size ≤ l.length * (M + 1) := by
  cases l with
  | nil => exact Nat.zero_le _
  | cons x r =>
    have h1 := jt_len M r (fun y hy => h y (List.mem_cons_of_mem _ hy))
    have h2 : x.data.toList.length ≤ M := by
      have := h x List.mem_cons_self
      rw [Array.length_toList]; exact this
    have e : (joinB (x :: r)).size = (joinB (x :: r)).data.toList.length := by rw [Array.length_toList]; rfl
    rw [e, joinB_list, List.length_append, List.length_cons, Nat.succ_mul]
    omega
theorem join_f (M : Nat) (l : List ByteArray) (h : ∀ x ∈ l, x.size ≤ M) (hn : l.length * (M + 1) ≤ 140737488355328) (hl : l.length ≤ 140737488355328) : strings_Join.f l (⟨#[32]⟩ : ByteArray) = some (joinB l) := by
  unfold strings_Join.f
  have h1 := joinB_size M l h
  have e : (Lib.join (l.map (·.data.toList)) (⟨#[32]⟩ : ByteArray).data.toList).length = (joinB l).size := by
    show _ = (Lib.join (l.map (·.data.toList)) (⟨#[32]⟩ : ByteArray).data.toList).toArray.size
    rw [List.size_toArray]
  rw [if_pos ⟨hl, by rw [e]; omega⟩]
  rfl

def cType (x : S23) : S26 := ⟨x.f0, x.f1, x.f2⟩
def TOk (x : S26) : Prop := x.f1.size ≤ 1048576 ∧ -9223372036854775808 ≤ x.f2 ∧ x.f2 ≤ 9223372036854775807
def tt (x : S26) : ByteArray := typeT x.f0 x.f1 x.f2
theorem tt_size (x : S26) (h : TOk x) : (tt x).size ≤ 1048620 := by
  obtain ⟨h1, h2, h3⟩ := h
  have hd := decT_size x.f2 h2 h3
  have z2 : (⟨#[91, 93]⟩ : ByteArray).size = 2 := rfl
  have z3 : (⟨#[110, 101, 119]⟩ : ByteArray).size = 3 := rfl
  have z1 : (⟨#[64]⟩ : ByteArray).size = 1 := rfl
  have a0 : (⟨#[116, 111, 112]⟩ : ByteArray).size = 3 := rfl
  have a1 : (⟨#[105, 110, 116]⟩ : ByteArray).size = 3 := rfl
  have a2 : (⟨#[110, 117, 108, 108]⟩ : ByteArray).size = 4 := rfl
  have a4 : (⟨#[105, 110, 116, 91, 93]⟩ : ByteArray).size = 5 := rfl
  have a7 : (⟨#[116, 104, 105, 115]⟩ : ByteArray).size = 4 := rfl
  have a8 : (⟨#[]⟩ : ByteArray).size = 0 := rfl
  unfold tt typeT
  repeat' split
  all_goals (try simp only [ByteArray.size_append])
  all_goals omega
theorem sz_Type (x : S23) (ho : ok23 x) (m : Int) (h0 : 0 ≤ m) (h1 : m ≤ 1048576) : SzOk (fun _ => laws_szType.f x.f0 x.f1 x.f2 m) m (x.f1.size ≤ 1048576) := by
  obtain ⟨_, o1, _⟩ := ho
  unfold maxLen at o1
  exact SzOk.mono (SzOk.size (n := x.f1.size) (g := fun v k => some v) h0 h1 (by omega) (fun v a b _ => SzOk.done a)) (fun k => rfl) (fun h => by have := h.1; omega)
theorem sz_TypeS (a : List S23) (ha : a.length ≤ maxLen) (ho : ∀ x ∈ a, ok23 x) (m : Int) (h0 : 0 ≤ m) (h1 : m ≤ 1048576) :
    SzOk (fun k => laws_szTypeS.f k a m) m (a.length ≤ 1048576 ∧ ∀ x ∈ a, x.f1.size ≤ 1048576) := by
  unfold maxLen at ha
  refine SzOk.mono (SzOk.size (n := a.length) (g := fun v k => laws_szTypeS.l0 k a v 0) h0 h1 (by omega) (fun v p q _ => sz_list (z := z23) (Z := fun k x m => laws_szType.f x.f0 x.f1 x.f2 m) (fun k a m i => rfl) a (by omega) (fun x hx m p q => sz_Type x (ho x hx) m p q) v p (by omega))) (fun k => rfl) (fun h => ⟨by omega, h.2⟩)
theorem to_TypeS (a : List S23) (ha : a.length ≤ 1048576) : Ev (fun k => laws_toTypeS.f k a) (a.map cType) := by
  refine Ev.congr (f := fun k => laws_toTypeS.l0 k a (List.replicate a.length z26) 0) (fun k => ?_) (to_list (z := z23) (T := fun k x => laws_toType.f x.f0 x.f1 x.f2) (C := fun t => (⟨t.1, t.2.1, t.2.2⟩ : S26)) (fun k a c i => rfl) a (by omega) (fun x hx => ⟨_, Ev.now _, rfl⟩) _)
  unfold laws_toTypeS.f
  rw [if_pos (by omega), if_pos (by omega)]; rfl
theorem eqv_Type (x y : S26) : EvIff (fun _ => laws_eqType.f x.f0 x.f1 x.f2 y.f0 y.f1 y.f2) (x = y) := by
  obtain ⟨a0, a1, a2⟩ := x
  obtain ⟨b0, b1, b2⟩ := y
  unfold laws_eqType.f
  refine EvIff.iff (EvIff.ite (EvIff.ite (EvIff.ite EvIff.yes))) ?_
  rw [toList_eq]
  simp
theorem eqv_TypeS (a b : List S26) (ha : a.length ≤ 1048576) : EvIff (fun k => laws_eqTypeS.f k a b) (a = b) := by
  by_cases hl : a.length = b.length
  · refine EvIff.congr (f := fun k => laws_eqTypeS.l0 k a b 0) (fun k => by unfold laws_eqTypeS.f; rw [if_pos (by omega)]) ?_
    exact eq_list (z := z26) (E := fun k x y => laws_eqType.f x.f0 x.f1 x.f2 y.f0 y.f1 y.f2) (fun k a b i => rfl) a b (fun x _ y _ => eqv_Type x y) hl (by omega)
  · exact EvIff.iff (EvIff.congr (f := fun _ => some false) (fun k => by unfold laws_eqTypeS.f; rw [if_neg (by omega)]) EvIff.no) ⟨fun h => h.elim, fun h => hl (congrArg List.length h)⟩
theorem one32 : (⟨#[32]⟩ : ByteArray).size = 1 := rfl
theorem one124 : (⟨#[124]⟩ : ByteArray).size = 1 := rfl
theorem emp (s : ByteArray) : s ++ (⟨#[]⟩ : ByteArray) = s := ByteArray.append_empty
theorem pme (s : ByteArray) : (⟨#[]⟩ : ByteArray) ++ s = s := ByteArray.empty_append
theorem ev_tt (x : S26) (h : TOk x) : Ev (fun k => spec_TypeShown.f k x.f0 x.f1 x.f2) (tt x) := ⟨21, fun k hk => spec_typeT _ _ _ (by have := h.1; omega) h.2.1 h.2.2 k (by omega)⟩
theorem spec_l1 (A B : List S26) (hB : ∀ x ∈ B, TOk x) (hn : B.length ≤ 400) : ∀ (d i : Nat) (s : ByteArray), i + d = B.length → s.size + d * 1048700 ≤ 4000000000 → Ev (fun k => spec_FrameShown.l1 k s (i : Int) A B) (s ++ tailB ((B.drop i).map tt)) := by
  intro d
  induction d with
  | zero =>
    intro i s hd hs
    rw [List.drop_eq_nil_of_le (by omega), show s ++ tailB (([] : List S26).map tt) = s from emp s]
    exact Ev.step (f := fun _ => some s) (fun k => by (conv => lhs; unfold spec_FrameShown.l1); rw [if_neg (by omega)]) (Ev.now _)
  | succ d ih =>
    intro i s hd hs
    have hi : i < B.length := by omega
    have hx := hB B[i] (List.getElem_mem hi)
    have hz := tt_size _ hx
    have z1 := one32
    have e : s ++ tailB ((B.drop i).map tt) = ((s ++ ⟨#[32]⟩) ++ tt B[i]) ++ tailB ((B.drop (i + 1)).map tt) := by
      rw [List.drop_eq_getElem_cons hi, List.map_cons]
      show s ++ ((⟨#[32]⟩ ++ tt B[i]) ++ tailB ((B.drop (i + 1)).map tt)) = _
      rw [ByteArray.append_assoc, ByteArray.append_assoc, ByteArray.append_assoc]
    rw [e]
    refine Ev.step (fun k => ?_) (Ev.bind (f := fun k t => if (s ++ (⟨#[32]⟩ : ByteArray)).size + t.size ≤ 9223372036854775807 then spec_FrameShown.l1 k ((s ++ (⟨#[32]⟩ : ByteArray)) ++ t) (wrap64 ((i : Int) + 1)) A B else none) (ev_tt _ hx)
      (Ev.congr (fun k => if_pos (by rw [ByteArray.size_append]; omega)) (by rw [up64 hi (by omega)]; exact ih (i + 1) _ (by omega) (by rw [ByteArray.size_append, ByteArray.size_append]; omega))))
    conv => lhs; unfold spec_FrameShown.l1
    rw [if_pos (by omega), if_pos (by omega), if_pos (by omega), show rd_T26 B (i : Int) = B[i] from getD_at hi]
theorem spec_l0 (A B : List S26) (hA : ∀ x ∈ A, TOk x) (ha : A.length ≤ 400) (hB : ∀ x ∈ B, TOk x) (hn : B.length ≤ 400) : ∀ (d i : Nat) (s : ByteArray), i + d = A.length → s.size + d * 1048700 ≤ 2000000000 →
    Ev (fun k => spec_FrameShown.l0 k s (i : Int) A B) (((s ++ headB ((A.drop i).map tt)) ++ ⟨#[124]⟩) ++ tailB (B.map tt)) := by
  intro d
  induction d with
  | zero =>
    intro i s hd hs
    have z1 := one124
    rw [List.drop_eq_nil_of_le (by omega), show s ++ headB (([] : List S26).map tt) = s from emp s]
    have h := spec_l1 A B hB hn B.length 0 (s ++ ⟨#[124]⟩) (by omega) (by rw [ByteArray.size_append]; omega)
    rw [List.drop_zero] at h
    exact Ev.step (fun k => by (conv => lhs; unfold spec_FrameShown.l0); rw [if_neg (by omega), if_pos (by omega)]; rfl) h
  | succ d ih =>
    intro i s hd hs
    have hi : i < A.length := by omega
    have hx := hA A[i] (List.getElem_mem hi)
    have hz := tt_size _ hx
    have z1 := one32
    have e : s ++ headB ((A.drop i).map tt) = ((s ++ tt A[i]) ++ ⟨#[32]⟩) ++ headB ((A.drop (i + 1)).map tt) := by
      rw [List.drop_eq_getElem_cons hi, List.map_cons]
      show s ++ ((tt A[i] ++ ⟨#[32]⟩) ++ headB ((A.drop (i + 1)).map tt)) = _
      rw [ByteArray.append_assoc, ByteArray.append_assoc, ByteArray.append_assoc]
    rw [e]
    refine Ev.step (fun k => ?_) (Ev.bind (f := fun k t => if s.size + t.size ≤ 9223372036854775807 then (if (s ++ t).size + 1 ≤ 9223372036854775807 then spec_FrameShown.l0 k ((s ++ t) ++ (⟨#[32]⟩ : ByteArray)) (wrap64 ((i : Int) + 1)) A B else none) else none) (ev_tt _ hx)
      (Ev.congr (fun k => by rw [if_pos (by omega), if_pos (by rw [ByteArray.size_append]; omega)]) (by rw [up64 hi (by omega)]; exact ih (i + 1) _ (by omega) (by rw [ByteArray.size_append, ByteArray.size_append]; omega))))
    conv => lhs; unfold spec_FrameShown.l0
    rw [if_pos (by omega), if_pos (by omega), show rd_T26 A (i : Int) = A[i] from getD_at hi]
theorem tts_size (B : List S26) (hB : ∀ x ∈ B, TOk x) : ∀ y ∈ B.map tt, y.size ≤ 1048620 := by
  intro y hy
  obtain ⟨x, hx, rfl⟩ := List.mem_map.mp hy
  exact tt_size x (hB x hx)
theorem shown_l0 (B : List S26) (hB : ∀ x ∈ B, TOk x) (hn : B.length ≤ 400) : ∀ (d i : Nat) (acc : List ByteArray), i + d = B.length → acc = (B.take i).map tt → Ev (fun k => impl_shown.l0 k acc B (B.length : Int) (i : Int)) (joinB (B.map tt)) := by
  intro d
  induction d with
  | zero =>
    intro i acc hd ha
    have e : acc = B.map tt := by rw [ha, List.take_of_length_le (by omega)]
    refine Ev.step (f := fun _ => some (joinB (B.map tt))) (fun k => ?_) (Ev.now _)
    conv => lhs; unfold impl_shown.l0
    rw [if_neg (by omega), e, join_f 1048620 _ (tts_size B hB) (by rw [List.length_map]; omega) (by rw [List.length_map]; omega)]
    rfl
  | succ d ih =>
    intro i acc hd ha
    have hi : i < B.length := by omega
    have hx := hB B[i] (List.getElem_mem hi)
    have hl : acc.length = i := by rw [ha, List.length_map, List.length_take]; omega
    refine Ev.step (fun k => ?_) (ih (i + 1) (acc ++ [tt B[i]]) (by omega) (by rw [ha, List.take_succ_eq_append_getElem hi, List.map_append]; rfl))
    conv => lhs; unfold impl_shown.l0
    rw [if_pos (by omega), if_pos (by omega), if_pos (by omega), show rd_T26 B (i : Int) = B[i] from getD_at hi, impl_typeT _ _ _ (by have := hx.1; omega) hx.2.1 hx.2.2]
    simp only [Option.bind_some]
    rw [if_pos (by omega), up64 hi (by omega)]
    rfl
theorem shown_f (B : List S26) (hB : ∀ x ∈ B, TOk x) (hn : B.length ≤ 400) : Ev (fun k => impl_shown.f k B) (joinB (B.map tt)) := shown_l0 B hB hn B.length 0 [] (by omega) rfl
def frameT (A B : List S26) : ByteArray := (headB (A.map tt) ++ ⟨#[124]⟩) ++ tailB (B.map tt)
theorem spec_frame (A B : List S26) (hA : ∀ x ∈ A, TOk x) (hB : ∀ x ∈ B, TOk x) : Ev (fun k => spec_FrameShown.f k A B) (if A.length ≤ 400 ∧ B.length ≤ 400 then frameT A B else ⟨#[]⟩) := by
  by_cases ca : A.length ≤ 400
  · by_cases cb : B.length ≤ 400
    · rw [if_pos ⟨ca, cb⟩]
      have h := spec_l0 A B hA ca hB cb A.length 0 ⟨#[]⟩ (by omega) (by show 0 + _ ≤ _; omega)
      rw [List.drop_zero, pme] at h
      refine Ev.congr (f := fun k => spec_FrameShown.j0 k ⟨#[]⟩ false A B) (fun k => ?_) (Ev.step (fun k => ?_) h)
      · unfold spec_FrameShown.f
        rw [if_neg (by omega), show decide ((B.length : Int) > 400) = false from decide_eq_false (by omega)]
      · show (if (false = true) then some (⟨#[]⟩ : ByteArray) else spec_FrameShown.l0 k ⟨#[]⟩ 0 A B) = _
        rw [if_neg (by simp)]
        rfl
    · rw [if_neg (by omega)]
      refine Ev.congr (f := fun k => spec_FrameShown.j0 k ⟨#[]⟩ true A B) (fun k => ?_) (Ev.step (f := fun _ => some ⟨#[]⟩) (fun k => ?_) (Ev.now _))
      · unfold spec_FrameShown.f
        rw [if_neg (by omega), show decide ((B.length : Int) > 400) = true from decide_eq_true (by omega)]
      · show (if (true = true) then some (⟨#[]⟩ : ByteArray) else spec_FrameShown.l0 k ⟨#[]⟩ 0 A B) = _
        rw [if_pos rfl]
  · rw [if_neg (by omega)]
    refine Ev.congr (f := fun k => spec_FrameShown.j0 k ⟨#[]⟩ true A B) (fun k => ?_) (Ev.step (f := fun _ => some ⟨#[]⟩) (fun k => ?_) (Ev.now _))
    · unfold spec_FrameShown.f
      rw [if_pos (by omega)]
    · show (if (true = true) then some (⟨#[]⟩ : ByteArray) else spec_FrameShown.l0 k ⟨#[]⟩ 0 A B) = _
      rw [if_pos rfl]
theorem len_ne {α β : Type} {f : α → β} {l : List α} (h : (l.length : Int) > 0) : l.map f ≠ [] := by
  intro e
  have := congrArg List.length e
  simp at this
  subst this
  simp at h
theorem impl_j0_eq (k : Nat) (c : Bool) (A B : List S26) : impl_FrameShown.j0 (k + 1) c A B = if c = true then some (⟨#[]⟩ : ByteArray) else (if (A.length : Int) > 0 then ((impl_shown.f k A).bind fun t => (if t.size + 2 ≤ 9223372036854775807 then (if (B.length : Int) > 0 then ((impl_shown.f k B).bind fun u => (if 1 + u.size ≤ 9223372036854775807 then (if (t ++ (⟨#[32, 124]⟩ : ByteArray)).size + ((⟨#[32]⟩ : ByteArray) ++ u).size ≤ 9223372036854775807 then (some ((t ++ (⟨#[32, 124]⟩ : ByteArray)) ++ ((⟨#[32]⟩ : ByteArray) ++ u))) else (none)) else (none))) else (some (t ++ (⟨#[32, 124]⟩ : ByteArray)))) else (none))) else (if (B.length : Int) > 0 then ((impl_shown.f k B).bind fun u => (if 1 + u.size ≤ 9223372036854775807 then (if 1 + ((⟨#[32]⟩ : ByteArray) ++ u).size ≤ 9223372036854775807 then (some ((⟨#[124]⟩ : ByteArray) ++ ((⟨#[32]⟩ : ByteArray) ++ u))) else (none)) else (none))) else (some (⟨#[124]⟩ : ByteArray)))) := rfl
theorem impl_j0 (A B : List S26) (hA : ∀ x ∈ A, TOk x) (ha : A.length ≤ 400) (hB : ∀ x ∈ B, TOk x) (hb : B.length ≤ 400) : Ev (fun k => impl_FrameShown.j0 k false A B) (frameT A B) := by
  have sa : (joinB (A.map tt)).size ≤ 400 * 1048621 := Nat.le_trans (joinB_size 1048620 _ (tts_size A hA)) (by rw [List.length_map]; exact Nat.mul_le_mul_right _ ha)
  have sb : (joinB (B.map tt)).size ≤ 400 * 1048621 := Nat.le_trans (joinB_size 1048620 _ (tts_size B hB)) (by rw [List.length_map]; exact Nat.mul_le_mul_right _ hb)
  have z1 := one32
  have z2 : (⟨#[32, 124]⟩ : ByteArray).size = 2 := rfl
  have e2 : (⟨#[32, 124]⟩ : ByteArray) = ⟨#[32]⟩ ++ ⟨#[124]⟩ := rfl
  by_cases ca : (A.length : Int) > 0
  · have ea : joinB (A.map tt) ++ ⟨#[32, 124]⟩ = headB (A.map tt) ++ ⟨#[124]⟩ := by rw [e2, ← ByteArray.append_assoc, join_head _ (len_ne ca)]
    by_cases cb : (B.length : Int) > 0
    · have er : frameT A B = (joinB (A.map tt) ++ ⟨#[32, 124]⟩) ++ (⟨#[32]⟩ ++ joinB (B.map tt)) := by rw [ea, join_tail _ (len_ne cb)]; rfl
      rw [er]
      refine Ev.step (f := fun k => (impl_shown.f k A).bind fun t => if t.size + 2 ≤ 9223372036854775807 then ((impl_shown.f k B).bind fun u => if 1 + u.size ≤ 9223372036854775807 then (if (t ++ (⟨#[32, 124]⟩ : ByteArray)).size + ((⟨#[32]⟩ : ByteArray) ++ u).size ≤ 9223372036854775807 then some ((t ++ (⟨#[32, 124]⟩ : ByteArray)) ++ ((⟨#[32]⟩ : ByteArray) ++ u)) else none) else none) else none) (fun k => ?_)
        (Ev.bind (f := fun k t => if t.size + 2 ≤ 9223372036854775807 then ((impl_shown.f k B).bind fun u => if 1 + u.size ≤ 9223372036854775807 then (if (t ++ (⟨#[32, 124]⟩ : ByteArray)).size + ((⟨#[32]⟩ : ByteArray) ++ u).size ≤ 9223372036854775807 then some ((t ++ (⟨#[32, 124]⟩ : ByteArray)) ++ ((⟨#[32]⟩ : ByteArray) ++ u)) else none) else none) else none) (shown_f A hA ha) (Ev.congr (fun k => if_pos (by omega))
          (Ev.bind (f := fun k u => if 1 + u.size ≤ 9223372036854775807 then (if (joinB (A.map tt) ++ (⟨#[32, 124]⟩ : ByteArray)).size + ((⟨#[32]⟩ : ByteArray) ++ u).size ≤ 9223372036854775807 then some ((joinB (A.map tt) ++ (⟨#[32, 124]⟩ : ByteArray)) ++ ((⟨#[32]⟩ : ByteArray) ++ u)) else none) else none) (shown_f B hB hb) (Ev.congr (f := fun _ => some _) (fun k => by rw [if_pos (by omega), if_pos (by rw [ByteArray.size_append, ByteArray.size_append]; omega)]) (Ev.now _)))))
      rw [impl_j0_eq, if_neg (by simp), if_pos ca]
      simp only [if_pos cb]
    · have hb0 : B = [] := by
        cases B with
        | nil => rfl
        | cons x r => exact absurd (show ((x :: r).length : Int) > 0 by simp only [List.length_cons]; omega) cb
      have er : frameT A B = joinB (A.map tt) ++ ⟨#[32, 124]⟩ := by rw [ea]; unfold frameT; rw [hb0]; exact emp _
      rw [er]
      refine Ev.step (f := fun k => (impl_shown.f k A).bind fun t => if t.size + 2 ≤ 9223372036854775807 then some (t ++ (⟨#[32, 124]⟩ : ByteArray)) else none) (fun k => ?_)
        (Ev.bind (f := fun k t => if t.size + 2 ≤ 9223372036854775807 then some (t ++ (⟨#[32, 124]⟩ : ByteArray)) else none) (shown_f A hA ha) (Ev.congr (f := fun _ => some _) (fun k => if_pos (by omega)) (Ev.now _)))
      rw [impl_j0_eq, if_neg (by simp), if_pos ca]
      simp only [if_neg cb]
  · have ha0 : A = [] := by
      cases A with
      | nil => rfl
      | cons x r => exact absurd (show ((x :: r).length : Int) > 0 by simp only [List.length_cons]; omega) ca
    by_cases cb : (B.length : Int) > 0
    · have er : frameT A B = ⟨#[124]⟩ ++ (⟨#[32]⟩ ++ joinB (B.map tt)) := by rw [join_tail _ (len_ne cb)]; unfold frameT; rw [ha0, show headB (([] : List S26).map tt) = ⟨#[]⟩ from rfl, pme]
      rw [er]
      refine Ev.step (f := fun k => (impl_shown.f k B).bind fun u => if 1 + u.size ≤ 9223372036854775807 then (if 1 + ((⟨#[32]⟩ : ByteArray) ++ u).size ≤ 9223372036854775807 then some ((⟨#[124]⟩ : ByteArray) ++ ((⟨#[32]⟩ : ByteArray) ++ u)) else none) else none) (fun k => ?_)
        (Ev.bind (f := fun k u => if 1 + u.size ≤ 9223372036854775807 then (if 1 + ((⟨#[32]⟩ : ByteArray) ++ u).size ≤ 9223372036854775807 then some ((⟨#[124]⟩ : ByteArray) ++ ((⟨#[32]⟩ : ByteArray) ++ u)) else none) else none) (shown_f B hB hb) (Ev.congr (f := fun _ => some _) (fun k => by rw [if_pos (by omega), if_pos (by rw [ByteArray.size_append]; omega)]) (Ev.now _)))
      rw [impl_j0_eq, if_neg (by simp), if_neg ca, if_pos cb]
    · have hb0 : B = [] := by
        cases B with
        | nil => rfl
        | cons x r => exact absurd (show ((x :: r).length : Int) > 0 by simp only [List.length_cons]; omega) cb
      have er : frameT A B = ⟨#[124]⟩ := by unfold frameT; rw [ha0, hb0]; rfl
      rw [er]
      refine Ev.step (f := fun _ => some ⟨#[124]⟩) (fun k => ?_) (Ev.now _)
      rw [impl_j0_eq, if_neg (by simp), if_neg ca, if_neg cb]
theorem impl_frame (A B : List S26) (hA : ∀ x ∈ A, TOk x) (hB : ∀ x ∈ B, TOk x) : Ev (fun k => impl_FrameShown.f k A B) (if A.length ≤ 400 ∧ B.length ≤ 400 then frameT A B else ⟨#[]⟩) := by
  have no : Ev (fun k => impl_FrameShown.j0 k true A B) (⟨#[]⟩ : ByteArray) := Ev.step (f := fun _ => some ⟨#[]⟩) (fun k => by rw [impl_j0_eq, if_pos rfl]) (Ev.now _)
  by_cases ca : A.length ≤ 400
  · by_cases cb : B.length ≤ 400
    · rw [if_pos ⟨ca, cb⟩]
      refine Ev.congr (fun k => ?_) (impl_j0 A B hA ca hB cb)
      unfold impl_FrameShown.f impl_Type.f
      rw [show decide ((A.length : Int) ≤ 400) = true from decide_eq_true (by omega), show decide ((B.length : Int) ≤ 400) = true from decide_eq_true (by omega)]
      rfl
    · rw [if_neg (by omega)]
      refine Ev.congr (fun k => ?_) no
      unfold impl_FrameShown.f impl_Type.f
      rw [show decide ((A.length : Int) ≤ 400) = true from decide_eq_true (by omega), show decide ((B.length : Int) ≤ 400) = false from decide_eq_false (by omega)]
      rfl
  · rw [if_neg (by omega)]
    refine Ev.congr (fun k => ?_) no
    unfold impl_FrameShown.f impl_Type.f
    rw [show decide ((A.length : Int) ≤ 400) = false from decide_eq_false (by omega)]
    rfl
theorem tok_map (a : List S23) (ho : ∀ x ∈ a, ok23 x) (h : ∀ x ∈ a, x.f1.size ≤ 1048576) : ∀ y ∈ a.map cType, TOk y := by
  intro y hy
  obtain ⟨x, hx, rfl⟩ := List.mem_map.mp hy
  obtain ⟨_, _, o2⟩ := ho x hx
  exact ⟨h x hx, i64_in o2⟩
theorem FnExactFrameShown : laws_FnExactFrameShown.Pure := by
  intro x ok
  obtain ⟨⟨a0, a1⟩, ⟨b0, b1⟩⟩ := ok
  have hz : SzOk (fun k => laws_szFrame.f k x.f0 x.f1 1048576) 1048576 ((x.f0.length ≤ 1048576 ∧ ∀ y ∈ x.f0, y.f1.size ≤ 1048576) ∧ (x.f1.length ≤ 1048576 ∧ ∀ y ∈ x.f1, y.f1.size ≤ 1048576)) :=
    SzOk.mono (SzOk.bind (g := fun k t => (laws_szTypeS.f k x.f1 t).bind fun t => if t < 0 then some (-1) else some t) (sz_TypeS x.f0 a0 a1 1048576 (by omega) (by omega)) (fun v a b => SzOk.bind (g := fun k t => some t) (sz_TypeS x.f1 b0 b1 v a (by omega)) (fun v a b => SzOk.done a))) (fun k => rfl) (fun h => ⟨h.1, h.2.1⟩)
  obtain ⟨v, hv, hb⟩ := hz
  suffices Ev (fun k => laws_FnExactFrameShown.f k x.f0 x.f1) true by
    obtain ⟨K, hK⟩ := this
    exact ⟨K, hK K (Nat.le_refl _)⟩
  refine Ev.congr (fun k => rfl) (Ev.bind hv ?_)
  rcases hb with hb | ⟨v0, v1, hA, hB⟩
  · exact Ev.congr (f := fun _ => some true) (fun k => if_pos hb) (Ev.now _)
  refine Ev.congr (fun k => if_neg (by omega)) ?_
  have t0 : Ev (fun k => laws_toFrame.f k x.f0 x.f1) (x.f0.map cType, x.f1.map cType) :=
    Ev.congr (fun k => rfl) (Ev.bind (f := fun k t => (laws_toTypeS.f k x.f1).bind fun u => some (t, u)) (to_TypeS x.f0 hA.1) (Ev.bind (f := fun k u => some (x.f0.map cType, u)) (to_TypeS x.f1 hB.1) (Ev.now _)))
  have kA := tok_map x.f0 a1 hA.2
  have kB := tok_map x.f1 b1 hB.2
  have ex : Ev (fun k => laws_eqFrame.f k (x.f0.map cType) (x.f1.map cType) (x.f0.map cType) (x.f1.map cType)) true := by
    refine EvIff.true_ (P := (x.f0.map cType = x.f0.map cType) ∧ (x.f1.map cType = x.f1.map cType) ∧ True) ?_ ⟨rfl, rfl, trivial⟩
    unfold laws_eqFrame.f
    exact EvIff.bind (eqv_TypeS _ _ (by rw [List.length_map]; exact hA.1)) (EvIff.bind (eqv_TypeS _ _ (by rw [List.length_map]; exact hB.1)) EvIff.yes)
  exact Ev.bind t0 (Ev.bind (spec_frame _ _ kA kB) (Ev.bind t0 (Ev.bind (impl_frame _ _ kA kB) (Ev.congr (fun k => if_pos rfl) (Ev.bind t0 (Ev.bind ex (Ev.congr (f := fun _ => some true) (fun k => if_pos rfl) (Ev.now _))))))))

end Go.Proofs.YtdfnljchoomliaaDoor.Pure
