/- The program's ClassSame returns what the reference's returns, for every two classes that the model can hold. -/
import Derived.Test.YtlflbmbcjjegaaaPFnExactClassSamex12
namespace Go.Proofs.Ytlflbmbcjjegaaa.Pure
open Go.RowKit Go.Proofs.Ytlflbmbcjjegaaa.PFnExactClassSame Go.Proofs.YtlflbmbcjjegaaaW.PrintWords Go.Proofs.YtlflbmbcjjegaaaW.PrintLast
set_option linter.unusedVariables false
set_option linter.unusedSimpArgs false

theorem rdOf_at {α : Type} (d : α) (l : List α) (i : Int) (h : i.toNat < l.length) : rdOf d l i = l[i.toNat] := by
  simp [rdOf, List.getD_eq_getElem?_getD, List.getElem?_eq_getElem h]
/-- A list that is filled from the left. -/
theorem fill_end {α : Type} (l acc : List α) (hl : acc.length = l.length) (h : ∀ j, j < l.length → acc[j]? = l[j]?) : acc = l := by
  apply List.ext_getElem?
  intro j
  by_cases hj : j < l.length
  · exact h j hj
  · rw [List.getElem?_eq_none (by omega), List.getElem?_eq_none (by omega)]
theorem fill_step {α : Type} (l acc : List α) (i : Nat) (v : α) (hl : acc.length = l.length) (hi : i < l.length) (hv : l[i]? = some v) (h : ∀ j, j < i → acc[j]? = l[j]?) : ∀ j, j < i + 1 → (acc.set i v)[j]? = l[j]? := by
  intro j hj
  by_cases e : j = i
  · subst e; rw [List.getElem?_set_self (by omega), hv]
  · rw [List.getElem?_set_ne (by omega)]; exact h j (by omega)
theorem ev_le {α : Type} {g : Nat → Option α} {r : α} (h : Ev g r) : ∃ K, ∀ k, K ≤ k → g k = some r := h

/-- A bool that is told by a proposition. -/
def EvIff (g : Nat → Option Bool) (P : Prop) : Prop := ∃ r, Ev g r ∧ (r = true ↔ P)
theorem EvIff.iff {g : Nat → Option Bool} {P Q : Prop} (h : EvIff g P) (e : P ↔ Q) : EvIff g Q := by
  obtain ⟨r, h1, h2⟩ := h
  exact ⟨r, h1, h2.trans e⟩
theorem EvIff.congr {g f : Nat → Option Bool} {P : Prop} (e : ∀ k, g k = f k) (h : EvIff f P) : EvIff g P := by
  obtain ⟨r, h1, h2⟩ := h
  exact ⟨r, Ev.congr e h1, h2⟩
theorem EvIff.step {g f : Nat → Option Bool} {P : Prop} (e : ∀ k, g (k + 1) = f k) (h : EvIff f P) : EvIff g P := by
  obtain ⟨r, h1, h2⟩ := h
  exact ⟨r, Ev.step e h1, h2⟩
theorem EvIff.yes : EvIff (fun _ => some true) True := ⟨true, Ev.now _, by simp⟩
theorem EvIff.no : EvIff (fun _ => some false) False := ⟨false, Ev.now _, by simp⟩
theorem EvIff.val (b : Bool) : EvIff (fun _ => some b) (b = true) := ⟨b, Ev.now _, Iff.rfl⟩
theorem EvIff.ite {c : Prop} [Decidable c] {g : Nat → Option Bool} {P : Prop} (h : EvIff g P) : EvIff (fun k => if c then g k else some false) (c ∧ P) := by
  by_cases hc : c
  · exact EvIff.iff (EvIff.congr (fun k => if_pos hc) h) (by simp [hc])
  · exact EvIff.iff (EvIff.congr (f := fun _ => some false) (fun k => if_neg hc) EvIff.no) (by simp [hc])
theorem EvIff.iten {c : Prop} [Decidable c] {g : Nat → Option Bool} {P : Prop} (h : EvIff g P) : EvIff (fun k => if c then some false else g k) (¬ c ∧ P) := by
  by_cases hc : c
  · exact EvIff.iff (EvIff.congr (f := fun _ => some false) (fun k => if_pos hc) EvIff.no) (by simp [hc])
  · exact EvIff.iff (EvIff.congr (fun k => if_neg hc) h) (by simp [hc])
theorem EvIff.bind {g h : Nat → Option Bool} {P Q : Prop} (hh : EvIff h Q) (hg : EvIff g P) : EvIff (fun k => (h k).bind fun t => if t = true then g k else some false) (Q ∧ P) := by
  obtain ⟨r, h1, h2⟩ := hh
  obtain ⟨s, g1, g2⟩ := hg
  cases r with
  | true => exact ⟨s, Ev.bind (f := fun k t => if t = true then g k else some false) h1 (Ev.congr (fun k => if_pos rfl) g1), by rw [g2, ← h2]; simp⟩
  | false => exact ⟨false, Ev.bind (f := fun k t => if t = true then g k else some false) h1 (Ev.congr (f := fun _ => some false) (fun k => if_neg (by simp)) (Ev.now _)), by rw [← h2]; simp⟩
theorem EvIff.last {h : Nat → Option Bool} {Q : Prop} (hh : EvIff h Q) : EvIff (fun k => (h k).bind fun t => some t) Q := by
  obtain ⟨r, h1, h2⟩ := hh
  exact ⟨r, Ev.bind (f := fun _ t => some t) h1 (Ev.now _), h2⟩
theorem EvIff.same {g h : Nat → Option Bool} {P : Prop} (hg : EvIff g P) (hh : EvIff h P) : ∃ r, Ev g r ∧ Ev h r := by
  obtain ⟨r, h1, h2⟩ := hg
  obtain ⟨s, g1, g2⟩ := hh
  have e : r = s := Bool.eq_iff_iff.mpr (h2.trans g2.symm)
  subst e
  exact ⟨r, h1, g1⟩
theorem EvIff.true_ {g : Nat → Option Bool} {P : Prop} (h : EvIff g P) (p : P) : Ev g true := by
  obtain ⟨r, h1, h2⟩ := h
  rw [h2.mpr p] at h1; exact h1
theorem toList_eq (a b : ByteArray) : a.toList = b.toList ↔ a = b := ⟨fun h => WideShapes.bytes_inj (by rw [← Lib.toList_data, ← Lib.toList_data]; exact h), fun h => by rw [h]⟩
theorem drop_cons_iff {α : Type} {a b : List α} {i : Nat} (ha : i < a.length) (hb : i < b.length) : a.drop i = b.drop i ↔ a[i] = b[i] ∧ a.drop (i + 1) = b.drop (i + 1) := by
  rw [List.drop_eq_getElem_cons ha, List.drop_eq_getElem_cons hb]
  constructor
  · intro h; exact List.cons.inj h
  · intro h; rw [h.1, h.2]
theorem getD_at {α : Type} {a : List α} {z : α} {i : Nat} (h : i < a.length) : a.getD (i : Int).toNat z = a[i] := by
  simp [List.getD_eq_getElem?_getD, List.getElem?_eq_getElem h]
theorem up64 {i n : Nat} (h : i < n) (hn : n ≤ 4611686018427387904) : wrap64 ((i : Int) + 1) = ((i + 1 : Nat) : Int) := by unfold wrap64; omega
/-- The loop of an equality over lists, by a function on the elements. -/
theorem eq_list {α : Type} {z : α} {L : Nat → List α → List α → Int → Option Bool} {E : Nat → α → α → Option Bool}
    (hL : ∀ k a b i, L (k + 1) a b i = if i < (a.length : Int) then (if 0 ≤ i then (if i < (b.length : Int) then ((E k (a.getD i.toNat z) (b.getD i.toNat z)).bind fun t => (if t = true then (L k a b (wrap64 (i + 1))) else (some false))) else none) else none) else some true)
    (a b : List α) (hE : ∀ x ∈ a, ∀ y ∈ b, EvIff (fun k => E k x y) (x = y)) (hl : a.length = b.length) (hn : a.length ≤ 4611686018427387904) : EvIff (fun k => L k a b 0) (a = b) := by
  have key : ∀ (d i : Nat), i + d = a.length → EvIff (fun k => L k a b (i : Int)) (a.drop i = b.drop i) := by
    intro d
    induction d with
    | zero =>
      intro i hd
      refine EvIff.iff (P := True) (EvIff.step (f := fun _ => some true) (fun k => by rw [hL, if_neg (by omega)]) EvIff.yes) ?_
      rw [List.drop_eq_nil_of_le (by omega), List.drop_eq_nil_of_le (by omega)]; simp
    | succ d ih =>
      intro i hd
      have ha : i < a.length := by omega
      have hb : i < b.length := by omega
      rw [drop_cons_iff ha hb]
      refine EvIff.step (f := fun k => (E k a[i] b[i]).bind fun t => (if t = true then (L k a b ((i + 1 : Nat) : Int)) else (some false))) (fun k => ?_) (EvIff.bind (hE _ (List.getElem_mem ha) _ (List.getElem_mem hb)) (ih (i + 1) (by omega)))
      rw [hL, if_pos (by omega), if_pos (by omega), if_pos (by omega), getD_at ha, getD_at hb, up64 ha hn]
  exact key a.length 0 (by omega)
/-- The loop of slices.Equal, whose elements are told apart by a Bool. -/
theorem equal_list {α : Type} {z : α} {L : Nat → List α → List α → Int → Int → Option Bool} {ne : α → α → Bool}
    (hL : ∀ k a b n i, L (k + 1) a b n i = if i < n then (if 0 ≤ i then (if i < (a.length : Int) then (if i < (b.length : Int) then (if (ne (a.getD i.toNat z) (b.getD i.toNat z)) = true then (some false) else (L k a b n (wrap64 (i + 1)))) else none) else none) else none) else some true)
    (a b : List α) (hE : ∀ x y, ne x y = true ↔ x ≠ y) (hl : a.length = b.length) (hn : a.length ≤ 4611686018427387904) : EvIff (fun k => L k a b (a.length : Int) 0) (a = b) := by
  have key : ∀ (d i : Nat), i + d = a.length → EvIff (fun k => L k a b (a.length : Int) (i : Int)) (a.drop i = b.drop i) := by
    intro d
    induction d with
    | zero =>
      intro i hd
      refine EvIff.iff (P := True) (EvIff.step (f := fun _ => some true) (fun k => by rw [hL, if_neg (by omega)]) EvIff.yes) ?_
      rw [List.drop_eq_nil_of_le (by omega), List.drop_eq_nil_of_le (by omega)]; simp
    | succ d ih =>
      intro i hd
      have ha : i < a.length := by omega
      have hb : i < b.length := by omega
      rw [drop_cons_iff ha hb]
      refine EvIff.iff (EvIff.step (f := fun k => if (ne a[i] b[i]) = true then (some false) else (L k a b (a.length : Int) ((i + 1 : Nat) : Int))) (fun k => ?_) (EvIff.iten (ih (i + 1) (by omega)))) (by rw [hE]; simp)
      rw [hL, if_pos (by omega), if_pos (by omega), if_pos (by omega), if_pos (by omega), getD_at ha, getD_at hb, up64 ha hn]
  exact key a.length 0 (by omega)
/-- The loop that reckons what a list takes. -/
theorem sz_list {α : Type} {z : α} {L : Nat → List α → Int → Int → Option Int} {Z : Nat → α → Int → Option Int} {B : α → Prop}
    (hL : ∀ k a m i, L (k + 1) a m i = if i < (a.length : Int) then (if 0 ≤ i then ((Z k (a.getD i.toNat z) m).bind fun t => (if t < 0 then (some (-1)) else (L k a t (wrap64 (i + 1))))) else none) else some m)
    (a : List α) (hn : a.length ≤ 4611686018427387904) (hZ : ∀ x ∈ a, ∀ m, 0 ≤ m → m ≤ 1048576 → ∃ v, Ev (fun k => Z k x m) v ∧ (v < 0 ∨ (0 ≤ v ∧ v ≤ m ∧ B x)))
    (m : Int) (h0 : 0 ≤ m) (h1 : m ≤ 1048576) : ∃ v, Ev (fun k => L k a m 0) v ∧ (v < 0 ∨ (0 ≤ v ∧ v ≤ m ∧ ∀ x ∈ a, B x)) := by
  have key : ∀ (d i : Nat) (m : Int), 0 ≤ m → m ≤ 1048576 → i + d = a.length → ∃ v, Ev (fun k => L k a m (i : Int)) v ∧ (v < 0 ∨ (0 ≤ v ∧ v ≤ m ∧ ∀ j, i ≤ j → (h : j < a.length) → B a[j])) := by
    intro d
    induction d with
    | zero =>
      intro i m h0 h1 hd
      exact ⟨m, Ev.step (f := fun _ => some m) (fun k => by rw [hL, if_neg (by omega)]) (Ev.now m), .inr ⟨h0, Int.le_refl _, fun j h2 h3 => by omega⟩⟩
    | succ d ih =>
      intro i m h0 h1 hd
      have ha : i < a.length := by omega
      obtain ⟨v, hv, hb⟩ := hZ _ (List.getElem_mem ha) m h0 h1
      have st : ∀ k, L (k + 1) a m (i : Int) = (Z k a[i] m).bind fun t => (if t < 0 then (some (-1)) else (L k a t ((i + 1 : Nat) : Int))) := fun k => by
        rw [hL, if_pos (by omega), if_pos (by omega), getD_at ha, up64 ha hn]
      rcases hb with hb | ⟨b0, b1, b2⟩
      · exact ⟨-1, Ev.step st (Ev.bind (f := fun k t => if t < 0 then (some (-1)) else (L k a t ((i + 1 : Nat) : Int))) hv (Ev.congr (f := fun _ => some (-1)) (fun k => by rw [if_pos hb]) (Ev.now _))), .inl (by omega)⟩
      · obtain ⟨u, hu, hc⟩ := ih (i + 1) v b0 (by omega) (by omega)
        refine ⟨u, Ev.step st (Ev.bind (f := fun k t => if t < 0 then (some (-1)) else (L k a t ((i + 1 : Nat) : Int))) hv (Ev.congr (fun k => by rw [if_neg (by omega)]) hu)), ?_⟩
        rcases hc with hc | ⟨c0, c1, c2⟩
        · exact .inl hc
        · refine .inr ⟨c0, by omega, fun j h2 h3 => ?_⟩
          by_cases e : j = i
          · subst e; exact b2
          · exact c2 j (by omega) h3
  obtain ⟨v, h2, h3⟩ := key a.length 0 m h0 h1 (by omega)
  refine ⟨v, h2, ?_⟩
  rcases h3 with h3 | ⟨h3, h4, h5⟩
  · exact .inl h3
  · refine .inr ⟨h3, h4, fun x hx => ?_⟩
    obtain ⟨j, hj, rfl⟩ := List.mem_iff_getElem.mp hx
    exact h5 j (by omega) hj
/-- The loop that copies a list element by element. -/
theorem to_list {α β γ : Type} {z : α} {L : Nat → List α → List β → Int → Option (List β)} {T : Nat → α → Option γ} {C : γ → β} {conv : α → β}
    (hL : ∀ k a c i, L (k + 1) a c i = if i < (a.length : Int) then (if 0 ≤ i then ((T k (a.getD i.toNat z)).bind fun t => (if i < (c.length : Int) then (L k a (c.set i.toNat (C t)) (wrap64 (i + 1))) else none)) else none) else some c)
    (a : List α) (hn : a.length ≤ 4611686018427387904) (hT : ∀ x ∈ a, ∃ t, Ev (fun k => T k x) t ∧ C t = conv x) (y : β) : Ev (fun k => L k a (List.replicate a.length y) 0) (a.map conv) := by
  have key : ∀ (d i : Nat) (c : List β), c.length = a.length → (∀ j, j < i → c[j]? = (a.map conv)[j]?) → i + d = a.length → Ev (fun k => L k a c (i : Int)) (a.map conv) := by
    intro d
    induction d with
    | zero =>
      intro i c hc h hd
      have e : c = a.map conv := fill_end _ _ (by simpa using hc) (fun j hj => h j (by simp at hj; omega))
      exact Ev.step (f := fun _ => some (a.map conv)) (fun k => by rw [hL, if_neg (by omega), e]) (Ev.now _)
    | succ d ih =>
      intro i c hc h hd
      have ha : i < a.length := by omega
      obtain ⟨t, ht, ht2⟩ := hT _ (List.getElem_mem ha)
      have hs : ∀ j, j < i + 1 → (c.set i (C t))[j]? = (a.map conv)[j]? := fill_step _ c i (C t) (by simpa using hc) (by simpa using ha) (by rw [ht2]; simp [ha]) h
      refine Ev.step (f := fun k => (T k a[i]).bind fun t => (L k a (c.set i (C t)) ((i + 1 : Nat) : Int))) (fun k => ?_) (Ev.bind (f := fun k t => L k a (c.set i (C t)) ((i + 1 : Nat) : Int)) ht (ih (i + 1) _ (by simpa using hc) hs (by omega)))
      rw [hL, if_pos (by omega), if_pos (by omega), getD_at ha, up64 ha hn]
      congr 1
      funext t
      rw [if_pos (by omega)]; rfl
  exact key a.length 0 _ (by simp) (fun j hj => absurd hj (by omega)) (by omega)
/-- What is left, less a size. -/
theorem less64 {m : Int} {n : Nat} (h0 : 0 ≤ m) (h1 : m ≤ 1048576) (hn : n ≤ 9223372036854775807) : wrap64 (m - (n : Int)) = m - (n : Int) := by unfold wrap64; omega
/-- What is told of a size: it is refused, or what is left is told with what is known. -/
def SzOk (g : Nat → Option Int) (m : Int) (B : Prop) : Prop := ∃ v, Ev g v ∧ (v < 0 ∨ (0 ≤ v ∧ v ≤ m ∧ B))
theorem SzOk.size {m : Int} {n : Nat} {g : Int → Nat → Option Int} {B : Prop} (h0 : 0 ≤ m) (h1 : m ≤ 1048576) (hn : n ≤ 9223372036854775807) (h : ∀ v, 0 ≤ v → v ≤ m → v = m - (n : Int) → SzOk (g v) v B) :
    SzOk (fun k => if wrap64 (m - (n : Int)) < 0 then some (-1) else g (wrap64 (m - (n : Int))) k) m ((n : Int) ≤ 1048576 ∧ B) := by
  rw [less64 h0 h1 hn]
  by_cases c : m - (n : Int) < 0
  · exact ⟨-1, Ev.congr (f := fun _ => some (-1)) (fun k => by rw [if_pos c]) (Ev.now _), .inl (by omega)⟩
  · obtain ⟨v, h2, h3⟩ := h (m - (n : Int)) (by omega) (by omega) rfl
    refine ⟨v, Ev.congr (fun k => by rw [if_neg c]) h2, ?_⟩
    rcases h3 with h3 | ⟨h3, h4, h5⟩
    · exact .inl h3
    · exact .inr ⟨h3, by omega, by omega, h5⟩
theorem SzOk.bind {m : Int} {f : Nat → Option Int} {g : Nat → Int → Option Int} {A B : Prop} (hf : SzOk f m A) (h : ∀ v, 0 ≤ v → v ≤ m → SzOk (fun k => g k v) v B) :
    SzOk (fun k => (f k).bind fun t => if t < 0 then some (-1) else g k t) m (A ∧ B) := by
  obtain ⟨v, hv, hb⟩ := hf
  rcases hb with hb | ⟨b0, b1, b2⟩
  · exact ⟨-1, Ev.bind (f := fun k t => if t < 0 then (some (-1)) else g k t) hv (Ev.congr (f := fun _ => some (-1)) (fun k => by rw [if_pos hb]) (Ev.now _)), .inl (by omega)⟩
  · obtain ⟨u, hu, hc⟩ := h v b0 b1
    refine ⟨u, Ev.bind (f := fun k t => if t < 0 then (some (-1)) else g k t) hv (Ev.congr (fun k => by rw [if_neg (by omega)]) hu), ?_⟩
    rcases hc with hc | ⟨c0, c1, c2⟩
    · exact .inl hc
    · exact .inr ⟨c0, by omega, b2, c2⟩
theorem SzOk.done {m : Int} (h0 : 0 ≤ m) : SzOk (fun _ => some m) m True := ⟨m, Ev.now _, .inr ⟨h0, Int.le_refl _, trivial⟩⟩
theorem SzOk.mono {m : Int} {f g : Nat → Option Int} {A B : Prop} (h : SzOk f m A) (e : ∀ k, g k = f k) (i : A → B) : SzOk g m B := by
  obtain ⟨v, h1, h2⟩ := h
  refine ⟨v, Ev.congr e h1, ?_⟩
  rcases h2 with h2 | ⟨h2, h3, h4⟩
  · exact .inl h2
  · exact .inr ⟨h2, h3, i h4⟩
theorem EvIff.ite2 {c : Prop} [Decidable c] {g h : Nat → Option Bool} {P Q : Prop} (hg : EvIff g P) (hh : EvIff h Q) : EvIff (fun k => if c then g k else h k) ((c ∧ P) ∨ (¬ c ∧ Q)) := by
  by_cases hc : c
  · exact EvIff.iff (EvIff.congr (fun k => if_pos hc) hg) (by simp [hc])
  · exact EvIff.iff (EvIff.congr (fun k => if_neg hc) hh) (by simp [hc])
/-- A loop that looks for a difference, and what follows it. -/
theorem neq_then {α : Type} {z : α} {L : Nat → Int → Option Bool} {R : Nat → Option Bool} {ne : α → α → Bool} {P : Prop} (a b : List α)
    (hL : ∀ k i, L (k + 1) i = if i < (a.length : Int) then (if 0 ≤ i then (if i < (b.length : Int) then (if (ne (a.getD i.toNat z) (b.getD i.toNat z)) = true then (some false) else (L k (wrap64 (i + 1)))) else none) else none) else R k)
    (hE : ∀ x y, ne x y = true ↔ x ≠ y) (hR : EvIff R P) (hl : a.length = b.length) (hn : a.length ≤ 4611686018427387904) : EvIff (fun k => L k 0) (a = b ∧ P) := by
  have key : ∀ (d i : Nat), i + d = a.length → EvIff (fun k => L k (i : Int)) (a.drop i = b.drop i ∧ P) := by
    intro d
    induction d with
    | zero =>
      intro i hd
      refine EvIff.iff (P := P) (EvIff.step (f := R) (fun k => by rw [hL, if_neg (by omega)]) hR) ?_
      rw [List.drop_eq_nil_of_le (by omega), List.drop_eq_nil_of_le (by omega)]; simp
    | succ d ih =>
      intro i hd
      have ha : i < a.length := by omega
      have hb : i < b.length := by omega
      rw [drop_cons_iff ha hb]
      refine EvIff.iff (EvIff.step (f := fun k => if (ne a[i] b[i]) = true then (some false) else (L k ((i + 1 : Nat) : Int))) (fun k => ?_) (EvIff.iten (ih (i + 1) (by omega)))) (by rw [hE]; simp [and_assoc])
      rw [hL, if_pos (by omega), if_pos (by omega), if_pos (by omega), getD_at ha, getD_at hb, up64 ha hn]
  exact key a.length 0 (by omega)
/-- The same, by a function on the elements. -/
theorem eq_then {α : Type} {z : α} {L : Nat → Int → Option Bool} {R : Nat → Option Bool} {E : Nat → α → α → Option Bool} {P : Prop} (a b : List α)
    (hL : ∀ k i, L (k + 1) i = if i < (a.length : Int) then (if 0 ≤ i then (if i < (b.length : Int) then ((E k (a.getD i.toNat z) (b.getD i.toNat z)).bind fun t => (if t = true then (L k (wrap64 (i + 1))) else (some false))) else none) else none) else R k)
    (hE : ∀ x ∈ a, ∀ y ∈ b, EvIff (fun k => E k x y) (x = y)) (hR : EvIff R P) (hl : a.length = b.length) (hn : a.length ≤ 4611686018427387904) : EvIff (fun k => L k 0) (a = b ∧ P) := by
  have key : ∀ (d i : Nat), i + d = a.length → EvIff (fun k => L k (i : Int)) (a.drop i = b.drop i ∧ P) := by
    intro d
    induction d with
    | zero =>
      intro i hd
      refine EvIff.iff (P := P) (EvIff.step (f := R) (fun k => by rw [hL, if_neg (by omega)]) hR) ?_
      rw [List.drop_eq_nil_of_le (by omega), List.drop_eq_nil_of_le (by omega)]; simp
    | succ d ih =>
      intro i hd
      have ha : i < a.length := by omega
      have hb : i < b.length := by omega
      rw [drop_cons_iff ha hb]
      refine EvIff.iff (EvIff.step (f := fun k => (E k a[i] b[i]).bind fun t => (if t = true then (L k ((i + 1 : Nat) : Int)) else (some false))) (fun k => ?_) (EvIff.bind (hE _ (List.getElem_mem ha) _ (List.getElem_mem hb)) (ih (i + 1) (by omega)))) (by simp [and_assoc])
      rw [hL, if_pos (by omega), if_pos (by omega), if_pos (by omega), getD_at ha, getD_at hb, up64 ha hn]
  exact key a.length 0 (by omega)
theorem EvIff.iteP {c : Prop} [Decidable c] {g h : Nat → Option Bool} {P : Prop} (hc : c) (hg : EvIff g P) : EvIff (fun k => if c then g k else h k) P := EvIff.congr (fun k => if_pos hc) hg
theorem EvIff.iteN {c : Prop} [Decidable c] {g h : Nat → Option Bool} {P : Prop} (hc : ¬ c) (hh : EvIff h P) : EvIff (fun k => if c then g k else h k) P := EvIff.congr (fun k => if_neg hc) hh

theorem eqv_Field (x y : S123) : EvIff (fun k => laws_eqField.f x.f0 x.f1 x.f2 y.f0 y.f1 y.f2) (x = y) := by
  obtain ⟨a0, a1, a2⟩ := x
  obtain ⟨b0, b1, b2⟩ := y
  unfold laws_eqField.f
  refine EvIff.iff (EvIff.ite (EvIff.ite (EvIff.iten EvIff.yes))) ?_
  rw [toList_eq, toList_eq]
  simp
theorem eqv_FieldS (a b : List S123) (ha : a.length ≤ 1048576) : EvIff (fun k => laws_eqFieldS.f k a b) (a = b) := by
  by_cases hl : a.length = b.length
  · refine EvIff.congr (f := fun k => laws_eqFieldS.l0 k a b 0) (fun k => by unfold laws_eqFieldS.f; rw [if_pos (by omega)]) ?_
    exact eq_list (z := z123) (E := fun k x y => laws_eqField.f x.f0 x.f1 x.f2 y.f0 y.f1 y.f2) (fun k a b i => rfl) a b (fun x _ y _ => eqv_Field x y) hl (by omega)
  · exact EvIff.iff (EvIff.congr (f := fun _ => some false) (fun k => by unfold laws_eqFieldS.f; rw [if_neg (by omega)]) EvIff.no) ⟨fun h => h.elim, fun h => hl (congrArg List.length h)⟩
theorem eqv_Ins (x y : S156) : EvIff (fun k => laws_eqIns.f x.f0 x.f1 x.f2 x.f3 x.f4 y.f0 y.f1 y.f2 y.f3 y.f4) (x = y) := by
  obtain ⟨a0, a1, a2, a3, a4⟩ := x
  obtain ⟨b0, b1, b2, b3, b4⟩ := y
  unfold laws_eqIns.f
  refine EvIff.iff (EvIff.ite (EvIff.ite (EvIff.ite (EvIff.ite (EvIff.ite EvIff.yes))))) ?_
  rw [toList_eq, toList_eq, toList_eq]
  simp
theorem eqv_InsS (a b : List S156) (ha : a.length ≤ 1048576) : EvIff (fun k => laws_eqInsS.f k a b) (a = b) := by
  by_cases hl : a.length = b.length
  · refine EvIff.congr (f := fun k => laws_eqInsS.l0 k a b 0) (fun k => by unfold laws_eqInsS.f; rw [if_pos (by omega)]) ?_
    exact eq_list (z := z156) (E := fun k x y => laws_eqIns.f x.f0 x.f1 x.f2 x.f3 x.f4 y.f0 y.f1 y.f2 y.f3 y.f4) (fun k a b i => rfl) a b (fun x _ y _ => eqv_Ins x y) hl (by omega)
  · exact EvIff.iff (EvIff.congr (f := fun _ => some false) (fun k => by unfold laws_eqInsS.f; rw [if_neg (by omega)]) EvIff.no) ⟨fun h => h.elim, fun h => hl (congrArg List.length h)⟩
theorem eqv_Handler (x y : S160) : EvIff (fun k => laws_eqHandler.f x.f0 x.f1 x.f2 x.f3 y.f0 y.f1 y.f2 y.f3) (x = y) := by
  obtain ⟨a0, a1, a2, a3⟩ := x
  obtain ⟨b0, b1, b2, b3⟩ := y
  unfold laws_eqHandler.f
  refine EvIff.iff (EvIff.ite (EvIff.ite (EvIff.ite (EvIff.ite EvIff.yes)))) ?_
  rw [toList_eq]
  simp
theorem eqv_HandlerS (a b : List S160) (ha : a.length ≤ 1048576) : EvIff (fun k => laws_eqHandlerS.f k a b) (a = b) := by
  by_cases hl : a.length = b.length
  · refine EvIff.congr (f := fun k => laws_eqHandlerS.l0 k a b 0) (fun k => by unfold laws_eqHandlerS.f; rw [if_pos (by omega)]) ?_
    exact eq_list (z := z160) (E := fun k x y => laws_eqHandler.f x.f0 x.f1 x.f2 x.f3 y.f0 y.f1 y.f2 y.f3) (fun k a b i => rfl) a b (fun x _ y _ => eqv_Handler x y) hl (by omega)
  · exact EvIff.iff (EvIff.congr (f := fun _ => some false) (fun k => by unfold laws_eqHandlerS.f; rw [if_neg (by omega)]) EvIff.no) ⟨fun h => h.elim, fun h => hl (congrArg List.length h)⟩
theorem eqv_Method (x y : S84) (h7 : x.f7.length ≤ 1048576) (h8 : x.f8.length ≤ 1048576) : EvIff (fun k => laws_eqMethod.f k x.f0 x.f1 x.f2 x.f3 x.f4 x.f5 x.f6 x.f7 x.f8 y.f0 y.f1 y.f2 y.f3 y.f4 y.f5 y.f6 y.f7 y.f8) (x = y) := by
  obtain ⟨a0, a1, a2, a3, a4, a5, a6, a7, a8⟩ := x
  obtain ⟨b0, b1, b2, b3, b4, b5, b6, b7, b8⟩ := y
  unfold laws_eqMethod.f
  refine EvIff.iff (EvIff.ite (EvIff.ite (EvIff.iten (EvIff.iten (EvIff.iten (EvIff.ite (EvIff.ite (EvIff.bind (eqv_InsS _ _ h7) (EvIff.bind (eqv_HandlerS _ _ h8) EvIff.yes))))))))) ?_
  rw [toList_eq, toList_eq]
  simp
/-- How long a method's lists are. -/
def MSz (x : S84) : Prop := x.f7.length ≤ 1048576 ∧ x.f8.length ≤ 1048576
theorem eqv_MethodS (a b : List S84) (ha : a.length ≤ 1048576) (hm : ∀ x ∈ a, MSz x) : EvIff (fun k => laws_eqMethodS.f k a b) (a = b) := by
  by_cases hl : a.length = b.length
  · refine EvIff.congr (f := fun k => laws_eqMethodS.l0 k a b 0) (fun k => by unfold laws_eqMethodS.f; rw [if_pos (by omega)]) ?_
    exact eq_list (z := z84) (E := fun k x y => laws_eqMethod.f k x.f0 x.f1 x.f2 x.f3 x.f4 x.f5 x.f6 x.f7 x.f8 y.f0 y.f1 y.f2 y.f3 y.f4 y.f5 y.f6 y.f7 y.f8) (fun k a b i => rfl) a b (fun x hx y _ => eqv_Method x y (hm x hx).1 (hm x hx).2) hl (by omega)
  · exact EvIff.iff (EvIff.congr (f := fun _ => some false) (fun k => by unfold laws_eqMethodS.f; rw [if_neg (by omega)]) EvIff.no) ⟨fun h => h.elim, fun h => hl (congrArg List.length h)⟩

def cField (x : S188) : S123 := ⟨x.f0, x.f1, x.f2⟩
def cIns (x : S199) : S156 := ⟨x.f0, x.f1, x.f2, x.f3, x.f4⟩
def cHandler (x : S201) : S160 := ⟨x.f0, x.f1, x.f2, x.f3⟩
def cMethod (x : S78) : S84 := ⟨x.f0, x.f1, x.f2, x.f3, x.f4, x.f5, x.f6, x.f7.map cIns, x.f8.map cHandler⟩
def LSz (x : S78) : Prop := x.f7.length ≤ 1048576 ∧ x.f8.length ≤ 1048576
theorem to_FieldS (a : List S188) (ha : a.length ≤ 1048576) : Ev (fun k => laws_toFieldS.f k a) (a.map cField) := by
  refine Ev.congr (f := fun k => laws_toFieldS.l0 k a (List.replicate a.length z123) 0) (fun k => ?_) (to_list (z := z188) (T := fun k x => laws_toField.f x.f0 x.f1 x.f2) (C := fun t => (⟨t.1, t.2.1, t.2.2⟩ : S123)) (fun k a c i => rfl) a (by omega) (fun x _ => ⟨_, Ev.now _, rfl⟩) _)
  unfold laws_toFieldS.f
  rw [if_pos (by omega), if_pos (by omega)]; rfl
theorem to_InsS (a : List S199) (ha : a.length ≤ 1048576) : Ev (fun k => laws_toInsS.f k a) (a.map cIns) := by
  refine Ev.congr (f := fun k => laws_toInsS.l0 k a (List.replicate a.length z156) 0) (fun k => ?_) (to_list (z := z199) (T := fun k x => laws_toIns.f x.f0 x.f1 x.f2 x.f3 x.f4) (C := fun t => (⟨t.1, t.2.1, t.2.2.1, t.2.2.2.1, t.2.2.2.2⟩ : S156)) (fun k a c i => rfl) a (by omega) (fun x _ => ⟨_, Ev.now _, rfl⟩) _)
  unfold laws_toInsS.f
  rw [if_pos (by omega), if_pos (by omega)]; rfl
theorem to_HandlerS (a : List S201) (ha : a.length ≤ 1048576) : Ev (fun k => laws_toHandlerS.f k a) (a.map cHandler) := by
  refine Ev.congr (f := fun k => laws_toHandlerS.l0 k a (List.replicate a.length z160) 0) (fun k => ?_) (to_list (z := z201) (T := fun k x => laws_toHandler.f x.f0 x.f1 x.f2 x.f3) (C := fun t => (⟨t.1, t.2.1, t.2.2.1, t.2.2.2⟩ : S160)) (fun k a c i => rfl) a (by omega) (fun x _ => ⟨_, Ev.now _, rfl⟩) _)
  unfold laws_toHandlerS.f
  rw [if_pos (by omega), if_pos (by omega)]; rfl
theorem to_Method (x : S78) (h : LSz x) : Ev (fun k => laws_toMethod.f k x.f0 x.f1 x.f2 x.f3 x.f4 x.f5 x.f6 x.f7 x.f8) (x.f0, x.f1, x.f2, x.f3, x.f4, x.f5, x.f6, x.f7.map cIns, x.f8.map cHandler) :=
  Ev.congr (fun k => rfl) (Ev.bind (f := fun k t => (laws_toHandlerS.f k x.f8).bind fun t2 => some (x.f0, x.f1, x.f2, x.f3, x.f4, x.f5, x.f6, t, t2)) (to_InsS _ h.1) (Ev.bind (f := fun k t2 => some (x.f0, x.f1, x.f2, x.f3, x.f4, x.f5, x.f6, x.f7.map cIns, t2)) (to_HandlerS _ h.2) (Ev.now _)))
theorem to_MethodS (a : List S78) (ha : a.length ≤ 1048576) (hm : ∀ x ∈ a, LSz x) : Ev (fun k => laws_toMethodS.f k a) (a.map cMethod) := by
  refine Ev.congr (f := fun k => laws_toMethodS.l0 k a (List.replicate a.length z84) 0) (fun k => ?_) (to_list (z := z78) (T := fun k x => laws_toMethod.f k x.f0 x.f1 x.f2 x.f3 x.f4 x.f5 x.f6 x.f7 x.f8) (C := fun t => (⟨t.1, t.2.1, t.2.2.1, t.2.2.2.1, t.2.2.2.2.1, t.2.2.2.2.2.1, t.2.2.2.2.2.2.1, t.2.2.2.2.2.2.2.1, t.2.2.2.2.2.2.2.2⟩ : S84)) (fun k a c i => rfl) a (by omega) (fun x hx => ⟨_, to_Method x (hm x hx), rfl⟩) _)
  unfold laws_toMethodS.f
  rw [if_pos (by omega), if_pos (by omega)]; rfl
theorem msz_map (a : List S78) (h : ∀ x ∈ a, LSz x) : ∀ y ∈ a.map cMethod, y.f7.length ≤ 1048576 ∧ y.f8.length ≤ 1048576 := by
  intro y hy
  obtain ⟨x, hx, rfl⟩ := List.mem_map.mp hy
  exact ⟨by simpa [cMethod] using (h x hx).1, by simpa [cMethod] using (h x hx).2⟩

theorem to_Class (n s : ByteArray) (f b : Bool) (fs : List S188) (ms : List S78) (h4 : fs.length ≤ 1048576) (h5 : ms.length ≤ 1048576) (hm : ∀ x ∈ ms, LSz x) :
    Ev (fun k => laws_toClass.f k n s f b fs ms) (n, s, f, b, fs.map cField, ms.map cMethod) :=
  Ev.congr (fun k => rfl) (Ev.bind (f := fun k t => (laws_toMethodS.f k ms).bind fun t2 => some (n, s, f, b, t, t2)) (to_FieldS _ h4) (Ev.bind (f := fun k t2 => some (n, s, f, b, fs.map cField, t2)) (to_MethodS _ h5 hm) (Ev.now _)))

theorem sz_Ins (x : S199) (h2 : x.f2.size ≤ maxLen) (h3 : x.f3.size ≤ maxLen) (h4 : x.f4.size ≤ maxLen) (m : Int) (h0 : 0 ≤ m) (h1 : m ≤ 1048576) :
    SzOk (fun k => laws_szIns.f x.f0 x.f1 x.f2 x.f3 x.f4 m) m (x.f2.size ≤ 1048576 ∧ x.f3.size ≤ 1048576 ∧ x.f4.size ≤ 1048576) := by
  unfold maxLen at h2 h3 h4
  refine SzOk.mono (SzOk.size (n := x.f2.size) (g := fun v _ => if wrap64 (v - (x.f3.size : Int)) < 0 then some (-1) else (if wrap64 (wrap64 (v - (x.f3.size : Int)) - (x.f4.size : Int)) < 0 then some (-1) else some (wrap64 (wrap64 (v - (x.f3.size : Int)) - (x.f4.size : Int))))) h0 h1 (by omega) (fun v a b _ => SzOk.size (n := x.f3.size) (g := fun v _ => if wrap64 (v - (x.f4.size : Int)) < 0 then some (-1) else some (wrap64 (v - (x.f4.size : Int)))) a (by omega) (by omega) (fun v a b _ => SzOk.size (n := x.f4.size) (g := fun v _ => some v) a (by omega) (by omega) (fun v a b _ => SzOk.done a)))) (fun k => rfl) (fun h => by omega)
theorem sz_InsS (a : List S199) (ha : a.length ≤ maxLen) (ho : ∀ x ∈ a, ok199 x) (m : Int) (h0 : 0 ≤ m) (h1 : m ≤ 1048576) :
    SzOk (fun k => laws_szInsS.f k a m) m (a.length ≤ 1048576 ∧ ∀ x ∈ a, x.f2.size ≤ 1048576 ∧ x.f3.size ≤ 1048576 ∧ x.f4.size ≤ 1048576) := by
  unfold maxLen at ha
  refine SzOk.mono (SzOk.size (n := a.length) (g := fun v k => laws_szInsS.l0 k a v 0) h0 h1 (by omega) (fun v p q _ => sz_list (z := z199) (Z := fun k x m => laws_szIns.f x.f0 x.f1 x.f2 x.f3 x.f4 m) (fun k a m i => rfl) a (by omega) (fun x hx m p q => sz_Ins x (ho x hx).2.2.1 (ho x hx).2.2.2.1 (ho x hx).2.2.2.2 m p q) v p (by omega))) (fun k => rfl) (fun h => ⟨by omega, h.2⟩)
theorem sz_Handler (x : S201) (h3 : x.f3.size ≤ maxLen) (m : Int) (h0 : 0 ≤ m) (h1 : m ≤ 1048576) :
    SzOk (fun k => laws_szHandler.f x.f0 x.f1 x.f2 x.f3 m) m (x.f3.size ≤ 1048576) := by
  unfold maxLen at h3
  refine SzOk.mono (SzOk.size (n := x.f3.size) (g := fun v _ => some v) h0 h1 (by omega) (fun v a b _ => SzOk.done a)) (fun k => rfl) (fun h => by omega)
theorem sz_HandlerS (a : List S201) (ha : a.length ≤ maxLen) (ho : ∀ x ∈ a, ok201 x) (m : Int) (h0 : 0 ≤ m) (h1 : m ≤ 1048576) :
    SzOk (fun k => laws_szHandlerS.f k a m) m (a.length ≤ 1048576 ∧ ∀ x ∈ a, x.f3.size ≤ 1048576) := by
  unfold maxLen at ha
  refine SzOk.mono (SzOk.size (n := a.length) (g := fun v k => laws_szHandlerS.l0 k a v 0) h0 h1 (by omega) (fun v p q _ => sz_list (z := z201) (Z := fun k x m => laws_szHandler.f x.f0 x.f1 x.f2 x.f3 m) (fun k a m i => rfl) a (by omega) (fun x hx m p q => sz_Handler x (ho x hx).2.2.2 m p q) v p (by omega))) (fun k => rfl) (fun h => ⟨by omega, h.2⟩)
/-- What a method that is not refused may hold. -/
def MB (x : S78) : Prop := x.f0.size ≤ 1048576 ∧ x.f1.size ≤ 1048576 ∧ LSz x ∧ (∀ i ∈ x.f7, i.f2.size ≤ 1048576 ∧ i.f3.size ≤ 1048576 ∧ i.f4.size ≤ 1048576) ∧ ∀ h ∈ x.f8, h.f3.size ≤ 1048576
theorem sz_Method (x : S78) (ho : ok78 x) (m : Int) (h0 : 0 ≤ m) (h1 : m ≤ 1048576) :
    SzOk (fun k => laws_szMethod.f k x.f0 x.f1 x.f2 x.f3 x.f4 x.f5 x.f6 x.f7 x.f8 m) m (MB x) := by
  obtain ⟨o0, o1, _, _, _, _, _, o7, o8⟩ := ho
  unfold maxLen at o0 o1
  refine SzOk.mono (SzOk.size (n := x.f0.size) (g := fun v k => if wrap64 (v - (x.f1.size : Int)) < 0 then some (-1) else (laws_szInsS.f k x.f7 (wrap64 (v - (x.f1.size : Int)))).bind fun t => if t < 0 then some (-1) else (laws_szHandlerS.f k x.f8 t).bind fun t => if t < 0 then some (-1) else some t) h0 h1 (by omega) (fun v a b _ =>
    SzOk.size (n := x.f1.size) (g := fun v k => (laws_szInsS.f k x.f7 v).bind fun t => if t < 0 then some (-1) else (laws_szHandlerS.f k x.f8 t).bind fun t => if t < 0 then some (-1) else some t) a (by omega) (by omega) (fun v a b _ =>
      SzOk.bind (g := fun k t => (laws_szHandlerS.f k x.f8 t).bind fun t => if t < 0 then some (-1) else some t) (sz_InsS x.f7 o7.1 o7.2 v a (by omega)) (fun v a b => SzOk.bind (g := fun k t => some t) (sz_HandlerS x.f8 o8.1 o8.2 v a (by omega)) (fun v a b => SzOk.done a))))) (fun k => rfl) (fun h => ⟨by omega, by omega, ⟨h.2.2.1.1, h.2.2.2.1.1⟩, h.2.2.1.2, h.2.2.2.1.2⟩)

theorem sz_Field (x : S188) (ho : ok188 x) (m : Int) (h0 : 0 ≤ m) (h1 : m ≤ 1048576) :
    SzOk (fun k => laws_szField.f x.f0 x.f1 x.f2 m) m (x.f0.size ≤ 1048576 ∧ x.f1.size ≤ 1048576) := by
  obtain ⟨o0, o1, _⟩ := ho
  unfold maxLen at o0 o1
  refine SzOk.mono (SzOk.size (n := x.f0.size) (g := fun v _ => if wrap64 (v - (x.f1.size : Int)) < 0 then some (-1) else some (wrap64 (v - (x.f1.size : Int)))) h0 h1 (by omega) (fun v a b _ => SzOk.size (n := x.f1.size) (g := fun v _ => some v) a (by omega) (by omega) (fun v a b _ => SzOk.done a))) (fun k => rfl) (fun h => by omega)
theorem sz_FieldS (a : List S188) (ha : a.length ≤ maxLen) (ho : ∀ x ∈ a, ok188 x) (m : Int) (h0 : 0 ≤ m) (h1 : m ≤ 1048576) :
    SzOk (fun k => laws_szFieldS.f k a m) m (a.length ≤ 1048576 ∧ ∀ x ∈ a, x.f0.size ≤ 1048576 ∧ x.f1.size ≤ 1048576) := by
  unfold maxLen at ha
  refine SzOk.mono (SzOk.size (n := a.length) (g := fun v k => laws_szFieldS.l0 k a v 0) h0 h1 (by omega) (fun v p q _ => sz_list (z := z188) (Z := fun k x m => laws_szField.f x.f0 x.f1 x.f2 m) (fun k a m i => rfl) a (by omega) (fun x hx m p q => sz_Field x (ho x hx) m p q) v p (by omega))) (fun k => rfl) (fun h => ⟨by omega, h.2⟩)
theorem sz_MethodS (a : List S78) (ha : a.length ≤ maxLen) (ho : ∀ x ∈ a, ok78 x) (m : Int) (h0 : 0 ≤ m) (h1 : m ≤ 1048576) :
    SzOk (fun k => laws_szMethodS.f k a m) m (a.length ≤ 1048576 ∧ ∀ x ∈ a, MB x) := by
  unfold maxLen at ha
  refine SzOk.mono (SzOk.size (n := a.length) (g := fun v k => laws_szMethodS.l0 k a v 0) h0 h1 (by omega) (fun v p q _ => sz_list (z := z78) (Z := fun k x m => laws_szMethod.f k x.f0 x.f1 x.f2 x.f3 x.f4 x.f5 x.f6 x.f7 x.f8 m) (fun k a m i => rfl) a (by omega) (fun x hx m p q => sz_Method x (ho x hx) m p q) v p (by omega))) (fun k => rfl) (fun h => ⟨by omega, h.2⟩)
def CB (x : S45) : Prop := x.f0.size ≤ 1048576 ∧ x.f1.size ≤ 1048576 ∧ (x.f4.length ≤ 1048576 ∧ ∀ f ∈ x.f4, f.f0.size ≤ 1048576 ∧ f.f1.size ≤ 1048576) ∧ x.f5.length ≤ 1048576 ∧ ∀ m ∈ x.f5, MB m
theorem sz_Class (x : S45) (ho : ok45 x) (m : Int) (h0 : 0 ≤ m) (h1 : m ≤ 1048576) :
    SzOk (fun k => laws_szClass.f k x.f0 x.f1 x.f2 x.f3 x.f4 x.f5 m) m (CB x) := by
  obtain ⟨o0, o1, _, _, o4, o5⟩ := ho
  unfold maxLen at o0 o1
  refine SzOk.mono (SzOk.size (n := x.f0.size) (g := fun v k => if wrap64 (v - (x.f1.size : Int)) < 0 then some (-1) else (laws_szFieldS.f k x.f4 (wrap64 (v - (x.f1.size : Int)))).bind fun t => if t < 0 then some (-1) else (laws_szMethodS.f k x.f5 t).bind fun t => if t < 0 then some (-1) else some t) h0 h1 (by omega) (fun v a b _ =>
    SzOk.size (n := x.f1.size) (g := fun v k => (laws_szFieldS.f k x.f4 v).bind fun t => if t < 0 then some (-1) else (laws_szMethodS.f k x.f5 t).bind fun t => if t < 0 then some (-1) else some t) a (by omega) (by omega) (fun v a b _ =>
      SzOk.bind (g := fun k t => (laws_szMethodS.f k x.f5 t).bind fun t => if t < 0 then some (-1) else some t) (sz_FieldS x.f4 o4.1 o4.2 v a (by omega)) (fun v a b => SzOk.bind (g := fun k t => some t) (sz_MethodS x.f5 o5.1 o5.2 v a (by omega)) (fun v a b => SzOk.done a))))) (fun k => rfl) (fun h => ⟨by omega, by omega, h.2.2.1, h.2.2.2.1.1, h.2.2.2.1.2⟩)
theorem CB.lsz {x : S45} (h : CB x) : ∀ m ∈ x.f5, LSz m := fun m hm => (h.2.2.2.2 m hm).2.2.1

theorem eqv_Class (n s : ByteArray) (f b : Bool) (fs : List S123) (ms : List S84) (n' s' : ByteArray) (f' b' : Bool) (fs' : List S123) (ms' : List S84) (h4 : fs.length ≤ 1048576) (h5 : ms.length ≤ 1048576) (hm : ∀ x ∈ ms, MSz x) :
    EvIff (fun k => laws_eqClass.f k n s f b fs ms n' s' f' b' fs' ms') (n = n' ∧ s = s' ∧ f = f' ∧ b = b' ∧ fs = fs' ∧ ms = ms') := by
  unfold laws_eqClass.f
  refine EvIff.iff (EvIff.ite (EvIff.ite (EvIff.iten (EvIff.iten (EvIff.bind (eqv_FieldS fs fs' h4) (EvIff.bind (eqv_MethodS ms ms' h5 hm) EvIff.yes)))))) ?_
  rw [toList_eq, toList_eq]
  simp
theorem slices_Fields (a b : List S123) (ha : a.length ≤ 1048576) : EvIff (fun k => impl_Field.f k a b) (a = b) := by
  by_cases hl : a.length = b.length
  · refine EvIff.congr (f := fun k => impl_Field.l0 k a b (a.length : Int) 0) (fun k => by unfold impl_Field.f; rw [if_pos (by omega)]) ?_
    refine equal_list (z := z123) (ne := fun x y => (!((x.f0.toList) == (y.f0.toList)) || (!((x.f1.toList) == (y.f1.toList)) || (!(x.f2 == y.f2))))) (fun k a b n i => rfl) a b (fun x y => ?_) hl (by omega)
    obtain ⟨a0, a1, a2⟩ := x
    obtain ⟨b0, b1, b2⟩ := y
    by_cases e0 : a0 = b0 <;> by_cases e1 : a1 = b1 <;> by_cases e2 : a2 = b2 <;> simp [toList_eq, e0, e1, e2]
  · exact EvIff.iff (EvIff.congr (f := fun _ => some false) (fun k => by unfold impl_Field.f; rw [if_neg (by omega)]) EvIff.no) ⟨fun h => h.elim, fun h => hl (congrArg List.length h)⟩
theorem slices_Inss (a b : List S156) (ha : a.length ≤ 1048576) : EvIff (fun k => impl_Ins.f k a b) (a = b) := by
  by_cases hl : a.length = b.length
  · refine EvIff.congr (f := fun k => impl_Ins.l0 k a b (a.length : Int) 0) (fun k => by unfold impl_Ins.f; rw [if_pos (by omega)]) ?_
    refine equal_list (z := z156) (ne := fun x y => (!(x.f0 == y.f0) || (!(x.f1 == y.f1) || (!((x.f2.toList) == (y.f2.toList)) || (!((x.f3.toList) == (y.f3.toList)) || (!((x.f4.toList) == (y.f4.toList)))))))) (fun k a b n i => rfl) a b (fun x y => ?_) hl (by omega)
    obtain ⟨a0, a1, a2, a3, a4⟩ := x
    obtain ⟨b0, b1, b2, b3, b4⟩ := y
    by_cases e0 : a0 = b0 <;> by_cases e1 : a1 = b1 <;> by_cases e2 : a2 = b2 <;> by_cases e3 : a3 = b3 <;> by_cases e4 : a4 = b4 <;> simp [toList_eq, e0, e1, e2, e3, e4]
  · exact EvIff.iff (EvIff.congr (f := fun _ => some false) (fun k => by unfold impl_Ins.f; rw [if_neg (by omega)]) EvIff.no) ⟨fun h => h.elim, fun h => hl (congrArg List.length h)⟩
theorem slices_Handlers (a b : List S160) (ha : a.length ≤ 1048576) : EvIff (fun k => impl_Handler.f k a b) (a = b) := by
  by_cases hl : a.length = b.length
  · refine EvIff.congr (f := fun k => impl_Handler.l0 k a b (a.length : Int) 0) (fun k => by unfold impl_Handler.f; rw [if_pos (by omega)]) ?_
    refine equal_list (z := z160) (ne := fun x y => (!(x.f0 == y.f0) || (!(x.f1 == y.f1) || (!(x.f2 == y.f2) || (!((x.f3.toList) == (y.f3.toList))))))) (fun k a b n i => rfl) a b (fun x y => ?_) hl (by omega)
    obtain ⟨a0, a1, a2, a3⟩ := x
    obtain ⟨b0, b1, b2, b3⟩ := y
    by_cases e0 : a0 = b0 <;> by_cases e1 : a1 = b1 <;> by_cases e2 : a2 = b2 <;> by_cases e3 : a3 = b3 <;> simp [toList_eq, e0, e1, e2, e3]
  · exact EvIff.iff (EvIff.congr (f := fun _ => some false) (fun k => by unfold impl_Handler.f; rw [if_neg (by omega)]) EvIff.no) ⟨fun h => h.elim, fun h => hl (congrArg List.length h)⟩
theorem same_impl (x y : S84) (h7 : x.f7.length ≤ 1048576) (h8 : x.f8.length ≤ 1048576) : EvIff (fun k => impl_sameMethod.f k x.f0 x.f1 x.f2 x.f3 x.f4 x.f5 x.f6 x.f7 x.f8 y.f0 y.f1 y.f2 y.f3 y.f4 y.f5 y.f6 y.f7 y.f8) (x = y) := by
  obtain ⟨a0, a1, a2, a3, a4, a5, a6, a7, a8⟩ := x
  obtain ⟨b0, b1, b2, b3, b4, b5, b6, b7, b8⟩ := y
  unfold impl_sameMethod.f
  refine EvIff.iff (EvIff.ite (EvIff.ite (EvIff.ite (EvIff.ite (EvIff.ite (EvIff.ite (EvIff.ite (EvIff.bind (slices_Inss _ _ h7) (EvIff.last (slices_Handlers _ _ h8)))))))))) ?_
  rw [toList_eq, toList_eq]
  simp
theorem slices_Methods (a b : List S84) (ha : a.length ≤ 1048576) (hm : ∀ x ∈ a, MSz x) : EvIff (fun k => impl_Method.f k a b) (a = b) := by
  by_cases hl : a.length = b.length
  · refine EvIff.congr (f := fun k => impl_Method.l0 k b a (a.length : Int) 0) (fun k => by unfold impl_Method.f; rw [if_pos (by omega)]) ?_
    refine EvIff.iff (eq_then (z := z84) (R := fun _ => some true) (L := fun k i => impl_Method.l0 k b a (a.length : Int) i) (E := fun k x y => impl_sameMethod.f k x.f0 x.f1 x.f2 x.f3 x.f4 x.f5 x.f6 x.f7 x.f8 y.f0 y.f1 y.f2 y.f3 y.f4 y.f5 y.f6 y.f7 y.f8) a b (fun k i => ?_) (fun x hx y _ => same_impl x y (hm x hx).1 (hm x hx).2) EvIff.yes hl (by omega)) (by simp)
    show (if i < (a.length : Int) then (if 0 ≤ i then (if i < (a.length : Int) then (if i < (b.length : Int) then _ else none) else none) else none) else some true) = _
    by_cases c : i < (a.length : Int)
    · rw [if_pos c, if_pos c, if_pos c]; rfl
    · rw [if_neg c, if_neg c]
  · exact EvIff.iff (EvIff.congr (f := fun _ => some false) (fun k => by unfold impl_Method.f; rw [if_neg (by omega)]) EvIff.no) ⟨fun h => h.elim, fun h => hl (congrArg List.length h)⟩
theorem class_impl (n s : ByteArray) (f b : Bool) (fs : List S123) (ms : List S84) (n' s' : ByteArray) (f' b' : Bool) (fs' : List S123) (ms' : List S84) (h4 : fs.length ≤ 1048576) (h5 : ms.length ≤ 1048576) (hm : ∀ x ∈ ms, MSz x) :
    EvIff (fun k => impl_ClassSame.f k n s f b fs ms n' s' f' b' fs' ms') (n = n' ∧ s = s' ∧ f = f' ∧ b = b' ∧ fs = fs' ∧ ms = ms') := by
  unfold impl_ClassSame.f
  refine EvIff.iff (EvIff.ite (EvIff.ite (EvIff.ite (EvIff.ite (EvIff.bind (slices_Fields fs fs' h4) (EvIff.last (slices_Methods ms ms' h5 hm))))))) ?_
  rw [toList_eq, toList_eq]
  simp
def neIns (x y : S156) : Bool := (!(x.f0 == y.f0) || (!(x.f1 == y.f1) || (!((x.f2.toList) == (y.f2.toList)) || (!((x.f3.toList) == (y.f3.toList)) || (!((x.f4.toList) == (y.f4.toList)))))))
theorem neIns_iff (x y : S156) : neIns x y = true ↔ x ≠ y := by
  obtain ⟨a0, a1, a2, a3, a4⟩ := x
  obtain ⟨b0, b1, b2, b3, b4⟩ := y
  unfold neIns
  by_cases e0 : a0 = b0 <;> by_cases e1 : a1 = b1 <;> by_cases e2 : a2 = b2 <;> by_cases e3 : a3 = b3 <;> by_cases e4 : a4 = b4 <;> simp [toList_eq, e0, e1, e2, e3, e4]
def neHan (x y : S160) : Bool := (!(x.f0 == y.f0) || (!(x.f1 == y.f1) || (!(x.f2 == y.f2) || (!((x.f3.toList) == (y.f3.toList))))))
theorem neHan_iff (x y : S160) : neHan x y = true ↔ x ≠ y := by
  obtain ⟨a0, a1, a2, a3⟩ := x
  obtain ⟨b0, b1, b2, b3⟩ := y
  unfold neHan
  by_cases e0 : a0 = b0 <;> by_cases e1 : a1 = b1 <;> by_cases e2 : a2 = b2 <;> by_cases e3 : a3 = b3 <;> simp [toList_eq, e0, e1, e2, e3]
def neFld (x y : S123) : Bool := (!((x.f0.toList) == (y.f0.toList)) || (!((x.f1.toList) == (y.f1.toList)) || (!(x.f2 == y.f2))))
theorem neFld_iff (x y : S123) : neFld x y = true ↔ x ≠ y := by
  obtain ⟨a0, a1, a2⟩ := x
  obtain ⟨b0, b1, b2⟩ := y
  unfold neFld
  by_cases e0 : a0 = b0 <;> by_cases e1 : a1 = b1 <;> by_cases e2 : a2 = b2 <;> simp [toList_eq, e0, e1, e2]
theorem same_spec (x y : S84) (h7 : x.f7.length ≤ 1048576) (h8 : x.f8.length ≤ 1048576) : EvIff (fun k => spec_l03SameMethod.f k x.f0 x.f1 x.f2 x.f3 x.f4 x.f5 x.f6 x.f7 x.f8 y.f0 y.f1 y.f2 y.f3 y.f4 y.f5 y.f6 y.f7 y.f8) (x = y) := by
  obtain ⟨a0, a1, a2, a3, a4, a5, a6, a7, a8⟩ := x
  obtain ⟨b0, b1, b2, b3, b4, b5, b6, b7, b8⟩ := y
  have yes : EvIff (fun k => spec_l03SameMethod.j0 k true a0 a1 a2 a3 a4 a5 a6 a7 a8 b0 b1 b2 b3 b4 b5 b6 b7 b8) False := EvIff.step (f := fun _ => some false) (fun k => by simp only [spec_l03SameMethod.j0, ↓reduceIte]) EvIff.no
  have inner : EvIff (fun k => if (a7.length : Int) = (b7.length : Int) then spec_l03SameMethod.j0 k ((a8.length : Int) != (b8.length : Int)) a0 a1 a2 a3 a4 a5 a6 a7 a8 b0 b1 b2 b3 b4 b5 b6 b7 b8 else spec_l03SameMethod.j0 k true a0 a1 a2 a3 a4 a5 a6 a7 a8 b0 b1 b2 b3 b4 b5 b6 b7 b8) (a7 = b7 ∧ a8 = b8) := by
    by_cases c7 : a7.length = b7.length
    · refine EvIff.iteP (by omega) ?_
      by_cases c8 : a8.length = b8.length
      · have e : ((a8.length : Int) != (b8.length : Int)) = false := bne_eq_false_iff_eq.mpr (by omega)
        rw [e]
        refine EvIff.step (f := fun k => spec_l03SameMethod.l0 k 0 a0 a1 a2 a3 a4 a5 a6 a7 a8 b0 b1 b2 b3 b4 b5 b6 b7 b8) (fun k => by simp only [spec_l03SameMethod.j0]; rw [if_neg (by simp)]) ?_
        refine neq_then (z := z156) (L := fun k i => spec_l03SameMethod.l0 k i a0 a1 a2 a3 a4 a5 a6 a7 a8 b0 b1 b2 b3 b4 b5 b6 b7 b8) (ne := neIns) a7 b7 (fun k i => rfl) neIns_iff ?_ c7 (by simp at h7; omega)
        refine EvIff.iff (neq_then (z := z160) (R := fun _ => some true) (L := fun k i => spec_l03SameMethod.l1 k i a0 a1 a2 a3 a4 a5 a6 a7 a8 b0 b1 b2 b3 b4 b5 b6 b7 b8) (ne := neHan) a8 b8 (fun k i => rfl) neHan_iff EvIff.yes c8 (by simp at h8; omega)) (by simp)
      · have e : ((a8.length : Int) != (b8.length : Int)) = true := bne_iff_ne.mpr (by omega)
        rw [e]
        exact EvIff.iff yes ⟨fun h => h.elim, fun h => c8 (congrArg List.length h.2)⟩
    · exact EvIff.iff (EvIff.iteN (by omega) yes) ⟨fun h => h.elim, fun h => c7 (congrArg List.length h.1)⟩
  unfold spec_l03SameMethod.f
  refine EvIff.iff (EvIff.ite2 (EvIff.ite2 (EvIff.ite2 yes (EvIff.ite2 yes (EvIff.ite2 yes (EvIff.ite2 (EvIff.ite2 inner yes) yes)))) yes) yes) ?_
  rw [toList_eq, toList_eq]
  simp
theorem class_spec (n s : ByteArray) (f b : Bool) (fs : List S123) (ms : List S84) (n' s' : ByteArray) (f' b' : Bool) (fs' : List S123) (ms' : List S84) (h4 : fs.length ≤ 1048576) (h5 : ms.length ≤ 1048576) (hm : ∀ x ∈ ms, MSz x) :
    EvIff (fun k => spec_ClassSame.f k n s f b fs ms n' s' f' b' fs' ms') (n = n' ∧ s = s' ∧ f = f' ∧ b = b' ∧ fs = fs' ∧ ms = ms') := by
  have yes : EvIff (fun k => spec_ClassSame.j0 k true n s f b fs ms n' s' f' b' fs' ms') False := EvIff.step (f := fun _ => some false) (fun k => by simp only [spec_ClassSame.j0, ↓reduceIte]) EvIff.no
  have inner : EvIff (fun k => if (fs.length : Int) = (fs'.length : Int) then spec_ClassSame.j0 k ((ms.length : Int) != (ms'.length : Int)) n s f b fs ms n' s' f' b' fs' ms' else spec_ClassSame.j0 k true n s f b fs ms n' s' f' b' fs' ms') (fs = fs' ∧ ms = ms') := by
    by_cases c7 : fs.length = fs'.length
    · refine EvIff.iteP (by omega) ?_
      by_cases c8 : ms.length = ms'.length
      · have e : ((ms.length : Int) != (ms'.length : Int)) = false := bne_eq_false_iff_eq.mpr (by omega)
        rw [e]
        refine EvIff.step (f := fun k => spec_ClassSame.l0 k 0 n s f b fs ms n' s' f' b' fs' ms') (fun k => by simp only [spec_ClassSame.j0]; rw [if_neg (by simp)]) ?_
        refine neq_then (z := z123) (L := fun k i => spec_ClassSame.l0 k i n s f b fs ms n' s' f' b' fs' ms') (ne := neFld) fs fs' (fun k i => rfl) neFld_iff ?_ c7 (by omega)
        refine EvIff.iff (eq_then (z := z84) (R := fun _ => some true) (L := fun k i => spec_ClassSame.l1 k i n s f b fs ms n' s' f' b' fs' ms') (E := fun k x y => spec_l03SameMethod.f k x.f0 x.f1 x.f2 x.f3 x.f4 x.f5 x.f6 x.f7 x.f8 y.f0 y.f1 y.f2 y.f3 y.f4 y.f5 y.f6 y.f7 y.f8) ms ms' (fun k i => rfl) (fun x hx y _ => same_spec x y (hm x hx).1 (hm x hx).2) EvIff.yes c8 (by omega)) (by simp)
      · have e : ((ms.length : Int) != (ms'.length : Int)) = true := bne_iff_ne.mpr (by omega)
        rw [e]
        exact EvIff.iff yes ⟨fun h => h.elim, fun h => c8 (congrArg List.length h.2)⟩
    · exact EvIff.iff (EvIff.iteN (by omega) yes) ⟨fun h => h.elim, fun h => c7 (congrArg List.length h.1)⟩
  unfold spec_ClassSame.f
  refine EvIff.iff (EvIff.ite2 (EvIff.ite2 (EvIff.ite2 yes (EvIff.ite2 yes inner)) yes) yes) ?_
  rw [toList_eq, toList_eq]
  simp
theorem FnExactClassSame : laws_FnExactClassSame.Pure := by
  intro x y hx hy
  obtain ⟨v, hv, hb⟩ := sz_Class x hx 1048576 (by omega) (by omega)
  refine Ev.rounds (Ev.congr (fun k => rfl) (Ev.bind hv ?_))
  rcases hb with hb | ⟨v0, v1, hX⟩
  · exact Ev.congr (f := fun _ => some true) (fun k => if_pos hb) (Ev.now _)
  refine Ev.congr (fun k => if_neg (by omega)) ?_
  obtain ⟨u, hu, hc⟩ := sz_Class y hy v v0 v1
  refine Ev.bind hu ?_
  rcases hc with hc | ⟨u0, u1, hY⟩
  · exact Ev.congr (f := fun _ => some true) (fun k => if_pos hc) (Ev.now _)
  refine Ev.congr (fun k => if_neg (by omega)) ?_
  have tx := to_Class x.f0 x.f1 x.f2 x.f3 x.f4 x.f5 hX.2.2.1.1 hX.2.2.2.1 hX.lsz
  have ty := to_Class y.f0 y.f1 y.f2 y.f3 y.f4 y.f5 hY.2.2.1.1 hY.2.2.2.1 hY.lsz
  have mx := msz_map x.f5 hX.lsz
  have my := msz_map y.f5 hY.lsz
  have l4 : (x.f4.map cField).length ≤ 1048576 := by simpa using hX.2.2.1.1
  have l5 : (x.f5.map cMethod).length ≤ 1048576 := by simpa using hX.2.2.2.1
  have m4 : (y.f4.map cField).length ≤ 1048576 := by simpa using hY.2.2.1.1
  have m5 : (y.f5.map cMethod).length ≤ 1048576 := by simpa using hY.2.2.2.1
  obtain ⟨r, r1, r2⟩ := EvIff.same (class_spec x.f0 x.f1 x.f2 x.f3 _ _ y.f0 y.f1 y.f2 y.f3 (y.f4.map cField) (y.f5.map cMethod) l4 l5 mx) (class_impl x.f0 x.f1 x.f2 x.f3 _ _ y.f0 y.f1 y.f2 y.f3 (y.f4.map cField) (y.f5.map cMethod) l4 l5 mx)
  have ex := EvIff.true_ (eqv_Class x.f0 x.f1 x.f2 x.f3 _ _ x.f0 x.f1 x.f2 x.f3 _ _ l4 l5 mx) ⟨rfl, rfl, rfl, rfl, rfl, rfl⟩
  have ey := EvIff.true_ (eqv_Class y.f0 y.f1 y.f2 y.f3 _ _ y.f0 y.f1 y.f2 y.f3 _ _ m4 m5 my) ⟨rfl, rfl, rfl, rfl, rfl, rfl⟩
  refine Ev.bind tx (Ev.bind ty (Ev.bind r1 (Ev.bind tx (Ev.bind ty (Ev.bind r2 (Ev.congr (fun k => if_neg (by simp)) (Ev.bind tx (Ev.bind ex (Ev.congr (fun k => if_pos rfl) (Ev.bind ty (Ev.bind ey (Ev.congr (f := fun _ => some true) (fun k => if_pos rfl) (Ev.now _)))))))))))))

end Go.Proofs.Ytlflbmbcjjegaaa.Pure
