/- The program's BareSame returns what the reference's returns, for every two machines' bare states that the model can hold. -/
import Derived.Test.YtlflbmbcjjegaaaPFnExactBareSamex7
namespace Go.Proofs.Ytlflbmbcjjegaaa.Pure
open Go.RowKit Go.Proofs.Ytlflbmbcjjegaaa.PFnExactBareSame Go.Proofs.YtlflbmbcjjegaaaW.PrintWords Go.Proofs.YtlflbmbcjjegaaaW.PrintLast
set_option linter.unusedVariables false
set_option linter.unusedSimpArgs false

theorem rdOf_at {α : Type} (d : α) (l : List α) (i : Int) (h : i.toNat < l.length) : rdOf d l i = l[i.toNat] := by
  simp [rdOf, List.getD_eq_getElem?_getD, List.getElem?_eq_getElem h]
/-- A list that is filled from the left. -/
theorem fill_end {α : Type} (l acc : List α) (hl : acc.length = l.length) (h : ∀ j, j < l.length → acc[j]? = l[j]?) : acc = l := by
  apply List.ext_getElem?
  intro j
  by_cases hj : j < l.length
  · exact h j hj
  · rw [List.getElem?_eq_none (by omega), List.getElem?_eq_none (by omega)]
theorem fill_step {α : Type} (l acc : List α) (i : Nat) (v : α) (hl : acc.length = l.length) (hi : i < l.length) (hv : l[i]? = some v) (h : ∀ j, j < i → acc[j]? = l[j]?) : ∀ j, j < i + 1 → (acc.set i v)[j]? = l[j]? := by
  intro j hj
  by_cases e : j = i
  · subst e; rw [List.getElem?_set_self (by omega), hv]
  · rw [List.getElem?_set_ne (by omega)]; exact h j (by omega)
theorem ev_le {α : Type} {g : Nat → Option α} {r : α} (h : Ev g r) : ∃ K, ∀ k, K ≤ k → g k = some r := h

/-- A bool that is told by a proposition. -/
def EvIff (g : Nat → Option Bool) (P : Prop) : Prop := ∃ r, Ev g r ∧ (r = true ↔ P)
theorem EvIff.iff {g : Nat → Option Bool} {P Q : Prop} (h : EvIff g P) (e : P ↔ Q) : EvIff g Q := by
  obtain ⟨r, h1, h2⟩ := h
  exact ⟨r, h1, h2.trans e⟩
theorem EvIff.congr {g f : Nat → Option Bool} {P : Prop} (e : ∀ k, g k = f k) (h : EvIff f P) : EvIff g P := by
  obtain ⟨r, h1, h2⟩ := h
  exact ⟨r, Ev.congr e h1, h2⟩
theorem EvIff.step {g f : Nat → Option Bool} {P : Prop} (e : ∀ k, g (k + 1) = f k) (h : EvIff f P) : EvIff g P := by
  obtain ⟨r, h1, h2⟩ := h
  exact ⟨r, Ev.step e h1, h2⟩
theorem EvIff.yes : EvIff (fun _ => some true) True := ⟨true, Ev.now _, by simp⟩
theorem EvIff.no : EvIff (fun _ => some false) False := ⟨false, Ev.now _, by simp⟩
theorem EvIff.val (b : Bool) : EvIff (fun _ => some b) (b = true) := ⟨b, Ev.now _, Iff.rfl⟩
theorem EvIff.ite {c : Prop} [Decidable c] {g : Nat → Option Bool} {P : Prop} (h : EvIff g P) : EvIff (fun k => if c then g k else some false) (c ∧ P) := by
  by_cases hc : c
  · exact EvIff.iff (EvIff.congr (fun k => if_pos hc) h) (by simp [hc])
  · exact EvIff.iff (EvIff.congr (f := fun _ => some false) (fun k => if_neg hc) EvIff.no) (by simp [hc])
theorem EvIff.iten {c : Prop} [Decidable c] {g : Nat → Option Bool} {P : Prop} (h : EvIff g P) : EvIff (fun k => if c then some false else g k) (¬ c ∧ P) := by
  by_cases hc : c
  · exact EvIff.iff (EvIff.congr (f := fun _ => some false) (fun k => if_pos hc) EvIff.no) (by simp [hc])
  · exact EvIff.iff (EvIff.congr (fun k => if_neg hc) h) (by simp [hc])
theorem EvIff.bind {g h : Nat → Option Bool} {P Q : Prop} (hh : EvIff h Q) (hg : EvIff g P) : EvIff (fun k => (h k).bind fun t => if t = true then g k else some false) (Q ∧ P) := by
  obtain ⟨r, h1, h2⟩ := hh
  obtain ⟨s, g1, g2⟩ := hg
  cases r with
  | true => exact ⟨s, Ev.bind (f := fun k t => if t = true then g k else some false) h1 (Ev.congr (fun k => if_pos rfl) g1), by rw [g2, ← h2]; simp⟩
  | false => exact ⟨false, Ev.bind (f := fun k t => if t = true then g k else some false) h1 (Ev.congr (f := fun _ => some false) (fun k => if_neg (by simp)) (Ev.now _)), by rw [← h2]; simp⟩
theorem EvIff.last {h : Nat → Option Bool} {Q : Prop} (hh : EvIff h Q) : EvIff (fun k => (h k).bind fun t => some t) Q := by
  obtain ⟨r, h1, h2⟩ := hh
  exact ⟨r, Ev.bind (f := fun _ t => some t) h1 (Ev.now _), h2⟩
theorem EvIff.same {g h : Nat → Option Bool} {P : Prop} (hg : EvIff g P) (hh : EvIff h P) : ∃ r, Ev g r ∧ Ev h r := by
  obtain ⟨r, h1, h2⟩ := hg
  obtain ⟨s, g1, g2⟩ := hh
  have e : r = s := Bool.eq_iff_iff.mpr (h2.trans g2.symm)
  subst e
  exact ⟨r, h1, g1⟩
theorem EvIff.true_ {g : Nat → Option Bool} {P : Prop} (h : EvIff g P) (p : P) : Ev g true := by
  obtain ⟨r, h1, h2⟩ := h
  rw [h2.mpr p] at h1; exact h1
theorem toList_eq (a b : ByteArray) : a.toList = b.toList ↔ a = b := ⟨fun h => WideShapes.bytes_inj (by rw [← Lib.toList_data, ← Lib.toList_data]; exact h), fun h => by rw [h]⟩
theorem drop_cons_iff {α : Type} {a b : List α} {i : Nat} (ha : i < a.length) (hb : i < b.length) : a.drop i = b.drop i ↔ a[i] = b[i] ∧ a.drop (i + 1) = b.drop (i + 1) := by
  rw [List.drop_eq_getElem_cons ha, List.drop_eq_getElem_cons hb]
  constructor
  · intro h; exact List.cons.inj h
  · intro h; rw [h.1, h.2]
theorem getD_at {α : Type} {a : List α} {z : α} {i : Nat} (h : i < a.length) : a.getD (i : Int).toNat z = a[i] := by
  simp [List.getD_eq_getElem?_getD, List.getElem?_eq_getElem h]
theorem up64 {i n : Nat} (h : i < n) (hn : n ≤ 4611686018427387904) : wrap64 ((i : Int) + 1) = ((i + 1 : Nat) : Int) := by unfold wrap64; omega
/-- The loop of an equality over lists, by a function on the elements. -/
theorem eq_list {α : Type} {z : α} {L : Nat → List α → List α → Int → Option Bool} {E : Nat → α → α → Option Bool}
    (hL : ∀ k a b i, L (k + 1) a b i = if i < (a.length : Int) then (if 0 ≤ i then (if i < (b.length : Int) then ((E k (a.getD i.toNat z) (b.getD i.toNat z)).bind fun t => (if t = true then (L k a b (wrap64 (i + 1))) else (some false))) else none) else none) else some true)
    (a b : List α) (hE : ∀ x ∈ a, ∀ y ∈ b, EvIff (fun k => E k x y) (x = y)) (hl : a.length = b.length) (hn : a.length ≤ 4611686018427387904) : EvIff (fun k => L k a b 0) (a = b) := by
  have key : ∀ (d i : Nat), i + d = a.length → EvIff (fun k => L k a b (i : Int)) (a.drop i = b.drop i) := by
    intro d
    induction d with
    | zero =>
      intro i hd
      refine EvIff.iff (P := True) (EvIff.step (f := fun _ => some true) (fun k => by rw [hL, if_neg (by omega)]) EvIff.yes) ?_
      rw [List.drop_eq_nil_of_le (by omega), List.drop_eq_nil_of_le (by omega)]; simp
    | succ d ih =>
      intro i hd
      have ha : i < a.length := by omega
      have hb : i < b.length := by omega
      rw [drop_cons_iff ha hb]
      refine EvIff.step (f := fun k => (E k a[i] b[i]).bind fun t => (if t = true then (L k a b ((i + 1 : Nat) : Int)) else (some false))) (fun k => ?_) (EvIff.bind (hE _ (List.getElem_mem ha) _ (List.getElem_mem hb)) (ih (i + 1) (by omega)))
      rw [hL, if_pos (by omega), if_pos (by omega), if_pos (by omega), getD_at ha, getD_at hb, up64 ha hn]
  exact key a.length 0 (by omega)
/-- The loop of slices.Equal, whose elements are told apart by a Bool. -/
theorem equal_list {α : Type} {z : α} {L : Nat → List α → List α → Int → Int → Option Bool} {ne : α → α → Bool}
    (hL : ∀ k a b n i, L (k + 1) a b n i = if i < n then (if 0 ≤ i then (if i < (a.length : Int) then (if i < (b.length : Int) then (if (ne (a.getD i.toNat z) (b.getD i.toNat z)) = true then (some false) else (L k a b n (wrap64 (i + 1)))) else none) else none) else none) else some true)
    (a b : List α) (hE : ∀ x y, ne x y = true ↔ x ≠ y) (hl : a.length = b.length) (hn : a.length ≤ 4611686018427387904) : EvIff (fun k => L k a b (a.length : Int) 0) (a = b) := by
  have key : ∀ (d i : Nat), i + d = a.length → EvIff (fun k => L k a b (a.length : Int) (i : Int)) (a.drop i = b.drop i) := by
    intro d
    induction d with
    | zero =>
      intro i hd
      refine EvIff.iff (P := True) (EvIff.step (f := fun _ => some true) (fun k => by rw [hL, if_neg (by omega)]) EvIff.yes) ?_
      rw [List.drop_eq_nil_of_le (by omega), List.drop_eq_nil_of_le (by omega)]; simp
    | succ d ih =>
      intro i hd
      have ha : i < a.length := by omega
      have hb : i < b.length := by omega
      rw [drop_cons_iff ha hb]
      refine EvIff.iff (EvIff.step (f := fun k => if (ne a[i] b[i]) = true then (some false) else (L k a b (a.length : Int) ((i + 1 : Nat) : Int))) (fun k => ?_) (EvIff.iten (ih (i + 1) (by omega)))) (by rw [hE]; simp)
      rw [hL, if_pos (by omega), if_pos (by omega), if_pos (by omega), if_pos (by omega), getD_at ha, getD_at hb, up64 ha hn]
  exact key a.length 0 (by omega)
/-- The loop that reckons what a list takes. -/
theorem sz_list {α : Type} {z : α} {L : Nat → List α → Int → Int → Option Int} {Z : Nat → α → Int → Option Int} {B : α → Prop}
    (hL : ∀ k a m i, L (k + 1) a m i = if i < (a.length : Int) then (if 0 ≤ i then ((Z k (a.getD i.toNat z) m).bind fun t => (if t < 0 then (some (-1)) else (L k a t (wrap64 (i + 1))))) else none) else some m)
    (a : List α) (hn : a.length ≤ 4611686018427387904) (hZ : ∀ x ∈ a, ∀ m, 0 ≤ m → m ≤ 1048576 → ∃ v, Ev (fun k => Z k x m) v ∧ (v < 0 ∨ (0 ≤ v ∧ v ≤ m ∧ B x)))
    (m : Int) (h0 : 0 ≤ m) (h1 : m ≤ 1048576) : ∃ v, Ev (fun k => L k a m 0) v ∧ (v < 0 ∨ (0 ≤ v ∧ v ≤ m ∧ ∀ x ∈ a, B x)) := by
  have key : ∀ (d i : Nat) (m : Int), 0 ≤ m → m ≤ 1048576 → i + d = a.length → ∃ v, Ev (fun k => L k a m (i : Int)) v ∧ (v < 0 ∨ (0 ≤ v ∧ v ≤ m ∧ ∀ j, i ≤ j → (h : j < a.length) → B a[j])) := by
    intro d
    induction d with
    | zero =>
      intro i m h0 h1 hd
      exact ⟨m, Ev.step (f := fun _ => some m) (fun k => by rw [hL, if_neg (by omega)]) (Ev.now m), .inr ⟨h0, Int.le_refl _, fun j h2 h3 => by omega⟩⟩
    | succ d ih =>
      intro i m h0 h1 hd
      have ha : i < a.length := by omega
      obtain ⟨v, hv, hb⟩ := hZ _ (List.getElem_mem ha) m h0 h1
      have st : ∀ k, L (k + 1) a m (i : Int) = (Z k a[i] m).bind fun t => (if t < 0 then (some (-1)) else (L k a t ((i + 1 : Nat) : Int))) := fun k => by
        rw [hL, if_pos (by omega), if_pos (by omega), getD_at ha, up64 ha hn]
      rcases hb with hb | ⟨b0, b1, b2⟩
      · exact ⟨-1, Ev.step st (Ev.bind (f := fun k t => if t < 0 then (some (-1)) else (L k a t ((i + 1 : Nat) : Int))) hv (Ev.congr (f := fun _ => some (-1)) (fun k => by rw [if_pos hb]) (Ev.now _))), .inl (by omega)⟩
      · obtain ⟨u, hu, hc⟩ := ih (i + 1) v b0 (by omega) (by omega)
        refine ⟨u, Ev.step st (Ev.bind (f := fun k t => if t < 0 then (some (-1)) else (L k a t ((i + 1 : Nat) : Int))) hv (Ev.congr (fun k => by rw [if_neg (by omega)]) hu)), ?_⟩
        rcases hc with hc | ⟨c0, c1, c2⟩
        · exact .inl hc
        · refine .inr ⟨c0, by omega, fun j h2 h3 => ?_⟩
          by_cases e : j = i
          · subst e; exact b2
          · exact c2 j (by omega) h3
  obtain ⟨v, h2, h3⟩ := key a.length 0 m h0 h1 (by omega)
  refine ⟨v, h2, ?_⟩
  rcases h3 with h3 | ⟨h3, h4, h5⟩
  · exact .inl h3
  · refine .inr ⟨h3, h4, fun x hx => ?_⟩
    obtain ⟨j, hj, rfl⟩ := List.mem_iff_getElem.mp hx
    exact h5 j (by omega) hj
/-- The loop that copies a list element by element. -/
theorem to_list {α β γ : Type} {z : α} {L : Nat → List α → List β → Int → Option (List β)} {T : Nat → α → Option γ} {C : γ → β} {conv : α → β}
    (hL : ∀ k a c i, L (k + 1) a c i = if i < (a.length : Int) then (if 0 ≤ i then ((T k (a.getD i.toNat z)).bind fun t => (if i < (c.length : Int) then (L k a (c.set i.toNat (C t)) (wrap64 (i + 1))) else none)) else none) else some c)
    (a : List α) (hn : a.length ≤ 4611686018427387904) (hT : ∀ x ∈ a, ∃ t, Ev (fun k => T k x) t ∧ C t = conv x) (y : β) : Ev (fun k => L k a (List.replicate a.length y) 0) (a.map conv) := by
  have key : ∀ (d i : Nat) (c : List β), c.length = a.length → (∀ j, j < i → c[j]? = (a.map conv)[j]?) → i + d = a.length → Ev (fun k => L k a c (i : Int)) (a.map conv) := by
    intro d
    induction d with
    | zero =>
      intro i c hc h hd
      have e : c = a.map conv := fill_end _ _ (by simpa using hc) (fun j hj => h j (by simp at hj; omega))
      exact Ev.step (f := fun _ => some (a.map conv)) (fun k => by rw [hL, if_neg (by omega), e]) (Ev.now _)
    | succ d ih =>
      intro i c hc h hd
      have ha : i < a.length := by omega
      obtain ⟨t, ht, ht2⟩ := hT _ (List.getElem_mem ha)
      have hs : ∀ j, j < i + 1 → (c.set i (C t))[j]? = (a.map conv)[j]? := fill_step _ c i (C t) (by simpa using hc) (by simpa using ha) (by rw [ht2]; simp [ha]) h
      refine Ev.step (f := fun k => (T k a[i]).bind fun t => (L k a (c.set i (C t)) ((i + 1 : Nat) : Int))) (fun k => ?_) (Ev.bind (f := fun k t => L k a (c.set i (C t)) ((i + 1 : Nat) : Int)) ht (ih (i + 1) _ (by simpa using hc) hs (by omega)))
      rw [hL, if_pos (by omega), if_pos (by omega), getD_at ha, up64 ha hn]
      congr 1
      funext t
      rw [if_pos (by omega)]; rfl
  exact key a.length 0 _ (by simp) (fun j hj => absurd hj (by omega)) (by omega)
/-- What is left, less a size. -/
theorem less64 {m : Int} {n : Nat} (h0 : 0 ≤ m) (h1 : m ≤ 1048576) (hn : n ≤ 9223372036854775807) : wrap64 (m - (n : Int)) = m - (n : Int) := by unfold wrap64; omega
/-- What is told of a size: it is refused, or what is left is told with what is known. -/
def SzOk (g : Nat → Option Int) (m : Int) (B : Prop) : Prop := ∃ v, Ev g v ∧ (v < 0 ∨ (0 ≤ v ∧ v ≤ m ∧ B))
theorem SzOk.size {m : Int} {n : Nat} {g : Int → Nat → Option Int} {B : Prop} (h0 : 0 ≤ m) (h1 : m ≤ 1048576) (hn : n ≤ 9223372036854775807) (h : ∀ v, 0 ≤ v → v ≤ m → v = m - (n : Int) → SzOk (g v) v B) :
    SzOk (fun k => if wrap64 (m - (n : Int)) < 0 then some (-1) else g (wrap64 (m - (n : Int))) k) m ((n : Int) ≤ 1048576 ∧ B) := by
  rw [less64 h0 h1 hn]
  by_cases c : m - (n : Int) < 0
  · exact ⟨-1, Ev.congr (f := fun _ => some (-1)) (fun k => by rw [if_pos c]) (Ev.now _), .inl (by omega)⟩
  · obtain ⟨v, h2, h3⟩ := h (m - (n : Int)) (by omega) (by omega) rfl
    refine ⟨v, Ev.congr (fun k => by rw [if_neg c]) h2, ?_⟩
    rcases h3 with h3 | ⟨h3, h4, h5⟩
    · exact .inl h3
    · exact .inr ⟨h3, by omega, by omega, h5⟩
theorem SzOk.bind {m : Int} {f : Nat → Option Int} {g : Nat → Int → Option Int} {A B : Prop} (hf : SzOk f m A) (h : ∀ v, 0 ≤ v → v ≤ m → SzOk (fun k => g k v) v B) :
    SzOk (fun k => (f k).bind fun t => if t < 0 then some (-1) else g k t) m (A ∧ B) := by
  obtain ⟨v, hv, hb⟩ := hf
  rcases hb with hb | ⟨b0, b1, b2⟩
  · exact ⟨-1, Ev.bind (f := fun k t => if t < 0 then (some (-1)) else g k t) hv (Ev.congr (f := fun _ => some (-1)) (fun k => by rw [if_pos hb]) (Ev.now _)), .inl (by omega)⟩
  · obtain ⟨u, hu, hc⟩ := h v b0 b1
    refine ⟨u, Ev.bind (f := fun k t => if t < 0 then (some (-1)) else g k t) hv (Ev.congr (fun k => by rw [if_neg (by omega)]) hu), ?_⟩
    rcases hc with hc | ⟨c0, c1, c2⟩
    · exact .inl hc
    · exact .inr ⟨c0, by omega, b2, c2⟩
theorem SzOk.done {m : Int} (h0 : 0 ≤ m) : SzOk (fun _ => some m) m True := ⟨m, Ev.now _, .inr ⟨h0, Int.le_refl _, trivial⟩⟩
theorem SzOk.mono {m : Int} {f g : Nat → Option Int} {A B : Prop} (h : SzOk f m A) (e : ∀ k, g k = f k) (i : A → B) : SzOk g m B := by
  obtain ⟨v, h1, h2⟩ := h
  refine ⟨v, Ev.congr e h1, ?_⟩
  rcases h2 with h2 | ⟨h2, h3, h4⟩
  · exact .inl h2
  · exact .inr ⟨h2, h3, i h4⟩
theorem EvIff.ite2 {c : Prop} [Decidable c] {g h : Nat → Option Bool} {P Q : Prop} (hg : EvIff g P) (hh : EvIff h Q) : EvIff (fun k => if c then g k else h k) ((c ∧ P) ∨ (¬ c ∧ Q)) := by
  by_cases hc : c
  · exact EvIff.iff (EvIff.congr (fun k => if_pos hc) hg) (by simp [hc])
  · exact EvIff.iff (EvIff.congr (fun k => if_neg hc) hh) (by simp [hc])
/-- A loop that looks for a difference, and what follows it. -/
theorem neq_then {α : Type} {z : α} {L : Nat → Int → Option Bool} {R : Nat → Option Bool} {ne : α → α → Bool} {P : Prop} (a b : List α)
    (hL : ∀ k i, L (k + 1) i = if i < (a.length : Int) then (if 0 ≤ i then (if i < (b.length : Int) then (if (ne (a.getD i.toNat z) (b.getD i.toNat z)) = true then (some false) else (L k (wrap64 (i + 1)))) else none) else none) else R k)
    (hE : ∀ x y, ne x y = true ↔ x ≠ y) (hR : EvIff R P) (hl : a.length = b.length) (hn : a.length ≤ 4611686018427387904) : EvIff (fun k => L k 0) (a = b ∧ P) := by
  have key : ∀ (d i : Nat), i + d = a.length → EvIff (fun k => L k (i : Int)) (a.drop i = b.drop i ∧ P) := by
    intro d
    induction d with
    | zero =>
      intro i hd
      refine EvIff.iff (P := P) (EvIff.step (f := R) (fun k => by rw [hL, if_neg (by omega)]) hR) ?_
      rw [List.drop_eq_nil_of_le (by omega), List.drop_eq_nil_of_le (by omega)]; simp
    | succ d ih =>
      intro i hd
      have ha : i < a.length := by omega
      have hb : i < b.length := by omega
      rw [drop_cons_iff ha hb]
      refine EvIff.iff (EvIff.step (f := fun k => if (ne a[i] b[i]) = true then (some false) else (L k ((i + 1 : Nat) : Int))) (fun k => ?_) (EvIff.iten (ih (i + 1) (by omega)))) (by rw [hE]; simp [and_assoc])
      rw [hL, if_pos (by omega), if_pos (by omega), if_pos (by omega), getD_at ha, getD_at hb, up64 ha hn]
  exact key a.length 0 (by omega)
/-- The same, by a function on the elements. -/
theorem eq_then {α : Type} {z : α} {L : Nat → Int → Option Bool} {R : Nat → Option Bool} {E : Nat → α → α → Option Bool} {P : Prop} (a b : List α)
    (hL : ∀ k i, L (k + 1) i = if i < (a.length : Int) then (if 0 ≤ i then (if i < (b.length : Int) then ((E k (a.getD i.toNat z) (b.getD i.toNat z)).bind fun t => (if t = true then (L k (wrap64 (i + 1))) else (some false))) else none) else none) else R k)
    (hE : ∀ x ∈ a, ∀ y ∈ b, EvIff (fun k => E k x y) (x = y)) (hR : EvIff R P) (hl : a.length = b.length) (hn : a.length ≤ 4611686018427387904) : EvIff (fun k => L k 0) (a = b ∧ P) := by
  have key : ∀ (d i : Nat), i + d = a.length → EvIff (fun k => L k (i : Int)) (a.drop i = b.drop i ∧ P) := by
    intro d
    induction d with
    | zero =>
      intro i hd
      refine EvIff.iff (P := P) (EvIff.step (f := R) (fun k => by rw [hL, if_neg (by omega)]) hR) ?_
      rw [List.drop_eq_nil_of_le (by omega), List.drop_eq_nil_of_le (by omega)]; simp
    | succ d ih =>
      intro i hd
      have ha : i < a.length := by omega
      have hb : i < b.length := by omega
      rw [drop_cons_iff ha hb]
      refine EvIff.iff (EvIff.step (f := fun k => (E k a[i] b[i]).bind fun t => (if t = true then (L k ((i + 1 : Nat) : Int)) else (some false))) (fun k => ?_) (EvIff.bind (hE _ (List.getElem_mem ha) _ (List.getElem_mem hb)) (ih (i + 1) (by omega)))) (by simp [and_assoc])
      rw [hL, if_pos (by omega), if_pos (by omega), if_pos (by omega), getD_at ha, getD_at hb, up64 ha hn]
  exact key a.length 0 (by omega)
theorem EvIff.iteP {c : Prop} [Decidable c] {g h : Nat → Option Bool} {P : Prop} (hc : c) (hg : EvIff g P) : EvIff (fun k => if c then g k else h k) P := EvIff.congr (fun k => if_pos hc) hg
theorem EvIff.iteN {c : Prop} [Decidable c] {g h : Nat → Option Bool} {P : Prop} (hc : ¬ c) (hh : EvIff h P) : EvIff (fun k => if c then g k else h k) P := EvIff.congr (fun k => if_neg hc) hh
/-- A loop over two lists, whatever its round does: 'the elements are equal, and what follows holds'. -/
theorem gen_then {α : Type} {z : α} {L : Nat → Int → Option Bool} {R : Nat → Option Bool} {G : Nat → Int → α → α → Option Bool} {P : Prop} (a b : List α)
    (hL : ∀ k i, L (k + 1) i = if i < (a.length : Int) then (if 0 ≤ i then (if i < (b.length : Int) then G k i (a.getD i.toNat z) (b.getD i.toNat z) else none) else none) else R k)
    (hG : ∀ (i : Int) (x y : α), x ∈ a → y ∈ b → ∀ Q : Prop, EvIff (fun k => L k (wrap64 (i + 1))) Q → EvIff (fun k => G k i x y) (x = y ∧ Q)) (hR : EvIff R P) (hl : a.length = b.length) (hn : a.length ≤ 4611686018427387904) : EvIff (fun k => L k 0) (a = b ∧ P) := by
  have key : ∀ (d i : Nat), i + d = a.length → EvIff (fun k => L k (i : Int)) (a.drop i = b.drop i ∧ P) := by
    intro d
    induction d with
    | zero =>
      intro i hd
      refine EvIff.iff (P := P) (EvIff.step (f := R) (fun k => by rw [hL, if_neg (by omega)]) hR) ?_
      rw [List.drop_eq_nil_of_le (by omega), List.drop_eq_nil_of_le (by omega)]; simp
    | succ d ih =>
      intro i hd
      have ha : i < a.length := by omega
      have hb : i < b.length := by omega
      rw [drop_cons_iff ha hb]
      have h2 := ih (i + 1) (by omega)
      rw [← up64 ha hn] at h2
      refine EvIff.iff (EvIff.step (f := fun k => G k (i : Int) a[i] b[i]) (fun k => ?_) (hG i _ _ (List.getElem_mem ha) (List.getElem_mem hb) _ h2)) (by simp [and_assoc])
      rw [hL, if_pos (by omega), if_pos (by omega), if_pos (by omega), getD_at ha, getD_at hb]
  exact key a.length 0 (by omega)
theorem EvIff.bind2 {g f h : Nat → Option Bool} {P Q R : Prop} (hh : EvIff h Q) (hg : EvIff g P) (hf : EvIff f R) : EvIff (fun k => (h k).bind fun t => if t = true then g k else f k) ((Q ∧ P) ∨ (¬ Q ∧ R)) := by
  obtain ⟨r, h1, h2⟩ := hh
  obtain ⟨s, g1, g2⟩ := hg
  obtain ⟨u, f1, f2⟩ := hf
  cases r with
  | true => exact ⟨s, Ev.bind (f := fun k t => if t = true then g k else f k) h1 (Ev.congr (fun k => if_pos rfl) g1), by rw [g2, ← h2]; simp⟩
  | false => exact ⟨u, Ev.bind (f := fun k t => if t = true then g k else f k) h1 (Ev.congr (fun k => if_neg (by simp)) f1), by rw [f2, ← h2]; simp⟩

theorem eqv_Int64S (a b : List Int) (ha : a.length ≤ 1048576) : EvIff (fun k => laws_eqInt64S.f k a b) (a = b) := by
  by_cases hl : a.length = b.length
  · refine EvIff.congr (f := fun k => laws_eqInt64S.l0 k a b 0) (fun k => by unfold laws_eqInt64S.f; rw [if_pos (by omega)]) ?_
    exact EvIff.iff (gen_then (z := (0 : Int)) (R := fun _ => some true) (L := fun k i => laws_eqInt64S.l0 k a b i) (G := fun k i x y => if x = y then laws_eqInt64S.l0 k a b (wrap64 (i + 1)) else some false) a b (fun k i => rfl) (fun i x y _ _ Q h => EvIff.ite h) EvIff.yes hl (by omega)) (by simp)
  · exact EvIff.iff (EvIff.congr (f := fun _ => some false) (fun k => by unfold laws_eqInt64S.f; rw [if_neg (by omega)]) EvIff.no) ⟨fun h => h.elim, fun h => hl (congrArg List.length h)⟩
theorem to_Int64S (a : List Int) (ha : a.length ≤ 1048576) : Ev (fun k => laws_toInt64S.f k a) a := by
  have h := to_list (z := (0 : Int)) (L := fun k a c i => laws_toInt64S.l0 k a c i) (T := fun _ x => some x) (C := fun x => x) (conv := fun x => x) (fun k a c i => ?_) a (by omega) (fun x _ => ⟨x, Ev.now _, rfl⟩) 0
  · rw [List.map_id'] at h
    refine Ev.congr (fun k => ?_) h
    unfold laws_toInt64S.f
    rw [if_pos (by omega), if_pos (by omega)]; rfl
  · rfl
theorem sz_Int64S (a : List Int) (ha : a.length ≤ maxLen) (m : Int) (h0 : 0 ≤ m) (h1 : m ≤ 1048576) : SzOk (fun _ => laws_szInt64S.f a m) m (a.length ≤ 1048576) := by
  unfold maxLen at ha
  exact SzOk.mono (SzOk.size (n := a.length) (g := fun v _ => some v) h0 h1 (by omega) (fun v p q _ => SzOk.done p)) (fun k => rfl) (fun h => by omega)

def cBObj (x : S182) : S108 := ⟨x.f0, x.f1, x.f2⟩
def cBAct (x : S184) : S110 := ⟨x.f0, x.f1, x.f2, x.f3, x.f4⟩
def OSz (x : S108) : Prop := x.f2.length ≤ 1048576
def ASz (x : S110) : Prop := x.f3.length ≤ 1048576 ∧ x.f4.length ≤ 1048576
theorem eqv_BareObj (x y : S108) (h : OSz x) : EvIff (fun k => laws_eqBareObj.f k x.f0 x.f1 x.f2 y.f0 y.f1 y.f2) (x = y) := by
  obtain ⟨a0, a1, a2⟩ := x
  obtain ⟨b0, b1, b2⟩ := y
  unfold laws_eqBareObj.f
  refine EvIff.iff (EvIff.ite (EvIff.ite (EvIff.bind (eqv_Int64S _ _ h) EvIff.yes))) ?_
  rw [toList_eq]
  simp
theorem eqv_BareObjS (a b : List S108) (ha : a.length ≤ 1048576) (hm : ∀ x ∈ a, OSz x) : EvIff (fun k => laws_eqBareObjS.f k a b) (a = b) := by
  by_cases hl : a.length = b.length
  · refine EvIff.congr (f := fun k => laws_eqBareObjS.l0 k a b 0) (fun k => by unfold laws_eqBareObjS.f; rw [if_pos (by omega)]) ?_
    exact eq_list (z := z108) (E := fun k x y => laws_eqBareObj.f k x.f0 x.f1 x.f2 y.f0 y.f1 y.f2) (fun k a b i => rfl) a b (fun x hx y _ => eqv_BareObj x y (hm x hx)) hl (by omega)
  · exact EvIff.iff (EvIff.congr (f := fun _ => some false) (fun k => by unfold laws_eqBareObjS.f; rw [if_neg (by omega)]) EvIff.no) ⟨fun h => h.elim, fun h => hl (congrArg List.length h)⟩
theorem eqv_BareAct (x y : S110) (h : ASz x) : EvIff (fun k => laws_eqBareAct.f k x.f0 x.f1 x.f2 x.f3 x.f4 y.f0 y.f1 y.f2 y.f3 y.f4) (x = y) := by
  obtain ⟨a0, a1, a2, a3, a4⟩ := x
  obtain ⟨b0, b1, b2, b3, b4⟩ := y
  unfold laws_eqBareAct.f
  refine EvIff.iff (EvIff.ite (EvIff.ite (EvIff.ite (EvIff.bind (eqv_Int64S _ _ h.1) (EvIff.bind (eqv_Int64S _ _ h.2) EvIff.yes))))) ?_
  simp
theorem eqv_BareActS (a b : List S110) (ha : a.length ≤ 1048576) (hm : ∀ x ∈ a, ASz x) : EvIff (fun k => laws_eqBareActS.f k a b) (a = b) := by
  by_cases hl : a.length = b.length
  · refine EvIff.congr (f := fun k => laws_eqBareActS.l0 k a b 0) (fun k => by unfold laws_eqBareActS.f; rw [if_pos (by omega)]) ?_
    exact eq_list (z := z110) (E := fun k x y => laws_eqBareAct.f k x.f0 x.f1 x.f2 x.f3 x.f4 y.f0 y.f1 y.f2 y.f3 y.f4) (fun k a b i => rfl) a b (fun x hx y _ => eqv_BareAct x y (hm x hx)) hl (by omega)
  · exact EvIff.iff (EvIff.congr (f := fun _ => some false) (fun k => by unfold laws_eqBareActS.f; rw [if_neg (by omega)]) EvIff.no) ⟨fun h => h.elim, fun h => hl (congrArg List.length h)⟩
theorem eqv_Bare (o : List S108) (a1 : Int) (s : List Int) (c : List S110) (d : Bool) (a5 : Int) (t : ByteArray) (a7 : Int) (o' : List S108) (b1 : Int) (s' : List Int) (c' : List S110) (d' : Bool) (b5 : Int) (t' : ByteArray) (b7 : Int)
    (ho : o.length ≤ 1048576) (hs : s.length ≤ 1048576) (hc : c.length ≤ 1048576) (hO : ∀ x ∈ o, OSz x) (hA : ∀ x ∈ c, ASz x) :
    EvIff (fun k => laws_eqBare.f k o a1 s c d a5 t a7 o' b1 s' c' d' b5 t' b7) (o = o' ∧ a1 = b1 ∧ s = s' ∧ c = c' ∧ d = d' ∧ a5 = b5 ∧ t = t' ∧ a7 = b7) := by
  unfold laws_eqBare.f
  refine EvIff.iff (EvIff.bind (eqv_BareObjS _ _ ho hO) (EvIff.ite (EvIff.bind (eqv_Int64S _ _ hs) (EvIff.bind (eqv_BareActS _ _ hc hA) (EvIff.iten (EvIff.ite (EvIff.ite (EvIff.ite EvIff.yes)))))))) ?_
  rw [toList_eq]
  simp
theorem to_BareObj (x : S182) (h : x.f2.length ≤ 1048576) : Ev (fun k => laws_toBareObj.f k x.f0 x.f1 x.f2) (x.f0, x.f1, x.f2) :=
  Ev.congr (fun k => rfl) (Ev.bind (f := fun k t => some (x.f0, x.f1, t)) (to_Int64S _ h) (Ev.now _))
theorem to_BareObjS (a : List S182) (ha : a.length ≤ 1048576) (hm : ∀ x ∈ a, x.f2.length ≤ 1048576) : Ev (fun k => laws_toBareObjS.f k a) (a.map cBObj) := by
  refine Ev.congr (f := fun k => laws_toBareObjS.l0 k a (List.replicate a.length z108) 0) (fun k => ?_) (to_list (z := z182) (T := fun k x => laws_toBareObj.f k x.f0 x.f1 x.f2) (C := fun t => (⟨t.1, t.2.1, t.2.2⟩ : S108)) (fun k a c i => rfl) a (by omega) (fun x hx => ⟨_, to_BareObj x (hm x hx), rfl⟩) _)
  unfold laws_toBareObjS.f
  rw [if_pos (by omega), if_pos (by omega)]; rfl
theorem to_BareAct (x : S184) (h : x.f3.length ≤ 1048576) (h' : x.f4.length ≤ 1048576) : Ev (fun k => laws_toBareAct.f k x.f0 x.f1 x.f2 x.f3 x.f4) (x.f0, x.f1, x.f2, x.f3, x.f4) :=
  Ev.congr (fun k => rfl) (Ev.bind (f := fun k t => (laws_toInt64S.f k x.f4).bind fun u => some (x.f0, x.f1, x.f2, t, u)) (to_Int64S _ h) (Ev.bind (f := fun k u => some (x.f0, x.f1, x.f2, x.f3, u)) (to_Int64S _ h') (Ev.now _)))
theorem to_BareActS (a : List S184) (ha : a.length ≤ 1048576) (hm : ∀ x ∈ a, x.f3.length ≤ 1048576 ∧ x.f4.length ≤ 1048576) : Ev (fun k => laws_toBareActS.f k a) (a.map cBAct) := by
  refine Ev.congr (f := fun k => laws_toBareActS.l0 k a (List.replicate a.length z110) 0) (fun k => ?_) (to_list (z := z184) (T := fun k x => laws_toBareAct.f k x.f0 x.f1 x.f2 x.f3 x.f4) (C := fun t => (⟨t.1, t.2.1, t.2.2.1, t.2.2.2.1, t.2.2.2.2⟩ : S110)) (fun k a c i => rfl) a (by omega) (fun x hx => ⟨_, to_BareAct x (hm x hx).1 (hm x hx).2, rfl⟩) _)
  unfold laws_toBareActS.f
  rw [if_pos (by omega), if_pos (by omega)]; rfl
theorem sz_BareObj (x : S182) (ho : ok182 x) (m : Int) (h0 : 0 ≤ m) (h1 : m ≤ 1048576) : SzOk (fun _ => laws_szBareObj.f x.f0 x.f1 x.f2 m) m (x.f2.length ≤ 1048576) := by
  obtain ⟨o0, _, o2⟩ := ho
  unfold maxLen at o0
  exact SzOk.mono (SzOk.size (n := x.f0.size) (g := fun v k => (laws_szInt64S.f x.f2 v).bind fun t => if t < 0 then some (-1) else some t) h0 h1 (by omega) (fun v a b _ => SzOk.bind (g := fun k t => some t) (sz_Int64S x.f2 o2.1 v a (by omega)) (fun v a b => SzOk.done a))) (fun k => rfl) (fun h => h.2.1)
theorem sz_BareObjS (a : List S182) (ha : a.length ≤ maxLen) (ho : ∀ x ∈ a, ok182 x) (m : Int) (h0 : 0 ≤ m) (h1 : m ≤ 1048576) :
    SzOk (fun k => laws_szBareObjS.f k a m) m (a.length ≤ 1048576 ∧ ∀ x ∈ a, x.f2.length ≤ 1048576) := by
  unfold maxLen at ha
  refine SzOk.mono (SzOk.size (n := a.length) (g := fun v k => laws_szBareObjS.l0 k a v 0) h0 h1 (by omega) (fun v p q _ => sz_list (z := z182) (Z := fun k x m => laws_szBareObj.f x.f0 x.f1 x.f2 m) (fun k a m i => rfl) a (by omega) (fun x hx m p q => sz_BareObj x (ho x hx) m p q) v p (by omega))) (fun k => rfl) (fun h => ⟨by omega, h.2⟩)
theorem sz_BareAct (x : S184) (ho : ok184 x) (m : Int) (h0 : 0 ≤ m) (h1 : m ≤ 1048576) : SzOk (fun _ => laws_szBareAct.f x.f0 x.f1 x.f2 x.f3 x.f4 m) m (x.f3.length ≤ 1048576 ∧ x.f4.length ≤ 1048576) := by
  obtain ⟨_, _, _, o3, o4⟩ := ho
  exact SzOk.mono (SzOk.bind (g := fun k t => (laws_szInt64S.f x.f4 t).bind fun t => if t < 0 then some (-1) else some t) (sz_Int64S x.f3 o3.1 m h0 h1) (fun v a b => SzOk.bind (g := fun k t => some t) (sz_Int64S x.f4 o4.1 v a (by omega)) (fun v a b => SzOk.done a))) (fun k => rfl) (fun h => ⟨h.1, h.2.1⟩)
theorem sz_BareActS (a : List S184) (ha : a.length ≤ maxLen) (ho : ∀ x ∈ a, ok184 x) (m : Int) (h0 : 0 ≤ m) (h1 : m ≤ 1048576) :
    SzOk (fun k => laws_szBareActS.f k a m) m (a.length ≤ 1048576 ∧ ∀ x ∈ a, x.f3.length ≤ 1048576 ∧ x.f4.length ≤ 1048576) := by
  unfold maxLen at ha
  refine SzOk.mono (SzOk.size (n := a.length) (g := fun v k => laws_szBareActS.l0 k a v 0) h0 h1 (by omega) (fun v p q _ => sz_list (z := z184) (Z := fun k x m => laws_szBareAct.f x.f0 x.f1 x.f2 x.f3 x.f4 m) (fun k a m i => rfl) a (by omega) (fun x hx m p q => sz_BareAct x (ho x hx) m p q) v p (by omega))) (fun k => rfl) (fun h => ⟨by omega, h.2⟩)
def BB (x : S33) : Prop := (x.f0.length ≤ 1048576 ∧ ∀ o ∈ x.f0, o.f2.length ≤ 1048576) ∧ x.f2.length ≤ 1048576 ∧ (x.f3.length ≤ 1048576 ∧ ∀ o ∈ x.f3, o.f3.length ≤ 1048576 ∧ o.f4.length ≤ 1048576)
theorem sz_Bare (x : S33) (ho : ok33 x) (m : Int) (h0 : 0 ≤ m) (h1 : m ≤ 1048576) : SzOk (fun k => laws_szBare.f k x.f0 x.f1 x.f2 x.f3 x.f4 x.f5 x.f6 x.f7 m) m (BB x) := by
  obtain ⟨o0, _, o2, o3, _, _, o6, _⟩ := ho
  unfold maxLen at o6
  exact SzOk.mono (SzOk.bind (g := fun k t => (laws_szInt64S.f x.f2 t).bind fun t => if t < 0 then some (-1) else (laws_szBareActS.f k x.f3 t).bind fun t => if t < 0 then some (-1) else if wrap64 (t - (x.f6.size : Int)) < 0 then some (-1) else some (wrap64 (t - (x.f6.size : Int)))) (sz_BareObjS x.f0 o0.1 o0.2 m h0 h1) (fun v a b =>
    SzOk.bind (g := fun k t => (laws_szBareActS.f k x.f3 t).bind fun t => if t < 0 then some (-1) else if wrap64 (t - (x.f6.size : Int)) < 0 then some (-1) else some (wrap64 (t - (x.f6.size : Int)))) (sz_Int64S x.f2 o2.1 v a (by omega)) (fun v a b =>
      SzOk.bind (g := fun k t => if wrap64 (t - (x.f6.size : Int)) < 0 then some (-1) else some (wrap64 (t - (x.f6.size : Int)))) (sz_BareActS x.f3 o3.1 o3.2 v a (by omega)) (fun v a b => SzOk.size (n := x.f6.size) (g := fun v k => some v) a (by omega) (by omega) (fun v a b _ => SzOk.done a))))) (fun k => rfl) (fun h => ⟨h.1, h.2.1, h.2.2.1⟩)
theorem to_Bare (x : S33) (h : BB x) : Ev (fun k => laws_toBare.f k x.f0 x.f1 x.f2 x.f3 x.f4 x.f5 x.f6 x.f7) (x.f0.map cBObj, x.f1, x.f2, x.f3.map cBAct, x.f4, x.f5, x.f6, x.f7) :=
  Ev.congr (fun k => rfl) (Ev.bind (f := fun k t => (laws_toInt64S.f k x.f2).bind fun t2 => (laws_toBareActS.f k x.f3).bind fun t3 => some (t, x.f1, t2, t3, x.f4, x.f5, x.f6, x.f7)) (to_BareObjS _ h.1.1 h.1.2) (Ev.bind (f := fun k t2 => (laws_toBareActS.f k x.f3).bind fun t3 => some (x.f0.map cBObj, x.f1, t2, t3, x.f4, x.f5, x.f6, x.f7)) (to_Int64S _ h.2.1) (Ev.bind (f := fun k t3 => some (x.f0.map cBObj, x.f1, x.f2, t3, x.f4, x.f5, x.f6, x.f7)) (to_BareActS _ h.2.2.1 h.2.2.2) (Ev.now _))))
theorem osz_map (x : S33) (h : BB x) : ∀ y ∈ x.f0.map cBObj, OSz y := by
  intro y hy
  obtain ⟨z, hz, rfl⟩ := List.mem_map.mp hy
  exact h.1.2 z hz
theorem asz_map (x : S33) (h : BB x) : ∀ y ∈ x.f3.map cBAct, ASz y := by
  intro y hy
  obtain ⟨z, hz, rfl⟩ := List.mem_map.mp hy
  exact h.2.2.2 z hz

theorem nums_spec (a b : List Int) (ha : a.length ≤ 1048576) : EvIff (fun k => spec_l12Nums.f k a b) (a = b) := by
  by_cases hl : a.length = b.length
  · refine EvIff.congr (f := fun k => spec_l12Nums.l0 k a b 0) (fun k => by unfold spec_l12Nums.f; rw [if_pos (by omega)]) ?_
    exact EvIff.iff (gen_then (z := (0 : Int)) (R := fun _ => some true) (L := fun k i => spec_l12Nums.l0 k a b i) (G := fun k i x y => if x = y then spec_l12Nums.l0 k a b (wrap64 (i + 1)) else some false) a b (fun k i => rfl) (fun i x y _ _ Q h => EvIff.ite h) EvIff.yes hl (by omega)) (by simp)
  · exact EvIff.iff (EvIff.congr (f := fun _ => some false) (fun k => by unfold spec_l12Nums.f; rw [if_neg (by omega)]) EvIff.no) ⟨fun h => h.elim, fun h => hl (congrArg List.length h)⟩
theorem nums_impl (a b : List Int) (ha : a.length ≤ 1048576) : EvIff (fun k => slices_Equal_int64_int64.f k a b) (a = b) := by
  by_cases hl : a.length = b.length
  · refine EvIff.congr (f := fun k => slices_Equal_int64_int64.l0 k a b (a.length : Int) 0) (fun k => by unfold slices_Equal_int64_int64.f; rw [if_pos (by omega)]) ?_
    refine EvIff.iff (gen_then (z := (0 : Int)) (R := fun _ => some true) (L := fun k i => slices_Equal_int64_int64.l0 k a b (a.length : Int) i) (G := fun k i x y => if x = y then slices_Equal_int64_int64.l0 k a b (a.length : Int) (wrap64 (i + 1)) else some false) a b (fun k i => ?_) (fun i x y _ _ Q h => EvIff.ite h) EvIff.yes hl (by omega)) (by simp)
    show (if i < (a.length : Int) then (if 0 ≤ i then (if i < (a.length : Int) then (if i < (b.length : Int) then _ else none) else none) else none) else some true) = _
    by_cases c : i < (a.length : Int)
    · rw [if_pos c, if_pos c, if_pos c]; rfl
    · rw [if_neg c, if_neg c]
  · exact EvIff.iff (EvIff.congr (f := fun _ => some false) (fun k => by unfold slices_Equal_int64_int64.f; rw [if_neg (by omega)]) EvIff.no) ⟨fun h => h.elim, fun h => hl (congrArg List.length h)⟩
theorem obj_impl (x y : S108) (h : OSz x) : EvIff (fun k => impl_BareSame_1.f k x.f0 x.f1 x.f2 y.f0 y.f1 y.f2) (x = y) := by
  obtain ⟨a0, a1, a2⟩ := x
  obtain ⟨b0, b1, b2⟩ := y
  unfold impl_BareSame_1.f
  refine EvIff.iff (EvIff.ite (EvIff.ite (EvIff.last (nums_impl _ _ h)))) ?_
  rw [toList_eq]
  simp
theorem act_impl (x y : S110) (h : ASz x) : EvIff (fun k => impl_BareSame_2.f k x.f0 x.f1 x.f2 x.f3 x.f4 y.f0 y.f1 y.f2 y.f3 y.f4) (x = y) := by
  obtain ⟨a0, a1, a2, a3, a4⟩ := x
  obtain ⟨b0, b1, b2, b3, b4⟩ := y
  unfold impl_BareSame_2.f
  refine EvIff.iff (EvIff.ite (EvIff.ite (EvIff.ite (EvIff.bind (nums_impl _ _ h.1) (EvIff.last (nums_impl _ _ h.2)))))) ?_
  simp
theorem objs_impl (a b : List S108) (ha : a.length ≤ 1048576) (hm : ∀ x ∈ a, OSz x) : EvIff (fun k => impl_BareObj.f k a b) (a = b) := by
  by_cases hl : a.length = b.length
  · refine EvIff.congr (f := fun k => impl_BareObj.l0 k b a (a.length : Int) 0) (fun k => by unfold impl_BareObj.f; rw [if_pos (by omega)]) ?_
    refine EvIff.iff (eq_then (z := z108) (R := fun _ => some true) (L := fun k i => impl_BareObj.l0 k b a (a.length : Int) i) (E := fun k x y => impl_BareSame_1.f k x.f0 x.f1 x.f2 y.f0 y.f1 y.f2) a b (fun k i => ?_) (fun x hx y _ => obj_impl x y (hm x hx)) EvIff.yes hl (by omega)) (by simp)
    show (if i < (a.length : Int) then (if 0 ≤ i then (if i < (a.length : Int) then (if i < (b.length : Int) then _ else none) else none) else none) else some true) = _
    by_cases c : i < (a.length : Int)
    · rw [if_pos c, if_pos c, if_pos c]; rfl
    · rw [if_neg c, if_neg c]
  · exact EvIff.iff (EvIff.congr (f := fun _ => some false) (fun k => by unfold impl_BareObj.f; rw [if_neg (by omega)]) EvIff.no) ⟨fun h => h.elim, fun h => hl (congrArg List.length h)⟩
theorem acts_impl (a b : List S110) (ha : a.length ≤ 1048576) (hm : ∀ x ∈ a, ASz x) : EvIff (fun k => impl_BareAct.f k a b) (a = b) := by
  by_cases hl : a.length = b.length
  · refine EvIff.congr (f := fun k => impl_BareAct.l0 k b a (a.length : Int) 0) (fun k => by unfold impl_BareAct.f; rw [if_pos (by omega)]) ?_
    refine EvIff.iff (eq_then (z := z110) (R := fun _ => some true) (L := fun k i => impl_BareAct.l0 k b a (a.length : Int) i) (E := fun k x y => impl_BareSame_2.f k x.f0 x.f1 x.f2 x.f3 x.f4 y.f0 y.f1 y.f2 y.f3 y.f4) a b (fun k i => ?_) (fun x hx y _ => act_impl x y (hm x hx)) EvIff.yes hl (by omega)) (by simp)
    show (if i < (a.length : Int) then (if 0 ≤ i then (if i < (a.length : Int) then (if i < (b.length : Int) then _ else none) else none) else none) else some true) = _
    by_cases c : i < (a.length : Int)
    · rw [if_pos c, if_pos c, if_pos c]; rfl
    · rw [if_neg c, if_neg c]
  · exact EvIff.iff (EvIff.congr (f := fun _ => some false) (fun k => by unfold impl_BareAct.f; rw [if_neg (by omega)]) EvIff.no) ⟨fun h => h.elim, fun h => hl (congrArg List.length h)⟩
section
variable (o : List S108) (a1 : Int) (s : List Int) (c : List S110) (d : Bool) (a5 : Int) (t : ByteArray) (a7 : Int) (o' : List S108) (b1 : Int) (s' : List Int) (c' : List S110) (d' : Bool) (b5 : Int) (t' : ByteArray) (b7 : Int)
def SameP : Prop := o = o' ∧ a1 = b1 ∧ s = s' ∧ c = c' ∧ d = d' ∧ a5 = b5 ∧ t = t' ∧ a7 = b7
theorem not_then {g : Nat → Bool → Option Bool} {h : Nat → Option Bool} {P Q : Prop} (hh : EvIff h Q) (ht : EvIff (fun k => g k true) False) (hf : EvIff (fun k => g k false) P) : EvIff (fun k => (h k).bind fun t => g k (!t)) (Q ∧ P) := by
  obtain ⟨r, h1, h2⟩ := hh
  cases r with
  | true =>
    obtain ⟨u, h3, h4⟩ := hf
    exact ⟨u, Ev.bind (f := fun k t => g k (!t)) h1 h3, by rw [h4, ← h2]; simp⟩
  | false =>
    obtain ⟨u, h3, h4⟩ := ht
    exact ⟨u, Ev.bind (f := fun k t => g k (!t)) h1 h3, by rw [h4, ← h2]; simp⟩
theorem bare_impl (ho : o.length ≤ 1048576) (hs : s.length ≤ 1048576) (hc : c.length ≤ 1048576) (hO : ∀ x ∈ o, OSz x) (hA : ∀ x ∈ c, ASz x) :
    EvIff (fun k => impl_BareSame.f k o a1 s c d a5 t a7 o' b1 s' c' d' b5 t' b7) (SameP o a1 s c d a5 t a7 o' b1 s' c' d' b5 t' b7) := by
  have yes : EvIff (fun k => impl_BareSame.j0 k true o a1 s c d a5 t a7 o' b1 s' c' d' b5 t' b7) False := EvIff.step (f := fun _ => some false) (fun k => by simp only [impl_BareSame.j0, ↓reduceIte]) EvIff.no
  have no : EvIff (fun k => impl_BareSame.j0 k false o a1 s c d a5 t a7 o' b1 s' c' d' b5 t' b7) (o = o' ∧ c = c') :=
    EvIff.step (f := fun k => (impl_BareObj.f k o o').bind fun t => if t = true then (impl_BareAct.f k c c').bind fun t => some t else some false) (fun k => by simp only [impl_BareSame.j0]; rw [if_neg (by simp)]) (EvIff.bind (objs_impl _ _ ho hO) (EvIff.last (acts_impl _ _ hc hA)))
  unfold impl_BareSame.f
  refine EvIff.iff (EvIff.ite2 (EvIff.ite2 yes (EvIff.ite2 (EvIff.ite2 (EvIff.ite2 (not_then (g := fun k b => impl_BareSame.j0 k b o a1 s c d a5 t a7 o' b1 s' c' d' b5 t' b7) (nums_impl _ _ hs) yes no) yes) yes) yes)) yes) ?_
  rw [toList_eq]
  unfold SameP
  simp
  constructor
  · rintro ⟨h1, h2, h3, h4, h5, h6, h7, h8⟩; exact ⟨h7, h1, h6, h8, h2, h3, h4, h5⟩
  · rintro ⟨h7, h1, h6, h8, h2, h3, h4, h5⟩; exact ⟨h1, h2, h3, h4, h5, h6, h7, h8⟩
theorem bare_spec (ho : o.length ≤ 1048576) (hs : s.length ≤ 1048576) (hc : c.length ≤ 1048576) (hO : ∀ x ∈ o, OSz x) (hA : ∀ x ∈ c, ASz x) :
    EvIff (fun k => spec_BareSame.f k o a1 s c d a5 t a7 o' b1 s' c' d' b5 t' b7) (SameP o a1 s c d a5 t a7 o' b1 s' c' d' b5 t' b7) := by
  have yes : EvIff (fun k => spec_BareSame.j0 k true o a1 s c d a5 t a7 o' b1 s' c' d' b5 t' b7) False := EvIff.step (f := fun _ => some false) (fun k => by simp only [spec_BareSame.j0, ↓reduceIte]) EvIff.no
  have inner : EvIff (fun k => if (o.length : Int) = (o'.length : Int) then spec_BareSame.j0 k ((c.length : Int) != (c'.length : Int)) o a1 s c d a5 t a7 o' b1 s' c' d' b5 t' b7 else spec_BareSame.j0 k true o a1 s c d a5 t a7 o' b1 s' c' d' b5 t' b7) (o = o' ∧ c = c') := by
    by_cases c7 : o.length = o'.length
    · refine EvIff.iteP (by omega) ?_
      by_cases c8 : c.length = c'.length
      · have e : ((c.length : Int) != (c'.length : Int)) = false := bne_eq_false_iff_eq.mpr (by omega)
        rw [e]
        refine EvIff.step (f := fun k => spec_BareSame.l0 k 0 o a1 s c d a5 t a7 o' b1 s' c' d' b5 t' b7) (fun k => by simp only [spec_BareSame.j0]; rw [if_neg (by simp)]) ?_
        refine gen_then (z := z108) (L := fun k i => spec_BareSame.l0 k i o a1 s c d a5 t a7 o' b1 s' c' d' b5 t' b7)
          (G := fun k i x y => if x.f0.toList = y.f0.toList then (if x.f1 = y.f1 then (spec_l12Nums.f k x.f2 y.f2).bind fun u => spec_BareSame.j2 k i (!u) o a1 s c d a5 t a7 o' b1 s' c' d' b5 t' b7 else spec_BareSame.j2 k i true o a1 s c d a5 t a7 o' b1 s' c' d' b5 t' b7) else spec_BareSame.j2 k i true o a1 s c d a5 t a7 o' b1 s' c' d' b5 t' b7)
          o o' (fun k i => rfl) (fun i x y hx _ Q hQ => ?_) ?_ c7 (by omega)
        · have t2 : EvIff (fun k => spec_BareSame.j2 k i true o a1 s c d a5 t a7 o' b1 s' c' d' b5 t' b7) False := EvIff.step (f := fun _ => some false) (fun k => by simp only [spec_BareSame.j2, ↓reduceIte]) EvIff.no
          have f2 : EvIff (fun k => spec_BareSame.j2 k i false o a1 s c d a5 t a7 o' b1 s' c' d' b5 t' b7) Q := EvIff.step (f := fun k => spec_BareSame.l0 k (wrap64 (i + 1)) o a1 s c d a5 t a7 o' b1 s' c' d' b5 t' b7) (fun k => by simp only [spec_BareSame.j2]; rw [if_neg (by simp)]) hQ
          refine EvIff.iff (EvIff.ite2 (EvIff.ite2 (not_then (g := fun k b => spec_BareSame.j2 k i b o a1 s c d a5 t a7 o' b1 s' c' d' b5 t' b7) (nums_spec _ _ (hO x hx)) t2 f2) t2) t2) ?_
          obtain ⟨x0, x1, x2⟩ := x
          obtain ⟨y0, y1, y2⟩ := y
          rw [toList_eq]
          simp [and_assoc]
        · refine EvIff.iff (gen_then (z := z110) (R := fun _ => some true) (L := fun k i => spec_BareSame.l1 k i o a1 s c d a5 t a7 o' b1 s' c' d' b5 t' b7)
            (G := fun k i x y => if x.f0 = y.f0 then (if x.f1 = y.f1 then (if x.f2 = y.f2 then ((spec_l12Nums.f k x.f3 y.f3).bind fun u => if u = true then ((spec_l12Nums.f k x.f4 y.f4).bind fun u => spec_BareSame.j4 k i (!u) o a1 s c d a5 t a7 o' b1 s' c' d' b5 t' b7) else spec_BareSame.j4 k i true o a1 s c d a5 t a7 o' b1 s' c' d' b5 t' b7) else spec_BareSame.j4 k i true o a1 s c d a5 t a7 o' b1 s' c' d' b5 t' b7) else spec_BareSame.j4 k i true o a1 s c d a5 t a7 o' b1 s' c' d' b5 t' b7) else spec_BareSame.j4 k i true o a1 s c d a5 t a7 o' b1 s' c' d' b5 t' b7)
            c c' (fun k i => rfl) (fun i x y hx _ Q hQ => ?_) EvIff.yes c8 (by omega)) (by simp)
          have t4 : EvIff (fun k => spec_BareSame.j4 k i true o a1 s c d a5 t a7 o' b1 s' c' d' b5 t' b7) False := EvIff.step (f := fun _ => some false) (fun k => by simp only [spec_BareSame.j4, ↓reduceIte]) EvIff.no
          have f4 : EvIff (fun k => spec_BareSame.j4 k i false o a1 s c d a5 t a7 o' b1 s' c' d' b5 t' b7) Q := EvIff.step (f := fun k => spec_BareSame.l1 k (wrap64 (i + 1)) o a1 s c d a5 t a7 o' b1 s' c' d' b5 t' b7) (fun k => by simp only [spec_BareSame.j4]; rw [if_neg (by simp)]) hQ
          refine EvIff.iff (EvIff.ite2 (EvIff.ite2 (EvIff.ite2 (EvIff.bind2 (nums_spec _ _ (hA x hx).1) (not_then (g := fun k b => spec_BareSame.j4 k i b o a1 s c d a5 t a7 o' b1 s' c' d' b5 t' b7) (nums_spec _ _ (hA x hx).2) t4 f4) t4) t4) t4) t4) ?_
          obtain ⟨x0, x1, x2, x3, x4⟩ := x
          obtain ⟨y0, y1, y2, y3, y4⟩ := y
          simp [and_assoc]
      · have e : ((c.length : Int) != (c'.length : Int)) = true := bne_iff_ne.mpr (by omega)
        rw [e]
        exact EvIff.iff yes ⟨fun h => h.elim, fun h => c8 (congrArg List.length h.2)⟩
    · exact EvIff.iff (EvIff.iteN (by omega) yes) ⟨fun h => h.elim, fun h => c7 (congrArg List.length h.1)⟩
  unfold spec_BareSame.f
  refine EvIff.iff (EvIff.ite2 (EvIff.ite2 yes (EvIff.ite2 (EvIff.ite2 (EvIff.ite2 (EvIff.bind2 (nums_spec _ _ hs) inner yes) yes) yes) yes)) yes) ?_
  rw [toList_eq]
  unfold SameP
  simp
  constructor
  · rintro ⟨h1, h2, h3, h4, h5, h6, h7, h8⟩; exact ⟨h7, h1, h6, h8, h2, h3, h4, h5⟩
  · rintro ⟨h7, h1, h6, h8, h2, h3, h4, h5⟩; exact ⟨h1, h2, h3, h4, h5, h6, h7, h8⟩
end
theorem FnExactBareSame : laws_FnExactBareSame.Pure := by
  intro x y hx hy
  obtain ⟨v, hv, hb⟩ := sz_Bare x hx 1048576 (by omega) (by omega)
  refine Ev.rounds (Ev.congr (fun k => rfl) (Ev.bind hv ?_))
  rcases hb with hb | ⟨v0, v1, hX⟩
  · exact Ev.congr (f := fun _ => some true) (fun k => if_pos hb) (Ev.now _)
  refine Ev.congr (fun k => if_neg (by omega)) ?_
  obtain ⟨u, hu, hc⟩ := sz_Bare y hy v v0 v1
  refine Ev.bind hu ?_
  rcases hc with hc | ⟨u0, u1, hY⟩
  · exact Ev.congr (f := fun _ => some true) (fun k => if_pos hc) (Ev.now _)
  refine Ev.congr (fun k => if_neg (by omega)) ?_
  have tx := to_Bare x hX
  have ty := to_Bare y hY
  have x0 : (x.f0.map cBObj).length ≤ 1048576 := by simpa using hX.1.1
  have x3 : (x.f3.map cBAct).length ≤ 1048576 := by simpa using hX.2.2.1
  have y0 : (y.f0.map cBObj).length ≤ 1048576 := by simpa using hY.1.1
  have y3 : (y.f3.map cBAct).length ≤ 1048576 := by simpa using hY.2.2.1
  obtain ⟨r, r1, r2⟩ := EvIff.same (bare_spec (x.f0.map cBObj) x.f1 x.f2 (x.f3.map cBAct) x.f4 x.f5 x.f6 x.f7 (y.f0.map cBObj) y.f1 y.f2 (y.f3.map cBAct) y.f4 y.f5 y.f6 y.f7 x0 hX.2.1 x3 (osz_map x hX) (asz_map x hX)) (bare_impl (x.f0.map cBObj) x.f1 x.f2 (x.f3.map cBAct) x.f4 x.f5 x.f6 x.f7 (y.f0.map cBObj) y.f1 y.f2 (y.f3.map cBAct) y.f4 y.f5 y.f6 y.f7 x0 hX.2.1 x3 (osz_map x hX) (asz_map x hX))
  have ex := EvIff.true_ (eqv_Bare (x.f0.map cBObj) x.f1 x.f2 (x.f3.map cBAct) x.f4 x.f5 x.f6 x.f7 _ _ _ _ _ _ _ _ x0 hX.2.1 x3 (osz_map x hX) (asz_map x hX)) ⟨rfl, rfl, rfl, rfl, rfl, rfl, rfl, rfl⟩
  have ey := EvIff.true_ (eqv_Bare (y.f0.map cBObj) y.f1 y.f2 (y.f3.map cBAct) y.f4 y.f5 y.f6 y.f7 _ _ _ _ _ _ _ _ y0 hY.2.1 y3 (osz_map y hY) (asz_map y hY)) ⟨rfl, rfl, rfl, rfl, rfl, rfl, rfl, rfl⟩
  exact Ev.bind tx (Ev.bind ty (Ev.bind r1 (Ev.bind tx (Ev.bind ty (Ev.bind r2 (Ev.congr (fun k => if_neg (by simp)) (Ev.bind tx (Ev.bind ex (Ev.congr (fun k => if_pos rfl) (Ev.bind ty (Ev.bind ey (Ev.congr (f := fun _ => some true) (fun k => if_pos rfl) (Ev.now _)))))))))))))

end Go.Proofs.Ytlflbmbcjjegaaa.Pure
