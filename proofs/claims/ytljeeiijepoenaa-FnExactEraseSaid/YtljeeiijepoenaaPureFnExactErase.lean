/- The program's Erase returns what the reference's returns, for every machine that the model can hold; its answer owns its memory. -/
import Derived.Test.YtljeeiijepoenaaPFnExactErasex12
namespace Go.Proofs.Ytljeeiijepoenaa.Pure
open Go.RowKit Go.Proofs.Ytljeeiijepoenaa.PFnExactErase Go.Proofs.YtljeeiijepoenaaW.PrintWords Go.Proofs.YtljeeiijepoenaaW.PrintLast
set_option linter.unusedVariables false
set_option linter.unusedSimpArgs false

theorem rdOf_at {α : Type} (d : α) (l : List α) (i : Int) (h : i.toNat < l.length) : rdOf d l i = l[i.toNat] := by
  simp [rdOf, List.getD_eq_getElem?_getD, List.getElem?_eq_getElem h]
/-- A list that is filled from the left. -/
theorem fill_end {α : Type} (l acc : List α) (hl : acc.length = l.length) (h : ∀ j, j < l.length → acc[j]? = l[j]?) : acc = l := by
  apply List.ext_getElem?
  intro j
  by_cases hj : j < l.length
  · exact h j hj
  · rw [List.getElem?_eq_none (by omega), List.getElem?_eq_none (by omega)]
theorem fill_step {α : Type} (l acc : List α) (i : Nat) (v : α) (hl : acc.length = l.length) (hi : i < l.length) (hv : l[i]? = some v) (h : ∀ j, j < i → acc[j]? = l[j]?) : ∀ j, j < i + 1 → (acc.set i v)[j]? = l[j]? := by
  intro j hj
  by_cases e : j = i
  · subst e; rw [List.getElem?_set_self (by omega), hv]
  · rw [List.getElem?_set_ne (by omega)]; exact h j (by omega)
theorem ev_le {α : Type} {g : Nat → Option α} {r : α} (h : Ev g r) : ∃ K, ∀ k, K ≤ k → g k = some r := h

/-- A bool that is told by a proposition. -/
def EvIff (g : Nat → Option Bool) (P : Prop) : Prop := ∃ r, Ev g r ∧ (r = true ↔ P)
theorem EvIff.iff {g : Nat → Option Bool} {P Q : Prop} (h : EvIff g P) (e : P ↔ Q) : EvIff g Q := by
  obtain ⟨r, h1, h2⟩ := h
  exact ⟨r, h1, h2.trans e⟩
theorem EvIff.congr {g f : Nat → Option Bool} {P : Prop} (e : ∀ k, g k = f k) (h : EvIff f P) : EvIff g P := by
  obtain ⟨r, h1, h2⟩ := h
  exact ⟨r, Ev.congr e h1, h2⟩
theorem EvIff.step {g f : Nat → Option Bool} {P : Prop} (e : ∀ k, g (k + 1) = f k) (h : EvIff f P) : EvIff g P := by
  obtain ⟨r, h1, h2⟩ := h
  exact ⟨r, Ev.step e h1, h2⟩
theorem EvIff.yes : EvIff (fun _ => some true) True := ⟨true, Ev.now _, by simp⟩
theorem EvIff.no : EvIff (fun _ => some false) False := ⟨false, Ev.now _, by simp⟩
theorem EvIff.val (b : Bool) : EvIff (fun _ => some b) (b = true) := ⟨b, Ev.now _, Iff.rfl⟩
theorem EvIff.ite {c : Prop} [Decidable c] {g : Nat → Option Bool} {P : Prop} (h : EvIff g P) : EvIff (fun k => if c then g k else some false) (c ∧ P) := by
  by_cases hc : c
  · exact EvIff.iff (EvIff.congr (fun k => if_pos hc) h) (by simp [hc])
  · exact EvIff.iff (EvIff.congr (f := fun _ => some false) (fun k => if_neg hc) EvIff.no) (by simp [hc])
theorem EvIff.iten {c : Prop} [Decidable c] {g : Nat → Option Bool} {P : Prop} (h : EvIff g P) : EvIff (fun k => if c then some false else g k) (¬ c ∧ P) := by
  by_cases hc : c
  · exact EvIff.iff (EvIff.congr (f := fun _ => some false) (fun k => if_pos hc) EvIff.no) (by simp [hc])
  · exact EvIff.iff (EvIff.congr (fun k => if_neg hc) h) (by simp [hc])
theorem EvIff.bind {g h : Nat → Option Bool} {P Q : Prop} (hh : EvIff h Q) (hg : EvIff g P) : EvIff (fun k => (h k).bind fun t => if t = true then g k else some false) (Q ∧ P) := by
  obtain ⟨r, h1, h2⟩ := hh
  obtain ⟨s, g1, g2⟩ := hg
  cases r with
  | true => exact ⟨s, Ev.bind (f := fun k t => if t = true then g k else some false) h1 (Ev.congr (fun k => if_pos rfl) g1), by rw [g2, ← h2]; simp⟩
  | false => exact ⟨false, Ev.bind (f := fun k t => if t = true then g k else some false) h1 (Ev.congr (f := fun _ => some false) (fun k => if_neg (by simp)) (Ev.now _)), by rw [← h2]; simp⟩
theorem EvIff.last {h : Nat → Option Bool} {Q : Prop} (hh : EvIff h Q) : EvIff (fun k => (h k).bind fun t => some t) Q := by
  obtain ⟨r, h1, h2⟩ := hh
  exact ⟨r, Ev.bind (f := fun _ t => some t) h1 (Ev.now _), h2⟩
theorem EvIff.same {g h : Nat → Option Bool} {P : Prop} (hg : EvIff g P) (hh : EvIff h P) : ∃ r, Ev g r ∧ Ev h r := by
  obtain ⟨r, h1, h2⟩ := hg
  obtain ⟨s, g1, g2⟩ := hh
  have e : r = s := Bool.eq_iff_iff.mpr (h2.trans g2.symm)
  subst e
  exact ⟨r, h1, g1⟩
theorem EvIff.true_ {g : Nat → Option Bool} {P : Prop} (h : EvIff g P) (p : P) : Ev g true := by
  obtain ⟨r, h1, h2⟩ := h
  rw [h2.mpr p] at h1; exact h1
theorem toList_eq (a b : ByteArray) : a.toList = b.toList ↔ a = b := ⟨fun h => WideShapes.bytes_inj (by rw [← Lib.toList_data, ← Lib.toList_data]; exact h), fun h => by rw [h]⟩
theorem drop_cons_iff {α : Type} {a b : List α} {i : Nat} (ha : i < a.length) (hb : i < b.length) : a.drop i = b.drop i ↔ a[i] = b[i] ∧ a.drop (i + 1) = b.drop (i + 1) := by
  rw [List.drop_eq_getElem_cons ha, List.drop_eq_getElem_cons hb]
  constructor
  · intro h; exact List.cons.inj h
  · intro h; rw [h.1, h.2]
theorem getD_at {α : Type} {a : List α} {z : α} {i : Nat} (h : i < a.length) : a.getD (i : Int).toNat z = a[i] := by
  simp [List.getD_eq_getElem?_getD, List.getElem?_eq_getElem h]
theorem up64 {i n : Nat} (h : i < n) (hn : n ≤ 4611686018427387904) : wrap64 ((i : Int) + 1) = ((i + 1 : Nat) : Int) := by unfold wrap64; omega
/-- The loop of an equality over lists, by a function on the elements. -/
theorem eq_list {α : Type} {z : α} {L : Nat → List α → List α → Int → Option Bool} {E : Nat → α → α → Option Bool}
    (hL : ∀ k a b i, L (k + 1) a b i = if i < (a.length : Int) then (if 0 ≤ i then (if i < (b.length : Int) then ((E k (a.getD i.toNat z) (b.getD i.toNat z)).bind fun t => (if t = true then (L k a b (wrap64 (i + 1))) else (some false))) else none) else none) else some true)
    (a b : List α) (hE : ∀ x ∈ a, ∀ y ∈ b, EvIff (fun k => E k x y) (x = y)) (hl : a.length = b.length) (hn : a.length ≤ 4611686018427387904) : EvIff (fun k => L k a b 0) (a = b) := by
  have key : ∀ (d i : Nat), i + d = a.length → EvIff (fun k => L k a b (i : Int)) (a.drop i = b.drop i) := by
    intro d
    induction d with
    | zero =>
      intro i hd
      refine EvIff.iff (P := True) (EvIff.step (f := fun _ => some true) (fun k => by rw [hL, if_neg (by omega)]) EvIff.yes) ?_
      rw [List.drop_eq_nil_of_le (by omega), List.drop_eq_nil_of_le (by omega)]; simp
    | succ d ih =>
      intro i hd
      have ha : i < a.length := by omega
      have hb : i < b.length := by omega
      rw [drop_cons_iff ha hb]
      refine EvIff.step (f := fun k => (E k a[i] b[i]).bind fun t => (if t = true then (L k a b ((i + 1 : Nat) : Int)) else (some false))) (fun k => ?_) (EvIff.bind (hE _ (List.getElem_mem ha) _ (List.getElem_mem hb)) (ih (i + 1) (by omega)))
      rw [hL, if_pos (by omega), if_pos (by omega), if_pos (by omega), getD_at ha, getD_at hb, up64 ha hn]
  exact key a.length 0 (by omega)
/-- The loop of slices.Equal, whose elements are told apart by a Bool. -/
theorem equal_list {α : Type} {z : α} {L : Nat → List α → List α → Int → Int → Option Bool} {ne : α → α → Bool}
    (hL : ∀ k a b n i, L (k + 1) a b n i = if i < n then (if 0 ≤ i then (if i < (a.length : Int) then (if i < (b.length : Int) then (if (ne (a.getD i.toNat z) (b.getD i.toNat z)) = true then (some false) else (L k a b n (wrap64 (i + 1)))) else none) else none) else none) else some true)
    (a b : List α) (hE : ∀ x y, ne x y = true ↔ x ≠ y) (hl : a.length = b.length) (hn : a.length ≤ 4611686018427387904) : EvIff (fun k => L k a b (a.length : Int) 0) (a = b) := by
  have key : ∀ (d i : Nat), i + d = a.length → EvIff (fun k => L k a b (a.length : Int) (i : Int)) (a.drop i = b.drop i) := by
    intro d
    induction d with
    | zero =>
      intro i hd
      refine EvIff.iff (P := True) (EvIff.step (f := fun _ => some true) (fun k => by rw [hL, if_neg (by omega)]) EvIff.yes) ?_
      rw [List.drop_eq_nil_of_le (by omega), List.drop_eq_nil_of_le (by omega)]; simp
    | succ d ih =>
      intro i hd
      have ha : i < a.length := by omega
      have hb : i < b.length := by omega
      rw [drop_cons_iff ha hb]
      refine EvIff.iff (EvIff.step (f := fun k => if (ne a[i] b[i]) = true then (some false) else (L k a b (a.length : Int) ((i + 1 : Nat) : Int))) (fun k => ?_) (EvIff.iten (ih (i + 1) (by omega)))) (by rw [hE]; simp)
      rw [hL, if_pos (by omega), if_pos (by omega), if_pos (by omega), if_pos (by omega), getD_at ha, getD_at hb, up64 ha hn]
  exact key a.length 0 (by omega)
/-- The loop that reckons what a list takes. -/
theorem sz_list {α : Type} {z : α} {L : Nat → List α → Int → Int → Option Int} {Z : Nat → α → Int → Option Int} {B : α → Prop}
    (hL : ∀ k a m i, L (k + 1) a m i = if i < (a.length : Int) then (if 0 ≤ i then ((Z k (a.getD i.toNat z) m).bind fun t => (if t < 0 then (some (-1)) else (L k a t (wrap64 (i + 1))))) else none) else some m)
    (a : List α) (hn : a.length ≤ 4611686018427387904) (hZ : ∀ x ∈ a, ∀ m, 0 ≤ m → m ≤ 1048576 → ∃ v, Ev (fun k => Z k x m) v ∧ (v < 0 ∨ (0 ≤ v ∧ v ≤ m ∧ B x)))
    (m : Int) (h0 : 0 ≤ m) (h1 : m ≤ 1048576) : ∃ v, Ev (fun k => L k a m 0) v ∧ (v < 0 ∨ (0 ≤ v ∧ v ≤ m ∧ ∀ x ∈ a, B x)) := by
  have key : ∀ (d i : Nat) (m : Int), 0 ≤ m → m ≤ 1048576 → i + d = a.length → ∃ v, Ev (fun k => L k a m (i : Int)) v ∧ (v < 0 ∨ (0 ≤ v ∧ v ≤ m ∧ ∀ j, i ≤ j → (h : j < a.length) → B a[j])) := by
    intro d
    induction d with
    | zero =>
      intro i m h0 h1 hd
      exact ⟨m, Ev.step (f := fun _ => some m) (fun k => by rw [hL, if_neg (by omega)]) (Ev.now m), .inr ⟨h0, Int.le_refl _, fun j h2 h3 => by omega⟩⟩
    | succ d ih =>
      intro i m h0 h1 hd
      have ha : i < a.length := by omega
      obtain ⟨v, hv, hb⟩ := hZ _ (List.getElem_mem ha) m h0 h1
      have st : ∀ k, L (k + 1) a m (i : Int) = (Z k a[i] m).bind fun t => (if t < 0 then (some (-1)) else (L k a t ((i + 1 : Nat) : Int))) := fun k => by
        rw [hL, if_pos (by omega), if_pos (by omega), getD_at ha, up64 ha hn]
      rcases hb with hb | ⟨b0, b1, b2⟩
      · exact ⟨-1, Ev.step st (Ev.bind (f := fun k t => if t < 0 then (some (-1)) else (L k a t ((i + 1 : Nat) : Int))) hv (Ev.congr (f := fun _ => some (-1)) (fun k => by rw [if_pos hb]) (Ev.now _))), .inl (by omega)⟩
      · obtain ⟨u, hu, hc⟩ := ih (i + 1) v b0 (by omega) (by omega)
        refine ⟨u, Ev.step st (Ev.bind (f := fun k t => if t < 0 then (some (-1)) else (L k a t ((i + 1 : Nat) : Int))) hv (Ev.congr (fun k => by rw [if_neg (by omega)]) hu)), ?_⟩
        rcases hc with hc | ⟨c0, c1, c2⟩
        · exact .inl hc
        · refine .inr ⟨c0, by omega, fun j h2 h3 => ?_⟩
          by_cases e : j = i
          · subst e; exact b2
          · exact c2 j (by omega) h3
  obtain ⟨v, h2, h3⟩ := key a.length 0 m h0 h1 (by omega)
  refine ⟨v, h2, ?_⟩
  rcases h3 with h3 | ⟨h3, h4, h5⟩
  · exact .inl h3
  · refine .inr ⟨h3, h4, fun x hx => ?_⟩
    obtain ⟨j, hj, rfl⟩ := List.mem_iff_getElem.mp hx
    exact h5 j (by omega) hj
/-- The loop that copies a list element by element. -/
theorem to_list {α β γ : Type} {z : α} {L : Nat → List α → List β → Int → Option (List β)} {T : Nat → α → Option γ} {C : γ → β} {conv : α → β}
    (hL : ∀ k a c i, L (k + 1) a c i = if i < (a.length : Int) then (if 0 ≤ i then ((T k (a.getD i.toNat z)).bind fun t => (if i < (c.length : Int) then (L k a (c.set i.toNat (C t)) (wrap64 (i + 1))) else none)) else none) else some c)
    (a : List α) (hn : a.length ≤ 4611686018427387904) (hT : ∀ x ∈ a, ∃ t, Ev (fun k => T k x) t ∧ C t = conv x) (y : β) : Ev (fun k => L k a (List.replicate a.length y) 0) (a.map conv) := by
  have key : ∀ (d i : Nat) (c : List β), c.length = a.length → (∀ j, j < i → c[j]? = (a.map conv)[j]?) → i + d = a.length → Ev (fun k => L k a c (i : Int)) (a.map conv) := by
    intro d
    induction d with
    | zero =>
      intro i c hc h hd
      have e : c = a.map conv := fill_end _ _ (by simpa using hc) (fun j hj => h j (by simp at hj; omega))
      exact Ev.step (f := fun _ => some (a.map conv)) (fun k => by rw [hL, if_neg (by omega), e]) (Ev.now _)
    | succ d ih =>
      intro i c hc h hd
      have ha : i < a.length := by omega
      obtain ⟨t, ht, ht2⟩ := hT _ (List.getElem_mem ha)
      have hs : ∀ j, j < i + 1 → (c.set i (C t))[j]? = (a.map conv)[j]? := fill_step _ c i (C t) (by simpa using hc) (by simpa using ha) (by rw [ht2]; simp [ha]) h
      refine Ev.step (f := fun k => (T k a[i]).bind fun t => (L k a (c.set i (C t)) ((i + 1 : Nat) : Int))) (fun k => ?_) (Ev.bind (f := fun k t => L k a (c.set i (C t)) ((i + 1 : Nat) : Int)) ht (ih (i + 1) _ (by simpa using hc) hs (by omega)))
      rw [hL, if_pos (by omega), if_pos (by omega), getD_at ha, up64 ha hn]
      congr 1
      funext t
      rw [if_pos (by omega)]; rfl
  exact key a.length 0 _ (by simp) (fun j hj => absurd hj (by omega)) (by omega)
/-- What is left, less a size. -/
theorem less64 {m : Int} {n : Nat} (h0 : 0 ≤ m) (h1 : m ≤ 1048576) (hn : n ≤ 9223372036854775807) : wrap64 (m - (n : Int)) = m - (n : Int) := by unfold wrap64; omega
/-- What is told of a size: it is refused, or what is left is told with what is known. -/
def SzOk (g : Nat → Option Int) (m : Int) (B : Prop) : Prop := ∃ v, Ev g v ∧ (v < 0 ∨ (0 ≤ v ∧ v ≤ m ∧ B))
theorem SzOk.size {m : Int} {n : Nat} {g : Int → Nat → Option Int} {B : Prop} (h0 : 0 ≤ m) (h1 : m ≤ 1048576) (hn : n ≤ 9223372036854775807) (h : ∀ v, 0 ≤ v → v ≤ m → v = m - (n : Int) → SzOk (g v) v B) :
    SzOk (fun k => if wrap64 (m - (n : Int)) < 0 then some (-1) else g (wrap64 (m - (n : Int))) k) m ((n : Int) ≤ 1048576 ∧ B) := by
  rw [less64 h0 h1 hn]
  by_cases c : m - (n : Int) < 0
  · exact ⟨-1, Ev.congr (f := fun _ => some (-1)) (fun k => by rw [if_pos c]) (Ev.now _), .inl (by omega)⟩
  · obtain ⟨v, h2, h3⟩ := h (m - (n : Int)) (by omega) (by omega) rfl
    refine ⟨v, Ev.congr (fun k => by rw [if_neg c]) h2, ?_⟩
    rcases h3 with h3 | ⟨h3, h4, h5⟩
    · exact .inl h3
    · exact .inr ⟨h3, by omega, by omega, h5⟩
theorem SzOk.bind {m : Int} {f : Nat → Option Int} {g : Nat → Int → Option Int} {A B : Prop} (hf : SzOk f m A) (h : ∀ v, 0 ≤ v → v ≤ m → SzOk (fun k => g k v) v B) :
    SzOk (fun k => (f k).bind fun t => if t < 0 then some (-1) else g k t) m (A ∧ B) := by
  obtain ⟨v, hv, hb⟩ := hf
  rcases hb with hb | ⟨b0, b1, b2⟩
  · exact ⟨-1, Ev.bind (f := fun k t => if t < 0 then (some (-1)) else g k t) hv (Ev.congr (f := fun _ => some (-1)) (fun k => by rw [if_pos hb]) (Ev.now _)), .inl (by omega)⟩
  · obtain ⟨u, hu, hc⟩ := h v b0 b1
    refine ⟨u, Ev.bind (f := fun k t => if t < 0 then (some (-1)) else g k t) hv (Ev.congr (fun k => by rw [if_neg (by omega)]) hu), ?_⟩
    rcases hc with hc | ⟨c0, c1, c2⟩
    · exact .inl hc
    · exact .inr ⟨c0, by omega, b2, c2⟩
theorem SzOk.done {m : Int} (h0 : 0 ≤ m) : SzOk (fun _ => some m) m True := ⟨m, Ev.now _, .inr ⟨h0, Int.le_refl _, trivial⟩⟩
theorem SzOk.mono {m : Int} {f g : Nat → Option Int} {A B : Prop} (h : SzOk f m A) (e : ∀ k, g k = f k) (i : A → B) : SzOk g m B := by
  obtain ⟨v, h1, h2⟩ := h
  refine ⟨v, Ev.congr e h1, ?_⟩
  rcases h2 with h2 | ⟨h2, h3, h4⟩
  · exact .inl h2
  · exact .inr ⟨h2, h3, i h4⟩
theorem EvIff.ite2 {c : Prop} [Decidable c] {g h : Nat → Option Bool} {P Q : Prop} (hg : EvIff g P) (hh : EvIff h Q) : EvIff (fun k => if c then g k else h k) ((c ∧ P) ∨ (¬ c ∧ Q)) := by
  by_cases hc : c
  · exact EvIff.iff (EvIff.congr (fun k => if_pos hc) hg) (by simp [hc])
  · exact EvIff.iff (EvIff.congr (fun k => if_neg hc) hh) (by simp [hc])
/-- A loop that looks for a difference, and what follows it. -/
theorem neq_then {α : Type} {z : α} {L : Nat → Int → Option Bool} {R : Nat → Option Bool} {ne : α → α → Bool} {P : Prop} (a b : List α)
    (hL : ∀ k i, L (k + 1) i = if i < (a.length : Int) then (if 0 ≤ i then (if i < (b.length : Int) then (if (ne (a.getD i.toNat z) (b.getD i.toNat z)) = true then (some false) else (L k (wrap64 (i + 1)))) else none) else none) else R k)
    (hE : ∀ x y, ne x y = true ↔ x ≠ y) (hR : EvIff R P) (hl : a.length = b.length) (hn : a.length ≤ 4611686018427387904) : EvIff (fun k => L k 0) (a = b ∧ P) := by
  have key : ∀ (d i : Nat), i + d = a.length → EvIff (fun k => L k (i : Int)) (a.drop i = b.drop i ∧ P) := by
    intro d
    induction d with
    | zero =>
      intro i hd
      refine EvIff.iff (P := P) (EvIff.step (f := R) (fun k => by rw [hL, if_neg (by omega)]) hR) ?_
      rw [List.drop_eq_nil_of_le (by omega), List.drop_eq_nil_of_le (by omega)]; simp
    | succ d ih =>
      intro i hd
      have ha : i < a.length := by omega
      have hb : i < b.length := by omega
      rw [drop_cons_iff ha hb]
      refine EvIff.iff (EvIff.step (f := fun k => if (ne a[i] b[i]) = true then (some false) else (L k ((i + 1 : Nat) : Int))) (fun k => ?_) (EvIff.iten (ih (i + 1) (by omega)))) (by rw [hE]; simp [and_assoc])
      rw [hL, if_pos (by omega), if_pos (by omega), if_pos (by omega), getD_at ha, getD_at hb, up64 ha hn]
  exact key a.length 0 (by omega)
/-- The same, by a function on the elements. -/
theorem eq_then {α : Type} {z : α} {L : Nat → Int → Option Bool} {R : Nat → Option Bool} {E : Nat → α → α → Option Bool} {P : Prop} (a b : List α)
    (hL : ∀ k i, L (k + 1) i = if i < (a.length : Int) then (if 0 ≤ i then (if i < (b.length : Int) then ((E k (a.getD i.toNat z) (b.getD i.toNat z)).bind fun t => (if t = true then (L k (wrap64 (i + 1))) else (some false))) else none) else none) else R k)
    (hE : ∀ x ∈ a, ∀ y ∈ b, EvIff (fun k => E k x y) (x = y)) (hR : EvIff R P) (hl : a.length = b.length) (hn : a.length ≤ 4611686018427387904) : EvIff (fun k => L k 0) (a = b ∧ P) := by
  have key : ∀ (d i : Nat), i + d = a.length → EvIff (fun k => L k (i : Int)) (a.drop i = b.drop i ∧ P) := by
    intro d
    induction d with
    | zero =>
      intro i hd
      refine EvIff.iff (P := P) (EvIff.step (f := R) (fun k => by rw [hL, if_neg (by omega)]) hR) ?_
      rw [List.drop_eq_nil_of_le (by omega), List.drop_eq_nil_of_le (by omega)]; simp
    | succ d ih =>
      intro i hd
      have ha : i < a.length := by omega
      have hb : i < b.length := by omega
      rw [drop_cons_iff ha hb]
      refine EvIff.iff (EvIff.step (f := fun k => (E k a[i] b[i]).bind fun t => (if t = true then (L k ((i + 1 : Nat) : Int)) else (some false))) (fun k => ?_) (EvIff.bind (hE _ (List.getElem_mem ha) _ (List.getElem_mem hb)) (ih (i + 1) (by omega)))) (by simp [and_assoc])
      rw [hL, if_pos (by omega), if_pos (by omega), if_pos (by omega), getD_at ha, getD_at hb, up64 ha hn]
  exact key a.length 0 (by omega)
theorem EvIff.iteP {c : Prop} [Decidable c] {g h : Nat → Option Bool} {P : Prop} (hc : c) (hg : EvIff g P) : EvIff (fun k => if c then g k else h k) P := EvIff.congr (fun k => if_pos hc) hg
theorem EvIff.iteN {c : Prop} [Decidable c] {g h : Nat → Option Bool} {P : Prop} (hc : ¬ c) (hh : EvIff h P) : EvIff (fun k => if c then g k else h k) P := EvIff.congr (fun k => if_neg hc) hh
/-- A loop over two lists, whatever its round does: 'the elements are equal, and what follows holds'. -/
theorem gen_then {α : Type} {z : α} {L : Nat → Int → Option Bool} {R : Nat → Option Bool} {G : Nat → Int → α → α → Option Bool} {P : Prop} (a b : List α)
    (hL : ∀ k i, L (k + 1) i = if i < (a.length : Int) then (if 0 ≤ i then (if i < (b.length : Int) then G k i (a.getD i.toNat z) (b.getD i.toNat z) else none) else none) else R k)
    (hG : ∀ (i : Int) (x y : α), x ∈ a → y ∈ b → ∀ Q : Prop, EvIff (fun k => L k (wrap64 (i + 1))) Q → EvIff (fun k => G k i x y) (x = y ∧ Q)) (hR : EvIff R P) (hl : a.length = b.length) (hn : a.length ≤ 4611686018427387904) : EvIff (fun k => L k 0) (a = b ∧ P) := by
  have key : ∀ (d i : Nat), i + d = a.length → EvIff (fun k => L k (i : Int)) (a.drop i = b.drop i ∧ P) := by
    intro d
    induction d with
    | zero =>
      intro i hd
      refine EvIff.iff (P := P) (EvIff.step (f := R) (fun k => by rw [hL, if_neg (by omega)]) hR) ?_
      rw [List.drop_eq_nil_of_le (by omega), List.drop_eq_nil_of_le (by omega)]; simp
    | succ d ih =>
      intro i hd
      have ha : i < a.length := by omega
      have hb : i < b.length := by omega
      rw [drop_cons_iff ha hb]
      have h2 := ih (i + 1) (by omega)
      rw [← up64 ha hn] at h2
      refine EvIff.iff (EvIff.step (f := fun k => G k (i : Int) a[i] b[i]) (fun k => ?_) (hG i _ _ (List.getElem_mem ha) (List.getElem_mem hb) _ h2)) (by simp [and_assoc])
      rw [hL, if_pos (by omega), if_pos (by omega), if_pos (by omega), getD_at ha, getD_at hb]
  exact key a.length 0 (by omega)
theorem EvIff.bind2 {g f h : Nat → Option Bool} {P Q R : Prop} (hh : EvIff h Q) (hg : EvIff g P) (hf : EvIff f R) : EvIff (fun k => (h k).bind fun t => if t = true then g k else f k) ((Q ∧ P) ∨ (¬ Q ∧ R)) := by
  obtain ⟨r, h1, h2⟩ := hh
  obtain ⟨s, g1, g2⟩ := hg
  obtain ⟨u, f1, f2⟩ := hf
  cases r with
  | true => exact ⟨s, Ev.bind (f := fun k t => if t = true then g k else f k) h1 (Ev.congr (fun k => if_pos rfl) g1), by rw [g2, ← h2]; simp⟩
  | false => exact ⟨u, Ev.bind (f := fun k t => if t = true then g k else f k) h1 (Ev.congr (fun k => if_neg (by simp)) f1), by rw [f2, ← h2]; simp⟩

theorem eqv_Int64S (a b : List Int) (ha : a.length ≤ 1048576) : EvIff (fun k => laws_eqInt64S.f k a b) (a = b) := by
  by_cases hl : a.length = b.length
  · refine EvIff.congr (f := fun k => laws_eqInt64S.l0 k a b 0) (fun k => by unfold laws_eqInt64S.f; rw [if_pos (by omega)]) ?_
    exact EvIff.iff (gen_then (z := (0 : Int)) (R := fun _ => some true) (L := fun k i => laws_eqInt64S.l0 k a b i) (G := fun k i x y => if x = y then laws_eqInt64S.l0 k a b (wrap64 (i + 1)) else some false) a b (fun k i => rfl) (fun i x y _ _ Q h => EvIff.ite h) EvIff.yes hl (by omega)) (by simp)
  · exact EvIff.iff (EvIff.congr (f := fun _ => some false) (fun k => by unfold laws_eqInt64S.f; rw [if_neg (by omega)]) EvIff.no) ⟨fun h => h.elim, fun h => hl (congrArg List.length h)⟩
def OSz (x : S73) : Prop := x.f2.length ≤ 1048576
def ASz (x : S77) : Prop := x.f3.length ≤ 1048576 ∧ x.f4.length ≤ 1048576
theorem eqv_BareObj (x y : S73) (h : OSz x) : EvIff (fun k => laws_eqBareObj.f k x.f0 x.f1 x.f2 y.f0 y.f1 y.f2) (x = y) := by
  obtain ⟨a0, a1, a2⟩ := x
  obtain ⟨b0, b1, b2⟩ := y
  unfold laws_eqBareObj.f
  refine EvIff.iff (EvIff.ite (EvIff.ite (EvIff.bind (eqv_Int64S _ _ h) EvIff.yes))) ?_
  rw [toList_eq]
  simp
theorem eqv_BareObjS (a b : List S73) (ha : a.length ≤ 1048576) (hm : ∀ x ∈ a, OSz x) : EvIff (fun k => laws_eqBareObjS.f k a b) (a = b) := by
  by_cases hl : a.length = b.length
  · refine EvIff.congr (f := fun k => laws_eqBareObjS.l0 k a b 0) (fun k => by unfold laws_eqBareObjS.f; rw [if_pos (by omega)]) ?_
    exact eq_list (z := z73) (E := fun k x y => laws_eqBareObj.f k x.f0 x.f1 x.f2 y.f0 y.f1 y.f2) (fun k a b i => rfl) a b (fun x hx y _ => eqv_BareObj x y (hm x hx)) hl (by omega)
  · exact EvIff.iff (EvIff.congr (f := fun _ => some false) (fun k => by unfold laws_eqBareObjS.f; rw [if_neg (by omega)]) EvIff.no) ⟨fun h => h.elim, fun h => hl (congrArg List.length h)⟩
theorem eqv_BareAct (x y : S77) (h : ASz x) : EvIff (fun k => laws_eqBareAct.f k x.f0 x.f1 x.f2 x.f3 x.f4 y.f0 y.f1 y.f2 y.f3 y.f4) (x = y) := by
  obtain ⟨a0, a1, a2, a3, a4⟩ := x
  obtain ⟨b0, b1, b2, b3, b4⟩ := y
  unfold laws_eqBareAct.f
  refine EvIff.iff (EvIff.ite (EvIff.ite (EvIff.ite (EvIff.bind (eqv_Int64S _ _ h.1) (EvIff.bind (eqv_Int64S _ _ h.2) EvIff.yes))))) ?_
  simp
theorem eqv_BareActS (a b : List S77) (ha : a.length ≤ 1048576) (hm : ∀ x ∈ a, ASz x) : EvIff (fun k => laws_eqBareActS.f k a b) (a = b) := by
  by_cases hl : a.length = b.length
  · refine EvIff.congr (f := fun k => laws_eqBareActS.l0 k a b 0) (fun k => by unfold laws_eqBareActS.f; rw [if_pos (by omega)]) ?_
    exact eq_list (z := z77) (E := fun k x y => laws_eqBareAct.f k x.f0 x.f1 x.f2 x.f3 x.f4 y.f0 y.f1 y.f2 y.f3 y.f4) (fun k a b i => rfl) a b (fun x hx y _ => eqv_BareAct x y (hm x hx)) hl (by omega)
  · exact EvIff.iff (EvIff.congr (f := fun _ => some false) (fun k => by unfold laws_eqBareActS.f; rw [if_neg (by omega)]) EvIff.no) ⟨fun h => h.elim, fun h => hl (congrArg List.length h)⟩
theorem eqv_Bare (o : List S73) (a1 : Int) (s : List Int) (c : List S77) (d : Bool) (a5 : Int) (t : ByteArray) (a7 : Int) (o' : List S73) (b1 : Int) (s' : List Int) (c' : List S77) (d' : Bool) (b5 : Int) (t' : ByteArray) (b7 : Int)
    (ho : o.length ≤ 1048576) (hs : s.length ≤ 1048576) (hc : c.length ≤ 1048576) (hO : ∀ x ∈ o, OSz x) (hA : ∀ x ∈ c, ASz x) :
    EvIff (fun k => laws_eqBare.f k o a1 s c d a5 t a7 o' b1 s' c' d' b5 t' b7) (o = o' ∧ a1 = b1 ∧ s = s' ∧ c = c' ∧ d = d' ∧ a5 = b5 ∧ t = t' ∧ a7 = b7) := by
  unfold laws_eqBare.f
  refine EvIff.iff (EvIff.bind (eqv_BareObjS _ _ ho hO) (EvIff.ite (EvIff.bind (eqv_Int64S _ _ hs) (EvIff.bind (eqv_BareActS _ _ hc hA) (EvIff.iten (EvIff.ite (EvIff.ite (EvIff.ite EvIff.yes)))))))) ?_
  rw [toList_eq]
  simp

theorem mark_digits (d : Nat) : ∀ (n : Nat) (x : ByteArray), n < 10 ^ d → n < 9223372036854775808 → x.size + d ≤ 1000 → ∃ r, Ev (fun k => laws_markText.l0 k n x) r := by
  induction d with
  | zero =>
    intro n x hn hb hx
    have e : n = 0 := by simpa using hn
    subst e
    refine ⟨(⟨#[109]⟩ : ByteArray) ++ x, Ev.step (f := fun _ => some ((⟨#[109]⟩ : ByteArray) ++ x)) (fun k => ?_) (Ev.now _)⟩
    simp only [laws_markText.l0]
    rw [if_neg (by omega), if_pos (by omega)]
  | succ d ih =>
    intro n x hn hb hx
    by_cases c : n = 0
    · subst c
      refine ⟨(⟨#[109]⟩ : ByteArray) ++ x, Ev.step (f := fun _ => some ((⟨#[109]⟩ : ByteArray) ++ x)) (fun k => ?_) (Ev.now _)⟩
      simp only [laws_markText.l0]
      rw [if_neg (by omega), if_pos (by omega)]
    · have e1 : wrap64 (Int.tdiv (n : Int) 10) = ((n / 10 : Nat) : Int) := by
        rw [Int.tdiv_eq_ediv_of_nonneg (by omega)]
        unfold wrap64
        omega
      have hp : n < 10 ^ d * 10 := by rw [← Nat.pow_succ]; exact hn
      have hs : ∀ y : List Int, (strOfNums y).size = y.length := strOfNums_size
      obtain ⟨r, hr⟩ := ih (n / 10) (strOfNums [(wrap64 (48 + (Int.tmod (n : Int) 10))) % 256] ++ x) (by omega) (by omega) (by rw [ByteArray.size_append, hs]; simp; omega)
      refine ⟨r, Ev.step (fun k => ?_) hr⟩
      simp only [laws_markText.l0, Option.bind_some, e1]
      rw [if_pos (by omega), if_pos (by rw [hs]; simp; omega)]
theorem mark_text (n : Int) (h0 : 0 ≤ n) (h1 : n < 9223372036854775808) : ∃ r, Ev (fun k => laws_markText.f k n) r := by
  obtain ⟨m, rfl⟩ := Int.eq_ofNat_of_zero_le h0
  by_cases c : (m : Int) ≤ 0
  · refine ⟨(⟨#[109, 48]⟩ : ByteArray), Ev.congr (f := fun _ => some (⟨#[109, 48]⟩ : ByteArray)) (fun k => ?_) (Ev.now _)⟩
    unfold laws_markText.f
    rw [if_pos c]
  · have hp : (10 : Nat) ^ 19 = 10000000000000000000 := by decide +kernel
    obtain ⟨r, hr⟩ := mark_digits 19 m ⟨#[]⟩ (by rw [hp]; omega) (by omega) (by show 0 + 19 ≤ 1000; omega)
    refine ⟨r, Ev.congr (fun k => ?_) hr⟩
    unfold laws_markText.f
    rw [if_neg c]
def EvB {α : Type} (g : Nat → Option α) (B : α → Prop) : Prop := ∃ q, Ev g q ∧ B q
theorem EvB.step {α : Type} {g f : Nat → Option α} {B : α → Prop} (e : ∀ k, g (k + 1) = f k) (h : EvB f B) : EvB g B := h.elim fun q h => ⟨q, Ev.step e h.1, h.2⟩
theorem EvB.congr {α : Type} {g f : Nat → Option α} {B : α → Prop} (e : ∀ k, g k = f k) (h : EvB f B) : EvB g B := h.elim fun q h => ⟨q, Ev.congr e h.1, h.2⟩
theorem EvB.bind {α β : Type} {g : Nat → Option β} {v : β} {f : Nat → β → Option α} {B : α → Prop} (hg : Ev g v) (h : EvB (fun k => f k v) B) : EvB (fun k => (g k).bind (f k)) B := h.elim fun q h => ⟨q, Ev.bind hg h.1, h.2⟩
theorem mark_list {α : Type} {L : Nat → List α → Int → Int → Option (Int × List α)} {c : Nat} {M : Int} (a0 : List α) (hn : a0.length ≤ 4611686018427387904)
    (hz : ∀ k a m, L (k + 1) a m (a.length : Int) = some (m, a))
    (hs : ∀ (B : Int × List α → Prop) (a : List α) (m : Int) (i : Nat) (hi : i < a0.length), a.length = a0.length → a[i]? = some a0[i] → 0 ≤ m → m ≤ M → (∀ m' a', a'.length = a.length → (∀ j, i < j → a'[j]? = a[j]?) → m ≤ m' → m' ≤ m + c → EvB (fun k => L k a' m' (wrap64 ((i : Int) + 1))) B) → EvB (fun k => L k a m (i : Int)) B)
    (m : Int) (h0 : 0 ≤ m) (hB : m + ((c * a0.length : Nat) : Int) ≤ M) : EvB (fun k => L k a0 m 0) (fun q => m ≤ q.1 ∧ q.1 ≤ m + ((c * a0.length : Nat) : Int)) := by
  have key : ∀ (d i : Nat) (a : List α) (m1 : Int), i + d = a0.length → a.length = a0.length → (∀ j, i ≤ j → a[j]? = a0[j]?) → 0 ≤ m1 → m1 + ((c * d : Nat) : Int) ≤ M → ∀ B : Int × List α → Prop, (∀ q, m1 ≤ q.1 → q.1 ≤ m1 + ((c * d : Nat) : Int) → B q) → EvB (fun k => L k a m1 (i : Int)) B := by
    intro d
    induction d with
    | zero =>
      intro i a m1 hd hl hj h0 hB B hq
      obtain rfl : i = a.length := by omega
      exact ⟨(m1, a), Ev.step (f := fun _ => some (m1, a)) (fun k => hz k a m1) (Ev.now _), hq _ (Int.le_refl _) (by simp)⟩
    | succ d ih =>
      intro i a m1 hd hl hj h0 hB B hq
      have hi : i < a0.length := by omega
      have e : c * (d + 1) = c * d + c := Nat.mul_succ c d
      refine hs B a m1 i hi hl (by rw [hj i (Nat.le_refl _)]; simp [hi]) h0 (by omega) (fun m' a' g1 g2 g3 g4 => ?_)
      rw [up64 hi hn]
      exact ih (i + 1) a' m' (by omega) (by omega) (fun j hj2 => by rw [g2 j (by omega), hj j (by omega)]) (by omega) (by omega) B (fun q h1 h2 => hq q (by omega) (by omega))
  exact key a0.length 0 a0 m (by omega) rfl (fun _ _ => rfl) h0 hB _ (fun q h1 h2 => ⟨h1, h2⟩)
theorem mt (m : Int) (h0 : 0 ≤ m) (h1 : m < 9223372036854775807) : ∃ r, Ev (fun k => laws_markText.f k m) r := mark_text m h0 (by omega)

/-- A row of elements each of which bears marks, one behind the other. -/
def Held {α : Type} (E : α → Int → Int → Prop) : List α → Int → Int → Prop
  | [], n, m => m = n
  | x :: l, n, m => ∃ p, E x n p ∧ Held E l p m
theorem Held.snoc {α : Type} {E : α → Int → Int → Prop} : ∀ {l : List α} {n p m : Int} {x : α}, Held E l n p → E x p m → Held E (l ++ [x]) n m
  | [], n, p, m, x, h, e => by
    obtain rfl : p = n := h
    exact ⟨m, e, rfl⟩
  | y :: l, n, p, m, x, h, e => by
    obtain ⟨q, h1, h2⟩ := h
    exact ⟨q, h1, Held.snoc h2 e⟩
theorem Held.le {α : Type} {E : α → Int → Int → Prop} (hE : ∀ x n m, E x n m → n ≤ m) : ∀ {l : List α} {n m : Int}, Held E l n m → n ≤ m
  | [], n, m, h => by
    obtain rfl : m = n := h
    exact Int.le_refl _
  | y :: l, n, m, h => by
    obtain ⟨q, h1, h2⟩ := h
    exact Int.le_trans (hE _ _ _ h1) (Held.le hE h2)
/-- The loop that marks a list: what stands there at its end. -/
theorem mark_held {α : Type} {L : Nat → List α → Int → Int → Option (Int × List α)} {c : Nat} {M : Int} (E : α → Int → Int → Prop) (a0 : List α) (hn : a0.length ≤ 4611686018427387904)
    (hz : ∀ k a m, L (k + 1) a m (a.length : Int) = some (m, a))
    (hs : ∀ (B : Int × List α → Prop) (a : List α) (m : Int) (i : Nat) (hi : i < a0.length), a.length = a0.length → a[i]? = some a0[i] → 0 ≤ m → m ≤ M → (∀ m' x, E x m m' → m ≤ m' → m' ≤ m + c → EvB (fun k => L k (a.set i x) m' (wrap64 ((i : Int) + 1))) B) → EvB (fun k => L k a m (i : Int)) B)
    (m : Int) (h0 : 0 ≤ m) (hB : m + ((c * a0.length : Nat) : Int) ≤ M) : EvB (fun k => L k a0 m 0) (fun q => Held E q.2 m q.1 ∧ q.2.length = a0.length ∧ m ≤ q.1 ∧ q.1 ≤ m + ((c * a0.length : Nat) : Int)) := by
  have key : ∀ (d i : Nat) (a : List α) (m1 : Int), i + d = a0.length → a.length = a0.length → (∀ j, i ≤ j → a[j]? = a0[j]?) → m ≤ m1 → m1 ≤ m + ((c * i : Nat) : Int) → Held E (a.take i) m m1 → EvB (fun k => L k a m1 (i : Int)) (fun q => Held E q.2 m q.1 ∧ q.2.length = a0.length ∧ m ≤ q.1 ∧ q.1 ≤ m + ((c * a0.length : Nat) : Int)) := by
    intro d
    induction d with
    | zero =>
      intro i a m1 hd hl hj h1 h2 hH
      obtain rfl : i = a.length := by omega
      rw [List.take_length] at hH
      exact ⟨(m1, a), Ev.step (f := fun _ => some (m1, a)) (fun k => hz k a m1) (Ev.now _), hH, hl, h1, by rw [← hl]; exact h2⟩
    | succ d ih =>
      intro i a m1 hd hl hj h1 h2 hH
      have hi : i < a0.length := by omega
      have e : c * (i + 1) = c * i + c := Nat.mul_succ c i
      have e2 : c * (i + 1) ≤ c * a0.length := Nat.mul_le_mul_left c hi
      refine hs _ a m1 i hi hl (by rw [hj i (Nat.le_refl _)]; simp [hi]) (by omega) (by omega) (fun m' x g1 g2 g3 => ?_)
      rw [up64 hi hn]
      refine ih (i + 1) (a.set i x) m' (by omega) (by simpa using hl) (fun j hj2 => by rw [List.getElem?_set_ne (by omega), hj j (by omega)]) (by omega) (by omega) ?_
      have et : (a.set i x).take (i + 1) = a.take i ++ [x] := by
        rw [List.take_add_one, List.getElem?_set_self (by omega), List.take_set, List.set_eq_of_length_le (by simp; omega)]
        rfl
      rw [et]
      exact Held.snoc hH g1
  exact key a0.length 0 a0 m (by omega) rfl (fun _ _ => rfl) (Int.le_refl _) (by simp) rfl
/-- The loop that looks whether the marks still stand. -/
theorem held_list {α : Type} {L : Nat → Int → Int → Option Int} {M : Int} (E : α → Int → Int → Prop) (hE : ∀ x n m, E x n m → n ≤ m) (a : List α) (hn : a.length ≤ 4611686018427387904)
    (hz : ∀ k m, L (k + 1) m (a.length : Int) = some m)
    (hs : ∀ (i : Nat) (hi : i < a.length) (m m' r : Int), 0 ≤ m → m' ≤ M → E a[i] m m' → Ev (fun k => L k m' (wrap64 ((i : Int) + 1))) r → Ev (fun k => L k m (i : Int)) r)
    (n m : Int) (h0 : 0 ≤ n) (hM : m ≤ M) (H : Held E a n m) : Ev (fun k => L k n 0) m := by
  have key : ∀ (d i : Nat) (m1 : Int), i + d = a.length → n ≤ m1 → Held E (a.drop i) m1 m → Ev (fun k => L k m1 (i : Int)) m := by
    intro d
    induction d with
    | zero =>
      intro i m1 hd h1 hH
      obtain rfl : i = a.length := by omega
      rw [List.drop_length] at hH
      obtain rfl : m = m1 := hH
      exact Ev.step (f := fun _ => some m) (fun k => hz k m) (Ev.now _)
    | succ d ih =>
      intro i m1 hd h1 hH
      have hi : i < a.length := by omega
      rw [List.drop_eq_getElem_cons hi] at hH
      obtain ⟨p, g1, g2⟩ := hH
      have := hE _ _ _ g1
      have := Held.le hE g2
      refine hs i hi m1 p m (by omega) (by omega) g1 ?_
      rw [up64 hi hn]
      exact ih (i + 1) p (by omega) (by omega) g2
  exact key a.length 0 n (by omega) (Int.le_refl _) H
/-- A loop that puts one element for each behind a row, and what follows it. -/
theorem app_then {α β γ : Type} (a : List α) (f : α → β) (L : Nat → Int → List β → Option γ) (v : γ) (hn : a.length ≤ 4611686018427387904)
    (hz : Ev (fun k => L k (a.length : Int) (a.map f)) v)
    (hs : ∀ (i : Nat) (hi : i < a.length) (acc : List β), acc.length = i → Ev (fun k => L k (wrap64 ((i : Int) + 1)) (acc ++ [f a[i]])) v → Ev (fun k => L k (i : Int) acc) v) : Ev (fun k => L k 0 []) v := by
  have key : ∀ (d i : Nat), i + d = a.length → Ev (fun k => L k (i : Int) ((a.take i).map f)) v := by
    intro d
    induction d with
    | zero =>
      intro i hd
      obtain rfl : i = a.length := by omega
      rw [List.take_length]; exact hz
    | succ d ih =>
      intro i hd
      have hi : i < a.length := by omega
      refine hs i hi _ (by simp; omega) ?_
      have h := ih (i + 1) (by omega)
      rw [up64 hi hn]
      have e : (a.take (i + 1)).map f = (a.take i).map f ++ [f a[i]] := by rw [List.take_add_one, List.getElem?_eq_getElem hi, List.map_append]; rfl
      rw [e] at h
      exact h
  exact key a.length 0 (by omega)

def cVal (x : S28) : S43 := ⟨x.f0, x.f1⟩
def cObj (x : S156) : S71 := ⟨x.f0, x.f1, x.f2, x.f3.map cVal⟩
def cAct (x : S113) : S75 := ⟨x.f0, x.f1, x.f2, x.f3.map cVal, x.f4.map cVal⟩
def MSz (x : S30) : Prop := (x.f0.f0.length ≤ 1048576 ∧ ∀ o ∈ x.f0.f0, o.f3.length ≤ 1048576) ∧ x.f1.length ≤ 1048576 ∧ (x.f2.length ≤ 1048576 ∧ ∀ o ∈ x.f2, o.f3.length ≤ 1048576 ∧ o.f4.length ≤ 1048576)
theorem sz_ValS (a : List S28) (ha : a.length ≤ maxLen) (m : Int) (h0 : 0 ≤ m) (h1 : m ≤ 1048576) : SzOk (fun _ => laws_szValS.f a m) m (a.length ≤ 1048576) := by
  unfold maxLen at ha
  exact SzOk.mono (SzOk.size (n := a.length) (g := fun v _ => some v) h0 h1 (by omega) (fun v p q _ => SzOk.done p)) (fun k => rfl) (fun h => by omega)
theorem sz_Obj (x : S156) (ho : ok156 x) (m : Int) (h0 : 0 ≤ m) (h1 : m ≤ 1048576) : SzOk (fun _ => laws_szObj.f x.f0 x.f1 x.f2 x.f3 m) m (x.f3.length ≤ 1048576) := by
  obtain ⟨_, o1, _, o3⟩ := ho
  unfold maxLen at o1
  exact SzOk.mono (SzOk.size (n := x.f1.size) (g := fun v k => (laws_szValS.f x.f3 v).bind fun t => if t < 0 then some (-1) else some t) h0 h1 (by omega) (fun v a b _ => SzOk.bind (g := fun k t => some t) (sz_ValS x.f3 o3.1 v a (by omega)) (fun v a b => SzOk.done a))) (fun k => rfl) (fun h => h.2.1)
theorem sz_ObjS (a : List S156) (ha : a.length ≤ maxLen) (ho : ∀ x ∈ a, ok156 x) (m : Int) (h0 : 0 ≤ m) (h1 : m ≤ 1048576) :
    SzOk (fun k => laws_szObjS.f k a m) m (a.length ≤ 1048576 ∧ ∀ x ∈ a, x.f3.length ≤ 1048576) := by
  unfold maxLen at ha
  refine SzOk.mono (SzOk.size (n := a.length) (g := fun v k => laws_szObjS.l0 k a v 0) h0 h1 (by omega) (fun v p q _ => sz_list (z := z156) (Z := fun k x m => laws_szObj.f x.f0 x.f1 x.f2 x.f3 m) (fun k a m i => rfl) a (by omega) (fun x hx m p q => sz_Obj x (ho x hx) m p q) v p (by omega))) (fun k => rfl) (fun h => ⟨by omega, h.2⟩)
theorem sz_Act (x : S113) (ho : ok113 x) (m : Int) (h0 : 0 ≤ m) (h1 : m ≤ 1048576) : SzOk (fun _ => laws_szAct.f x.f0 x.f1 x.f2 x.f3 x.f4 m) m (x.f3.length ≤ 1048576 ∧ x.f4.length ≤ 1048576) := by
  obtain ⟨_, _, _, o3, o4⟩ := ho
  exact SzOk.mono (SzOk.bind (g := fun k t => (laws_szValS.f x.f4 t).bind fun t => if t < 0 then some (-1) else some t) (sz_ValS x.f3 o3.1 m h0 h1) (fun v a b => SzOk.bind (g := fun k t => some t) (sz_ValS x.f4 o4.1 v a (by omega)) (fun v a b => SzOk.done a))) (fun k => rfl) (fun h => ⟨h.1, h.2.1⟩)
theorem sz_ActS (a : List S113) (ha : a.length ≤ maxLen) (ho : ∀ x ∈ a, ok113 x) (m : Int) (h0 : 0 ≤ m) (h1 : m ≤ 1048576) :
    SzOk (fun k => laws_szActS.f k a m) m (a.length ≤ 1048576 ∧ ∀ x ∈ a, x.f3.length ≤ 1048576 ∧ x.f4.length ≤ 1048576) := by
  unfold maxLen at ha
  refine SzOk.mono (SzOk.size (n := a.length) (g := fun v k => laws_szActS.l0 k a v 0) h0 h1 (by omega) (fun v p q _ => sz_list (z := z113) (Z := fun k x m => laws_szAct.f x.f0 x.f1 x.f2 x.f3 x.f4 m) (fun k a m i => rfl) a (by omega) (fun x hx m p q => sz_Act x (ho x hx) m p q) v p (by omega))) (fun k => rfl) (fun h => ⟨by omega, h.2⟩)
theorem sz_Machine (x : S30) (ho : ok30 x) (m : Int) (h0 : 0 ≤ m) (h1 : m ≤ 1048576) : SzOk (fun k => laws_szMachine.f k x.f0.f0 x.f0.f1 x.f1 x.f2 x.f3 x.f4.f0 x.f4.f1 x.f5 x.f6 x.f7 m) m (MSz x) := by
  obtain ⟨o0, o1, o2, _, _, o5, _⟩ := ho
  unfold maxLen at o5
  exact SzOk.mono (SzOk.bind (g := fun k t => (laws_szValS.f x.f1 t).bind fun t => if t < 0 then some (-1) else (laws_szActS.f k x.f2 t).bind fun t => if t < 0 then some (-1) else if wrap64 (t - (x.f5.size : Int)) < 0 then some (-1) else some (wrap64 (t - (x.f5.size : Int))))
    (f := fun k => (laws_szObjS.f k x.f0.f0 m).bind fun t => if t < 0 then some (-1) else some t) (SzOk.bind (g := fun k t => some t) (sz_ObjS x.f0.f0 o0.1.1 o0.1.2 m h0 h1) (fun v a b => SzOk.done a)) (fun v a b =>
    SzOk.bind (g := fun k t => (laws_szActS.f k x.f2 t).bind fun t => if t < 0 then some (-1) else if wrap64 (t - (x.f5.size : Int)) < 0 then some (-1) else some (wrap64 (t - (x.f5.size : Int)))) (sz_ValS x.f1 o1.1 v a (by omega)) (fun v a b =>
      SzOk.bind (g := fun k t => if wrap64 (t - (x.f5.size : Int)) < 0 then some (-1) else some (wrap64 (t - (x.f5.size : Int)))) (sz_ActS x.f2 o2.1 o2.2 v a (by omega)) (fun v a b => SzOk.size (n := x.f5.size) (g := fun v k => some v) a (by omega) (by omega) (fun v a b _ => SzOk.done a))))) (fun k => rfl) (fun h => ⟨h.1.1, h.2.1, h.2.2.1⟩)
theorem to_ValS (a : List S28) (ha : a.length ≤ 1048576) : Ev (fun k => laws_toValS.f k a) (a.map cVal) := by
  refine Ev.congr (f := fun k => laws_toValS.l0 k a (List.replicate a.length z43) 0) (fun k => ?_) (to_list (z := z28) (T := fun k x => laws_toVal.f x.f0 x.f1) (C := fun t => (⟨t.1, t.2⟩ : S43)) (fun k a c i => rfl) a (by omega) (fun x _ => ⟨_, Ev.now _, rfl⟩) _)
  unfold laws_toValS.f
  rw [if_pos (by omega), if_pos (by omega)]; rfl
theorem to_Obj (x : S156) (h : x.f3.length ≤ 1048576) : Ev (fun k => laws_toObj.f k x.f0 x.f1 x.f2 x.f3) (x.f0, x.f1, x.f2, x.f3.map cVal) :=
  Ev.congr (fun k => rfl) (Ev.bind (f := fun k t => some (x.f0, x.f1, x.f2, t)) (to_ValS _ h) (Ev.now _))
theorem to_ObjS (a : List S156) (ha : a.length ≤ 1048576) (hm : ∀ x ∈ a, x.f3.length ≤ 1048576) : Ev (fun k => laws_toObjS.f k a) (a.map cObj) := by
  refine Ev.congr (f := fun k => laws_toObjS.l0 k a (List.replicate a.length z71) 0) (fun k => ?_) (to_list (z := z156) (T := fun k x => laws_toObj.f k x.f0 x.f1 x.f2 x.f3) (C := fun t => (⟨t.1, t.2.1, t.2.2.1, t.2.2.2⟩ : S71)) (fun k a c i => rfl) a (by omega) (fun x hx => ⟨_, to_Obj x (hm x hx), rfl⟩) _)
  unfold laws_toObjS.f
  rw [if_pos (by omega), if_pos (by omega)]; rfl
theorem to_Act (x : S113) (h : x.f3.length ≤ 1048576) (h' : x.f4.length ≤ 1048576) : Ev (fun k => laws_toAct.f k x.f0 x.f1 x.f2 x.f3 x.f4) (x.f0, x.f1, x.f2, x.f3.map cVal, x.f4.map cVal) :=
  Ev.congr (fun k => rfl) (Ev.bind (f := fun k t => (laws_toValS.f k x.f4).bind fun u => some (x.f0, x.f1, x.f2, t, u)) (to_ValS _ h) (Ev.bind (f := fun k u => some (x.f0, x.f1, x.f2, x.f3.map cVal, u)) (to_ValS _ h') (Ev.now _)))
theorem to_ActS (a : List S113) (ha : a.length ≤ 1048576) (hm : ∀ x ∈ a, x.f3.length ≤ 1048576 ∧ x.f4.length ≤ 1048576) : Ev (fun k => laws_toActS.f k a) (a.map cAct) := by
  refine Ev.congr (f := fun k => laws_toActS.l0 k a (List.replicate a.length z75) 0) (fun k => ?_) (to_list (z := z113) (T := fun k x => laws_toAct.f k x.f0 x.f1 x.f2 x.f3 x.f4) (C := fun t => (⟨t.1, t.2.1, t.2.2.1, t.2.2.2.1, t.2.2.2.2⟩ : S75)) (fun k a c i => rfl) a (by omega) (fun x hx => ⟨_, to_Act x (hm x hx).1 (hm x hx).2, rfl⟩) _)
  unfold laws_toActS.f
  rw [if_pos (by omega), if_pos (by omega)]; rfl
theorem to_Machine (x : S30) (h : MSz x) : Ev (fun k => laws_toMachine.f k x.f0.f0 x.f0.f1 x.f1 x.f2 x.f3 x.f4.f0 x.f4.f1 x.f5 x.f6 x.f7) (x.f0.f0.map cObj, x.f0.f1, x.f1.map cVal, x.f2.map cAct, x.f3, x.f4.f0, x.f4.f1, x.f5, x.f6, x.f7) := by
  unfold laws_toMachine.f laws_toHeap.f
  refine Ev.bind (a := (x.f0.f0.map cObj, x.f0.f1)) (Ev.bind (to_ObjS _ h.1.1 h.1.2) (Ev.now _)) ?_
  refine Ev.bind (to_ValS _ h.2.1) ?_
  refine Ev.bind (to_ActS _ h.2.2.1 h.2.2.2) ?_
  exact Ev.bind (Ev.now _) (Ev.now _)
theorem eqv_Val (x y : S43) : EvIff (fun _ => laws_eqVal.f x.f0 x.f1 y.f0 y.f1) (x = y) := by
  obtain ⟨a0, a1⟩ := x
  obtain ⟨b0, b1⟩ := y
  unfold laws_eqVal.f
  refine EvIff.iff (EvIff.ite (EvIff.ite EvIff.yes)) ?_
  simp
theorem eqv_ValS (a b : List S43) (ha : a.length ≤ 1048576) : EvIff (fun k => laws_eqValS.f k a b) (a = b) := by
  by_cases hl : a.length = b.length
  · refine EvIff.congr (f := fun k => laws_eqValS.l0 k a b 0) (fun k => by unfold laws_eqValS.f; rw [if_pos (by omega)]) ?_
    exact eq_list (z := z43) (E := fun k x y => laws_eqVal.f x.f0 x.f1 y.f0 y.f1) (fun k a b i => rfl) a b (fun x hx y _ => eqv_Val x y) hl (by omega)
  · exact EvIff.iff (EvIff.congr (f := fun _ => some false) (fun k => by unfold laws_eqValS.f; rw [if_neg (by omega)]) EvIff.no) ⟨fun h => h.elim, fun h => hl (congrArg List.length h)⟩
theorem eqv_Obj (x y : S71) (h : x.f3.length ≤ 1048576) : EvIff (fun k => laws_eqObj.f k x.f0 x.f1 x.f2 x.f3 y.f0 y.f1 y.f2 y.f3) (x = y) := by
  obtain ⟨a0, a1, a2, a3⟩ := x
  obtain ⟨b0, b1, b2, b3⟩ := y
  unfold laws_eqObj.f
  refine EvIff.iff (EvIff.ite (EvIff.ite (EvIff.iten (EvIff.bind (eqv_ValS _ _ h) EvIff.yes)))) ?_
  rw [toList_eq]
  simp
theorem eqv_ObjS (a b : List S71) (ha : a.length ≤ 1048576) (hm : ∀ x ∈ a, x.f3.length ≤ 1048576) : EvIff (fun k => laws_eqObjS.f k a b) (a = b) := by
  by_cases hl : a.length = b.length
  · refine EvIff.congr (f := fun k => laws_eqObjS.l0 k a b 0) (fun k => by unfold laws_eqObjS.f; rw [if_pos (by omega)]) ?_
    exact eq_list (z := z71) (E := fun k x y => laws_eqObj.f k x.f0 x.f1 x.f2 x.f3 y.f0 y.f1 y.f2 y.f3) (fun k a b i => rfl) a b (fun x hx y _ => eqv_Obj x y (hm x hx)) hl (by omega)
  · exact EvIff.iff (EvIff.congr (f := fun _ => some false) (fun k => by unfold laws_eqObjS.f; rw [if_neg (by omega)]) EvIff.no) ⟨fun h => h.elim, fun h => hl (congrArg List.length h)⟩
theorem eqv_Act (x y : S75) (h : x.f3.length ≤ 1048576 ∧ x.f4.length ≤ 1048576) : EvIff (fun k => laws_eqAct.f k x.f0 x.f1 x.f2 x.f3 x.f4 y.f0 y.f1 y.f2 y.f3 y.f4) (x = y) := by
  obtain ⟨a0, a1, a2, a3, a4⟩ := x
  obtain ⟨b0, b1, b2, b3, b4⟩ := y
  unfold laws_eqAct.f
  refine EvIff.iff (EvIff.ite (EvIff.ite (EvIff.ite (EvIff.bind (eqv_ValS _ _ h.1) (EvIff.bind (eqv_ValS _ _ h.2) EvIff.yes))))) ?_
  simp
theorem eqv_ActS (a b : List S75) (ha : a.length ≤ 1048576) (hm : ∀ x ∈ a, x.f3.length ≤ 1048576 ∧ x.f4.length ≤ 1048576) : EvIff (fun k => laws_eqActS.f k a b) (a = b) := by
  by_cases hl : a.length = b.length
  · refine EvIff.congr (f := fun k => laws_eqActS.l0 k a b 0) (fun k => by unfold laws_eqActS.f; rw [if_pos (by omega)]) ?_
    exact eq_list (z := z75) (E := fun k x y => laws_eqAct.f k x.f0 x.f1 x.f2 x.f3 x.f4 y.f0 y.f1 y.f2 y.f3 y.f4) (fun k a b i => rfl) a b (fun x hx y _ => eqv_Act x y (hm x hx)) hl (by omega)
  · exact EvIff.iff (EvIff.congr (f := fun _ => some false) (fun k => by unfold laws_eqActS.f; rw [if_neg (by omega)]) EvIff.no) ⟨fun h => h.elim, fun h => hl (congrArg List.length h)⟩
theorem eqv_MachineR (o : List S71) (a1 : Int) (s : List S43) (c : List S75) (d : Bool) (a5 a6 : Int) (t : ByteArray) (e : Bool) (a9 : Int)
    (ho : o.length ≤ 1048576) (hs : s.length ≤ 1048576) (hc : c.length ≤ 1048576) (hO : ∀ x ∈ o, x.f3.length ≤ 1048576) (hA : ∀ x ∈ c, x.f3.length ≤ 1048576 ∧ x.f4.length ≤ 1048576) :
    Ev (fun k => laws_eqMachine.f k o a1 s c d a5 a6 t e a9 o a1 s c d a5 a6 t e a9) true := by
  unfold laws_eqMachine.f laws_eqHeap.f
  exact EvIff.true_ (EvIff.bind (EvIff.bind (eqv_ObjS o o ho hO) (EvIff.ite EvIff.yes)) (EvIff.bind (eqv_ValS s s hs) (EvIff.bind (eqv_ActS c c hc hA) (EvIff.iten (EvIff.bind (eqv_Val ⟨a5, a6⟩ ⟨a5, a6⟩) (EvIff.ite (EvIff.iten (EvIff.ite EvIff.yes)))))))) (by simp)

theorem rd_set {α : Type} (z : α) (l : List α) (i : Nat) (x : α) (h : i < l.length) : (l.set (i : Int).toNat x).getD (i : Int).toNat z = x := by
  have e : (l.set i x).getD (i : Int).toNat z = (l.set i x)[i]'(by simpa using h) := getD_at (by simpa using h)
  rw [Int.toNat_natCast] at e ⊢
  rw [e, List.getElem_set_self]
theorem EvB.mono {α : Type} {g : Nat → Option α} {B C : α → Prop} (h : EvB g B) (i : ∀ q, B q → C q) : EvB g C := h.elim fun q h => ⟨q, h.1, i q h.2⟩
theorem mark_Vals (l : List S43) (hl : l.length ≤ 1048576) (m : Int) (h0 : 0 ≤ m) (h1 : m ≤ 1000000000000000000) : EvB (fun k => laws_markValS.f k l m) (fun q => m ≤ q.1 ∧ q.1 ≤ m + ((2 * l.length : Nat) : Int)) := by
  refine mark_list (L := fun k a m i => laws_markValS.l0 k a m i) (c := 2) (M := 2000000000000000000) l (by omega) (fun k a m => by simp only [laws_markValS.l0]; rw [if_neg (by omega)]) (fun B a m i hi hl ha h0 hB H => ?_) m h0 (by omega)
  refine EvB.step (fun k => by rw [laws_markValS.l0, if_pos (by omega), if_pos (by omega)]) ?_
  refine EvB.bind (Ev.now _) ?_
  refine H _ _ ?_ ?_ ?_ ?_
  · simp
  · intro j hj
    simp only [Int.toNat_natCast]
    rw [List.getElem?_set_ne (by omega), List.getElem?_set_ne (by omega)]
  · unfold wrap64; omega
  · unfold wrap64; omega
theorem mark_Objs (l : List S71) (hl : l.length ≤ 1048576) (hm : ∀ x ∈ l, x.f3.length ≤ 1048576) (m : Int) (h0 : 0 ≤ m) (h1 : m ≤ 1000000000) : EvB (fun k => laws_markObjS.f k l m) (fun q => m ≤ q.1 ∧ q.1 ≤ m + ((10000000 * l.length : Nat) : Int)) := by
  refine mark_list (L := fun k a m i => laws_markObjS.l0 k a m i) (c := 10000000) (M := 100000000000000000) l (by omega) (fun k a m => by simp only [laws_markObjS.l0]; rw [if_neg (by omega)]) (fun B a m i hi hl ha h0 hB H => ?_) m h0 (by omega)
  have hia : i < a.length := by omega
  have ea : a[i] = l[i] := by rw [List.getElem?_eq_getElem hia] at ha; exact Option.some.inj ha
  have er : rd_T71 a (i : Int) = l[i] := (getD_at hia : a.getD (i : Int).toNat z71 = a[i]).trans ea
  have rs : ∀ x, rd_T71 (a.set (i : Int).toNat x) (i : Int) = x := fun x => rd_set z71 a i x hia
  have l3 := hm _ (List.getElem_mem hi)
  have q1 : wrap64 (m + 1) = m + 1 := by unfold wrap64; omega
  have q2 : wrap64 (m + 1 + 1) = m + 2 := by unfold wrap64; omega
  have q3 : wrap64 (m + 2 + 1) = m + 3 := by unfold wrap64; omega
  obtain ⟨t1, e1⟩ := mt (m + 1) (by omega) (by omega)
  obtain ⟨⟨m8, L7⟩, e7, b7⟩ := mark_Vals l[i].f3 l3 (m + 3) (by omega) (by omega)
  simp only [] at b7
  refine EvB.step (fun k => by rw [laws_markObjS.l0, if_pos (by omega), if_pos (by omega)]) ?_
  simp only [q1, q2, q3]
  refine EvB.bind (Ev.now _) ?_
  refine EvB.bind e1 ?_
  refine EvB.bind (Ev.now _) ?_
  simp only [rs, List.set_set, er]
  refine EvB.bind (v := (m8, a.set (i : Int).toNat ⟨m, t1, ((Int.tmod (m + 2) 3) == 0), L7⟩)) ?_ ?_
  · refine Ev.congr (fun k => by unfold mark_in71_3.f; rw [if_pos (by omega), if_pos (by rw [List.length_set]; omega), rs]) ?_
    simp only [List.set_set]
    exact Ev.bind e7 (Ev.now _)
  refine H _ _ ?_ ?_ ?_ ?_
  · simp
  · intro j hj
    simp only [Int.toNat_natCast]
    rw [List.getElem?_set_ne (by omega)]
  · simp only []
    omega
  · simp only []
    omega
theorem mark_Acts (l : List S75) (hl : l.length ≤ 1048576) (hm : ∀ x ∈ l, x.f3.length ≤ 1048576 ∧ x.f4.length ≤ 1048576) (m : Int) (h0 : 0 ≤ m) (h1 : m ≤ 100000000000000) : EvB (fun k => laws_markActS.f k l m) (fun q => m ≤ q.1 ∧ q.1 ≤ m + ((10000000 * l.length : Nat) : Int)) := by
  refine mark_list (L := fun k a m i => laws_markActS.l0 k a m i) (c := 10000000) (M := 100000000000000000) l (by omega) (fun k a m => by simp only [laws_markActS.l0]; rw [if_neg (by omega)]) (fun B a m i hi hl ha h0 hB H => ?_) m h0 (by omega)
  have hia : i < a.length := by omega
  have ea : a[i] = l[i] := by rw [List.getElem?_eq_getElem hia] at ha; exact Option.some.inj ha
  have er : rd_T75 a (i : Int) = l[i] := (getD_at hia : a.getD (i : Int).toNat z75 = a[i]).trans ea
  have rs : ∀ x, rd_T75 (a.set (i : Int).toNat x) (i : Int) = x := fun x => rd_set z75 a i x hia
  obtain ⟨l3, l4⟩ := hm _ (List.getElem_mem hi)
  have q1 : wrap64 (m + 1) = m + 1 := by unfold wrap64; omega
  have q2 : wrap64 (m + 1 + 1) = m + 2 := by unfold wrap64; omega
  have q3 : wrap64 (m + 2 + 1) = m + 3 := by unfold wrap64; omega
  obtain ⟨⟨m7, L7⟩, e7, b7⟩ := mark_Vals l[i].f3 l3 (m + 3) (by omega) (by omega)
  simp only [] at b7
  obtain ⟨⟨m8, L8⟩, e8, b8⟩ := mark_Vals l[i].f4 l4 m7 (by omega) (by omega)
  simp only [] at b8
  refine EvB.step (fun k => by rw [laws_markActS.l0, if_pos (by omega), if_pos (by omega)]) ?_
  simp only [q1, q2, q3]
  refine EvB.bind (Ev.now _) ?_
  refine EvB.bind (Ev.now _) ?_
  simp only [rs, List.set_set, er]
  refine EvB.bind (v := (m7, a.set (i : Int).toNat ⟨m, m + 1, m + 2, L7, l[i].f4⟩)) ?_ ?_
  · refine Ev.congr (fun k => by unfold mark_in75_3.f; rw [if_pos (by omega), if_pos (by rw [List.length_set]; omega), rs]) ?_
    simp only [List.set_set]
    exact Ev.bind e7 (Ev.now _)
  refine EvB.bind (v := (m8, a.set (i : Int).toNat ⟨m, m + 1, m + 2, L7, L8⟩)) ?_ ?_
  · refine Ev.congr (fun k => by unfold mark_in75_4.f; rw [if_pos (by omega), if_pos (by rw [List.length_set]; omega), rs]) ?_
    simp only [List.set_set]
    exact Ev.bind e8 (Ev.now _)
  refine H _ _ ?_ ?_ ?_ ?_
  · simp
  · intro j hj
    simp only [Int.toNat_natCast]
    rw [List.getElem?_set_ne (by omega)]
  · simp only []
    omega
  · simp only []
    omega
theorem mark_Machine (o : List S71) (a1 : Int) (s : List S43) (c : List S75) (d : Bool) (a5 a6 : Int) (t : ByteArray) (e : Bool) (a9 : Int)
    (ho : o.length ≤ 1048576) (hs : s.length ≤ 1048576) (hc : c.length ≤ 1048576) (hO : ∀ x ∈ o, x.f3.length ≤ 1048576) (hA : ∀ x ∈ c, x.f3.length ≤ 1048576 ∧ x.f4.length ≤ 1048576) :
    EvB (fun k => laws_markMachine.f k o a1 s c d a5 a6 t e a9 1) (fun q => ¬ q.1 < 0) := by
  obtain ⟨⟨m1, F1⟩, e1, b1⟩ := mark_Objs o ho hO 1 (by omega) (by omega)
  simp only [] at b1
  obtain ⟨⟨m2, M2⟩, e2, b2⟩ := mark_Vals s hs m1 (by omega) (by omega)
  simp only [] at b2
  obtain ⟨⟨m3, M3⟩, e3, b3⟩ := mark_Acts c hc hA m2 (by omega) (by omega)
  simp only [] at b3
  unfold laws_markMachine.f laws_markHeap.f
  exact ⟨(m3, F1, M2, M3), Ev.bind (a := (m1, F1)) (Ev.bind e1 (Ev.now _)) (Ev.bind e2 (Ev.bind e3 (Ev.now _))), by simp only []; omega⟩

def EInt (x n m : Int) : Prop := x = n ∧ m = n + 1
def EObj (x : S73) (n m : Int) : Prop := n ≤ m ∧ Ev (fun k => laws_markText.f k n) x.f0 ∧ x.f1 = n + 1 ∧ x.f2.length ≤ 1048576 ∧ Held EInt x.f2 (n + 2) m
def EAct (x : S77) (n m : Int) : Prop := n ≤ m ∧ x.f0 = n ∧ x.f1 = n + 1 ∧ x.f2 = n + 2 ∧ (x.f3.length ≤ 1048576 ∧ x.f4.length ≤ 1048576) ∧ ∃ p, Held EInt x.f3 (n + 3) p ∧ Held EInt x.f4 p m
theorem EInt.le (x n m : Int) (h : EInt x n m) : n ≤ m := by unfold EInt at h; omega
theorem mark_Ints (l : List Int) (hl : l.length ≤ 1048576) (m : Int) (h0 : 0 ≤ m) (h1 : m ≤ 1000000000000000000) : EvB (fun k => laws_markInt64S.f k l m) (fun q => Held EInt q.2 m q.1 ∧ q.2.length = l.length ∧ m ≤ q.1 ∧ q.1 ≤ m + ((1 * l.length : Nat) : Int)) := by
  refine mark_held (L := fun k a m i => laws_markInt64S.l0 k a m i) (c := 1) (M := 2000000000000000000) EInt l (by omega) (fun k a m => by simp only [laws_markInt64S.l0]; rw [if_neg (by omega)]) (fun B a m i hi hl ha h0 hB H => ?_) m h0 (by omega)
  refine EvB.step (fun k => by rw [laws_markInt64S.l0, if_pos (by omega), if_pos (by omega)]) ?_
  have q1 : wrap64 (m + 1) = m + 1 := by unfold wrap64; omega
  rw [q1]
  exact H (m + 1) m ⟨rfl, rfl⟩ (by omega) (by omega)
theorem mark_BObjs (l : List S73) (hl : l.length ≤ 1048576) (hm : ∀ x ∈ l, OSz x) (m : Int) (h0 : 0 ≤ m) (h1 : m ≤ 1000000000) : EvB (fun k => laws_markBareObjS.f k l m) (fun q => Held EObj q.2 m q.1 ∧ q.2.length = l.length ∧ m ≤ q.1 ∧ q.1 ≤ m + ((10000000 * l.length : Nat) : Int)) := by
  refine mark_held (L := fun k a m i => laws_markBareObjS.l0 k a m i) (c := 10000000) (M := 100000000000000000) EObj l (by omega) (fun k a m => by simp only [laws_markBareObjS.l0]; rw [if_neg (by omega)]) (fun B a m i hi hl ha h0 hB H => ?_) m h0 (by omega)
  have hia : i < a.length := by omega
  have ea : a[i] = l[i] := by rw [List.getElem?_eq_getElem hia] at ha; exact Option.some.inj ha
  have er : rd_T73 a (i : Int) = l[i] := (getD_at hia : a.getD (i : Int).toNat z73 = a[i]).trans ea
  have rs : ∀ x, rd_T73 (a.set (i : Int).toNat x) (i : Int) = x := fun x => rd_set z73 a i x hia
  have l2 : l[i].f2.length ≤ 1048576 := hm _ (List.getElem_mem hi)
  have q1 : wrap64 (m + 1) = m + 1 := by unfold wrap64; omega
  have q2 : wrap64 (m + 1 + 1) = m + 2 := by unfold wrap64; omega
  obtain ⟨t1, e1⟩ := mt m (by omega) (by omega)
  obtain ⟨⟨m8, L7⟩, e7, g7, n7, b7⟩ := mark_Ints l[i].f2 l2 (m + 2) (by omega) (by omega)
  simp only [] at b7 g7 n7
  refine EvB.step (fun k => by rw [laws_markBareObjS.l0, if_pos (by omega)]) ?_
  simp only [q1, q2]
  refine EvB.bind e1 ?_
  refine EvB.congr (fun k => if_pos (by omega)) ?_
  refine EvB.bind (Ev.now _) ?_
  simp only [rs, List.set_set, er]
  refine EvB.bind (v := (m8, a.set (i : Int).toNat ⟨t1, m + 1, L7⟩)) ?_ ?_
  · refine Ev.congr (fun k => by unfold mark_in73_2.f; rw [if_pos (by omega), if_pos (by rw [List.length_set]; omega), rs]) ?_
    simp only [List.set_set]
    exact Ev.bind e7 (Ev.now _)
  rw [Int.toNat_natCast]
  exact H m8 ⟨t1, m + 1, L7⟩ ⟨by omega, e1, rfl, by simp only []; omega, g7⟩ (by omega) (by omega)
theorem mark_BActs (l : List S77) (hl : l.length ≤ 1048576) (hm : ∀ x ∈ l, ASz x) (m : Int) (h0 : 0 ≤ m) (h1 : m ≤ 100000000000000) : EvB (fun k => laws_markBareActS.f k l m) (fun q => Held EAct q.2 m q.1 ∧ q.2.length = l.length ∧ m ≤ q.1 ∧ q.1 ≤ m + ((10000000 * l.length : Nat) : Int)) := by
  refine mark_held (L := fun k a m i => laws_markBareActS.l0 k a m i) (c := 10000000) (M := 100000000000000000) EAct l (by omega) (fun k a m => by simp only [laws_markBareActS.l0]; rw [if_neg (by omega)]) (fun B a m i hi hl ha h0 hB H => ?_) m h0 (by omega)
  have hia : i < a.length := by omega
  have ea : a[i] = l[i] := by rw [List.getElem?_eq_getElem hia] at ha; exact Option.some.inj ha
  have er : rd_T77 a (i : Int) = l[i] := (getD_at hia : a.getD (i : Int).toNat z77 = a[i]).trans ea
  have rs : ∀ x, rd_T77 (a.set (i : Int).toNat x) (i : Int) = x := fun x => rd_set z77 a i x hia
  obtain ⟨l3, l4⟩ : l[i].f3.length ≤ 1048576 ∧ l[i].f4.length ≤ 1048576 := hm _ (List.getElem_mem hi)
  have q1 : wrap64 (m + 1) = m + 1 := by unfold wrap64; omega
  have q2 : wrap64 (m + 1 + 1) = m + 2 := by unfold wrap64; omega
  have q3 : wrap64 (m + 2 + 1) = m + 3 := by unfold wrap64; omega
  obtain ⟨⟨m7, L7⟩, e7, g7, n7, b7⟩ := mark_Ints l[i].f3 l3 (m + 3) (by omega) (by omega)
  simp only [] at b7 g7 n7
  obtain ⟨⟨m8, L8⟩, e8, g8, n8, b8⟩ := mark_Ints l[i].f4 l4 m7 (by omega) (by omega)
  simp only [] at b8 g8 n8
  refine EvB.step (fun k => by rw [laws_markBareActS.l0, if_pos (by omega), if_pos (by omega)]) ?_
  simp only [q1, q2, q3]
  refine EvB.bind (Ev.now _) ?_
  refine EvB.bind (Ev.now _) ?_
  simp only [rs, List.set_set, er]
  refine EvB.bind (v := (m7, a.set (i : Int).toNat ⟨m, m + 1, m + 2, L7, l[i].f4⟩)) ?_ ?_
  · refine Ev.congr (fun k => by unfold mark_in77_3.f; rw [if_pos (by omega), if_pos (by rw [List.length_set]; omega), rs]) ?_
    simp only [List.set_set]
    exact Ev.bind e7 (Ev.now _)
  refine EvB.bind (v := (m8, a.set (i : Int).toNat ⟨m, m + 1, m + 2, L7, L8⟩)) ?_ ?_
  · refine Ev.congr (fun k => by unfold mark_in77_4.f; rw [if_pos (by omega), if_pos (by rw [List.length_set]; omega), rs]) ?_
    simp only [List.set_set]
    exact Ev.bind e8 (Ev.now _)
  rw [Int.toNat_natCast]
  exact H m8 ⟨m, m + 1, m + 2, L7, L8⟩ ⟨by omega, rfl, rfl, rfl, ⟨by simp only []; omega, by simp only []; omega⟩, m7, g7, g8⟩ (by omega) (by omega)
theorem held_Ints (l : List Int) (hl : l.length ≤ 1048576) (n m : Int) (h0 : 0 ≤ n) (hM : m ≤ 1000000000000000000) (H : Held EInt l n m) : Ev (fun k => laws_heldInt64S.f k l n) m := by
  refine held_list (L := fun k m i => laws_heldInt64S.l0 k l m i) (M := 1000000000000000000) EInt EInt.le l (by omega) (fun k m => by simp only [laws_heldInt64S.l0]; rw [if_neg (by omega)]) (fun i hi m m' r h0 h1 hE hr => ?_) n m h0 hM H
  obtain ⟨e1, rfl⟩ := hE
  have er : rd l (i : Int) = l[i] := (getD_at hi : l.getD (i : Int).toNat 0 = l[i])
  have q1 : wrap64 (m + 1) = m + 1 := by unfold wrap64; omega
  refine Ev.step (fun k => ?_) hr
  show laws_heldInt64S.l0 (k + 1) l m (i : Int) = _
  rw [laws_heldInt64S.l0, if_pos (by omega), if_pos (by omega), er, if_pos e1, q1]
theorem held_BObjs (l : List S73) (hl : l.length ≤ 1048576) (n m : Int) (h0 : 0 ≤ n) (hM : m ≤ 100000000000000000) (H : Held EObj l n m) : Ev (fun k => laws_heldBareObjS.f k l n) m := by
  refine held_list (L := fun k m i => laws_heldBareObjS.l0 k l m i) (M := 100000000000000000) EObj (fun x n m h => h.1) l (by omega) (fun k m => by simp only [laws_heldBareObjS.l0]; rw [if_neg (by omega)]) (fun i hi m m' r h0 h1 hE hr => ?_) n m h0 hM H
  obtain ⟨e0, e1, e2, e3, e4⟩ := hE
  have er : rd_T73 l (i : Int) = l[i] := (getD_at hi : l.getD (i : Int).toNat z73 = l[i])
  have q1 : wrap64 (m + 1) = m + 1 := by unfold wrap64; omega
  have q2 : wrap64 (m + 1 + 1) = m + 2 := by unfold wrap64; omega
  have := Held.le EInt.le e4
  refine Ev.step (fun k => by show laws_heldBareObjS.l0 (k + 1) l m (i : Int) = _; rw [laws_heldBareObjS.l0, if_pos (by omega), if_pos (by omega)]) ?_
  refine Ev.bind e1 ?_
  refine Ev.congr (fun k => by rw [er, if_pos rfl, q1, if_pos e2, q2]) ?_
  refine Ev.bind (held_Ints _ e3 _ _ (by omega) (by omega) e4) ?_
  exact Ev.congr (fun k => if_neg (by omega)) hr
theorem held_BActs (l : List S77) (hl : l.length ≤ 1048576) (n m : Int) (h0 : 0 ≤ n) (hM : m ≤ 100000000000000000) (H : Held EAct l n m) : Ev (fun k => laws_heldBareActS.f k l n) m := by
  refine held_list (L := fun k m i => laws_heldBareActS.l0 k l m i) (M := 100000000000000000) EAct (fun x n m h => h.1) l (by omega) (fun k m => by simp only [laws_heldBareActS.l0]; rw [if_neg (by omega)]) (fun i hi m m' r h0 h1 hE hr => ?_) n m h0 hM H
  obtain ⟨e0, e1, e2, e3, ⟨e4, e5⟩, p, e6, e7⟩ := hE
  have er : rd_T77 l (i : Int) = l[i] := (getD_at hi : l.getD (i : Int).toNat z77 = l[i])
  have q1 : wrap64 (m + 1) = m + 1 := by unfold wrap64; omega
  have q2 : wrap64 (m + 1 + 1) = m + 2 := by unfold wrap64; omega
  have q3 : wrap64 (m + 2 + 1) = m + 3 := by unfold wrap64; omega
  have := Held.le EInt.le e6
  have := Held.le EInt.le e7
  refine Ev.step (fun k => by show laws_heldBareActS.l0 (k + 1) l m (i : Int) = _; rw [laws_heldBareActS.l0, if_pos (by omega), if_pos (by omega), er, if_pos e1, q1, if_pos e2, q2, if_pos e3, q3]) ?_
  refine Ev.bind (held_Ints _ e4 _ _ (by omega) (by omega) e6) ?_
  refine Ev.congr (fun k => if_neg (by omega)) ?_
  refine Ev.bind (held_Ints _ e5 _ _ (by omega) (by omega) e7) ?_
  exact Ev.congr (fun k => if_neg (by omega)) hr
theorem markheld_Bare (o : List S73) (a1 : Int) (s : List Int) (c : List S77) (d : Bool) (a5 : Int) (t : ByteArray) (a7 : Int)
    (ho : o.length ≤ 1048576) (hs : s.length ≤ 1048576) (hc : c.length ≤ 1048576) (hO : ∀ x ∈ o, OSz x) (hA : ∀ x ∈ c, ASz x) :
    EvB (fun k => laws_markBare.f k o a1 s c d a5 t a7 1) (fun q => ¬ q.1 < 0 ∧ Ev (fun k => laws_heldBare.f k q.2.1 a1 q.2.2.1 q.2.2.2 d a5 t a7 1) q.1) := by
  obtain ⟨⟨m1, F1⟩, e1, g1, n1, b1⟩ := mark_BObjs o ho hO 1 (by omega) (by omega)
  simp only [] at b1 g1 n1
  obtain ⟨⟨m2, M2⟩, e2, g2, n2, b2⟩ := mark_Ints s hs m1 (by omega) (by omega)
  simp only [] at b2 g2 n2
  obtain ⟨⟨m3, M3⟩, e3, g3, n3, b3⟩ := mark_BActs c hc hA m2 (by omega) (by omega)
  simp only [] at b3 g3 n3
  refine ⟨(m3, F1, M2, M3), Ev.bind e1 (Ev.bind e2 (Ev.bind e3 (Ev.now _))), by simp only []; omega, ?_⟩
  unfold laws_heldBare.f
  refine Ev.bind (held_BObjs F1 (by omega) 1 m1 (by omega) (by omega) g1) ?_
  refine Ev.congr (fun k => if_neg (by omega)) ?_
  refine Ev.bind (held_Ints M2 (by omega) m1 m2 (by omega) (by omega) g2) ?_
  refine Ev.congr (fun k => if_neg (by omega)) ?_
  refine Ev.bind (held_BActs M3 (by omega) m2 m3 (by omega) (by omega) g3) ?_
  exact Ev.congr (fun k => if_neg (by omega)) (Ev.now _)

def nums (l : List S43) : List Int := l.map (fun x => x.f1)
def eO (x : S71) : S73 := ⟨x.f1, x.f0, nums x.f3⟩
def eA (x : S75) : S77 := ⟨x.f0, x.f1, x.f2, nums x.f3, nums x.f4⟩
theorem bare_spec (l : List S43) (hl : l.length ≤ 1048576) : Ev (fun k => spec_l12Bare.f k l) (nums l) := by
  refine app_then l (fun x => x.f1) (fun k i acc => spec_l12Bare.l0 k l acc i) _ (by omega) ?_ (fun i hi acc ha h => ?_)
  · exact Ev.step (f := fun _ => some (nums l)) (fun k => by show spec_l12Bare.l0 (k + 1) l _ _ = _; rw [spec_l12Bare.l0, if_neg (by omega)]; rfl) (Ev.now _)
  · have er : rd_T43 l (i : Int) = l[i] := (getD_at hi : l.getD (i : Int).toNat z43 = l[i])
    exact Ev.step (fun k => by show spec_l12Bare.l0 (k + 1) l acc (i : Int) = _; rw [spec_l12Bare.l0, if_pos (by omega), if_pos (by omega), if_pos (by omega), er]) h
theorem nums_impl (l : List S43) (hl : l.length ≤ 1048576) : Ev (fun k => impl_numbers.f k l) (nums l) := by
  refine app_then l (fun x => x.f1) (fun k i acc => impl_numbers.l0 k acc l (l.length : Int) i) _ (by omega) ?_ (fun i hi acc ha h => ?_)
  · exact Ev.step (f := fun _ => some (nums l)) (fun k => by show impl_numbers.l0 (k + 1) _ l _ _ = _; rw [impl_numbers.l0, if_neg (by omega)]; rfl) (Ev.now _)
  · have er : rd_T43 l (i : Int) = l[i] := (getD_at hi : l.getD (i : Int).toNat z43 = l[i])
    exact Ev.step (fun k => by show impl_numbers.l0 (k + 1) acc l _ (i : Int) = _; rw [impl_numbers.l0, if_pos (by omega), if_pos (by omega), if_pos (by omega), if_pos (by omega), er]) h
section
variable (o : List S71) (a1 : Int) (s : List S43) (c : List S75) (d : Bool) (a5 a6 : Int) (t : ByteArray) (e : Bool) (a9 : Int)
    (ho : o.length ≤ 1048576) (hs : s.length ≤ 1048576) (hc : c.length ≤ 1048576) (hO : ∀ x ∈ o, x.f3.length ≤ 1048576) (hA : ∀ x ∈ c, x.f3.length ≤ 1048576 ∧ x.f4.length ≤ 1048576)
include ho hs hc hO hA
theorem erase_spec : Ev (fun k => spec_Erase.f k o a1 s c d a5 a6 t e a9) (o.map eO, a1, nums s, c.map eA, d, a6, t, a9) := by
  unfold spec_Erase.f
  refine Ev.bind (bare_spec s hs) ?_
  refine app_then o eO (fun k i acc => spec_Erase.l0 k i o a1 s c d a5 a6 t e a9 acc a1 (nums s) d a6 t a9) _ (by omega) ?_ (fun i hi acc ha h => ?_)
  · refine Ev.step (f := fun k => spec_Erase.l1 k 0 o a1 s c d a5 a6 t e a9 (o.map eO) a1 (nums s) [] d a6 t a9) (fun k => by show spec_Erase.l0 (k + 1) _ _ _ _ _ _ _ _ _ _ _ _ _ _ _ _ _ _ = _; rw [spec_Erase.l0, if_neg (by omega)]) ?_
    refine app_then c eA (fun k i acc => spec_Erase.l1 k i o a1 s c d a5 a6 t e a9 (o.map eO) a1 (nums s) acc d a6 t a9) _ (by omega) ?_ (fun i hi acc ha h => ?_)
    · exact Ev.step (f := fun _ => some (o.map eO, a1, nums s, c.map eA, d, a6, t, a9)) (fun k => by show spec_Erase.l1 (k + 1) _ _ _ _ _ _ _ _ _ _ _ _ _ _ _ _ _ _ _ = _; rw [spec_Erase.l1, if_neg (by omega)]) (Ev.now _)
    · have er : rd_T75 c (i : Int) = c[i] := (getD_at hi : c.getD (i : Int).toNat z75 = c[i])
      obtain ⟨l3, l4⟩ := hA _ (List.getElem_mem hi)
      refine Ev.step (fun k => by show spec_Erase.l1 (k + 1) _ _ _ _ _ _ _ _ _ _ _ _ _ _ _ _ _ _ _ = _; rw [spec_Erase.l1, if_pos (by omega), if_pos (by omega), er]) ?_
      refine Ev.bind (bare_spec _ l3) (Ev.bind (bare_spec _ l4) ?_)
      exact Ev.congr (fun k => if_pos (by omega)) h
  · have er : rd_T71 o (i : Int) = o[i] := (getD_at hi : o.getD (i : Int).toNat z71 = o[i])
    refine Ev.step (fun k => by show spec_Erase.l0 (k + 1) _ _ _ _ _ _ _ _ _ _ _ _ _ _ _ _ _ _ = _; rw [spec_Erase.l0, if_pos (by omega), if_pos (by omega), er]) ?_
    refine Ev.bind (bare_spec _ (hO _ (List.getElem_mem hi))) ?_
    exact Ev.congr (fun k => if_pos (by omega)) h
theorem erase_impl : Ev (fun k => impl_Erase.f k o a1 s c d a5 a6 t e a9) (o.map eO, a1, nums s, c.map eA, d, a6, t, a9) := by
  unfold impl_Erase.f
  refine Ev.bind (nums_impl s hs) ?_
  refine app_then o eO (fun k i acc => impl_Erase.l0 k o (o.length : Int) i o a1 s c d a5 a6 t e a9 acc a1 (nums s) d a6 t a9) _ (by omega) ?_ (fun i hi acc ha h => ?_)
  · refine Ev.step (f := fun k => impl_Erase.l1 k c (c.length : Int) 0 (o.map eO) a1 (nums s) [] d a6 t a9) (fun k => by show impl_Erase.l0 (k + 1) _ _ _ _ _ _ _ _ _ _ _ _ _ _ _ _ _ _ _ _ = _; rw [impl_Erase.l0, if_neg (by omega)]) ?_
    refine app_then c eA (fun k i acc => impl_Erase.l1 k c (c.length : Int) i (o.map eO) a1 (nums s) acc d a6 t a9) _ (by omega) ?_ (fun i hi acc ha h => ?_)
    · exact Ev.step (f := fun _ => some (o.map eO, a1, nums s, c.map eA, d, a6, t, a9)) (fun k => by show impl_Erase.l1 (k + 1) _ _ _ _ _ _ _ _ _ _ _ = _; rw [impl_Erase.l1, if_neg (by omega)]) (Ev.now _)
    · have er : rd_T75 c (i : Int) = c[i] := (getD_at hi : c.getD (i : Int).toNat z75 = c[i])
      obtain ⟨l3, l4⟩ := hA _ (List.getElem_mem hi)
      refine Ev.step (fun k => by show impl_Erase.l1 (k + 1) _ _ _ _ _ _ _ _ _ _ _ = _; rw [impl_Erase.l1, if_pos (by omega), if_pos (by omega), if_pos (by omega), er]) ?_
      refine Ev.bind (nums_impl _ l3) (Ev.bind (nums_impl _ l4) ?_)
      exact Ev.congr (fun k => if_pos (by omega)) h
  · have er : rd_T71 o (i : Int) = o[i] := (getD_at hi : o.getD (i : Int).toNat z71 = o[i])
    refine Ev.step (fun k => by show impl_Erase.l0 (k + 1) _ _ _ _ _ _ _ _ _ _ _ _ _ _ _ _ _ _ _ _ = _; rw [impl_Erase.l0, if_pos (by omega), if_pos (by omega), if_pos (by omega), er]) ?_
    refine Ev.bind (nums_impl _ (hO _ (List.getElem_mem hi))) ?_
    exact Ev.congr (fun k => if_pos (by omega)) h
end
theorem osz_e (o : List S71) (hO : ∀ x ∈ o, x.f3.length ≤ 1048576) : ∀ y ∈ o.map eO, OSz y := by
  intro y hy
  obtain ⟨z, hz, rfl⟩ := List.mem_map.mp hy
  have := hO z hz
  simpa [OSz, eO, nums] using this
theorem asz_e (c : List S75) (hA : ∀ x ∈ c, x.f3.length ≤ 1048576 ∧ x.f4.length ≤ 1048576) : ∀ y ∈ c.map eA, ASz y := by
  intro y hy
  obtain ⟨z, hz, rfl⟩ := List.mem_map.mp hy
  have := hA z hz
  simpa [ASz, eA, nums] using this
theorem FnExactErase : laws_FnExactErase.Pure := by
  intro x hx
  obtain ⟨v, hv, hb⟩ := sz_Machine x hx 1048576 (by omega) (by omega)
  refine Ev.rounds (Ev.congr (fun k => rfl) (Ev.bind hv ?_))
  rcases hb with hb | ⟨v0, v1, hX⟩
  · exact Ev.congr (f := fun _ => some true) (fun k => if_pos hb) (Ev.now _)
  refine Ev.congr (fun k => if_neg (by omega)) ?_
  have tx := to_Machine x hX
  obtain ⟨⟨h0, hO'⟩, h1, h2, hA'⟩ := hX
  have ho : (x.f0.f0.map cObj).length ≤ 1048576 := by simpa using h0
  have hs : (x.f1.map cVal).length ≤ 1048576 := by simpa using h1
  have hc : (x.f2.map cAct).length ≤ 1048576 := by simpa using h2
  have hO : ∀ y ∈ x.f0.f0.map cObj, y.f3.length ≤ 1048576 := by
    intro y hy
    obtain ⟨z, hz, rfl⟩ := List.mem_map.mp hy
    simpa [cObj] using hO' z hz
  have hA : ∀ y ∈ x.f2.map cAct, y.f3.length ≤ 1048576 ∧ y.f4.length ≤ 1048576 := by
    intro y hy
    obtain ⟨z, hz, rfl⟩ := List.mem_map.mp hy
    simpa [cAct] using hA' z hz
  generalize x.f0.f0.map cObj = o at tx ho hO
  generalize x.f1.map cVal = s at tx hs
  generalize x.f2.map cAct = c at tx hc hA
  have es := erase_spec o x.f0.f1 s c x.f3 x.f4.f0 x.f4.f1 x.f5 x.f6 x.f7 ho hs hc hO hA
  have ei := erase_impl o x.f0.f1 s c x.f3 x.f4.f0 x.f4.f1 x.f5 x.f6 x.f7 ho hs hc hO hA
  have em := eqv_MachineR o x.f0.f1 s c x.f3 x.f4.f0 x.f4.f1 x.f5 x.f6 x.f7 ho hs hc hO hA
  obtain ⟨mk, ek, hk⟩ := mark_Machine o x.f0.f1 s c x.f3 x.f4.f0 x.f4.f1 x.f5 x.f6 x.f7 ho hs hc hO hA
  have bo : (o.map eO).length ≤ 1048576 := by simpa using ho
  have bs : (nums s).length ≤ 1048576 := by simpa [nums] using hs
  have bc : (c.map eA).length ≤ 1048576 := by simpa using hc
  have bO := osz_e o hO
  have bA := asz_e c hA
  have eb := EvIff.true_ (eqv_Bare (o.map eO) x.f0.f1 (nums s) (c.map eA) x.f3 x.f4.f1 x.f5 x.f7 _ _ _ _ _ _ _ _ bo bs bc bO bA) ⟨rfl, rfl, rfl, rfl, rfl, rfl, rfl, rfl⟩
  obtain ⟨q, eq, hq, eh⟩ := markheld_Bare (o.map eO) x.f0.f1 (nums s) (c.map eA) x.f3 x.f4.f1 x.f5 x.f7 bo bs bc bO bA
  refine Ev.bind tx (Ev.bind es (Ev.bind tx (Ev.bind ei (Ev.bind eb (Ev.congr (fun k => if_pos rfl) (Ev.bind tx (Ev.bind em (Ev.congr (fun k => if_pos rfl) (Ev.bind ek ?_)))))))))
  refine Ev.congr (fun k => if_neg hk) (Ev.bind eb ?_)
  refine Ev.step (fun k => by rw [laws_FnExactErase.j0, if_neg (by simp)]) ?_
  refine Ev.bind eq (Ev.bind eh ?_)
  refine Ev.congr (fun k => (if_neg hq).trans (if_pos rfl)) ?_
  refine Ev.bind tx (Ev.bind ei (Ev.bind eb (Ev.congr (fun k => if_pos rfl) (Ev.bind eh ?_))))
  exact Ev.congr (f := fun _ => some true) (fun k => (if_neg hq).trans (if_pos rfl)) (Ev.now _)

end Go.Proofs.Ytljeeiijepoenaa.Pure
