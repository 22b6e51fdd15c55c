/- The program's LoadSize returns what the reference's returns, for every slice of strings that can be read as data. -/
import Derived.Test.YtkijcgeicdldgaaPFnExactLoadSizex1
namespace Go.Proofs.Ytkijcgeicdldgaa.Pure
open Go.RowKit Go.Proofs.Ytkijcgeicdldgaa.PFnExactLoadSize Go.Proofs.YtkijcgeicdldgaaW.PrintWords Go.Proofs.YtkijcgeicdldgaaW.PrintLast
set_option linter.unusedVariables false
set_option linter.unusedSimpArgs false

theorem rdOf_at {α : Type} (d : α) (l : List α) (i : Int) (h : i.toNat < l.length) : rdOf d l i = l[i.toNat] := by
  simp [rdOf, List.getD_eq_getElem?_getD, List.getElem?_eq_getElem h]
/-- A list that is filled from the left. -/
theorem fill_end {α : Type} (l acc : List α) (hl : acc.length = l.length) (h : ∀ j, j < l.length → acc[j]? = l[j]?) : acc = l := by
  apply List.ext_getElem?
  intro j
  by_cases hj : j < l.length
  · exact h j hj
  · rw [List.getElem?_eq_none (by omega), List.getElem?_eq_none (by omega)]
theorem fill_step {α : Type} (l acc : List α) (i : Nat) (v : α) (hl : acc.length = l.length) (hi : i < l.length) (hv : l[i]? = some v) (h : ∀ j, j < i → acc[j]? = l[j]?) : ∀ j, j < i + 1 → (acc.set i v)[j]? = l[j]? := by
  intro j hj
  by_cases e : j = i
  · subst e; rw [List.getElem?_set_self (by omega), hv]
  · rw [List.getElem?_set_ne (by omega)]; exact h j (by omega)
theorem ev_le {α : Type} {g : Nat → Option α} {r : α} (h : Ev g r) : ∃ K, ∀ k, K ≤ k → g k = some r := h

theorem sz_loop (l : List ByteArray) (hs : ∀ x ∈ l, x.size ≤ maxLen) (hl : l.length ≤ maxLen) (d : Nat) : ∀ (i : Nat) (a : Int), 0 ≤ a → a ≤ 1048576 → i + d = l.length →
    ∃ r, Ev (fun k => laws_szStringS.l0 k l a i) r ∧ (r < 0 ∨ (0 ≤ r ∧ r ≤ a)) := by
  unfold maxLen at hs hl
  induction d with
  | zero =>
    intro i a h0 h1 hd
    refine ⟨a, Ev.step (f := fun _ => some a) (fun k => ?_) (Ev.now a), .inr ⟨h0, Int.le_refl _⟩⟩
    simp only [laws_szStringS.l0]; rw [if_neg (by omega)]
  | succ d ih =>
    intro i a h0 h1 hd
    have hi : ((i : Int)).toNat < l.length := by omega
    have hz := hs (rdOf ByteArray.empty l i) (by rw [rdOf_at _ _ _ hi]; exact List.getElem_mem hi)
    have e1 : wrap64 (a - ((rdOf ByteArray.empty l i).size : Int)) = a - ((rdOf ByteArray.empty l i).size : Int) := by unfold wrap64; omega
    have e2 : wrap64 ((i : Int) + 1) = ((i + 1 : Nat) : Int) := by unfold wrap64; omega
    by_cases c : a - ((rdOf ByteArray.empty l i).size : Int) < 0
    · refine ⟨-1, Ev.step (f := fun _ => some (-1)) (fun k => ?_) (Ev.now _), .inl (by omega)⟩
      simp only [laws_szStringS.l0, e1]; rw [if_pos (by omega), if_pos (by omega), if_pos c]
    · obtain ⟨r, hr, hb⟩ := ih (i + 1) (a - ((rdOf ByteArray.empty l i).size : Int)) (by omega) (by omega) (by omega)
      refine ⟨r, Ev.step (fun k => ?_) hr, by omega⟩
      simp only [laws_szStringS.l0, e1, e2]; rw [if_pos (by omega), if_pos (by omega), if_neg c]
theorem sz_strs (l : List ByteArray) (a : Int) (h0 : 0 ≤ a) (h1 : a ≤ 1048576) (hl : l.length ≤ maxLen) (hs : ∀ x ∈ l, x.size ≤ maxLen) :
    ∃ r, Ev (fun k => laws_szStringS.f k l a) r ∧ (r < 0 ∨ (0 ≤ r ∧ r ≤ a ∧ (l.length : Int) ≤ a)) := by
  have e1 : wrap64 (a - (l.length : Int)) = a - (l.length : Int) := by unfold wrap64; unfold maxLen at hl; omega
  by_cases c : a - (l.length : Int) < 0
  · refine ⟨-1, Ev.congr (f := fun _ => some (-1)) (fun k => ?_) (Ev.now _), .inl (by omega)⟩
    unfold laws_szStringS.f; rw [e1, if_pos c]
  · obtain ⟨r, hr, hb⟩ := sz_loop l hs hl l.length 0 (a - (l.length : Int)) (by omega) (by omega) (by omega)
    refine ⟨r, Ev.congr (fun k => ?_) hr, by omega⟩
    unfold laws_szStringS.f; rw [e1, if_neg c]; rfl
theorem to_loop (l : List ByteArray) (hl : l.length ≤ 17592186044416) (d : Nat) : ∀ (i : Nat) (acc : List ByteArray), acc.length = l.length → (∀ j, j < i → acc[j]? = l[j]?) → i + d = l.length →
    Ev (fun k => laws_toStringS.l0 k l acc i) l := by
  induction d with
  | zero =>
    intro i acc h0 h1 hd
    refine Ev.step (f := fun _ => some l) (fun k => ?_) (Ev.now l)
    simp only [laws_toStringS.l0]; rw [if_neg (by omega), fill_end l acc h0 (fun j hj => h1 j (by omega))]
  | succ d ih =>
    intro i acc h0 h1 hd
    have hi : ((i : Int)).toNat < l.length := by omega
    have e2 : wrap64 ((i : Int) + 1) = ((i + 1 : Nat) : Int) := by unfold wrap64; omega
    refine Ev.step (fun k => ?_) (ih (i + 1) (acc.set i (rdOf ByteArray.empty l i)) (by simpa using h0) (fill_step l acc i _ h0 (by omega) (by rw [rdOf_at _ _ _ hi]; exact List.getElem?_eq_getElem (by omega)) h1) (by omega))
    simp only [laws_toStringS.l0, e2]; rw [if_pos (by omega), if_pos (by omega), if_pos (by omega)]; rfl
theorem to_strs (l : List ByteArray) (hl : l.length ≤ 17592186044416) : Ev (fun k => laws_toStringS.f k l) l := by
  refine Ev.congr (fun k => ?_) (to_loop l hl l.length 0 (List.replicate l.length (⟨#[]⟩ : ByteArray)) (by simp) (fun j hj => absurd hj (by omega)) (by omega))
  unfold laws_toStringS.f; rw [if_pos (by omega), if_pos (by omega)]; rfl
theorem eq_loop (a b : List ByteArray) (hl : a.length = b.length) (hb : a.length ≤ 17592186044416) (d : Nat) : ∀ (i : Nat), i + d = a.length → Ev (fun k => laws_eqStringS.l0 k a b i) (decide (a.drop i = b.drop i)) := by
  induction d with
  | zero =>
    intro i hd
    rw [decide_eq_true (by rw [List.drop_eq_nil_of_le (by omega), List.drop_eq_nil_of_le (by omega)])]
    refine Ev.step (f := fun _ => some true) (fun k => ?_) (Ev.now _)
    simp only [laws_eqStringS.l0]; rw [if_neg (by omega)]
  | succ d ih =>
    intro i hd
    have hi : ((i : Int)).toNat < a.length := by omega
    have hi2 : ((i : Int)).toNat < b.length := by omega
    have e2 : wrap64 ((i : Int) + 1) = ((i + 1 : Nat) : Int) := by unfold wrap64; omega
    have ea : a.drop i = a[i] :: a.drop (i + 1) := List.drop_eq_getElem_cons (by omega)
    have eb : b.drop i = b[i] :: b.drop (i + 1) := List.drop_eq_getElem_cons (by omega)
    have ra : rdOf ByteArray.empty a i = a[i] := rdOf_at _ _ _ hi
    have rb : rdOf ByteArray.empty b i = b[i] := rdOf_at _ _ _ hi2
    by_cases c : (a[i]).toList = (b[i]).toList
    · have c2 : a[i] = b[i] := WideShapes.bytes_inj (by rw [← Lib.toList_data, ← Lib.toList_data]; exact c)
      have e3 : decide (a.drop i = b.drop i) = decide (a.drop (i + 1) = b.drop (i + 1)) := decide_eq_decide.mpr (by rw [ea, eb, c2]; exact ⟨fun h => (List.cons.inj h).2, fun h => by rw [h]⟩)
      rw [e3]
      refine Ev.step (fun k => ?_) (ih (i + 1) (by omega))
      simp only [laws_eqStringS.l0, e2, ra, rb]; rw [if_pos (by omega), if_pos (by omega), if_pos (by omega), if_pos c]
    · rw [decide_eq_false (by rw [ea, eb]; intro h; exact c (congrArg ByteArray.toList (List.cons.inj h).1))]
      refine Ev.step (f := fun _ => some false) (fun k => ?_) (Ev.now _)
      simp only [laws_eqStringS.l0, ra, rb]; rw [if_pos (by omega), if_pos (by omega), if_pos (by omega), if_neg c]
theorem eq_strs (a b : List ByteArray) (hb : a.length ≤ 17592186044416) : Ev (fun k => laws_eqStringS.f k a b) (decide (a = b)) := by
  by_cases hl : a.length = b.length
  · refine Ev.congr (fun k => ?_) (eq_loop a b hl hb a.length 0 (by omega))
    unfold laws_eqStringS.f; rw [if_pos (by omega)]; rfl
  · rw [decide_eq_false (fun h => hl (congrArg List.length h))]
    refine Ev.congr (f := fun _ => some false) (fun k => ?_) (Ev.now _)
    unfold laws_eqStringS.f; rw [if_neg (by omega)]

theorem load_same (k : Nat) (l : List ByteArray) : ∀ s i : Int, i ≤ l.length → l.length ≤ 10 → spec_LoadSize.l0 k l s i = impl_LoadSize.l0 k s l (l.length : Int) i := by
  induction k with
  | zero => intro s i _ _; rfl
  | succ k ih =>
    intro s i hi hl
    simp only [spec_LoadSize.l0, impl_LoadSize.l0, impl_length.f, Option.bind_some]
    by_cases c1 : i < (l.length : Int)
    · rw [if_pos c1, if_pos c1]
      by_cases c2 : 0 ≤ i
      · rw [if_pos c2, if_pos c2, if_pos c1]
        exact ih _ _ (by unfold wrap64; omega) hl
      · rw [if_neg c2, if_neg c2]
    · rw [if_neg c1, if_neg c1]
theorem load_ends (l : List ByteArray) (hl : l.length ≤ 10) (d : Nat) : ∀ (i : Nat) (s : Int), i + d = l.length → ∃ r, Ev (fun k => spec_LoadSize.l0 k l s i) r := by
  induction d with
  | zero =>
    intro i s hd
    refine ⟨s, Ev.step (f := fun _ => some s) (fun k => ?_) (Ev.now s)⟩
    simp only [spec_LoadSize.l0]; rw [if_neg (by omega)]
  | succ d ih =>
    intro i s hd
    obtain ⟨r, hr⟩ := ih (i + 1) (wrap64 (s + ((rdOf ByteArray.empty l i).size : Int))) (by omega)
    have e2 : wrap64 ((i : Int) + 1) = ((i + 1 : Nat) : Int) := by unfold wrap64; omega
    refine ⟨r, Ev.step (fun k => ?_) hr⟩
    simp only [spec_LoadSize.l0, e2]; rw [if_pos (by omega), if_pos (by omega)]
theorem FnExactLoadSize : laws_FnExactLoadSize.Pure := by
  intro l ⟨hl, hs⟩
  obtain ⟨r, ⟨K0, h0⟩, hb⟩ := sz_strs l 1048576 (by omega) (by omega) hl hs
  dsimp only at h0
  by_cases c : r < 0
  · refine ⟨K0, ?_⟩
    unfold laws_FnExactLoadSize.f
    rw [h0 K0 (Nat.le_refl _), Option.bind_some, if_pos c]
  · have hl2 : l.length ≤ 1048576 := by omega
    obtain ⟨K1, h1⟩ := to_strs l (by omega)
    obtain ⟨K2, h2⟩ := eq_strs l l (by omega)
    dsimp only at h1 h2
    obtain ⟨v, K3, h3⟩ : ∃ v K, ∀ k, K ≤ k → spec_LoadSize.f k l = some v ∧ impl_LoadSize.f k l = some v := by
      by_cases c1 : (l.length : Int) > 10
      · exact ⟨0, 0, fun k _ => ⟨by unfold spec_LoadSize.f; rw [if_pos c1], by unfold impl_LoadSize.f; rw [if_pos c1]⟩⟩
      · obtain ⟨v, K, h⟩ := load_ends l (by omega) l.length 0 0 (by omega)
        dsimp only at h
        refine ⟨v, K, fun k hk => ⟨?_, ?_⟩⟩
        · unfold spec_LoadSize.f; rw [if_neg c1]; exact h k hk
        · unfold impl_LoadSize.f; rw [if_neg c1, ← load_same k l 0 0 (by omega) (by omega)]; exact h k hk
    refine ⟨max (max K0 K1) (max K2 K3), ?_⟩
    unfold laws_FnExactLoadSize.f
    rw [h0 _ (by omega), Option.bind_some, if_neg c, h1 _ (by omega), Option.bind_some, (h3 _ (by omega)).1, Option.bind_some, Option.bind_some, (h3 _ (by omega)).2, Option.bind_some, if_pos rfl, Option.bind_some, h2 _ (by omega)]
    simp

end Go.Proofs.Ytkijcgeicdldgaa.Pure
