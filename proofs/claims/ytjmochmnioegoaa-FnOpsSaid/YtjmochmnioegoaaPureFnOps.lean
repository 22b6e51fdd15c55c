/- The law FnOps holds for every draw: each operation has its own name and form, and an instruction of it is right where its form lets it be. -/
import Derived.Test.YtjmochmnioegoaaPFnOpsx6
namespace Go.Proofs.Ytjmochmnioegoaa.Pure
open Go.RowKit Go.Proofs.Ytjmochmnioegoaa.PFnOps Go.Proofs.YtjmochmnioegoaaW.PrintWords Go.Proofs.YtjmochmnioegoaaW.PrintLast
set_option linter.unusedVariables false
set_option linter.unusedSimpArgs false

theorem u64_w (n : Int) : IntKind.u64.wrap n = n % 18446744073709551616 := IntKind.wrap_u64 n
theorem draw_n (b : List Int) (i m z : Int) (most : Int) (h0 : 0 ≤ i) (hb : b.length ≤ 140737488355328) (hm : most ≤ 9223372036854775807) :
    ∃ r i' m', spec_l01Src_n.f b i m z most = some (r, i', m', z) ∧ 0 ≤ i' ∧ 0 ≤ r ∧ (1 ≤ most → r < most) := by
  unfold spec_l01Src_n.f
  by_cases c1 : most ≤ 1
  · rw [if_pos c1]
    exact ⟨_, _, _, rfl, h0, by omega, fun h => by omega⟩
  · rw [if_neg c1]
    have e1 : IntKind.u64.wrap most = most := by rw [u64_w]; omega
    have key : ∀ X : Int, 0 ≤ wrap64 (Int.tmod (IntKind.u64.wrap X) most) ∧ wrap64 (Int.tmod (IntKind.u64.wrap X) most) < most := by
      intro X
      have hx : 0 ≤ IntKind.u64.wrap X := by rw [u64_w]; omega
      rw [Int.tmod_eq_emod_of_nonneg hx]
      have a1 := Int.emod_nonneg (IntKind.u64.wrap X) (b := most) (by omega)
      have a2 := Int.emod_lt_of_pos (IntKind.u64.wrap X) (b := most) (by omega)
      have e : wrap64 (IntKind.u64.wrap X % most) = IntKind.u64.wrap X % most := by unfold wrap64; omega
      rw [e]
      exact ⟨a1, a2⟩
    rw [e1]
    by_cases c2 : i < (b.length : Int)
    · rw [if_pos c2, if_pos h0, if_neg (by omega)]
      refine ⟨_, _, _, rfl, ?_, (key _).1, fun _ => (key _).2⟩
      unfold wrap64; omega
    · rw [if_neg c2, if_neg (by omega)]
      exact ⟨_, _, _, rfl, h0, (key _).1, fun _ => (key _).2⟩
theorem draw_loop (l0 : List Int) (hb : l0.length ≤ 140737488355328) (d : Nat) : ∀ (k : Nat) (i m : Int), 0 ≤ i → i + d = 64 → d < k → ∃ m' z, spec_l01Source.l0 k l0 i l0 0 m 0 = some (l0, 0, m', z) := by
  have fin : ∀ m : Int, ∃ m' z, (if (wrap64 ((l0.length : Int) / 20)) > 12 then (some (l0, (0 : Int), m, (12 : Int))) else (some (l0, 0, m, wrap64 ((l0.length : Int) / 20)))) = some (l0, 0, m', z) := by
    intro m
    split
    · exact ⟨_, _, rfl⟩
    · exact ⟨_, _, rfl⟩
  induction d with
  | zero =>
    intro k i m h0 h1 hk
    obtain ⟨k, rfl⟩ : ∃ m, k = m + 1 := ⟨k - 1, by omega⟩
    simp only [spec_l01Source.l0]
    by_cases c1 : i < (l0.length : Int)
    · rw [if_pos c1, if_neg (by omega)]; exact fin m
    · rw [if_neg c1]; exact fin m
  | succ d ih =>
    intro k i m h0 h1 hk
    obtain ⟨k, rfl⟩ : ∃ m, k = m + 1 := ⟨k - 1, by omega⟩
    simp only [spec_l01Source.l0]
    by_cases c1 : i < (l0.length : Int)
    · rw [if_pos c1, if_pos (by omega), if_pos h0]
      have e : wrap64 (i + 1) = i + 1 := by unfold wrap64; omega
      rw [e]
      exact ih k _ _ (by omega) (by omega) (by omega)
    · rw [if_neg c1]; exact fin m
theorem draw_source (l0 : List Int) (hb : l0.length ≤ 140737488355328) : ∃ m z, spec_l01Source.f 65 l0 = some (l0, 0, m, z) := draw_loop l0 hb 64 65 0 _ (by omega) (by omega) (by omega)

/-- What the law does with the number that is drawn. -/
def opsRest (k : Nat) (v : Int) : Option Bool := (impl_OpName.f v).bind fun t264 => ((impl_OpForm.f v).bind fun t265 => (if v < 1 then (laws_FnOps.j0 k v t264 t265 true) else (laws_FnOps.j0 k v t264 t265 (decide (v > 44)))))
theorem ops_all : ∀ n : Nat, n < 48 → opsRest 120 ((n : Int) - 1) = some true := by decide +kernel
theorem FnOps : laws_FnOps.Pure := by
  intro l0 _ hb hw
  have hb' : l0.length ≤ 140737488355328 := by omega
  obtain ⟨m, z, e⟩ := draw_source l0 hb'
  obtain ⟨r, i', m', e2, _, h0, h1⟩ := draw_n l0 0 m z 48 (by omega) hb' (by omega)
  have h1' := h1 (by omega)
  have hv : wrap64 (r - 1) = ((r.toNat : Nat) : Int) - 1 := by unfold wrap64; omega
  refine ⟨120, ?_⟩
  unfold laws_FnOps.f spec_DrawOpName.f
  by_cases c : (l0.length : Int) > 1048576
  · rw [if_pos c]
  rw [if_neg c, at_rounds (g := fun k => spec_l01Source.f k l0) (fun k => spec_l01Source.mono _ _) (by omega : 65 ≤ 120) e]
  simp only [Option.bind_some, e2, hv]
  exact ops_all r.toNat (by omega)

end Go.Proofs.Ytjmochmnioegoaa.Pure
