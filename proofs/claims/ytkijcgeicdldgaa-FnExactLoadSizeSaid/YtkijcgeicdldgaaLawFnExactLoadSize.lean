/- The law FnExactLoadSize returns true for every argument that can be read as data, out of its pure statement and the walk. Written by a program of this session. -/
import Derived.Test.YtkijcgeicdldgaaRows
import Derived.Test.YtkijcgeicdldgaaPFnExactLoadSizex1
import Derived.Test.YtkijcgeicdldgaaPureFnExactLoadSize
import Derived.Test.YtkijcgeicdldgaaOpens
import Derived.WalkKit
import Derived.ProofKit
import Derived.OpenShut
import Derived.ShutString
import Derived.ChangeOld
import Derived.Below
import Derived.SizedLaws
import Derived.Carry
namespace Go.Proofs.Ytkijcgeicdldgaa.fnExactLoadSize
open Go.ChangeShapes Go.WideShapes Go.ChangeAt Go.RowKit Go.Proofs.Ytkijcgeicdldgaa.PFnExactLoadSize Go.Proofs.YtkijcgeicdldgaaW.PrintWords Go.Proofs.YtkijcgeicdldgaaW.Opens
open Go.ChangeMaps (open_string shut_string)
set_option linter.unusedVariables false
theorem own : ownKnob Try.prog.godebug = none := by kernel_rfl
theorem laidOut : laidOutB Try.prog = true := by kernel_rfl
theorem op9 : Opens Try.prog 9 Kd.string (fun s => s.size ≤ maxLen) := opens_string Try.underlying9 (by kernel_rfl)
theorem op25 : Opens Try.prog 25 (Kd.slice 9 Kd.string) (fun x => (x.length ≤ maxLen ∧ ∀ x_ ∈ x, x_.size ≤ maxLen)) := opens_slice Try.underlying25 (by kernel_rfl) op9
set_option maxRecDepth 100000 in
theorem lifted (os : Os) (started : os.Started) (H : Type) (enc : TypeId × Value → H) :
    ReturnsInHanded {} Try.checked os 9 .any (Rows.fnExactLoadSizeSpec.pre6 enc Try.prog Try.f9 Rows.fnExactLoadSizeRow.domain false) (Rows.fnExactLoadSizeSpec.post enc Try.prog Try.f9 false true false false) := by
  refine returnsInHanded_of_change_sized (C := Try.checked) own started (by kernel_rfl) Try.func9
    (ChangeSpec.witness6 (enc := enc) (C := Try.checked) false ⟨#[], #[.slice none 0 0], []⟩ 8 (by kernel_rfl) (by kernel_rfl) (by kernel_rfl) (by kernel_rfl)) ?_
  intro W base args ds gs before hval0 hW hcnd hsz0 _
  have hval : ∀ (j : Nat) t v, Try.f9.params[j]? = some t → args[j]? = some v → Value.okWide Try.prog W .any base t v := hval0
  have hW' := hW
  obtain ⟨p, q, hA0, hV, rfl, hfz, hnd⟩ := hW
  have hA : DataW.TrodAll enc Try.prog W 0 (fun _ => true) true Try.f9.params.toList args.toList ds p := hA0
  rw [Try.params9] at hA hval
  obtain ⟨v0, vs0, d0, ds0, p0, q0, hargs, rfl, rfl, h0, r0⟩ := trodAll_cons hA
  obtain ⟨rfl, rfl, rfl⟩ := trodAll_nil r0
  obtain rfl : args = #[v0] := by cases args; simp_all
  obtain ⟨rfl, rfl⟩ := trodVars_none hV
  have k0 := h0
  have lt0 : ∀ x ∈ p0, x.block < W.heap.size := by obtain ⟨m, hm⟩ := k0; exact DataW.trod_lt m _ _ _ hm
  obtain ⟨A0, len0, c0, rfl⟩ := okWide_slice Try.underlying25 (hval 0 25 v0 rfl rfl)
  obtain ⟨x0, e0, g0, b0⟩ : ∃ x, len0 = x.length ∧ (x.length ≤ c0 ∧ Kd.C Kd.string W A0 x.length x) ∧ (x.length ≤ maxLen ∧ ∀ x_ ∈ x, x_.size ≤ maxLen) := by
    obtain ⟨m, hm⟩ := h0
    obtain ⟨x, ⟨A_, c_, e_, hl_, hC_⟩, hb_⟩ := op25.2 _ enc W m _ _ hm
    have e1_ : [Value.slice A0 len0 c0] = [.slice A_ x.length c_] := e_
    injection e1_ with e2_ _
    injection e2_ with e3_ e4_ e5_
    subst e3_ e4_ e5_
    exact ⟨x, rfl, ⟨hl_, hC_⟩, hb_⟩
  subst e0
  clear hA0 hval0 hsz0
  obtain ⟨k, h⟩ := Pure.FnExactLoadSize x0 b0
  refine (laws_FnExactLoadSize.calls k _ _ x0 true W g0.2 g0.1 h).mono fun e W' ⟨he, bel0⟩ => ?_
  have bel : Below W.heap.size W W' := bel0
  subst he
  exact ⟨_, rfl, _, _, _, [], _, [], hW', trodAll_mk1 (shut_bool Try.underlying4 _), (trodAll_cons_mk (Below.trod laidOut (by kernel_rfl) (of_decide_eq_true (by kernel_rfl)) k0 bel lt0) trodAll_mk0), rfl, bel.frame _, fun h => by cases h⟩
theorem over : Rows.fnExactLoadSizeRow.holds Try.pinned (OpenSpec.ofChange Rows.fnExactLoadSizeSpec) :=
  OpenClaim.holds_of_wide 9 Try.f9 rfl rfl rfl rfl rfl rfl rfl ⟨rfl, rfl, rfl, rfl, rfl⟩ rfl rfl rfl rfl rfl (by kernel_rfl) Try.func9 (by kernel_rfl)
    (of_decide_eq_true (by kernel_rfl)) (by unfold Func.isWrapper; first | (rw [if_pos (by decide +kernel)]; kernel_rfl) | (rw [if_neg (by decide +kernel)]; exact ⟨rfl, rfl⟩))
    (fun os started H enc _ => lifted os started H enc)
theorem proved : Rows.FnExactLoadSizeSaid := over
#print axioms proved
end Go.Proofs.Ytkijcgeicdldgaa.fnExactLoadSize
namespace Go.Proofs.Ytkijcgeicdldgaa
/-- The row, under a short name, for the claim. -/
theorem fnExactLoadSize_holds : Rows.FnExactLoadSizeSaid := fnExactLoadSize.proved
end Go.Proofs.Ytkijcgeicdldgaa
