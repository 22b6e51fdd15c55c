/- The law FnExactDescText returns true for every argument that can be read as data, out of its pure statement and the walk. Written by a program of this session. -/
import Derived.Test.YtjmochmnioegoaaRows
import Derived.Test.YtjmochmnioegoaaPFnExactDescTextx4
import Derived.Test.YtjmochmnioegoaaPureFnExactDescText
import Derived.Test.YtjmochmnioegoaaOpens
import Derived.WalkKit
import Derived.ProofKit
import Derived.OpenShut
import Derived.ShutString
import Derived.ChangeOld
import Derived.Below
import Derived.SizedLaws
import Derived.Carry
namespace Go.Proofs.Ytjmochmnioegoaa.fnExactDescText
open Go.ChangeShapes Go.WideShapes Go.ChangeAt Go.RowKit Go.Proofs.Ytjmochmnioegoaa.PFnExactDescText Go.Proofs.YtjmochmnioegoaaW.PrintWords Go.Proofs.YtjmochmnioegoaaW.Opens
open Go.ChangeMaps (open_string shut_string)
set_option linter.unusedVariables false
theorem own : ownKnob Try.prog.godebug = none := by kernel_rfl
theorem laidOut : laidOutB Try.prog = true := by kernel_rfl
theorem op9 : Opens Try.prog 9 Kd.string (fun s => s.size ≤ maxLen) := opens_string Try.underlying9 (by kernel_rfl)
theorem op31 : Opens Try.prog 31 (Kd.slice 9 Kd.string) (fun x => (x.length ≤ maxLen ∧ ∀ x_ ∈ x, x_.size ≤ maxLen)) := opens_slice Try.underlying31 (by kernel_rfl) op9
instance : Inhabited S33 := ⟨z33⟩
theorem op33 : Opens Try.prog 33 k33 ok33 := opens_struct (gi := fun y => (⟨y.1, y.2⟩ : S33)) Try.underlying33 (by kernel_rfl) (fun _ => rfl) (opens_more rfl op31 (opens_last rfl op9))
set_option maxRecDepth 100000 in
theorem lifted (os : Os) (started : os.Started) (H : Type) (enc : TypeId × Value → H) :
    ReturnsInHanded {} Try.checked os 9 .any (Rows.fnExactDescTextSpec.pre6 enc Try.prog Try.f9 Rows.fnExactDescTextRow.domain false) (Rows.fnExactDescTextSpec.post enc Try.prog Try.f9 false true false false) := by
  refine returnsInHanded_of_change_sized (C := Try.checked) own started (by kernel_rfl) Try.func9
    (ChangeSpec.witness6 (enc := enc) (C := Try.checked) false ⟨#[], #[.agg #[.slice none 0 0, .string ByteArray.empty]], []⟩ 8 (by kernel_rfl) (by kernel_rfl) (by kernel_rfl) (by kernel_rfl)) ?_
  intro W base args ds gs before hval0 hW hcnd hsz0 _
  have hval : ∀ (j : Nat) t v, Try.f9.params[j]? = some t → args[j]? = some v → Value.okWide Try.prog W .any base t v := hval0
  have hW' := hW
  obtain ⟨p, q, hA0, hV, rfl, hfz, hnd⟩ := hW
  have hA : DataW.TrodAll enc Try.prog W 0 (fun _ => true) true Try.f9.params.toList args.toList ds p := hA0
  rw [Try.params9] at hA hval
  obtain ⟨v0, vs0, d0, ds0, p0, q0, hargs, rfl, rfl, h0, r0⟩ := trodAll_cons hA
  obtain ⟨rfl, rfl, rfl⟩ := trodAll_nil r0
  obtain rfl : args = #[v0] := by cases args; simp_all
  obtain ⟨rfl, rfl⟩ := trodVars_none hV
  have k0 := h0
  have lt0 : ∀ x ∈ p0, x.block < W.heap.size := by obtain ⟨m, hm⟩ := k0; exact DataW.trod_lt m _ _ _ hm
  obtain ⟨cs0, rfl, _⟩ := okWide_struct Try.underlying33 (hval 0 33 v0 rfl rfl)
  obtain ⟨x0, A0_0, c0_0, e0, g0_0, b0⟩ : ∃ (x : S33) (A0_0 : Option Addr) (c0_0 : Nat), cs0.toList = [.slice A0_0 x.f0.length c0_0, .string x.f1] ∧ (x.f0.length ≤ c0_0 ∧ Kd.C Kd.string W A0_0 x.f0.length x.f0) ∧ ok33 x := by
    obtain ⟨m, hm⟩ := h0
    obtain ⟨x, hK_, hb_⟩ := op33.2 _ enc W m _ _ hm
    have hK2_ : k33.K W x cs0.toList := hK_
    obtain ⟨A0_, c0_, e_, l0_, g0_⟩ := k33_open hK2_
    exact ⟨x, A0_, c0_, e_, ⟨l0_, g0_⟩, hb_⟩
  obtain rfl : cs0 = #[.slice A0_0 x0.f0.length c0_0, .string x0.f1] := by rw [← Array.toArray_toList (xs := cs0), e0]
  clear e0
  clear hA0 hval0 hsz0
  obtain ⟨k, h⟩ := Pure.FnExactDescText x0 b0
  refine (laws_FnExactDescText.calls k _ _ x0.f0 x0.f1 true W g0_0.2 g0_0.1 h).mono fun e W' ⟨he, bel0⟩ => ?_
  have bel : Below W.heap.size W W' := bel0
  subst he
  exact ⟨_, rfl, _, _, _, [], _, [], hW', trodAll_mk1 (shut_bool Try.underlying4 _), (trodAll_cons_mk (Below.trod laidOut (by kernel_rfl) (of_decide_eq_true (by kernel_rfl)) k0 bel lt0) trodAll_mk0), rfl, bel.frame _, fun h => by cases h⟩
theorem over : Rows.fnExactDescTextRow.holds Try.pinned (OpenSpec.ofChange Rows.fnExactDescTextSpec) :=
  OpenClaim.holds_of_wide 9 Try.f9 rfl rfl rfl rfl rfl rfl rfl ⟨rfl, rfl, rfl, rfl, rfl⟩ rfl rfl rfl rfl rfl (by kernel_rfl) Try.func9 (by kernel_rfl)
    (of_decide_eq_true (by kernel_rfl)) (by unfold Func.isWrapper; first | (rw [if_pos (by decide +kernel)]; kernel_rfl) | (rw [if_neg (by decide +kernel)]; exact ⟨rfl, rfl⟩))
    (fun os started H enc _ => lifted os started H enc)
theorem proved : Rows.FnExactDescTextSaid := over
#print axioms proved
end Go.Proofs.Ytjmochmnioegoaa.fnExactDescText
namespace Go.Proofs.Ytjmochmnioegoaa
/-- The row, under a short name, for the claim. -/
theorem fnExactDescText_holds : Rows.FnExactDescTextSaid := fnExactDescText.proved
end Go.Proofs.Ytjmochmnioegoaa
