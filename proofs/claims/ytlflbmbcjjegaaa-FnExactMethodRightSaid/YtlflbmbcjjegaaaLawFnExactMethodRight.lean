/- The law FnExactMethodRight returns true for every argument that can be read as data, out of its pure statement and the walk. Written by a program of this session. -/
import Derived.Test.YtlflbmbcjjegaaaRows
import Derived.Test.YtlflbmbcjjegaaaPFnExactMethodRightx14
import Derived.Test.YtlflbmbcjjegaaaPureFnExactMethodRight
import Derived.Test.YtlflbmbcjjegaaaVFnExactMethodRightOpens
import Derived.WalkKit
import Derived.ProofKit
import Derived.OpenShut
import Derived.ShutString
import Derived.ChangeOld
import Derived.Below
import Derived.SizedLaws
import Derived.Carry
namespace Go.Proofs.Ytlflbmbcjjegaaa.fnExactMethodRight
open Go.ChangeShapes Go.WideShapes Go.ChangeAt Go.RowKit Go.Proofs.Ytlflbmbcjjegaaa.PFnExactMethodRight Go.Proofs.YtlflbmbcjjegaaaW.PrintWords Go.Proofs.YtlflbmbcjjegaaaW.Opens
open Go.ChangeMaps (open_string shut_string)
set_option linter.unusedVariables false
theorem own : ownKnob Try.prog.godebug = none := by kernel_rfl
theorem laidOut : laidOutB Try.prog = true := by kernel_rfl
theorem op9 : Opens Try.prog 9 Kd.string (fun s => s.size ≤ maxLen) := opens_string Try.underlying9 (by kernel_rfl)
theorem op4 : Opens Try.prog 4 Kd.bool (fun _ => True) := opens_bool Try.underlying4 (by kernel_rfl)
theorem op2 : Opens Try.prog 2 (Kd.int .i64) (fun n => (Lit.int .i64 n).wf = true) := opens_int Try.underlying2 (by kernel_rfl)
instance : Inhabited S199 := ⟨z199⟩
theorem op199 : Opens Try.prog 199 k199 ok199 := opens_struct (gi := fun y => (⟨y.1, y.2.1, y.2.2.1, y.2.2.2.1, y.2.2.2.2⟩ : S199)) Try.underlying199 (by kernel_rfl) (fun _ => rfl) (opens_more rfl op2 (opens_more rfl op2 (opens_more rfl op9 (opens_more rfl op9 (opens_last rfl op9)))))
theorem op75 : Opens Try.prog 75 (Kd.slice 199 k199) (fun x => (x.length ≤ maxLen ∧ ∀ x_ ∈ x, ok199 x_)) := opens_slice Try.underlying75 (by kernel_rfl) op199
instance : Inhabited S201 := ⟨z201⟩
theorem op201 : Opens Try.prog 201 k201 ok201 := opens_struct (gi := fun y => (⟨y.1, y.2.1, y.2.2.1, y.2.2.2⟩ : S201)) Try.underlying201 (by kernel_rfl) (fun _ => rfl) (opens_more rfl op2 (opens_more rfl op2 (opens_more rfl op2 (opens_last rfl op9))))
theorem op76 : Opens Try.prog 76 (Kd.slice 201 k201) (fun x => (x.length ≤ maxLen ∧ ∀ x_ ∈ x, ok201 x_)) := opens_slice Try.underlying76 (by kernel_rfl) op201
instance : Inhabited S78 := ⟨z78⟩
theorem op78 : Opens Try.prog 78 k78 ok78 := opens_struct (gi := fun y => (⟨y.1, y.2.1, y.2.2.1, y.2.2.2.1, y.2.2.2.2.1, y.2.2.2.2.2.1, y.2.2.2.2.2.2.1, y.2.2.2.2.2.2.2.1, y.2.2.2.2.2.2.2.2⟩ : S78)) Try.underlying78 (by kernel_rfl) (fun _ => rfl) (opens_more rfl op9 (opens_more rfl op9 (opens_more rfl op4 (opens_more rfl op4 (opens_more rfl op4 (opens_more rfl op2 (opens_more rfl op2 (opens_more rfl op75 (opens_last rfl op76)))))))))
set_option maxRecDepth 100000 in
theorem lifted (os : Os) (started : os.Started) (H : Type) (enc : TypeId × Value → H) :
    ReturnsInHanded {} Try.checked os 7 .any (Rows.fnExactMethodRightSpec.pre6 enc Try.prog Try.f7 Rows.fnExactMethodRightRow.domain false) (Rows.fnExactMethodRightSpec.post enc Try.prog Try.f7 false true false false) := by
  refine returnsInHanded_of_change_sized (C := Try.checked) own started (by kernel_rfl) Try.func7
    (ChangeSpec.witness6 (enc := enc) (C := Try.checked) false ⟨#[], #[.agg #[.string ByteArray.empty, .string ByteArray.empty, .bool false, .bool false, .bool false, .int .i64 0, .int .i64 0, .slice none 0 0, .slice none 0 0]], []⟩ 8 (by kernel_rfl) (by kernel_rfl) (by kernel_rfl) (by kernel_rfl)) ?_
  intro W base args ds gs before hval0 hW hcnd hsz0 _
  have hval : ∀ (j : Nat) t v, Try.f7.params[j]? = some t → args[j]? = some v → Value.okWide Try.prog W .any base t v := hval0
  have hW' := hW
  obtain ⟨p, q, hA0, hV, rfl, hfz, hnd⟩ := hW
  have hA : DataW.TrodAll enc Try.prog W 0 (fun _ => true) true Try.f7.params.toList args.toList ds p := hA0
  rw [Try.params7] at hA hval
  obtain ⟨v0, vs0, d0, ds0, p0, q0, hargs, rfl, rfl, h0, r0⟩ := trodAll_cons hA
  obtain ⟨rfl, rfl, rfl⟩ := trodAll_nil r0
  obtain rfl : args = #[v0] := by cases args; simp_all
  obtain ⟨rfl, rfl⟩ := trodVars_none hV
  have k0 := h0
  have lt0 : ∀ x ∈ p0, x.block < W.heap.size := by obtain ⟨m, hm⟩ := k0; exact DataW.trod_lt m _ _ _ hm
  obtain ⟨cs0, rfl, _⟩ := okWide_struct Try.underlying78 (hval 0 78 v0 rfl rfl)
  obtain ⟨x0, A0_7, c0_7, A0_8, c0_8, e0, g0_7, g0_8, b0⟩ : ∃ (x : S78) (A0_7 : Option Addr) (c0_7 : Nat) (A0_8 : Option Addr) (c0_8 : Nat), cs0.toList = [.string x.f0, .string x.f1, .bool x.f2, .bool x.f3, .bool x.f4, .int .i64 x.f5, .int .i64 x.f6, .slice A0_7 x.f7.length c0_7, .slice A0_8 x.f8.length c0_8] ∧ (x.f7.length ≤ c0_7 ∧ Kd.C k199 W A0_7 x.f7.length x.f7) ∧ (x.f8.length ≤ c0_8 ∧ Kd.C k201 W A0_8 x.f8.length x.f8) ∧ ok78 x := by
    obtain ⟨m, hm⟩ := h0
    obtain ⟨x, hK_, hb_⟩ := op78.2 _ enc W m _ _ hm
    have hK2_ : k78.K W x cs0.toList := hK_
    obtain ⟨A7_, c7_, A8_, c8_, e_, l7_, g7_, l8_, g8_⟩ := k78_open hK2_
    exact ⟨x, A7_, c7_, A8_, c8_, e_, ⟨l7_, g7_⟩, ⟨l8_, g8_⟩, hb_⟩
  obtain rfl : cs0 = #[.string x0.f0, .string x0.f1, .bool x0.f2, .bool x0.f3, .bool x0.f4, .int .i64 x0.f5, .int .i64 x0.f6, .slice A0_7 x0.f7.length c0_7, .slice A0_8 x0.f8.length c0_8] := by rw [← Array.toArray_toList (xs := cs0), e0]
  clear e0
  clear hA0 hval0 hsz0
  obtain ⟨k, h⟩ := Pure.FnExactMethodRight x0 b0
  refine (laws_FnExactMethodRight.calls k x0.f0 x0.f1 x0.f2 x0.f3 x0.f4 x0.f5 x0.f6 _ _ x0.f7 _ _ x0.f8 true W g0_7.2 g0_7.1 g0_8.2 g0_8.1 rfl h).mono fun e W' ⟨he, bel0⟩ => ?_
  have bel : Below W.heap.size W W' := bel0
  subst he
  exact ⟨_, rfl, _, _, _, [], _, [], hW', trodAll_mk1 (shut_bool Try.underlying4 _), (trodAll_cons_mk (Below.trod laidOut (by kernel_rfl) (of_decide_eq_true (by kernel_rfl)) k0 bel lt0) trodAll_mk0), rfl, bel.frame _, fun h => by cases h⟩
theorem over : Rows.fnExactMethodRightRow.holds Try.pinned (OpenSpec.ofChange Rows.fnExactMethodRightSpec) :=
  OpenClaim.holds_of_wide 7 Try.f7 rfl rfl rfl rfl rfl rfl rfl ⟨rfl, rfl, rfl, rfl, rfl⟩ rfl rfl rfl rfl rfl (by kernel_rfl) Try.func7 (by kernel_rfl)
    (of_decide_eq_true (by kernel_rfl)) (by unfold Func.isWrapper; first | (rw [if_pos (by decide +kernel)]; kernel_rfl) | (rw [if_neg (by decide +kernel)]; exact ⟨rfl, rfl⟩))
    (fun os started H enc _ => lifted os started H enc)
theorem proved : Rows.FnExactMethodRightSaid := over
#print axioms proved
end Go.Proofs.Ytlflbmbcjjegaaa.fnExactMethodRight
namespace Go.Proofs.Ytlflbmbcjjegaaa
/-- The row, under a short name, for the claim. -/
theorem fnExactMethodRight_holds : Rows.FnExactMethodRightSaid := fnExactMethodRight.proved
end Go.Proofs.Ytlflbmbcjjegaaa
