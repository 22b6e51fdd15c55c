/- The law FnExactErase returns true for every argument that can be read as data, out of its pure statement and the walk. Written by a program of this session. -/
import Derived.Test.YtljeeiijepoenaaRows
import Derived.Test.YtljeeiijepoenaaPFnExactErasex12
import Derived.Test.YtljeeiijepoenaaPureFnExactErase
import Derived.Test.YtljeeiijepoenaaOpens
import Derived.WalkKit
import Derived.ProofKit
import Derived.OpenShut
import Derived.ShutString
import Derived.ChangeOld
import Derived.Below
import Derived.SizedLaws
import Derived.Carry
namespace Go.Proofs.Ytljeeiijepoenaa.fnExactErase
open Go.ChangeShapes Go.WideShapes Go.ChangeAt Go.RowKit Go.Proofs.Ytljeeiijepoenaa.PFnExactErase Go.Proofs.YtljeeiijepoenaaW.PrintWords Go.Proofs.YtljeeiijepoenaaW.Opens
open Go.ChangeMaps (open_string shut_string)
set_option linter.unusedVariables false
theorem own : ownKnob Try.prog.godebug = none := by kernel_rfl
theorem laidOut : laidOutB Try.prog = true := by kernel_rfl
theorem op2 : Opens Try.prog 2 (Kd.int .i64) (fun n => (Lit.int .i64 n).wf = true) := opens_int Try.underlying2 (by kernel_rfl)
theorem op9 : Opens Try.prog 9 Kd.string (fun s => s.size ≤ maxLen) := opens_string Try.underlying9 (by kernel_rfl)
theorem op4 : Opens Try.prog 4 Kd.bool (fun _ => True) := opens_bool Try.underlying4 (by kernel_rfl)
instance : Inhabited S28 := ⟨z28⟩
theorem op28 : Opens Try.prog 28 k28 ok28 := opens_struct (gi := fun y => (⟨y.1, y.2⟩ : S28)) Try.underlying28 (by kernel_rfl) (fun _ => rfl) (opens_more rfl op2 (opens_last rfl op2))
theorem op25 : Opens Try.prog 25 (Kd.slice 28 k28) (fun x => (x.length ≤ maxLen ∧ ∀ x_ ∈ x, ok28 x_)) := opens_slice Try.underlying25 (by kernel_rfl) op28
instance : Inhabited S156 := ⟨z156⟩
theorem op156 : Opens Try.prog 156 k156 ok156 := opens_struct (gi := fun y => (⟨y.1, y.2.1, y.2.2.1, y.2.2.2⟩ : S156)) Try.underlying156 (by kernel_rfl) (fun _ => rfl) (opens_more rfl op2 (opens_more rfl op9 (opens_more rfl op4 (opens_last rfl op25))))
theorem op22 : Opens Try.prog 22 (Kd.slice 156 k156) (fun x => (x.length ≤ maxLen ∧ ∀ x_ ∈ x, ok156 x_)) := opens_slice Try.underlying22 (by kernel_rfl) op156
instance : Inhabited S24 := ⟨z24⟩
theorem op24 : Opens Try.prog 24 k24 ok24 := opens_struct (gi := fun y => (⟨y.1, y.2⟩ : S24)) Try.underlying24 (by kernel_rfl) (fun _ => rfl) (opens_more rfl op22 (opens_last rfl op2))
instance : Inhabited S113 := ⟨z113⟩
theorem op113 : Opens Try.prog 113 k113 ok113 := opens_struct (gi := fun y => (⟨y.1, y.2.1, y.2.2.1, y.2.2.2.1, y.2.2.2.2⟩ : S113)) Try.underlying113 (by kernel_rfl) (fun _ => rfl) (opens_more rfl op2 (opens_more rfl op2 (opens_more rfl op2 (opens_more rfl op25 (opens_last rfl op25)))))
theorem op26 : Opens Try.prog 26 (Kd.slice 113 k113) (fun x => (x.length ≤ maxLen ∧ ∀ x_ ∈ x, ok113 x_)) := opens_slice Try.underlying26 (by kernel_rfl) op113
instance : Inhabited S30 := ⟨z30⟩
theorem op30 : Opens Try.prog 30 k30 ok30 := opens_struct (gi := fun y => (⟨y.1, y.2.1, y.2.2.1, y.2.2.2.1, y.2.2.2.2.1, y.2.2.2.2.2.1, y.2.2.2.2.2.2.1, y.2.2.2.2.2.2.2⟩ : S30)) Try.underlying30 (by kernel_rfl) (fun _ => rfl) (opens_more rfl op24 (opens_more rfl op25 (opens_more rfl op26 (opens_more rfl op4 (opens_more rfl op28 (opens_more rfl op9 (opens_more rfl op4 (opens_last rfl op2))))))))
set_option maxRecDepth 100000 in
theorem lifted (os : Os) (started : os.Started) (H : Type) (enc : TypeId × Value → H) :
    ReturnsInHanded {} Try.checked os 3 .any (Rows.fnExactEraseSpec.pre6 enc Try.prog Try.f3 Rows.fnExactEraseRow.domain false) (Rows.fnExactEraseSpec.post enc Try.prog Try.f3 false true false false) := by
  refine returnsInHanded_of_change_sized (C := Try.checked) own started (by kernel_rfl) Try.func3
    (ChangeSpec.witness6 (enc := enc) (C := Try.checked) false ⟨#[], #[.agg #[.slice none 0 0, .int .i64 0, .slice none 0 0, .slice none 0 0, .bool false, .int .i64 0, .int .i64 0, .string ByteArray.empty, .bool false, .int .i64 0]], []⟩ 8 (by kernel_rfl) (by kernel_rfl) (by kernel_rfl) (by kernel_rfl)) ?_
  intro W base args ds gs before hval0 hW hcnd hsz0 _
  have hval : ∀ (j : Nat) t v, Try.f3.params[j]? = some t → args[j]? = some v → Value.okWide Try.prog W .any base t v := hval0
  have hW' := hW
  obtain ⟨p, q, hA0, hV, rfl, hfz, hnd⟩ := hW
  have hA : DataW.TrodAll enc Try.prog W 0 (fun _ => true) true Try.f3.params.toList args.toList ds p := hA0
  rw [Try.params3] at hA hval
  obtain ⟨v0, vs0, d0, ds0, p0, q0, hargs, rfl, rfl, h0, r0⟩ := trodAll_cons hA
  obtain ⟨rfl, rfl, rfl⟩ := trodAll_nil r0
  obtain rfl : args = #[v0] := by cases args; simp_all
  obtain ⟨rfl, rfl⟩ := trodVars_none hV
  have k0 := h0
  have lt0 : ∀ x ∈ p0, x.block < W.heap.size := by obtain ⟨m, hm⟩ := k0; exact DataW.trod_lt m _ _ _ hm
  obtain ⟨cs0, rfl, _⟩ := okWide_struct Try.underlying30 (hval 0 30 v0 rfl rfl)
  obtain ⟨x0, A0_0, c0_0, A0_2, c0_2, A0_3, c0_3, e0, g0_0, g0_2, g0_3, b0⟩ : ∃ (x : S30) (A0_0 : Option Addr) (c0_0 : Nat) (A0_2 : Option Addr) (c0_2 : Nat) (A0_3 : Option Addr) (c0_3 : Nat), cs0.toList = [.slice A0_0 x.f0.f0.length c0_0, .int .i64 x.f0.f1, .slice A0_2 x.f1.length c0_2, .slice A0_3 x.f2.length c0_3, .bool x.f3, .int .i64 x.f4.f0, .int .i64 x.f4.f1, .string x.f5, .bool x.f6, .int .i64 x.f7] ∧ (x.f0.f0.length ≤ c0_0 ∧ Kd.C k156 W A0_0 x.f0.f0.length x.f0.f0) ∧ (x.f1.length ≤ c0_2 ∧ Kd.C k28 W A0_2 x.f1.length x.f1) ∧ (x.f2.length ≤ c0_3 ∧ Kd.C k113 W A0_3 x.f2.length x.f2) ∧ ok30 x := by
    obtain ⟨m, hm⟩ := h0
    obtain ⟨x, hK_, hb_⟩ := op30.2 _ enc W m _ _ hm
    have hK2_ : k30.K W x cs0.toList := hK_
    obtain ⟨A0_, c0_, A2_, c2_, A3_, c3_, e_, l0_, g0_, l2_, g2_, l3_, g3_⟩ := k30_open hK2_
    exact ⟨x, A0_, c0_, A2_, c2_, A3_, c3_, e_, ⟨l0_, g0_⟩, ⟨l2_, g2_⟩, ⟨l3_, g3_⟩, hb_⟩
  obtain rfl : cs0 = #[.slice A0_0 x0.f0.f0.length c0_0, .int .i64 x0.f0.f1, .slice A0_2 x0.f1.length c0_2, .slice A0_3 x0.f2.length c0_3, .bool x0.f3, .int .i64 x0.f4.f0, .int .i64 x0.f4.f1, .string x0.f5, .bool x0.f6, .int .i64 x0.f7] := by rw [← Array.toArray_toList (xs := cs0), e0]
  clear e0
  clear hA0 hval0 hsz0
  obtain ⟨k, h⟩ := Pure.FnExactErase x0 b0
  refine (laws_FnExactErase.calls k _ _ x0.f0.f0 x0.f0.f1 _ _ x0.f1 _ _ x0.f2 x0.f3 x0.f4.f0 x0.f4.f1 x0.f5 x0.f6 x0.f7 true W g0_0.2 g0_0.1 g0_2.2 g0_2.1 g0_3.2 g0_3.1 rfl h).mono fun e W' ⟨he, bel0⟩ => ?_
  have bel : Below W.heap.size W W' := bel0
  subst he
  exact ⟨_, rfl, _, _, _, [], _, [], hW', trodAll_mk1 (shut_bool Try.underlying4 _), (trodAll_cons_mk (Below.trod laidOut (by kernel_rfl) (of_decide_eq_true (by kernel_rfl)) k0 bel lt0) trodAll_mk0), rfl, bel.frame _, fun h => by cases h⟩
theorem over : Rows.fnExactEraseRow.holds Try.pinned (OpenSpec.ofChange Rows.fnExactEraseSpec) :=
  OpenClaim.holds_of_wide 3 Try.f3 rfl rfl rfl rfl rfl rfl rfl ⟨rfl, rfl, rfl, rfl, rfl⟩ rfl rfl rfl rfl rfl (by kernel_rfl) Try.func3 (by kernel_rfl)
    (of_decide_eq_true (by kernel_rfl)) (by unfold Func.isWrapper; first | (rw [if_pos (by decide +kernel)]; kernel_rfl) | (rw [if_neg (by decide +kernel)]; exact ⟨rfl, rfl⟩))
    (fun os started H enc _ => lifted os started H enc)
theorem proved : Rows.FnExactEraseSaid := over
#print axioms proved
end Go.Proofs.Ytljeeiijepoenaa.fnExactErase
namespace Go.Proofs.Ytljeeiijepoenaa
/-- The row, under a short name, for the claim. -/
theorem fnExactErase_holds : Rows.FnExactEraseSaid := fnExactErase.proved
end Go.Proofs.Ytljeeiijepoenaa
