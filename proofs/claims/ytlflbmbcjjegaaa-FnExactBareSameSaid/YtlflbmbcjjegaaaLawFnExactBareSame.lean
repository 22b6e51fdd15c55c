/- The law FnExactBareSame returns true for every argument that can be read as data, out of its pure statement and the walk. Written by a program of this session. -/
import Derived.Test.YtlflbmbcjjegaaaRows
import Derived.Test.YtlflbmbcjjegaaaPFnExactBareSamex7
import Derived.Test.YtlflbmbcjjegaaaPureFnExactBareSame
import Derived.Test.YtlflbmbcjjegaaaVFnExactBareSameOpens
import Derived.WalkKit
import Derived.ProofKit
import Derived.OpenShut
import Derived.ShutString
import Derived.ChangeOld
import Derived.Below
import Derived.SizedLaws
import Derived.Carry
namespace Go.Proofs.Ytlflbmbcjjegaaa.fnExactBareSame
open Go.ChangeShapes Go.WideShapes Go.ChangeAt Go.RowKit Go.Proofs.Ytlflbmbcjjegaaa.PFnExactBareSame Go.Proofs.YtlflbmbcjjegaaaW.PrintWords Go.Proofs.YtlflbmbcjjegaaaW.Opens
open Go.ChangeMaps (open_string shut_string)
set_option linter.unusedVariables false
theorem own : ownKnob Try.prog.godebug = none := by kernel_rfl
theorem laidOut : laidOutB Try.prog = true := by kernel_rfl
theorem op9 : Opens Try.prog 9 Kd.string (fun s => s.size ≤ maxLen) := opens_string Try.underlying9 (by kernel_rfl)
theorem op2 : Opens Try.prog 2 (Kd.int .i64) (fun n => (Lit.int .i64 n).wf = true) := opens_int Try.underlying2 (by kernel_rfl)
theorem op30 : Opens Try.prog 30 (Kd.slice 2 (Kd.int .i64)) (fun x => (x.length ≤ maxLen ∧ ∀ x_ ∈ x, (Lit.int .i64 x_).wf = true)) := opens_slice Try.underlying30 (by kernel_rfl) op2
instance : Inhabited S182 := ⟨z182⟩
theorem op182 : Opens Try.prog 182 k182 ok182 := opens_struct (gi := fun y => (⟨y.1, y.2.1, y.2.2⟩ : S182)) Try.underlying182 (by kernel_rfl) (fun _ => rfl) (opens_more rfl op9 (opens_more rfl op2 (opens_last rfl op30)))
theorem op29 : Opens Try.prog 29 (Kd.slice 182 k182) (fun x => (x.length ≤ maxLen ∧ ∀ x_ ∈ x, ok182 x_)) := opens_slice Try.underlying29 (by kernel_rfl) op182
instance : Inhabited S184 := ⟨z184⟩
theorem op184 : Opens Try.prog 184 k184 ok184 := opens_struct (gi := fun y => (⟨y.1, y.2.1, y.2.2.1, y.2.2.2.1, y.2.2.2.2⟩ : S184)) Try.underlying184 (by kernel_rfl) (fun _ => rfl) (opens_more rfl op2 (opens_more rfl op2 (opens_more rfl op2 (opens_more rfl op30 (opens_last rfl op30)))))
theorem op31 : Opens Try.prog 31 (Kd.slice 184 k184) (fun x => (x.length ≤ maxLen ∧ ∀ x_ ∈ x, ok184 x_)) := opens_slice Try.underlying31 (by kernel_rfl) op184
theorem op4 : Opens Try.prog 4 Kd.bool (fun _ => True) := opens_bool Try.underlying4 (by kernel_rfl)
instance : Inhabited S33 := ⟨z33⟩
theorem op33 : Opens Try.prog 33 k33 ok33 := opens_struct (gi := fun y => (⟨y.1, y.2.1, y.2.2.1, y.2.2.2.1, y.2.2.2.2.1, y.2.2.2.2.2.1, y.2.2.2.2.2.2.1, y.2.2.2.2.2.2.2⟩ : S33)) Try.underlying33 (by kernel_rfl) (fun _ => rfl) (opens_more rfl op29 (opens_more rfl op2 (opens_more rfl op30 (opens_more rfl op31 (opens_more rfl op4 (opens_more rfl op2 (opens_more rfl op9 (opens_last rfl op2))))))))
set_option maxRecDepth 100000 in
theorem lifted (os : Os) (started : os.Started) (H : Type) (enc : TypeId × Value → H) :
    ReturnsInHanded {} Try.checked os 4 .any (Rows.fnExactBareSameSpec.pre6 enc Try.prog Try.f4 Rows.fnExactBareSameRow.domain false) (Rows.fnExactBareSameSpec.post enc Try.prog Try.f4 false true false false) := by
  refine returnsInHanded_of_change_sized (C := Try.checked) own started (by kernel_rfl) Try.func4
    (ChangeSpec.witness6 (enc := enc) (C := Try.checked) false ⟨#[], #[.agg #[.slice none 0 0, .int .i64 0, .slice none 0 0, .slice none 0 0, .bool false, .int .i64 0, .string ByteArray.empty, .int .i64 0], .agg #[.slice none 0 0, .int .i64 0, .slice none 0 0, .slice none 0 0, .bool false, .int .i64 0, .string ByteArray.empty, .int .i64 0]], []⟩ 8 (by kernel_rfl) (by kernel_rfl) (by kernel_rfl) (by kernel_rfl)) ?_
  intro W base args ds gs before hval0 hW hcnd hsz0 _
  have hval : ∀ (j : Nat) t v, Try.f4.params[j]? = some t → args[j]? = some v → Value.okWide Try.prog W .any base t v := hval0
  have hW' := hW
  obtain ⟨p, q, hA0, hV, rfl, hfz, hnd⟩ := hW
  have hA : DataW.TrodAll enc Try.prog W 0 (fun _ => true) true Try.f4.params.toList args.toList ds p := hA0
  rw [Try.params4] at hA hval
  obtain ⟨v0, vs0, d0, ds0, p0, q0, hargs, rfl, rfl, h0, r0⟩ := trodAll_cons hA
  obtain ⟨v1, vs1, d1, ds1, p1, q1, rfl, rfl, rfl, h1, r1⟩ := trodAll_cons r0
  obtain ⟨rfl, rfl, rfl⟩ := trodAll_nil r1
  obtain rfl : args = #[v0, v1] := by cases args; simp_all
  obtain ⟨rfl, rfl⟩ := trodVars_none hV
  have k0 := h0
  have lt0 : ∀ x ∈ p0, x.block < W.heap.size := by obtain ⟨m, hm⟩ := k0; exact DataW.trod_lt m _ _ _ hm
  obtain ⟨cs0, rfl, _⟩ := okWide_struct Try.underlying33 (hval 0 33 v0 rfl rfl)
  obtain ⟨x0, A0_0, c0_0, A0_2, c0_2, A0_3, c0_3, e0, g0_0, g0_2, g0_3, b0⟩ : ∃ (x : S33) (A0_0 : Option Addr) (c0_0 : Nat) (A0_2 : Option Addr) (c0_2 : Nat) (A0_3 : Option Addr) (c0_3 : Nat), cs0.toList = [.slice A0_0 x.f0.length c0_0, .int .i64 x.f1, .slice A0_2 x.f2.length c0_2, .slice A0_3 x.f3.length c0_3, .bool x.f4, .int .i64 x.f5, .string x.f6, .int .i64 x.f7] ∧ (x.f0.length ≤ c0_0 ∧ Kd.C k182 W A0_0 x.f0.length x.f0) ∧ (x.f2.length ≤ c0_2 ∧ Kd.C (Kd.int .i64) W A0_2 x.f2.length x.f2) ∧ (x.f3.length ≤ c0_3 ∧ Kd.C k184 W A0_3 x.f3.length x.f3) ∧ ok33 x := by
    obtain ⟨m, hm⟩ := h0
    obtain ⟨x, hK_, hb_⟩ := op33.2 _ enc W m _ _ hm
    have hK2_ : k33.K W x cs0.toList := hK_
    obtain ⟨A0_, c0_, A2_, c2_, A3_, c3_, e_, l0_, g0_, l2_, g2_, l3_, g3_⟩ := k33_open hK2_
    exact ⟨x, A0_, c0_, A2_, c2_, A3_, c3_, e_, ⟨l0_, g0_⟩, ⟨l2_, g2_⟩, ⟨l3_, g3_⟩, hb_⟩
  obtain rfl : cs0 = #[.slice A0_0 x0.f0.length c0_0, .int .i64 x0.f1, .slice A0_2 x0.f2.length c0_2, .slice A0_3 x0.f3.length c0_3, .bool x0.f4, .int .i64 x0.f5, .string x0.f6, .int .i64 x0.f7] := by rw [← Array.toArray_toList (xs := cs0), e0]
  clear e0
  have k1 := h1
  have lt1 : ∀ x ∈ p1, x.block < W.heap.size := by obtain ⟨m, hm⟩ := k1; exact DataW.trod_lt m _ _ _ hm
  obtain ⟨cs1, rfl, _⟩ := okWide_struct Try.underlying33 (hval 1 33 v1 rfl rfl)
  obtain ⟨x1, A1_0, c1_0, A1_2, c1_2, A1_3, c1_3, e1, g1_0, g1_2, g1_3, b1⟩ : ∃ (x : S33) (A1_0 : Option Addr) (c1_0 : Nat) (A1_2 : Option Addr) (c1_2 : Nat) (A1_3 : Option Addr) (c1_3 : Nat), cs1.toList = [.slice A1_0 x.f0.length c1_0, .int .i64 x.f1, .slice A1_2 x.f2.length c1_2, .slice A1_3 x.f3.length c1_3, .bool x.f4, .int .i64 x.f5, .string x.f6, .int .i64 x.f7] ∧ (x.f0.length ≤ c1_0 ∧ Kd.C k182 W A1_0 x.f0.length x.f0) ∧ (x.f2.length ≤ c1_2 ∧ Kd.C (Kd.int .i64) W A1_2 x.f2.length x.f2) ∧ (x.f3.length ≤ c1_3 ∧ Kd.C k184 W A1_3 x.f3.length x.f3) ∧ ok33 x := by
    obtain ⟨m, hm⟩ := h1
    obtain ⟨x, hK_, hb_⟩ := op33.2 _ enc W m _ _ hm
    have hK2_ : k33.K W x cs1.toList := hK_
    obtain ⟨A0_, c0_, A2_, c2_, A3_, c3_, e_, l0_, g0_, l2_, g2_, l3_, g3_⟩ := k33_open hK2_
    exact ⟨x, A0_, c0_, A2_, c2_, A3_, c3_, e_, ⟨l0_, g0_⟩, ⟨l2_, g2_⟩, ⟨l3_, g3_⟩, hb_⟩
  obtain rfl : cs1 = #[.slice A1_0 x1.f0.length c1_0, .int .i64 x1.f1, .slice A1_2 x1.f2.length c1_2, .slice A1_3 x1.f3.length c1_3, .bool x1.f4, .int .i64 x1.f5, .string x1.f6, .int .i64 x1.f7] := by rw [← Array.toArray_toList (xs := cs1), e1]
  clear e1
  clear hA0 hval0 hsz0
  obtain ⟨k, h⟩ := Pure.FnExactBareSame x0 x1 b0 b1
  refine (laws_FnExactBareSame.calls k _ _ x0.f0 x0.f1 _ _ x0.f2 _ _ x0.f3 x0.f4 x0.f5 x0.f6 x0.f7 _ _ x1.f0 x1.f1 _ _ x1.f2 _ _ x1.f3 x1.f4 x1.f5 x1.f6 x1.f7 true W g0_0.2 g0_0.1 g0_2.2 g0_2.1 g0_3.2 g0_3.1 g1_0.2 g1_0.1 g1_2.2 g1_2.1 g1_3.2 g1_3.1 rfl h).mono fun e W' ⟨he, bel0⟩ => ?_
  have bel : Below W.heap.size W W' := bel0
  subst he
  exact ⟨_, rfl, _, _, _, [], _, [], hW', trodAll_mk1 (shut_bool Try.underlying4 _), (trodAll_cons_mk (Below.trod laidOut (by kernel_rfl) (of_decide_eq_true (by kernel_rfl)) k0 bel lt0) (trodAll_cons_mk (Below.trod laidOut (by kernel_rfl) (of_decide_eq_true (by kernel_rfl)) k1 bel lt1) trodAll_mk0)), rfl, bel.frame _, fun h => by cases h⟩
theorem over : Rows.fnExactBareSameRow.holds Try.pinned (OpenSpec.ofChange Rows.fnExactBareSameSpec) :=
  OpenClaim.holds_of_wide 4 Try.f4 rfl rfl rfl rfl rfl rfl rfl ⟨rfl, rfl, rfl, rfl, rfl⟩ rfl rfl rfl rfl rfl (by kernel_rfl) Try.func4 (by kernel_rfl)
    (of_decide_eq_true (by kernel_rfl)) (by unfold Func.isWrapper; first | (rw [if_pos (by decide +kernel)]; kernel_rfl) | (rw [if_neg (by decide +kernel)]; exact ⟨rfl, rfl⟩))
    (fun os started H enc _ => lifted os started H enc)
theorem proved : Rows.FnExactBareSameSaid := over
#print axioms proved
end Go.Proofs.Ytlflbmbcjjegaaa.fnExactBareSame
namespace Go.Proofs.Ytlflbmbcjjegaaa
/-- The row, under a short name, for the claim. -/
theorem fnExactBareSame_holds : Rows.FnExactBareSameSaid := fnExactBareSame.proved
end Go.Proofs.Ytlflbmbcjjegaaa
