/- The law FnExactClassRight returns true for every argument that can be read as data, out of its pure statement and the walk. Written by a program of this session. -/
import Derived.Test.YtlflbmbcjjegaaaRows
import Derived.Test.YtlflbmbcjjegaaaPFnExactClassRightx19
import Derived.Test.YtlflbmbcjjegaaaPureFnExactClassRight
import Derived.Test.YtlflbmbcjjegaaaVFnExactClassRightOpens
import Derived.WalkKit
import Derived.ProofKit
import Derived.OpenShut
import Derived.ShutString
import Derived.ChangeOld
import Derived.Below
import Derived.SizedLaws
import Derived.Carry
namespace Go.Proofs.Ytlflbmbcjjegaaa.fnExactClassRight
open Go.ChangeShapes Go.WideShapes Go.ChangeAt Go.RowKit Go.Proofs.Ytlflbmbcjjegaaa.PFnExactClassRight Go.Proofs.YtlflbmbcjjegaaaW.PrintWords Go.Proofs.YtlflbmbcjjegaaaW.Opens
open Go.ChangeMaps (open_string shut_string)
set_option linter.unusedVariables false
theorem own : ownKnob Try.prog.godebug = none := by kernel_rfl
theorem laidOut : laidOutB Try.prog = true := by kernel_rfl
theorem op9 : Opens Try.prog 9 Kd.string (fun s => s.size ≤ maxLen) := opens_string Try.underlying9 (by kernel_rfl)
theorem op4 : Opens Try.prog 4 Kd.bool (fun _ => True) := opens_bool Try.underlying4 (by kernel_rfl)
instance : Inhabited S188 := ⟨z188⟩
theorem op188 : Opens Try.prog 188 k188 ok188 := opens_struct (gi := fun y => (⟨y.1, y.2.1, y.2.2⟩ : S188)) Try.underlying188 (by kernel_rfl) (fun _ => rfl) (opens_more rfl op9 (opens_more rfl op9 (opens_last rfl op4)))
theorem op42 : Opens Try.prog 42 (Kd.slice 188 k188) (fun x => (x.length ≤ maxLen ∧ ∀ x_ ∈ x, ok188 x_)) := opens_slice Try.underlying42 (by kernel_rfl) op188
theorem op2 : Opens Try.prog 2 (Kd.int .i64) (fun n => (Lit.int .i64 n).wf = true) := opens_int Try.underlying2 (by kernel_rfl)
instance : Inhabited S199 := ⟨z199⟩
theorem op199 : Opens Try.prog 199 k199 ok199 := opens_struct (gi := fun y => (⟨y.1, y.2.1, y.2.2.1, y.2.2.2.1, y.2.2.2.2⟩ : S199)) Try.underlying199 (by kernel_rfl) (fun _ => rfl) (opens_more rfl op2 (opens_more rfl op2 (opens_more rfl op9 (opens_more rfl op9 (opens_last rfl op9)))))
theorem op75 : Opens Try.prog 75 (Kd.slice 199 k199) (fun x => (x.length ≤ maxLen ∧ ∀ x_ ∈ x, ok199 x_)) := opens_slice Try.underlying75 (by kernel_rfl) op199
instance : Inhabited S201 := ⟨z201⟩
theorem op201 : Opens Try.prog 201 k201 ok201 := opens_struct (gi := fun y => (⟨y.1, y.2.1, y.2.2.1, y.2.2.2⟩ : S201)) Try.underlying201 (by kernel_rfl) (fun _ => rfl) (opens_more rfl op2 (opens_more rfl op2 (opens_more rfl op2 (opens_last rfl op9))))
theorem op76 : Opens Try.prog 76 (Kd.slice 201 k201) (fun x => (x.length ≤ maxLen ∧ ∀ x_ ∈ x, ok201 x_)) := opens_slice Try.underlying76 (by kernel_rfl) op201
instance : Inhabited S78 := ⟨z78⟩
theorem op78 : Opens Try.prog 78 k78 ok78 := opens_struct (gi := fun y => (⟨y.1, y.2.1, y.2.2.1, y.2.2.2.1, y.2.2.2.2.1, y.2.2.2.2.2.1, y.2.2.2.2.2.2.1, y.2.2.2.2.2.2.2.1, y.2.2.2.2.2.2.2.2⟩ : S78)) Try.underlying78 (by kernel_rfl) (fun _ => rfl) (opens_more rfl op9 (opens_more rfl op9 (opens_more rfl op4 (opens_more rfl op4 (opens_more rfl op4 (opens_more rfl op2 (opens_more rfl op2 (opens_more rfl op75 (opens_last rfl op76)))))))))
theorem op43 : Opens Try.prog 43 (Kd.slice 78 k78) (fun x => (x.length ≤ maxLen ∧ ∀ x_ ∈ x, ok78 x_)) := opens_slice Try.underlying43 (by kernel_rfl) op78
instance : Inhabited S45 := ⟨z45⟩
theorem op45 : Opens Try.prog 45 k45 ok45 := opens_struct (gi := fun y => (⟨y.1, y.2.1, y.2.2.1, y.2.2.2.1, y.2.2.2.2.1, y.2.2.2.2.2⟩ : S45)) Try.underlying45 (by kernel_rfl) (fun _ => rfl) (opens_more rfl op9 (opens_more rfl op9 (opens_more rfl op4 (opens_more rfl op4 (opens_more rfl op42 (opens_last rfl op43))))))
set_option maxRecDepth 100000 in
theorem lifted (os : Os) (started : os.Started) (H : Type) (enc : TypeId × Value → H) :
    ReturnsInHanded {} Try.checked os 8 .any (Rows.fnExactClassRightSpec.pre6 enc Try.prog Try.f8 Rows.fnExactClassRightRow.domain false) (Rows.fnExactClassRightSpec.post enc Try.prog Try.f8 false true false false) := by
  refine returnsInHanded_of_change_sized (C := Try.checked) own started (by kernel_rfl) Try.func8
    (ChangeSpec.witness6 (enc := enc) (C := Try.checked) false ⟨#[], #[.agg #[.string ByteArray.empty, .string ByteArray.empty, .bool false, .bool false, .slice none 0 0, .slice none 0 0]], []⟩ 8 (by kernel_rfl) (by kernel_rfl) (by kernel_rfl) (by kernel_rfl)) ?_
  intro W base args ds gs before hval0 hW hcnd hsz0 _
  have hval : ∀ (j : Nat) t v, Try.f8.params[j]? = some t → args[j]? = some v → Value.okWide Try.prog W .any base t v := hval0
  have hW' := hW
  obtain ⟨p, q, hA0, hV, rfl, hfz, hnd⟩ := hW
  have hA : DataW.TrodAll enc Try.prog W 0 (fun _ => true) true Try.f8.params.toList args.toList ds p := hA0
  rw [Try.params8] at hA hval
  obtain ⟨v0, vs0, d0, ds0, p0, q0, hargs, rfl, rfl, h0, r0⟩ := trodAll_cons hA
  obtain ⟨rfl, rfl, rfl⟩ := trodAll_nil r0
  obtain rfl : args = #[v0] := by cases args; simp_all
  obtain ⟨rfl, rfl⟩ := trodVars_none hV
  have k0 := h0
  have lt0 : ∀ x ∈ p0, x.block < W.heap.size := by obtain ⟨m, hm⟩ := k0; exact DataW.trod_lt m _ _ _ hm
  obtain ⟨cs0, rfl, _⟩ := okWide_struct Try.underlying45 (hval 0 45 v0 rfl rfl)
  obtain ⟨x0, A0_4, c0_4, A0_5, c0_5, e0, g0_4, g0_5, b0⟩ : ∃ (x : S45) (A0_4 : Option Addr) (c0_4 : Nat) (A0_5 : Option Addr) (c0_5 : Nat), cs0.toList = [.string x.f0, .string x.f1, .bool x.f2, .bool x.f3, .slice A0_4 x.f4.length c0_4, .slice A0_5 x.f5.length c0_5] ∧ (x.f4.length ≤ c0_4 ∧ Kd.C k188 W A0_4 x.f4.length x.f4) ∧ (x.f5.length ≤ c0_5 ∧ Kd.C k78 W A0_5 x.f5.length x.f5) ∧ ok45 x := by
    obtain ⟨m, hm⟩ := h0
    obtain ⟨x, hK_, hb_⟩ := op45.2 _ enc W m _ _ hm
    have hK2_ : k45.K W x cs0.toList := hK_
    obtain ⟨A4_, c4_, A5_, c5_, e_, l4_, g4_, l5_, g5_⟩ := k45_open hK2_
    exact ⟨x, A4_, c4_, A5_, c5_, e_, ⟨l4_, g4_⟩, ⟨l5_, g5_⟩, hb_⟩
  obtain rfl : cs0 = #[.string x0.f0, .string x0.f1, .bool x0.f2, .bool x0.f3, .slice A0_4 x0.f4.length c0_4, .slice A0_5 x0.f5.length c0_5] := by rw [← Array.toArray_toList (xs := cs0), e0]
  clear e0
  clear hA0 hval0 hsz0
  obtain ⟨k, h⟩ := Pure.FnExactClassRight x0 b0
  refine (laws_FnExactClassRight.calls k x0.f0 x0.f1 x0.f2 x0.f3 _ _ x0.f4 _ _ x0.f5 true W g0_4.2 g0_4.1 g0_5.2 g0_5.1 rfl h).mono fun e W' ⟨he, bel0⟩ => ?_
  have bel : Below W.heap.size W W' := bel0
  subst he
  exact ⟨_, rfl, _, _, _, [], _, [], hW', trodAll_mk1 (shut_bool Try.underlying4 _), (trodAll_cons_mk (Below.trod laidOut (by kernel_rfl) (of_decide_eq_true (by kernel_rfl)) k0 bel lt0) trodAll_mk0), rfl, bel.frame _, fun h => by cases h⟩
theorem over : Rows.fnExactClassRightRow.holds Try.pinned (OpenSpec.ofChange Rows.fnExactClassRightSpec) :=
  OpenClaim.holds_of_wide 8 Try.f8 rfl rfl rfl rfl rfl rfl rfl ⟨rfl, rfl, rfl, rfl, rfl⟩ rfl rfl rfl rfl rfl (by kernel_rfl) Try.func8 (by kernel_rfl)
    (of_decide_eq_true (by kernel_rfl)) (by unfold Func.isWrapper; first | (rw [if_pos (by decide +kernel)]; kernel_rfl) | (rw [if_neg (by decide +kernel)]; exact ⟨rfl, rfl⟩))
    (fun os started H enc _ => lifted os started H enc)
theorem proved : Rows.FnExactClassRightSaid := over
#print axioms proved
end Go.Proofs.Ytlflbmbcjjegaaa.fnExactClassRight
namespace Go.Proofs.Ytlflbmbcjjegaaa
/-- The row, under a short name, for the claim. -/
theorem fnExactClassRight_holds : Rows.FnExactClassRightSaid := fnExactClassRight.proved
end Go.Proofs.Ytlflbmbcjjegaaa
