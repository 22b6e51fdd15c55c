/- The program's HeapNew returns what the reference's returns, for every room; its answer owns its memory. -/
import Derived.Test.YtlflbmbcjjegaaaPFnExactHeapNewx3
namespace Go.Proofs.Ytlflbmbcjjegaaa.Pure
open Go.RowKit Go.Proofs.Ytlflbmbcjjegaaa.PFnExactHeapNew Go.Proofs.YtlflbmbcjjegaaaW.PrintWords Go.Proofs.YtlflbmbcjjegaaaW.PrintLast
set_option linter.unusedVariables false
set_option linter.unusedSimpArgs false

def HL : List S97 := ((spec_HeapNew.f 60 0).getD ([], 0)).1
def HM : Int × List S97 := (laws_markObjS.f 60 HL 1).getD (0, [])
theorem hn_spec (a0 : Int) : spec_HeapNew.j0 60 a0 false = some (HL, a0) := by kernel_rfl
theorem hn_impl (a0 : Int) : impl_newHeap.f 60 a0 = some (HL, a0) := by kernel_rfl
theorem hn_eq : laws_eqObjS.f 60 HL HL = some true := by kernel_rfl
theorem hn_mark : laws_markObjS.f 60 HL 1 = some (HM.1, HM.2) := by kernel_rfl
theorem hn_held : laws_heldObjS.f 60 HM.2 1 = some HM.1 := by kernel_rfl
theorem hn_pos : (decide (HM.1 < 0)) = false := by kernel_rfl
theorem hn_none : ((laws_eqHeap.f 60 ([] : List S97) 0 [] 0).bind fun t182 => (if t182 = true then ((laws_markHeap.f 60 [] 0 1).bind fun bt183 => ((laws_heldHeap.f 60 bt183.2 0 1).bind fun t185 => (if t185 < 0 then (some false) else (if t185 = bt183.1 then ((some (([] : List S97), (0 : Int))).bind fun bt186 => ((laws_eqHeap.f 60 bt186.1 bt186.2 [] 0).bind fun t191 => (if t191 = true then ((laws_heldHeap.f 60 bt183.2 0 1).bind fun t192 => (if t192 < 0 then (some false) else (if t192 = bt183.1 then (some true) else (some false)))) else (some false)))) else (some false))))) else (some false))) = some true := by kernel_rfl
theorem FnExactHeapNew : laws_FnExactHeapNew.Pure := by
  intro a0 _
  refine ⟨60, ?_⟩
  have hp : ¬ HM.1 < 0 := of_decide_eq_false hn_pos
  unfold laws_FnExactHeapNew.f
  by_cases c : 0 ≤ a0 ∧ a0 ≤ 94
  · have e1 : spec_HeapNew.f 60 a0 = some (HL, a0) := by
      unfold spec_HeapNew.f
      rw [if_neg (by omega), decide_eq_false (by omega)]
      exact hn_spec a0
    have e2 : impl_HeapNew.f 60 a0 = some (HL, a0) := by
      unfold impl_HeapNew.f impl_within.f
      rw [if_pos (by omega), decide_eq_true (by omega), Option.bind_some, if_pos rfl, hn_impl]
      rfl
    have e3 : laws_eqHeap.f 60 HL a0 HL a0 = some true := by
      unfold laws_eqHeap.f
      rw [hn_eq, Option.bind_some, if_pos rfl, if_pos rfl]
    have e4 : laws_markHeap.f 60 HL a0 1 = some (HM.1, HM.2) := by
      unfold laws_markHeap.f
      rw [hn_mark]
      rfl
    have e5 : laws_heldHeap.f 60 HM.2 a0 1 = some HM.1 := by
      unfold laws_heldHeap.f
      rw [hn_held, Option.bind_some, if_neg hp]
    rw [e1, Option.bind_some, e2, Option.bind_some]
    show ((laws_eqHeap.f 60 HL a0 HL a0).bind _) = _
    rw [e3, Option.bind_some, if_pos rfl]
    show ((laws_markHeap.f 60 HL a0 1).bind _) = _
    rw [e4, Option.bind_some]
    show ((laws_heldHeap.f 60 HM.2 a0 1).bind _) = _
    rw [e5, Option.bind_some, if_neg hp, if_pos rfl, Option.bind_some]
    show ((laws_eqHeap.f 60 HL a0 HL a0).bind _) = _
    rw [e3, Option.bind_some, if_pos rfl]
    rw [Option.bind_some, if_neg hp, if_pos rfl]
  · have e1 : spec_HeapNew.f 60 a0 = some ([], 0) := by
      unfold spec_HeapNew.f
      by_cases q : a0 < 0
      · rw [if_pos q]
        rfl
      · rw [if_neg q, decide_eq_true (by omega)]
        rfl
    have e2 : impl_HeapNew.f 60 a0 = some ([], 0) := by
      unfold impl_HeapNew.f impl_within.f
      by_cases q : a0 ≥ 0
      · rw [if_pos q, decide_eq_false (by omega), Option.bind_some, if_neg (by simp)]
      · rw [if_neg q, Option.bind_some, if_neg (by simp)]
    rw [e1, Option.bind_some, e2, Option.bind_some]
    exact hn_none

end Go.Proofs.Ytlflbmbcjjegaaa.Pure
