/- Functions of the program as plain Lean functions, each with a proof that the program's call comes to the same; no condition. Written by a program of this session. -/
import Derived.Test.YtlflbmbcjjegaaaPFnExactClassSamex0
import Derived.Test.YtlflbmbcjjegaaaPFnExactClassSamex5
import Derived.Test.YtlflbmbcjjegaaaPFnExactClassSamex6
import Derived.Test.YtlflbmbcjjegaaaPFnExactClassSamex7
import Derived.Test.YtlflbmbcjjegaaaPFnExactClassSamex8
import Derived.Test.YtlflbmbcjjegaaaPFnExactClassSamex11
namespace Go.Proofs.Ytlflbmbcjjegaaa.PFnExactClassSame
open Go.RowKit Go.Proofs.YtlflbmbcjjegaaaW.PrintWords Go.Proofs.YtlflbmbcjjegaaaW.PrintLast Go.Proofs.YtlflbmbcjjegaaaW.PrintMore
open Go.Proofs.YtlflbmbcjjegaaaW.PrintWords renaming below_alloc → Zba, pw_below_drewN → Zbn, below_drew1 → Zbd, below_set → Zbs, below_size → Zbz, below_step → Zbt, blk_drewN → Zkn, blk_drew → Zkd, blk_alloc → Zka, blk_cell → Zkc, blk_frozen → Zkf, blk_far → Zkr, blk_put → Zkp, blk_below → Zkb
open Go.Proofs.YtlflbmbcjjegaaaW.PrintWords.Aside0 renaming mk → Zm
attribute [local go_sem] max2_int min2_int max_two min_two max_three min_three max_four min_four   -- for this text's walks alone
set_option linter.unusedVariables false
set_option linter.unusedSimpArgs false

/-! ### laws_FnExactClassSame: function 5 -/
def laws_FnExactClassSame.f (k : Nat) (a0_0 : ByteArray) (a0_1 : ByteArray) (a0_2 : Bool) (a0_3 : Bool) (l0_4 : List (S188)) (l0_5 : List (S78)) (a1_0 : ByteArray) (a1_1 : ByteArray) (a1_2 : Bool) (a1_3 : Bool) (l1_4 : List (S188)) (l1_5 : List (S78)) : Option (Bool) := (laws_szClass.f k a0_0 a0_1 a0_2 a0_3 l0_4 l0_5 1048576).bind fun t250 => (if t250 < 0 then (some true) else ((laws_szClass.f k a1_0 a1_1 a1_2 a1_3 l1_4 l1_5 t250).bind fun t251 => (if t251 < 0 then (some true) else ((laws_toClass.f k a0_0 a0_1 a0_2 a0_3 l0_4 l0_5).bind fun bt252 => ((laws_toClass.f k a1_0 a1_1 a1_2 a1_3 l1_4 l1_5).bind fun bt262 => ((spec_ClassSame.f k bt252.1 bt252.2.1 bt252.2.2.1 bt252.2.2.2.1 bt252.2.2.2.2.1 bt252.2.2.2.2.2 bt262.1 bt262.2.1 bt262.2.2.1 bt262.2.2.2.1 bt262.2.2.2.2.1 bt262.2.2.2.2.2).bind fun t272 => ((laws_toClass.f k a0_0 a0_1 a0_2 a0_3 l0_4 l0_5).bind fun bt273 => ((laws_toClass.f k a1_0 a1_1 a1_2 a1_3 l1_4 l1_5).bind fun bt284 => ((impl_ClassSame.f k bt273.1 bt273.2.1 bt273.2.2.1 bt273.2.2.2.1 bt273.2.2.2.2.1 bt273.2.2.2.2.2 bt284.1 bt284.2.1 bt284.2.2.1 bt284.2.2.2.1 bt284.2.2.2.2.1 bt284.2.2.2.2.2).bind fun t295 => (if (t295 != t272) = true then (some false) else ((laws_toClass.f k a0_0 a0_1 a0_2 a0_3 l0_4 l0_5).bind fun bt296 => ((laws_eqClass.f k bt273.1 bt273.2.1 bt273.2.2.1 bt273.2.2.2.1 bt273.2.2.2.2.1 bt273.2.2.2.2.2 bt296.1 bt296.2.1 bt296.2.2.1 bt296.2.2.2.1 bt296.2.2.2.2.1 bt296.2.2.2.2.2).bind fun t306 => (if t306 = true then ((laws_toClass.f k a1_0 a1_1 a1_2 a1_3 l1_4 l1_5).bind fun bt307 => ((laws_eqClass.f k bt284.1 bt284.2.1 bt284.2.2.1 bt284.2.2.2.1 bt284.2.2.2.2.1 bt284.2.2.2.2.2 bt307.1 bt307.2.1 bt307.2.2.1 bt307.2.2.2.1 bt307.2.2.2.2.1 bt307.2.2.2.2.2).bind fun t317 => (if t317 = true then (some true) else (some false)))) else (some false))))))))))))))
theorem laws_FnExactClassSame.mono : ∀ a0 a1 a2 a3 a4 a5 a6 a7 a8 a9 a10 a11 k, LeO (laws_FnExactClassSame.f k a0 a1 a2 a3 a4 a5 a6 a7 a8 a9 a10 a11) (laws_FnExactClassSame.f (k + 1) a0 a1 a2 a3 a4 a5 a6 a7 a8 a9 a10 a11) := by
  intro a0 a1 a2 a3 a4 a5 a6 a7 a8 a9 a10 a11 k
  unfold laws_FnExactClassSame.f
  repeat' first
      | (with_reducible exact impl_ClassSame.mono _ _ _ _ _ _ _ _ _ _ _ _ _)
      | (with_reducible exact laws_eqClass.mono _ _ _ _ _ _ _ _ _ _ _ _ _)
      | (with_reducible exact laws_szClass.mono _ _ _ _ _ _ _ _)
      | (with_reducible exact laws_toClass.mono _ _ _ _ _ _ _)
      | (with_reducible exact spec_ClassSame.mono _ _ _ _ _ _ _ _ _ _ _ _ _)
      | (with_reducible exact LeO.refl _)
      | (with_reducible exact LeO.none _)
      | (with_reducible refine LeO.ite ?_ ?_)
      | (with_reducible refine LeO.bind ?_ (fun _ => ?_))
      | exact impl_ClassSame.mono _ _ _ _ _ _ _ _ _ _ _ _ _
      | exact laws_eqClass.mono _ _ _ _ _ _ _ _ _ _ _ _ _
      | exact laws_szClass.mono _ _ _ _ _ _ _ _
      | exact laws_toClass.mono _ _ _ _ _ _ _
      | exact spec_ClassSame.mono _ _ _ _ _ _ _ _ _ _ _ _ _
      | exact LeO.none _
      | refine LeO.ite ?_ ?_
      | refine LeO.bind ?_ (fun _ => ?_)
set_option maxHeartbeats 8000000 in
set_option maxRecDepth 100000 in
theorem laws_FnExactClassSame.calls (k : Nat) (a0_0 : ByteArray) (a0_1 : ByteArray) (a0_2 : Bool) (a0_3 : Bool) (A0_4 : Option Addr) (c0_4 : Nat) (l0_4 : List (S188)) (A0_5 : Option Addr) (c0_5 : Nat) (l0_5 : List (S78)) (a1_0 : ByteArray) (a1_1 : ByteArray) (a1_2 : Bool) (a1_3 : Bool) (A1_4 : Option Addr) (c1_4 : Nat) (l1_4 : List (S188)) (A1_5 : Option Addr) (c1_5 : Nat) (l1_5 : List (S78)) (r : Bool) (w : World) (hr0_4 : Kd.C k188 w A0_4 l0_4.length l0_4) (hc0_4 : l0_4.length ≤ c0_4) (hr0_5 : Kd.C k78 w A0_5 l0_5.length l0_5) (hc0_5 : l0_5.length ≤ c0_5) (hr1_4 : Kd.C k188 w A1_4 l1_4.length l1_4) (hc1_4 : l1_4.length ≤ c1_4) (hr1_5 : Kd.C k78 w A1_5 l1_5.length l1_5) (hc1_5 : l1_5.length ≤ c1_5) (hT_ : r = true) (h : laws_FnExactClassSame.f k a0_0 a0_1 a0_2 a0_3 l0_4 l0_5 a1_0 a1_1 a1_2 a1_3 l1_4 l1_5 = some r) :
    Calls Try.prog 5 #[.agg #[.string a0_0, .string a0_1, .bool a0_2, .bool a0_3, .slice A0_4 l0_4.length c0_4, .slice A0_5 l0_5.length c0_5], .agg #[.string a1_0, .string a1_1, .bool a1_2, .bool a1_3, .slice A1_4 l1_4.length c1_4, .slice A1_5 l1_5.length c1_5]] w fun e w' => e = .returned (.bool r) ∧ Below w.heap.size w w' := by
  have hu45 := Try.underlying45
  have hu51 := Try.underlying51
  have HR0_4 := Zm hr0_4
  have HC0_4 := Zm hc0_4
  clear hr0_4 hc0_4
  have HR0_5 := Zm hr0_5
  have HC0_5 := Zm hc0_5
  clear hr0_5 hc0_5
  have HR1_4 := Zm hr1_4
  have HC1_4 := Zm hc1_4
  clear hr1_4 hc1_4
  have HR1_5 := Zm hr1_5
  have HC1_5 := Zm hc1_5
  clear hr1_5 hc1_5
  have HB := Zm (Below.refl w.heap.size w)
  have H : ((laws_szClass.f k a0_0 a0_1 a0_2 a0_3 l0_4 l0_5 1048576).bind fun t250 => (if t250 < 0 then (some true) else ((laws_szClass.f k a1_0 a1_1 a1_2 a1_3 l1_4 l1_5 t250).bind fun t251 => (if t251 < 0 then (some true) else ((laws_toClass.f k a0_0 a0_1 a0_2 a0_3 l0_4 l0_5).bind fun bt252 => ((laws_toClass.f k a1_0 a1_1 a1_2 a1_3 l1_4 l1_5).bind fun bt262 => ((spec_ClassSame.f k bt252.1 bt252.2.1 bt252.2.2.1 bt252.2.2.2.1 bt252.2.2.2.2.1 bt252.2.2.2.2.2 bt262.1 bt262.2.1 bt262.2.2.1 bt262.2.2.2.1 bt262.2.2.2.2.1 bt262.2.2.2.2.2).bind fun t272 => ((laws_toClass.f k a0_0 a0_1 a0_2 a0_3 l0_4 l0_5).bind fun bt273 => ((laws_toClass.f k a1_0 a1_1 a1_2 a1_3 l1_4 l1_5).bind fun bt284 => ((impl_ClassSame.f k bt273.1 bt273.2.1 bt273.2.2.1 bt273.2.2.2.1 bt273.2.2.2.2.1 bt273.2.2.2.2.2 bt284.1 bt284.2.1 bt284.2.2.1 bt284.2.2.2.1 bt284.2.2.2.2.1 bt284.2.2.2.2.2).bind fun t295 => (if (t295 != t272) = true then (some false) else ((laws_toClass.f k a0_0 a0_1 a0_2 a0_3 l0_4 l0_5).bind fun bt296 => ((laws_eqClass.f k bt273.1 bt273.2.1 bt273.2.2.1 bt273.2.2.2.1 bt273.2.2.2.2.1 bt273.2.2.2.2.2 bt296.1 bt296.2.1 bt296.2.2.1 bt296.2.2.2.1 bt296.2.2.2.2.1 bt296.2.2.2.2.2).bind fun t306 => (if t306 = true then ((laws_toClass.f k a1_0 a1_1 a1_2 a1_3 l1_4 l1_5).bind fun bt307 => ((laws_eqClass.f k bt284.1 bt284.2.1 bt284.2.2.1 bt284.2.2.2.1 bt284.2.2.2.2.1 bt284.2.2.2.2.2 bt307.1 bt307.2.1 bt307.2.2.1 bt307.2.2.2.1 bt307.2.2.2.2.1 bt307.2.2.2.2.2).bind fun t317 => (if t317 = true then (some true) else (some false)))) else (some false))))))))))))))) = some r := h
  clear h
  replace H := Option.bind_eq_some_iff.mp H
  obtain ⟨t250, A30, H⟩ := H
  replace H : (if t250 < 0 then (some true) else ((laws_szClass.f k a1_0 a1_1 a1_2 a1_3 l1_4 l1_5 t250).bind fun t251 => (if t251 < 0 then (some true) else ((laws_toClass.f k a0_0 a0_1 a0_2 a0_3 l0_4 l0_5).bind fun bt252 => ((laws_toClass.f k a1_0 a1_1 a1_2 a1_3 l1_4 l1_5).bind fun bt262 => ((spec_ClassSame.f k bt252.1 bt252.2.1 bt252.2.2.1 bt252.2.2.2.1 bt252.2.2.2.2.1 bt252.2.2.2.2.2 bt262.1 bt262.2.1 bt262.2.2.1 bt262.2.2.2.1 bt262.2.2.2.2.1 bt262.2.2.2.2.2).bind fun t272 => ((laws_toClass.f k a0_0 a0_1 a0_2 a0_3 l0_4 l0_5).bind fun bt273 => ((laws_toClass.f k a1_0 a1_1 a1_2 a1_3 l1_4 l1_5).bind fun bt284 => ((impl_ClassSame.f k bt273.1 bt273.2.1 bt273.2.2.1 bt273.2.2.2.1 bt273.2.2.2.2.1 bt273.2.2.2.2.2 bt284.1 bt284.2.1 bt284.2.2.1 bt284.2.2.2.1 bt284.2.2.2.2.1 bt284.2.2.2.2.2).bind fun t295 => (if (t295 != t272) = true then (some false) else ((laws_toClass.f k a0_0 a0_1 a0_2 a0_3 l0_4 l0_5).bind fun bt296 => ((laws_eqClass.f k bt273.1 bt273.2.1 bt273.2.2.1 bt273.2.2.2.1 bt273.2.2.2.2.1 bt273.2.2.2.2.2 bt296.1 bt296.2.1 bt296.2.2.1 bt296.2.2.2.1 bt296.2.2.2.2.1 bt296.2.2.2.2.2).bind fun t306 => (if t306 = true then ((laws_toClass.f k a1_0 a1_1 a1_2 a1_3 l1_4 l1_5).bind fun bt307 => ((laws_eqClass.f k bt284.1 bt284.2.1 bt284.2.2.1 bt284.2.2.2.1 bt284.2.2.2.2.1 bt284.2.2.2.2.2 bt307.1 bt307.2.1 bt307.2.2.1 bt307.2.2.2.1 bt307.2.2.2.2.1 bt307.2.2.2.2.2).bind fun t317 => (if t317 = true then (some true) else (some false)))) else (some false)))))))))))))) = some r := H
  have A3 := Zm A30
  clear A30
  by_cases c4 : t250 < 0
  rotate_left
  · rw [if_neg c4] at H
    have c4b0 : decide (t250 < 0) = false := decide_eq_false c4
    clear c4
    replace H := Option.bind_eq_some_iff.mp H
    obtain ⟨t251, A100, H⟩ := H
    replace H : (if t251 < 0 then (some true) else ((laws_toClass.f k a0_0 a0_1 a0_2 a0_3 l0_4 l0_5).bind fun bt252 => ((laws_toClass.f k a1_0 a1_1 a1_2 a1_3 l1_4 l1_5).bind fun bt262 => ((spec_ClassSame.f k bt252.1 bt252.2.1 bt252.2.2.1 bt252.2.2.2.1 bt252.2.2.2.2.1 bt252.2.2.2.2.2 bt262.1 bt262.2.1 bt262.2.2.1 bt262.2.2.2.1 bt262.2.2.2.2.1 bt262.2.2.2.2.2).bind fun t272 => ((laws_toClass.f k a0_0 a0_1 a0_2 a0_3 l0_4 l0_5).bind fun bt273 => ((laws_toClass.f k a1_0 a1_1 a1_2 a1_3 l1_4 l1_5).bind fun bt284 => ((impl_ClassSame.f k bt273.1 bt273.2.1 bt273.2.2.1 bt273.2.2.2.1 bt273.2.2.2.2.1 bt273.2.2.2.2.2 bt284.1 bt284.2.1 bt284.2.2.1 bt284.2.2.2.1 bt284.2.2.2.2.1 bt284.2.2.2.2.2).bind fun t295 => (if (t295 != t272) = true then (some false) else ((laws_toClass.f k a0_0 a0_1 a0_2 a0_3 l0_4 l0_5).bind fun bt296 => ((laws_eqClass.f k bt273.1 bt273.2.1 bt273.2.2.1 bt273.2.2.2.1 bt273.2.2.2.2.1 bt273.2.2.2.2.2 bt296.1 bt296.2.1 bt296.2.2.1 bt296.2.2.2.1 bt296.2.2.2.2.1 bt296.2.2.2.2.2).bind fun t306 => (if t306 = true then ((laws_toClass.f k a1_0 a1_1 a1_2 a1_3 l1_4 l1_5).bind fun bt307 => ((laws_eqClass.f k bt284.1 bt284.2.1 bt284.2.2.1 bt284.2.2.2.1 bt284.2.2.2.2.1 bt284.2.2.2.2.2 bt307.1 bt307.2.1 bt307.2.2.1 bt307.2.2.2.1 bt307.2.2.2.2.1 bt307.2.2.2.2.2).bind fun t317 => (if t317 = true then (some true) else (some false)))) else (some false)))))))))))) = some r := H
    have A10 := Zm A100
    clear A100
    by_cases c11 : t251 < 0
    rotate_left
    · rw [if_neg c11] at H
      have c11b0 : decide (t251 < 0) = false := decide_eq_false c11
      clear c11
      replace H := Option.bind_eq_some_iff.mp H
      obtain ⟨⟨t252, t253, t254, t255, t256, t259⟩, A190, H⟩ := H
      replace H : ((laws_toClass.f k a1_0 a1_1 a1_2 a1_3 l1_4 l1_5).bind fun bt262 => ((spec_ClassSame.f k t252 t253 t254 t255 t256 t259 bt262.1 bt262.2.1 bt262.2.2.1 bt262.2.2.2.1 bt262.2.2.2.2.1 bt262.2.2.2.2.2).bind fun t272 => ((laws_toClass.f k a0_0 a0_1 a0_2 a0_3 l0_4 l0_5).bind fun bt273 => ((laws_toClass.f k a1_0 a1_1 a1_2 a1_3 l1_4 l1_5).bind fun bt284 => ((impl_ClassSame.f k bt273.1 bt273.2.1 bt273.2.2.1 bt273.2.2.2.1 bt273.2.2.2.2.1 bt273.2.2.2.2.2 bt284.1 bt284.2.1 bt284.2.2.1 bt284.2.2.2.1 bt284.2.2.2.2.1 bt284.2.2.2.2.2).bind fun t295 => (if (t295 != t272) = true then (some false) else ((laws_toClass.f k a0_0 a0_1 a0_2 a0_3 l0_4 l0_5).bind fun bt296 => ((laws_eqClass.f k bt273.1 bt273.2.1 bt273.2.2.1 bt273.2.2.2.1 bt273.2.2.2.2.1 bt273.2.2.2.2.2 bt296.1 bt296.2.1 bt296.2.2.1 bt296.2.2.2.1 bt296.2.2.2.2.1 bt296.2.2.2.2.2).bind fun t306 => (if t306 = true then ((laws_toClass.f k a1_0 a1_1 a1_2 a1_3 l1_4 l1_5).bind fun bt307 => ((laws_eqClass.f k bt284.1 bt284.2.1 bt284.2.2.1 bt284.2.2.2.1 bt284.2.2.2.2.1 bt284.2.2.2.2.2 bt307.1 bt307.2.1 bt307.2.2.1 bt307.2.2.2.1 bt307.2.2.2.2.1 bt307.2.2.2.2.2).bind fun t317 => (if t317 = true then (some true) else (some false)))) else (some false)))))))))) = some r := H
      have A19 := Zm A190
      clear A190
      replace H := Option.bind_eq_some_iff.mp H
      obtain ⟨⟨t262, t263, t264, t265, t266, t269⟩, A200, H⟩ := H
      replace H : ((spec_ClassSame.f k t252 t253 t254 t255 t256 t259 t262 t263 t264 t265 t266 t269).bind fun t272 => ((laws_toClass.f k a0_0 a0_1 a0_2 a0_3 l0_4 l0_5).bind fun bt273 => ((laws_toClass.f k a1_0 a1_1 a1_2 a1_3 l1_4 l1_5).bind fun bt284 => ((impl_ClassSame.f k bt273.1 bt273.2.1 bt273.2.2.1 bt273.2.2.2.1 bt273.2.2.2.2.1 bt273.2.2.2.2.2 bt284.1 bt284.2.1 bt284.2.2.1 bt284.2.2.2.1 bt284.2.2.2.2.1 bt284.2.2.2.2.2).bind fun t295 => (if (t295 != t272) = true then (some false) else ((laws_toClass.f k a0_0 a0_1 a0_2 a0_3 l0_4 l0_5).bind fun bt296 => ((laws_eqClass.f k bt273.1 bt273.2.1 bt273.2.2.1 bt273.2.2.2.1 bt273.2.2.2.2.1 bt273.2.2.2.2.2 bt296.1 bt296.2.1 bt296.2.2.1 bt296.2.2.2.1 bt296.2.2.2.2.1 bt296.2.2.2.2.2).bind fun t306 => (if t306 = true then ((laws_toClass.f k a1_0 a1_1 a1_2 a1_3 l1_4 l1_5).bind fun bt307 => ((laws_eqClass.f k bt284.1 bt284.2.1 bt284.2.2.1 bt284.2.2.2.1 bt284.2.2.2.2.1 bt284.2.2.2.2.2 bt307.1 bt307.2.1 bt307.2.2.1 bt307.2.2.2.1 bt307.2.2.2.2.1 bt307.2.2.2.2.2).bind fun t317 => (if t317 = true then (some true) else (some false)))) else (some false))))))))) = some r := H
      have A20 := Zm A200
      clear A200
      replace H := Option.bind_eq_some_iff.mp H
      obtain ⟨t272, A210, H⟩ := H
      replace H : ((laws_toClass.f k a0_0 a0_1 a0_2 a0_3 l0_4 l0_5).bind fun bt273 => ((laws_toClass.f k a1_0 a1_1 a1_2 a1_3 l1_4 l1_5).bind fun bt284 => ((impl_ClassSame.f k bt273.1 bt273.2.1 bt273.2.2.1 bt273.2.2.2.1 bt273.2.2.2.2.1 bt273.2.2.2.2.2 bt284.1 bt284.2.1 bt284.2.2.1 bt284.2.2.2.1 bt284.2.2.2.2.1 bt284.2.2.2.2.2).bind fun t295 => (if (t295 != t272) = true then (some false) else ((laws_toClass.f k a0_0 a0_1 a0_2 a0_3 l0_4 l0_5).bind fun bt296 => ((laws_eqClass.f k bt273.1 bt273.2.1 bt273.2.2.1 bt273.2.2.2.1 bt273.2.2.2.2.1 bt273.2.2.2.2.2 bt296.1 bt296.2.1 bt296.2.2.1 bt296.2.2.2.1 bt296.2.2.2.2.1 bt296.2.2.2.2.2).bind fun t306 => (if t306 = true then ((laws_toClass.f k a1_0 a1_1 a1_2 a1_3 l1_4 l1_5).bind fun bt307 => ((laws_eqClass.f k bt284.1 bt284.2.1 bt284.2.2.1 bt284.2.2.2.1 bt284.2.2.2.2.1 bt284.2.2.2.2.2 bt307.1 bt307.2.1 bt307.2.2.1 bt307.2.2.2.1 bt307.2.2.2.2.1 bt307.2.2.2.2.2).bind fun t317 => (if t317 = true then (some true) else (some false)))) else (some false)))))))) = some r := H
      have A21 := Zm A210
      clear A210
      replace H := Option.bind_eq_some_iff.mp H
      obtain ⟨⟨t273, t274, t275, t276, t277, t280⟩, A220, H⟩ := H
      replace H : ((laws_toClass.f k a1_0 a1_1 a1_2 a1_3 l1_4 l1_5).bind fun bt284 => ((impl_ClassSame.f k t273 t274 t275 t276 t277 t280 bt284.1 bt284.2.1 bt284.2.2.1 bt284.2.2.2.1 bt284.2.2.2.2.1 bt284.2.2.2.2.2).bind fun t295 => (if (t295 != t272) = true then (some false) else ((laws_toClass.f k a0_0 a0_1 a0_2 a0_3 l0_4 l0_5).bind fun bt296 => ((laws_eqClass.f k t273 t274 t275 t276 t277 t280 bt296.1 bt296.2.1 bt296.2.2.1 bt296.2.2.2.1 bt296.2.2.2.2.1 bt296.2.2.2.2.2).bind fun t306 => (if t306 = true then ((laws_toClass.f k a1_0 a1_1 a1_2 a1_3 l1_4 l1_5).bind fun bt307 => ((laws_eqClass.f k bt284.1 bt284.2.1 bt284.2.2.1 bt284.2.2.2.1 bt284.2.2.2.2.1 bt284.2.2.2.2.2 bt307.1 bt307.2.1 bt307.2.2.1 bt307.2.2.2.1 bt307.2.2.2.2.1 bt307.2.2.2.2.2).bind fun t317 => (if t317 = true then (some true) else (some false)))) else (some false))))))) = some r := H
      have A22 := Zm A220
      clear A220
      replace H := Option.bind_eq_some_iff.mp H
      obtain ⟨⟨t284, t285, t286, t287, t288, t291⟩, A230, H⟩ := H
      replace H : ((impl_ClassSame.f k t273 t274 t275 t276 t277 t280 t284 t285 t286 t287 t288 t291).bind fun t295 => (if (t295 != t272) = true then (some false) else ((laws_toClass.f k a0_0 a0_1 a0_2 a0_3 l0_4 l0_5).bind fun bt296 => ((laws_eqClass.f k t273 t274 t275 t276 t277 t280 bt296.1 bt296.2.1 bt296.2.2.1 bt296.2.2.2.1 bt296.2.2.2.2.1 bt296.2.2.2.2.2).bind fun t306 => (if t306 = true then ((laws_toClass.f k a1_0 a1_1 a1_2 a1_3 l1_4 l1_5).bind fun bt307 => ((laws_eqClass.f k t284 t285 t286 t287 t288 t291 bt307.1 bt307.2.1 bt307.2.2.1 bt307.2.2.2.1 bt307.2.2.2.2.1 bt307.2.2.2.2.2).bind fun t317 => (if t317 = true then (some true) else (some false)))) else (some false)))))) = some r := H
      have A23 := Zm A230
      clear A230
      replace H := Option.bind_eq_some_iff.mp H
      obtain ⟨t295, A240, H⟩ := H
      replace H : (if (t295 != t272) = true then (some false) else ((laws_toClass.f k a0_0 a0_1 a0_2 a0_3 l0_4 l0_5).bind fun bt296 => ((laws_eqClass.f k t273 t274 t275 t276 t277 t280 bt296.1 bt296.2.1 bt296.2.2.1 bt296.2.2.2.1 bt296.2.2.2.2.1 bt296.2.2.2.2.2).bind fun t306 => (if t306 = true then ((laws_toClass.f k a1_0 a1_1 a1_2 a1_3 l1_4 l1_5).bind fun bt307 => ((laws_eqClass.f k t284 t285 t286 t287 t288 t291 bt307.1 bt307.2.1 bt307.2.2.1 bt307.2.2.2.1 bt307.2.2.2.2.1 bt307.2.2.2.2.2).bind fun t317 => (if t317 = true then (some true) else (some false)))) else (some false))))) = some r := H
      have A24 := Zm A240
      clear A240
      by_cases c25 : (t295 != t272) = true
      rotate_left
      · rw [if_neg c25] at H
        have c25b0 : (t295 != t272) = false := by simpa using c25
        (try (have c25b1 : decide (t295 = t272) = true := by simpa using c25))
        (try (have c25b2 : (t295 == t272) = true := by simpa using c25))
        clear c25
        replace H := Option.bind_eq_some_iff.mp H
        obtain ⟨⟨t296, t297, t298, t299, t300, t303⟩, A260, H⟩ := H
        replace H : ((laws_eqClass.f k t273 t274 t275 t276 t277 t280 t296 t297 t298 t299 t300 t303).bind fun t306 => (if t306 = true then ((laws_toClass.f k a1_0 a1_1 a1_2 a1_3 l1_4 l1_5).bind fun bt307 => ((laws_eqClass.f k t284 t285 t286 t287 t288 t291 bt307.1 bt307.2.1 bt307.2.2.1 bt307.2.2.2.1 bt307.2.2.2.2.1 bt307.2.2.2.2.2).bind fun t317 => (if t317 = true then (some true) else (some false)))) else (some false))) = some r := H
        have A26 := Zm A260
        clear A260
        replace H := Option.bind_eq_some_iff.mp H
        obtain ⟨t306, A270, H⟩ := H
        replace H : (if t306 = true then ((laws_toClass.f k a1_0 a1_1 a1_2 a1_3 l1_4 l1_5).bind fun bt307 => ((laws_eqClass.f k t284 t285 t286 t287 t288 t291 bt307.1 bt307.2.1 bt307.2.2.1 bt307.2.2.2.1 bt307.2.2.2.2.1 bt307.2.2.2.2.2).bind fun t317 => (if t317 = true then (some true) else (some false)))) else (some false)) = some r := H
        have A27 := Zm A270
        clear A270
        by_cases c28 : t306 = true
        rotate_left
        · replace c28 := Bool.eq_false_iff.mpr c28
          subst c28
          have H1 : (some false) = some r := by rw [if_neg (show ¬ (false = true) by decide)] at H; exact H
          clear H
          have H := H1
          clear H1
          exact absurd (H.trans (congrArg some hT_)) (by simp)
        subst c28
        have H1 : ((laws_toClass.f k a1_0 a1_1 a1_2 a1_3 l1_4 l1_5).bind fun bt307 => ((laws_eqClass.f k t284 t285 t286 t287 t288 t291 bt307.1 bt307.2.1 bt307.2.2.1 bt307.2.2.2.1 bt307.2.2.2.2.1 bt307.2.2.2.2.2).bind fun t317 => (if t317 = true then (some true) else (some false)))) = some r := by rw [if_pos rfl] at H; exact H
        clear H
        have H := H1
        clear H1
        replace H := Option.bind_eq_some_iff.mp H
        obtain ⟨⟨t307, t308, t309, t310, t311, t314⟩, A290, H⟩ := H
        replace H : ((laws_eqClass.f k t284 t285 t286 t287 t288 t291 t307 t308 t309 t310 t311 t314).bind fun t317 => (if t317 = true then (some true) else (some false))) = some r := H
        have A29 := Zm A290
        clear A290
        replace H := Option.bind_eq_some_iff.mp H
        obtain ⟨t317, A300, H⟩ := H
        replace H : (if t317 = true then (some true) else (some false)) = some r := H
        have A30 := Zm A300
        clear A300
        by_cases c31 : t317 = true
        rotate_left
        · replace c31 := Bool.eq_false_iff.mpr c31
          subst c31
          have H1 : (some false) = some r := by rw [if_neg (show ¬ (false = true) by decide)] at H; exact H
          clear H
          have H := H1
          clear H1
          exact absurd (H.trans (congrArg some hT_)) (by simp)
        subst c31
        have H1 : (some true) = some r := by rw [if_pos rfl] at H; exact H
        clear H
        have H := H1
        clear H1
        clear hT_
        obtain rfl := Option.some.inj H
        go_enter Try.func5, Try.ntmps5
        try go_wp2_with (first | ((with_reducible refine gate_dst (N := 2) rfl ?_); refine box_event ?hg (N := 2) ?hd (cs := #[.string a0_0, .string a0_1, .bool a0_2, .bool a0_3, .slice A0_4 l0_4.length c0_4, .slice A0_5 l0_5.length c0_5]) (t := 45) ?hr ?_; (case hd => rfl); (case hg => rfl); (case hr => first | (go_simp; done) | (go_simp; rfl)); intro gb248 hg w32 hbox hb; have n0_ := Zm (Zbt (by repeat (first | (with_reducible first | exact HB.out | apply Zba | apply Zbn | apply Zbd) | exact HB.out)) hb); have n1_ := Zm (hbox); have n2_ := Zm ((by rw [hg]; exact (Zbz (by repeat (first | (with_reducible first | exact HB.out | apply Zba | apply Zbn | apply Zbd) | exact HB.out))) : w.heap.size ≤ gb248)); have n3_ := Zm ((by rw [hg]; exact (Zbz (by repeat (first | (with_reducible first | exact HB.out | apply Zba | apply Zbn | apply Zbd) | exact HB.out))) : w.heap.size ≤ gb248)); clear HB; have HB := n0_; have BK248 := n1_; have GW248 := n2_; have GE248 := n3_; clear n0_ n1_ n2_ n3_; clear hb hbox hg) | ((with_reducible refine gate_dst (N := 3) rfl ?_); refine box_event ?hg (N := 3) ?hd (cs := #[.string a1_0, .string a1_1, .bool a1_2, .bool a1_3, .slice A1_4 l1_4.length c1_4, .slice A1_5 l1_5.length c1_5]) (t := 45) ?hr ?_; (case hd => rfl); (case hg => rfl); (case hr => first | (go_simp; done) | (go_simp; rfl)); intro gb249 hg w33 hbox hb; have n0_ := Zm (Zkb (g := gb248) (o := .cells #[.string a0_0, .string a0_1, .bool a0_2, .bool a0_3, .slice A0_4 l0_4.length c0_4, .slice A0_5 l0_5.length c0_5] 45 (0, 0)) (by (with_reducible repeat (first | refine Zkn ?_ _ | refine Zkd ?_ | refine Zka ?_ _)); exact BK248.out) hb); have n1_ := Zm (Zbt (by repeat (first | (with_reducible first | exact HB.out | apply Zba | apply Zbn | apply Zbd | refine Zbs ?_ GE248.out) | exact HB.out)) hb); have n2_ := Zm (hbox); have n3_ := Zm ((by rw [hg]; exact (Zbz (by repeat (first | (with_reducible first | exact HB.out | apply Zba | apply Zbn | apply Zbd | refine Zbs ?_ GE248.out) | exact HB.out))) : w.heap.size ≤ gb249)); have n4_ := Zm ((by rw [hg]; exact (Zbz (by repeat (first | (with_reducible first | exact HB.out | apply Zba | apply Zbn | apply Zbd | refine Zbs ?_ GE248.out) | exact HB.out))) : w.heap.size ≤ gb249)); have n5_ := Zm ((by rw [hg]; exact Nat.ne_of_lt (blk_lt (g := gb248) (o := .cells #[.string a0_0, .string a0_1, .bool a0_2, .bool a0_3, .slice A0_4 l0_4.length c0_4, .slice A0_5 l0_5.length c0_5] 45 (0, 0)) (by (with_reducible repeat (first | refine Zkn ?_ _ | refine Zkd ?_ | refine Zka ?_ _)); exact BK248.out)) : gb248 ≠ gb249)); have n6_ := Zm ((by rw [hg]; exact Nat.ne_of_gt (blk_lt (g := gb248) (o := .cells #[.string a0_0, .string a0_1, .bool a0_2, .bool a0_3, .slice A0_4 l0_4.length c0_4, .slice A0_5 l0_5.length c0_5] 45 (0, 0)) (by (with_reducible repeat (first | refine Zkn ?_ _ | refine Zkd ?_ | refine Zka ?_ _)); exact BK248.out)) : gb249 ≠ gb248)); clear BK248; clear HB; have BK248 := n0_; have HB := n1_; have BK249 := n2_; have GW249 := n3_; have GE249 := n4_; have NB248_249 := n5_; have NB249_248 := n6_; clear n0_ n1_ n2_ n3_ n4_ n5_ n6_; clear hb hbox hg; have hnb34 := NB248_249.out; have hnc34 := NB249_248.out; have hcz35_0 : w33.cell? ⟨gb248, 0, none⟩ = some (.string a0_0) := (Zkc BK248.out 0).trans rfl; have hcz35_1 : w33.cell? ⟨gb248, 1, none⟩ = some (.string a0_1) := (Zkc BK248.out 1).trans rfl; have hcz35_2 : w33.cell? ⟨gb248, 2, none⟩ = some (.bool a0_2) := (Zkc BK248.out 2).trans rfl; have hcz35_3 : w33.cell? ⟨gb248, 3, none⟩ = some (.bool a0_3) := (Zkc BK248.out 3).trans rfl; have hcz35_4 : w33.cell? ⟨gb248, 4, none⟩ = some (.slice A0_4 l0_4.length c0_4) := (Zkc BK248.out 4).trans rfl; have hcz35_5 : w33.cell? ⟨gb248, 5, none⟩ = some (.slice A0_5 l0_5.length c0_5) := (Zkc BK248.out 5).trans rfl; have hfz35_5 := Zkf BK248.out 5) | ((with_reducible refine gate_callee (f := 20) rfl ?_); refine goesL_ (some 12) rfl rfl Try.func20 (by kernel_rfl) rfl #[.agg #[.string a0_0, .string a0_1, .bool a0_2, .bool a0_3, .slice A0_4 l0_4.length c0_4, .slice A0_5 l0_5.length c0_5], .int .i64 1048576] rfl (by (try simp only [List.map_toArray, List.map_cons, List.map_nil]); first | done | rfl | (simp only [List.length_drop, List.length_take]; rfl)) ?_; (with_reducible refine (laws_szClass.calls k a0_0 a0_1 a0_2 a0_3 _ _ l0_4 _ _ l0_5 1048576 t250 _ ?side1 ?side2 ?side3 ?side4 A3.out).mono ?_); (case side1 => repeat (first | exact (Kd.C_below HR0_4.out HB.out) | (with_reducible refine Kd.C_alloc ?_ _) | (with_reducible refine Kd.C_drewN ?_ _) | (with_reducible refine Kd.C_drew ?_))); (case side2 => exact HC0_4.out); (case side3 => repeat (first | exact (Kd.C_below HR0_5.out HB.out) | (with_reducible refine Kd.C_alloc ?_ _) | (with_reducible refine Kd.C_drewN ?_ _) | (with_reducible refine Kd.C_drew ?_))); (case side4 => exact HC0_5.out); rintro e w36 ⟨rfl, hb⟩; refine ⟨_, rfl, ?_⟩; have n0_ := Zm (Zkb (g := gb248) (o := .cells #[.string a0_0, .string a0_1, .bool a0_2, .bool a0_3, .slice A0_4 l0_4.length c0_4, .slice A0_5 l0_5.length c0_5] 45 (0, 0)) (by (with_reducible repeat (first | refine Zkn ?_ _ | refine Zkd ?_ | refine Zka ?_ _)); exact BK248.out) hb); have n1_ := Zm (Zkb (g := gb249) (o := .cells #[.string a1_0, .string a1_1, .bool a1_2, .bool a1_3, .slice A1_4 l1_4.length c1_4, .slice A1_5 l1_5.length c1_5] 45 (0, 0)) (by (with_reducible repeat (first | refine Zkn ?_ _ | refine Zkd ?_ | refine Zka ?_ _)); exact BK249.out) hb); have n2_ := Zm (Zbt (by repeat (first | (with_reducible first | exact HB.out | apply Zba | apply Zbn | apply Zbd | refine Zbs ?_ GE248.out | refine Zbs ?_ GE249.out) | exact HB.out)) hb); clear BK248; clear BK249; clear HB; have BK248 := n0_; have BK249 := n1_; have HB := n2_; clear n0_ n1_ n2_; (try clear hb); (try clear hb2); (try clear hk); (try clear hi); have hcz37_0 : w36.cell? ⟨gb249, 0, none⟩ = some (.string a1_0) := (Zkc BK249.out 0).trans rfl; have hcz37_1 : w36.cell? ⟨gb249, 1, none⟩ = some (.string a1_1) := (Zkc BK249.out 1).trans rfl; have hcz37_2 : w36.cell? ⟨gb249, 2, none⟩ = some (.bool a1_2) := (Zkc BK249.out 2).trans rfl; have hcz37_3 : w36.cell? ⟨gb249, 3, none⟩ = some (.bool a1_3) := (Zkc BK249.out 3).trans rfl; have hcz37_4 : w36.cell? ⟨gb249, 4, none⟩ = some (.slice A1_4 l1_4.length c1_4) := (Zkc BK249.out 4).trans rfl; have hcz37_5 : w36.cell? ⟨gb249, 5, none⟩ = some (.slice A1_5 l1_5.length c1_5) := (Zkc BK249.out 5).trans rfl; have hfz37_5 := Zkf BK249.out 5) | ((with_reducible refine gate_callee (f := 20) rfl ?_); refine goesL_ (some 17) rfl rfl Try.func20 (by kernel_rfl) rfl #[.agg #[.string a1_0, .string a1_1, .bool a1_2, .bool a1_3, .slice A1_4 l1_4.length c1_4, .slice A1_5 l1_5.length c1_5], .int .i64 t250] rfl (by (try simp only [List.map_toArray, List.map_cons, List.map_nil]); first | done | rfl | (simp only [List.length_drop, List.length_take]; rfl)) ?_; (with_reducible refine (laws_szClass.calls k a1_0 a1_1 a1_2 a1_3 _ _ l1_4 _ _ l1_5 t250 t251 _ ?side1 ?side2 ?side3 ?side4 A10.out).mono ?_); (case side1 => repeat (first | exact (Kd.C_below HR1_4.out HB.out) | (with_reducible refine Kd.C_alloc ?_ _) | (with_reducible refine Kd.C_drewN ?_ _) | (with_reducible refine Kd.C_drew ?_))); (case side2 => exact HC1_4.out); (case side3 => repeat (first | exact (Kd.C_below HR1_5.out HB.out) | (with_reducible refine Kd.C_alloc ?_ _) | (with_reducible refine Kd.C_drewN ?_ _) | (with_reducible refine Kd.C_drew ?_))); (case side4 => exact HC1_5.out); rintro e w38 ⟨rfl, hb⟩; refine ⟨_, rfl, ?_⟩; have n0_ := Zm (Zkb (g := gb248) (o := .cells #[.string a0_0, .string a0_1, .bool a0_2, .bool a0_3, .slice A0_4 l0_4.length c0_4, .slice A0_5 l0_5.length c0_5] 45 (0, 0)) (by (with_reducible repeat (first | refine Zkn ?_ _ | refine Zkd ?_ | refine Zka ?_ _)); exact BK248.out) hb); have n1_ := Zm (Zkb (g := gb249) (o := .cells #[.string a1_0, .string a1_1, .bool a1_2, .bool a1_3, .slice A1_4 l1_4.length c1_4, .slice A1_5 l1_5.length c1_5] 45 (0, 0)) (by (with_reducible repeat (first | refine Zkn ?_ _ | refine Zkd ?_ | refine Zka ?_ _)); exact BK249.out) hb); have n2_ := Zm (Zbt (by repeat (first | (with_reducible first | exact HB.out | apply Zba | apply Zbn | apply Zbd | refine Zbs ?_ GE248.out | refine Zbs ?_ GE249.out) | exact HB.out)) hb); clear BK248; clear BK249; clear HB; have BK248 := n0_; have BK249 := n1_; have HB := n2_; clear n0_ n1_ n2_; (try clear hb); (try clear hb2); (try clear hk); (try clear hi)))
        have n0_ := Zm (Zkd BK248.out)
        have n1_ := Zm (Zkd BK249.out)
        have n2_ := Zm (Zbd HB.out)
        clear BK248
        clear BK249
        clear HB
        have BK248 := n0_
        have BK249 := n1_
        have HB := n2_
        clear n0_ n1_ n2_
        refine start_ (n := 6) (S := fun w' => w'.cell? ⟨gb248, 0, none⟩ = some (.string a0_0) ∧ w'.cell? ⟨gb248, 1, none⟩ = some (.string a0_1) ∧ w'.cell? ⟨gb248, 2, none⟩ = some (.bool a0_2) ∧ w'.cell? ⟨gb248, 3, none⟩ = some (.bool a0_3) ∧ w'.cell? ⟨gb248, 4, none⟩ = some (.slice A0_4 l0_4.length c0_4) ∧ w'.cell? ⟨gb248, 5, none⟩ = some (.slice A0_5 l0_5.length c0_5) ∧ w'.cell? ⟨gb249, 0, none⟩ = some (.string a1_0) ∧ w'.cell? ⟨gb249, 1, none⟩ = some (.string a1_1) ∧ w'.cell? ⟨gb249, 2, none⟩ = some (.bool a1_2) ∧ w'.cell? ⟨gb249, 3, none⟩ = some (.bool a1_3) ∧ w'.cell? ⟨gb249, 4, none⟩ = some (.slice A1_4 l1_4.length c1_4) ∧ w'.cell? ⟨gb249, 5, none⟩ = some (.slice A1_5 l1_5.length c1_5)) (ds := []) #[false, false, false, false, false, false] (by kernel_rfl) rfl rfl ⟨(Zkc BK248.out 0).trans rfl, (Zkc BK248.out 1).trans rfl, (Zkc BK248.out 2).trans rfl, (Zkc BK248.out 3).trans rfl, (Zkc BK248.out 4).trans rfl, (Zkc BK248.out 5).trans rfl, (Zkc BK249.out 0).trans rfl, (Zkc BK249.out 1).trans rfl, (Zkc BK249.out 2).trans rfl, (Zkc BK249.out 3).trans rfl, (Zkc BK249.out 4).trans rfl, (Zkc BK249.out 5).trans rfl⟩ (fun hHeld => ?_)
        generalize w38.drew = w39 at BK248 BK249 HB hHeld ⊢
        refine take_ (i := 0) (N := some 20) (v := ?_) (a' := ?_) #[true, false, false, false, false, false] rfl rfl (by kernel_rfl) (fun _ _ _ h => h) (Or.inl ⟨by rfl, ?_⟩) hHeld ?_ ?_
        rotate_left
        · rintro w' ⟨s0, s1, s2, s3, s4, s5, s6, s7, s8, s9, s10, s11⟩
          go_simp
          with_reducible rfl
        rotate_left
        · simp only [Act.put, List.setIfInBounds_toArray, List.set_cons_zero, List.set_cons_succ, i64_w, i32_w]
          rfl
        refine take_ (i := 2) (N := some 22) (v := ?_) (a' := ?_) #[true, false, true, false, false, false] rfl rfl (by kernel_rfl) (fun _ _ _ h => h) (Or.inl ⟨by rfl, ?_⟩) hHeld ?_ ?_
        rotate_left
        · rintro w' ⟨s0, s1, s2, s3, s4, s5, s6, s7, s8, s9, s10, s11⟩
          go_simp
          with_reducible rfl
        rotate_left
        · simp only [Act.put, List.setIfInBounds_toArray, List.set_cons_zero, List.set_cons_succ, i64_w, i32_w]
          rfl
        refine one_ (i := 1) (N := some 21) #[true, true, true, false, false, false] rfl rfl (by kernel_rfl) (by decide) (fun K hK => ?_)
        refine goes_ Try.func22 (by kernel_rfl) rfl #[.agg #[.string a0_0, .string a0_1, .bool a0_2, .bool a0_3, .slice A0_4 l0_4.length c0_4, .slice A0_5 l0_5.length c0_5]] (by rfl) rfl rfl (by (try simp only [List.map_toArray, List.map_cons, List.map_nil]); first | done | rfl | (simp only [List.length_drop, List.length_take]; rfl)) ?_
        with_reducible refine (laws_toClass.calls k a0_0 a0_1 a0_2 a0_3 _ _ l0_4 _ _ l0_5 t252 t253 t254 t255 t256 t259 _ ?side1 ?side2 ?side3 ?side4 A19.out).mono ?_
        (case side1 => repeat (first | exact (Kd.C_below HR0_4.out HB.out) | (with_reducible refine Kd.C_alloc ?_ _) | (with_reducible refine Kd.C_drewN ?_ _) | (with_reducible refine Kd.C_drew ?_)))
        (case side2 => exact HC0_4.out)
        (case side3 => repeat (first | exact (Kd.C_below HR0_5.out HB.out) | (with_reducible refine Kd.C_alloc ?_ _) | (with_reducible refine Kd.C_drewN ?_ _) | (with_reducible refine Kd.C_drew ?_)))
        (case side4 => exact HC0_5.out)
        rintro e w40 ⟨v257, v260, rfl, ho0, ho1, hb⟩
        refine ⟨_, rfl, ?_⟩
        have n0_ := Zm (Kd.R_lower ho0 (Zbz (by repeat (first | (with_reducible first | exact HB.out | apply Zba | apply Zbn | apply Zbd | refine Zbs ?_ GE248.out | refine Zbs ?_ GE249.out) | exact HB.out))))
        have n1_ := Zm (Kd.S_lower ho1 (Zbz (by repeat (first | (with_reducible first | exact HB.out | apply Zba | apply Zbn | apply Zbd | refine Zbs ?_ GE248.out | refine Zbs ?_ GE249.out) | exact HB.out))))
        have n2_ := Zm (Zkb (g := gb248) (o := .cells #[.string a0_0, .string a0_1, .bool a0_2, .bool a0_3, .slice A0_4 l0_4.length c0_4, .slice A0_5 l0_5.length c0_5] 45 (0, 0)) (by (with_reducible repeat (first | refine Zkn ?_ _ | refine Zkd ?_ | refine Zka ?_ _)); exact BK248.out) hb)
        have n3_ := Zm (Zkb (g := gb249) (o := .cells #[.string a1_0, .string a1_1, .bool a1_2, .bool a1_3, .slice A1_4 l1_4.length c1_4, .slice A1_5 l1_5.length c1_5] 45 (0, 0)) (by (with_reducible repeat (first | refine Zkn ?_ _ | refine Zkd ?_ | refine Zka ?_ _)); exact BK249.out) hb)
        have n4_ := Zm (Zbt (by repeat (first | (with_reducible first | exact HB.out | apply Zba | apply Zbn | apply Zbd | refine Zbs ?_ GE248.out | refine Zbs ?_ GE249.out) | exact HB.out)) hb)
        clear BK248
        clear BK249
        clear HB
        have HO258 := n0_
        have HO261 := n1_
        have BK248 := n2_
        have BK249 := n3_
        have HB := n4_
        clear n0_ n1_ n2_ n3_ n4_
        (try clear hb)
        (try clear hb2)
        (try clear hk)
        (try clear hi)
        (try clear ho0)
        (try clear ho1)
        refine hK.out _ _ ⟨(Zkc BK248.out 0).trans rfl, (Zkc BK248.out 1).trans rfl, (Zkc BK248.out 2).trans rfl, (Zkc BK248.out 3).trans rfl, (Zkc BK248.out 4).trans rfl, (Zkc BK248.out 5).trans rfl, (Zkc BK249.out 0).trans rfl, (Zkc BK249.out 1).trans rfl, (Zkc BK249.out 2).trans rfl, (Zkc BK249.out 3).trans rfl, (Zkc BK249.out 4).trans rfl, (Zkc BK249.out 5).trans rfl⟩ (fun hHeld => ?_)
        clear hK K
        refine norm_ (a' := ?_) ?_ ?_
        rotate_left
        · show Act.put _ (some 21) _ = _
          simp only [Act.put, List.setIfInBounds_toArray, List.set_cons_zero, List.set_cons_succ, i64_w, i32_w]
          rfl
        refine one_ (i := 3) (N := some 23) #[true, true, true, true, false, false] rfl rfl (by kernel_rfl) (by decide) (fun K hK => ?_)
        refine goes_ Try.func22 (by kernel_rfl) rfl #[.agg #[.string a1_0, .string a1_1, .bool a1_2, .bool a1_3, .slice A1_4 l1_4.length c1_4, .slice A1_5 l1_5.length c1_5]] (by rfl) rfl rfl (by (try simp only [List.map_toArray, List.map_cons, List.map_nil]); first | done | rfl | (simp only [List.length_drop, List.length_take]; rfl)) ?_
        with_reducible refine (laws_toClass.calls k a1_0 a1_1 a1_2 a1_3 _ _ l1_4 _ _ l1_5 t262 t263 t264 t265 t266 t269 _ ?side1 ?side2 ?side3 ?side4 A20.out).mono ?_
        (case side1 => repeat (first | exact (Kd.C_below HR1_4.out HB.out) | (with_reducible refine Kd.C_alloc ?_ _) | (with_reducible refine Kd.C_drewN ?_ _) | (with_reducible refine Kd.C_drew ?_)))
        (case side2 => exact HC1_4.out)
        (case side3 => repeat (first | exact (Kd.C_below HR1_5.out HB.out) | (with_reducible refine Kd.C_alloc ?_ _) | (with_reducible refine Kd.C_drewN ?_ _) | (with_reducible refine Kd.C_drew ?_)))
        (case side4 => exact HC1_5.out)
        rintro e w41 ⟨v267, v270, rfl, ho0, ho1, hb⟩
        refine ⟨_, rfl, ?_⟩
        have n0_ := Zm (Kd.R_elder' (by (with_reducible repeat (first | apply Kd.R_alloc | apply Kd.R_drewN | apply Kd.R_drew)); exact HO258.out) (Kd.R_base ho0) hb)
        have n1_ := Zm (Kd.S_elder' (by (with_reducible repeat (first | apply Kd.S_alloc | apply Kd.S_drewN | apply Kd.S_drew)); exact HO261.out) (Kd.S_base ho1) hb)
        have n2_ := Zm (Kd.R_lower (Kd.R_new' ho0 (Kd.R_lt (by (with_reducible repeat (first | apply Kd.R_alloc | apply Kd.R_drewN | apply Kd.R_drew)); exact HO258.out))) (Zbz (by repeat (first | (with_reducible first | exact HB.out | apply Zba | apply Zbn | apply Zbd | refine Zbs ?_ GE248.out | refine Zbs ?_ GE249.out) | exact HB.out))))
        have n3_ := Zm (Kd.S_lower (Kd.S_new' ho1 (Kd.S_lt (by (with_reducible repeat (first | apply Kd.S_alloc | apply Kd.S_drewN | apply Kd.S_drew)); exact HO261.out))) (Zbz (by repeat (first | (with_reducible first | exact HB.out | apply Zba | apply Zbn | apply Zbd | refine Zbs ?_ GE248.out | refine Zbs ?_ GE249.out) | exact HB.out))))
        have n4_ := Zm (Zkb (g := gb248) (o := .cells #[.string a0_0, .string a0_1, .bool a0_2, .bool a0_3, .slice A0_4 l0_4.length c0_4, .slice A0_5 l0_5.length c0_5] 45 (0, 0)) (by (with_reducible repeat (first | refine Zkn ?_ _ | refine Zkd ?_ | refine Zka ?_ _)); exact BK248.out) hb)
        have n5_ := Zm (Zkb (g := gb249) (o := .cells #[.string a1_0, .string a1_1, .bool a1_2, .bool a1_3, .slice A1_4 l1_4.length c1_4, .slice A1_5 l1_5.length c1_5] 45 (0, 0)) (by (with_reducible repeat (first | refine Zkn ?_ _ | refine Zkd ?_ | refine Zka ?_ _)); exact BK249.out) hb)
        have n6_ := Zm (Zbt (by repeat (first | (with_reducible first | exact HB.out | apply Zba | apply Zbn | apply Zbd | refine Zbs ?_ GE248.out | refine Zbs ?_ GE249.out) | exact HB.out)) hb)
        clear HO258
        clear HO261
        clear BK248
        clear BK249
        clear HB
        have HO258 := n0_
        have HO261 := n1_
        have HO268 := n2_
        have HO271 := n3_
        have BK248 := n4_
        have BK249 := n5_
        have HB := n6_
        clear n0_ n1_ n2_ n3_ n4_ n5_ n6_
        (try clear hb)
        (try clear hb2)
        (try clear hk)
        (try clear hi)
        (try clear ho0)
        (try clear ho1)
        obtain ⟨Ao42, co42, eo42⟩ := Kd.R_slice HO258.out
        (first | subst eo42 | (injection eo42 with f1_ f2_ f3_; have f4_ := f1_.symm; have f5_ := f3_.symm; clear f1_ f2_ f3_; subst f4_; subst f5_))
        obtain ⟨Ao43, co43, eo43⟩ := Kd.S_slice HO261.out
        (first | subst eo43 | (injection eo43 with f1_ f2_ f3_; have f4_ := f1_.symm; have f5_ := f3_.symm; clear f1_ f2_ f3_; subst f4_; subst f5_))
        obtain ⟨Ao44, co44, eo44⟩ := Kd.R_slice HO268.out
        (first | subst eo44 | (injection eo44 with f1_ f2_ f3_; have f4_ := f1_.symm; have f5_ := f3_.symm; clear f1_ f2_ f3_; subst f4_; subst f5_))
        obtain ⟨Ao45, co45, eo45⟩ := Kd.S_slice HO271.out
        (first | subst eo45 | (injection eo45 with f1_ f2_ f3_; have f4_ := f1_.symm; have f5_ := f3_.symm; clear f1_ f2_ f3_; subst f4_; subst f5_))
        refine hK.out _ _ ⟨(Zkc BK248.out 0).trans rfl, (Zkc BK248.out 1).trans rfl, (Zkc BK248.out 2).trans rfl, (Zkc BK248.out 3).trans rfl, (Zkc BK248.out 4).trans rfl, (Zkc BK248.out 5).trans rfl, (Zkc BK249.out 0).trans rfl, (Zkc BK249.out 1).trans rfl, (Zkc BK249.out 2).trans rfl, (Zkc BK249.out 3).trans rfl, (Zkc BK249.out 4).trans rfl, (Zkc BK249.out 5).trans rfl⟩ (fun hHeld => ?_)
        clear hK K
        refine norm_ (a' := ?_) ?_ ?_
        rotate_left
        · show Act.put _ (some 23) _ = _
          simp only [Act.put, List.setIfInBounds_toArray, List.set_cons_zero, List.set_cons_succ, i64_w, i32_w]
          rfl
        refine one_ (i := 4) (N := some 24) #[true, true, true, true, true, false] rfl rfl (by kernel_rfl) (by decide) (fun K hK => ?_)
        refine goes_ Try.func21 (by kernel_rfl) rfl #[.agg #[.string t252, .string t253, .bool t254, .bool t255, .slice Ao42 t256.length co42, .slice Ao43 t259.length co43], .agg #[.string t262, .string t263, .bool t264, .bool t265, .slice Ao44 t266.length co44, .slice Ao45 t269.length co45]] (by rfl) rfl rfl (by (try simp only [List.map_toArray, List.map_cons, List.map_nil]); first | done | rfl | (simp only [List.length_drop, List.length_take]; rfl)) ?_
        with_reducible refine (spec_ClassSame.calls k t252 t253 t254 t255 _ _ t256 _ _ t259 t262 t263 t264 t265 _ _ t266 _ _ t269 t272 _ ?side1 ?side2 ?side3 ?side4 ?side5 ?side6 ?side7 ?side8 A21.out).mono ?_
        (case side1 => repeat (first | exact (Kd.R_reads' HO258.out).2.2 | (with_reducible refine Kd.C_alloc ?_ _) | (with_reducible refine Kd.C_drewN ?_ _) | (with_reducible refine Kd.C_drew ?_)))
        (case side2 => exact (Kd.R_reads' HO258.out).2.1)
        (case side3 => repeat (first | exact (Kd.S_reads' HO261.out).2.2 | (with_reducible refine Kd.C_alloc ?_ _) | (with_reducible refine Kd.C_drewN ?_ _) | (with_reducible refine Kd.C_drew ?_)))
        (case side4 => exact (Kd.S_reads' HO261.out).2.1)
        (case side5 => repeat (first | exact (Kd.R_reads' HO268.out).2.2 | (with_reducible refine Kd.C_alloc ?_ _) | (with_reducible refine Kd.C_drewN ?_ _) | (with_reducible refine Kd.C_drew ?_)))
        (case side6 => exact (Kd.R_reads' HO268.out).2.1)
        (case side7 => repeat (first | exact (Kd.S_reads' HO271.out).2.2 | (with_reducible refine Kd.C_alloc ?_ _) | (with_reducible refine Kd.C_drewN ?_ _) | (with_reducible refine Kd.C_drew ?_)))
        (case side8 => exact (Kd.S_reads' HO271.out).2.1)
        rintro e w46 ⟨rfl, hb⟩
        refine ⟨_, rfl, ?_⟩
        have n0_ := Zm (Kd.R_below (by (with_reducible repeat (first | apply Kd.R_alloc | apply Kd.R_drewN | apply Kd.R_drew)); exact HO258.out) hb)
        have n1_ := Zm (Kd.S_below (by (with_reducible repeat (first | apply Kd.S_alloc | apply Kd.S_drewN | apply Kd.S_drew)); exact HO261.out) hb)
        have n2_ := Zm (Kd.R_below (by (with_reducible repeat (first | apply Kd.R_alloc | apply Kd.R_drewN | apply Kd.R_drew)); exact HO268.out) hb)
        have n3_ := Zm (Kd.S_below (by (with_reducible repeat (first | apply Kd.S_alloc | apply Kd.S_drewN | apply Kd.S_drew)); exact HO271.out) hb)
        have n4_ := Zm (Zkb (g := gb248) (o := .cells #[.string a0_0, .string a0_1, .bool a0_2, .bool a0_3, .slice A0_4 l0_4.length c0_4, .slice A0_5 l0_5.length c0_5] 45 (0, 0)) (by (with_reducible repeat (first | refine Zkn ?_ _ | refine Zkd ?_ | refine Zka ?_ _)); exact BK248.out) hb)
        have n5_ := Zm (Zkb (g := gb249) (o := .cells #[.string a1_0, .string a1_1, .bool a1_2, .bool a1_3, .slice A1_4 l1_4.length c1_4, .slice A1_5 l1_5.length c1_5] 45 (0, 0)) (by (with_reducible repeat (first | refine Zkn ?_ _ | refine Zkd ?_ | refine Zka ?_ _)); exact BK249.out) hb)
        have n6_ := Zm (Zbt (by repeat (first | (with_reducible first | exact HB.out | apply Zba | apply Zbn | apply Zbd | refine Zbs ?_ GE248.out | refine Zbs ?_ GE249.out) | exact HB.out)) hb)
        clear HO258
        clear HO261
        clear HO268
        clear HO271
        clear BK248
        clear BK249
        clear HB
        have HO258 := n0_
        have HO261 := n1_
        have HO268 := n2_
        have HO271 := n3_
        have BK248 := n4_
        have BK249 := n5_
        have HB := n6_
        clear n0_ n1_ n2_ n3_ n4_ n5_ n6_
        (try clear hb)
        (try clear hb2)
        (try clear hk)
        (try clear hi)
        refine hK.out _ _ ⟨(Zkc BK248.out 0).trans rfl, (Zkc BK248.out 1).trans rfl, (Zkc BK248.out 2).trans rfl, (Zkc BK248.out 3).trans rfl, (Zkc BK248.out 4).trans rfl, (Zkc BK248.out 5).trans rfl, (Zkc BK249.out 0).trans rfl, (Zkc BK249.out 1).trans rfl, (Zkc BK249.out 2).trans rfl, (Zkc BK249.out 3).trans rfl, (Zkc BK249.out 4).trans rfl, (Zkc BK249.out 5).trans rfl⟩ (fun hHeld => ?_)
        clear hK K
        refine norm_ (a' := ?_) ?_ ?_
        rotate_left
        · show Act.put _ (some 24) _ = _
          simp only [Act.put, List.setIfInBounds_toArray, List.set_cons_zero, List.set_cons_succ, i64_w, i32_w]
          rfl
        refine pure_ (i := 5) (N := some 6) (v := ?_) (a' := ?_) #[true, true, true, true, true, true] rfl rfl (by kernel_rfl) (fun _ _ _ h => h) (Or.inl ⟨by rfl, ?_⟩) ?_ ?_
        rotate_left
        · intro w'
          go_simp
          with_reducible rfl
        rotate_left
        · simp only [Act.put, List.setIfInBounds_toArray, List.set_cons_zero, List.set_cons_succ, i64_w, i32_w]
          rfl
        refine done_ (by kernel_rfl) ?_
        have hcz47_0 : w46.cell? ⟨gb248, 0, none⟩ = some (.string a0_0) := (Zkc BK248.out 0).trans rfl
        have hcz47_1 : w46.cell? ⟨gb248, 1, none⟩ = some (.string a0_1) := (Zkc BK248.out 1).trans rfl
        have hcz47_2 : w46.cell? ⟨gb248, 2, none⟩ = some (.bool a0_2) := (Zkc BK248.out 2).trans rfl
        have hcz47_3 : w46.cell? ⟨gb248, 3, none⟩ = some (.bool a0_3) := (Zkc BK248.out 3).trans rfl
        have hcz47_4 : w46.cell? ⟨gb248, 4, none⟩ = some (.slice A0_4 l0_4.length c0_4) := (Zkc BK248.out 4).trans rfl
        have hcz47_5 : w46.cell? ⟨gb248, 5, none⟩ = some (.slice A0_5 l0_5.length c0_5) := (Zkc BK248.out 5).trans rfl
        try go_wp2_with (first | ((with_reducible refine gate_callee (f := 22) rfl ?_); refine goesL_ (some 26) rfl rfl Try.func22 (by kernel_rfl) rfl #[.agg #[.string a0_0, .string a0_1, .bool a0_2, .bool a0_3, .slice A0_4 l0_4.length c0_4, .slice A0_5 l0_5.length c0_5]] rfl (by (try simp only [List.map_toArray, List.map_cons, List.map_nil]); first | done | rfl | (simp only [List.length_drop, List.length_take]; rfl)) ?_; (with_reducible refine (laws_toClass.calls k a0_0 a0_1 a0_2 a0_3 _ _ l0_4 _ _ l0_5 t273 t274 t275 t276 t277 t280 _ ?side1 ?side2 ?side3 ?side4 A22.out).mono ?_); (case side1 => repeat (first | exact (Kd.C_below HR0_4.out HB.out) | (with_reducible refine Kd.C_alloc ?_ _) | (with_reducible refine Kd.C_drewN ?_ _) | (with_reducible refine Kd.C_drew ?_))); (case side2 => exact HC0_4.out); (case side3 => repeat (first | exact (Kd.C_below HR0_5.out HB.out) | (with_reducible refine Kd.C_alloc ?_ _) | (with_reducible refine Kd.C_drewN ?_ _) | (with_reducible refine Kd.C_drew ?_))); (case side4 => exact HC0_5.out); rintro e w48 ⟨v278, v281, rfl, ho0, ho1, hb⟩; refine ⟨_, rfl, ?_⟩; have n0_ := Zm (Kd.R_elder' (by (with_reducible repeat (first | apply Kd.R_alloc | apply Kd.R_drewN | apply Kd.R_drew)); exact HO258.out) (Kd.R_base ho0) hb); have n1_ := Zm (Kd.S_elder' (by (with_reducible repeat (first | apply Kd.S_alloc | apply Kd.S_drewN | apply Kd.S_drew)); exact HO261.out) (Kd.S_base ho1) hb); have n2_ := Zm (Kd.R_elder' (by (with_reducible repeat (first | apply Kd.R_alloc | apply Kd.R_drewN | apply Kd.R_drew)); exact HO268.out) (Kd.R_base ho0) hb); have n3_ := Zm (Kd.S_elder' (by (with_reducible repeat (first | apply Kd.S_alloc | apply Kd.S_drewN | apply Kd.S_drew)); exact HO271.out) (Kd.S_base ho1) hb); have n4_ := Zm (Kd.R_lower (Kd.R_new' (Kd.R_new' ho0 (Kd.R_lt (by (with_reducible repeat (first | apply Kd.R_alloc | apply Kd.R_drewN | apply Kd.R_drew)); exact HO258.out))) (Kd.R_lt (by (with_reducible repeat (first | apply Kd.R_alloc | apply Kd.R_drewN | apply Kd.R_drew)); exact HO268.out))) (Zbz (by repeat (first | (with_reducible first | exact HB.out | apply Zba | apply Zbn | apply Zbd | refine Zbs ?_ GE248.out | refine Zbs ?_ GE249.out) | exact HB.out)))); have n5_ := Zm (Kd.S_lower (Kd.S_new' (Kd.S_new' ho1 (Kd.S_lt (by (with_reducible repeat (first | apply Kd.S_alloc | apply Kd.S_drewN | apply Kd.S_drew)); exact HO261.out))) (Kd.S_lt (by (with_reducible repeat (first | apply Kd.S_alloc | apply Kd.S_drewN | apply Kd.S_drew)); exact HO271.out))) (Zbz (by repeat (first | (with_reducible first | exact HB.out | apply Zba | apply Zbn | apply Zbd | refine Zbs ?_ GE248.out | refine Zbs ?_ GE249.out) | exact HB.out)))); have n6_ := Zm (Zkb (g := gb248) (o := .cells #[.string a0_0, .string a0_1, .bool a0_2, .bool a0_3, .slice A0_4 l0_4.length c0_4, .slice A0_5 l0_5.length c0_5] 45 (0, 0)) (by (with_reducible repeat (first | refine Zkn ?_ _ | refine Zkd ?_ | refine Zka ?_ _)); exact BK248.out) hb); have n7_ := Zm (Zkb (g := gb249) (o := .cells #[.string a1_0, .string a1_1, .bool a1_2, .bool a1_3, .slice A1_4 l1_4.length c1_4, .slice A1_5 l1_5.length c1_5] 45 (0, 0)) (by (with_reducible repeat (first | refine Zkn ?_ _ | refine Zkd ?_ | refine Zka ?_ _)); exact BK249.out) hb); have n8_ := Zm (Zbt (by repeat (first | (with_reducible first | exact HB.out | apply Zba | apply Zbn | apply Zbd | refine Zbs ?_ GE248.out | refine Zbs ?_ GE249.out) | exact HB.out)) hb); clear HO258; clear HO261; clear HO268; clear HO271; clear BK248; clear BK249; clear HB; have HO258 := n0_; have HO261 := n1_; have HO268 := n2_; have HO271 := n3_; have HO279 := n4_; have HO282 := n5_; have BK248 := n6_; have BK249 := n7_; have HB := n8_; clear n0_ n1_ n2_ n3_ n4_ n5_ n6_ n7_ n8_; (try clear hb); (try clear hb2); (try clear hk); (try clear hi); (try clear ho0); (try clear ho1)) | ((with_reducible refine gate_dst (N := 7) rfl ?_); refine box_event ?hg (N := 7) ?hd (cs := #[.string (⟨#[]⟩ : ByteArray), .string (⟨#[]⟩ : ByteArray), .bool false, .bool false, .slice none 0 0, .slice none 0 0]) (t := 51) ?hr ?_; (case hd => rfl); (case hg => rfl); (case hr => first | (go_simp; done) | (go_simp; rfl)); intro gb283 hg w49 hbox hb; have n0_ := Zm (Kd.R_below (by (with_reducible repeat (first | apply Kd.R_alloc | apply Kd.R_drewN | apply Kd.R_drew)); exact HO258.out) hb); have n1_ := Zm (Kd.S_below (by (with_reducible repeat (first | apply Kd.S_alloc | apply Kd.S_drewN | apply Kd.S_drew)); exact HO261.out) hb); have n2_ := Zm (Kd.R_below (by (with_reducible repeat (first | apply Kd.R_alloc | apply Kd.R_drewN | apply Kd.R_drew)); exact HO268.out) hb); have n3_ := Zm (Kd.S_below (by (with_reducible repeat (first | apply Kd.S_alloc | apply Kd.S_drewN | apply Kd.S_drew)); exact HO271.out) hb); have n4_ := Zm (Kd.R_below (by (with_reducible repeat (first | apply Kd.R_alloc | apply Kd.R_drewN | apply Kd.R_drew)); exact HO279.out) hb); have n5_ := Zm (Kd.S_below (by (with_reducible repeat (first | apply Kd.S_alloc | apply Kd.S_drewN | apply Kd.S_drew)); exact HO282.out) hb); have n6_ := Zm (Zkb (g := gb248) (o := .cells #[.string a0_0, .string a0_1, .bool a0_2, .bool a0_3, .slice A0_4 l0_4.length c0_4, .slice A0_5 l0_5.length c0_5] 45 (0, 0)) (by (with_reducible repeat (first | refine Zkn ?_ _ | refine Zkd ?_ | refine Zka ?_ _)); exact BK248.out) hb); have n7_ := Zm (Zkb (g := gb249) (o := .cells #[.string a1_0, .string a1_1, .bool a1_2, .bool a1_3, .slice A1_4 l1_4.length c1_4, .slice A1_5 l1_5.length c1_5] 45 (0, 0)) (by (with_reducible repeat (first | refine Zkn ?_ _ | refine Zkd ?_ | refine Zka ?_ _)); exact BK249.out) hb); have n8_ := Zm (Zbt (by repeat (first | (with_reducible first | exact HB.out | apply Zba | apply Zbn | apply Zbd | refine Zbs ?_ GE248.out | refine Zbs ?_ GE249.out) | exact HB.out)) hb); have n9_ := Zm (hbox); have n10_ := Zm ((by rw [hg]; exact (Zbz (by repeat (first | (with_reducible first | exact HB.out | apply Zba | apply Zbn | apply Zbd | refine Zbs ?_ GE248.out | refine Zbs ?_ GE249.out) | exact HB.out))) : w.heap.size ≤ gb283)); have n11_ := Zm ((by rw [hg]; exact (Zbz (by repeat (first | (with_reducible first | exact HB.out | apply Zba | apply Zbn | apply Zbd | refine Zbs ?_ GE248.out | refine Zbs ?_ GE249.out) | exact HB.out))) : w.heap.size ≤ gb283)); have n12_ := Zm ((by rw [hg]; exact Nat.ne_of_lt (blk_lt (g := gb248) (o := .cells #[.string a0_0, .string a0_1, .bool a0_2, .bool a0_3, .slice A0_4 l0_4.length c0_4, .slice A0_5 l0_5.length c0_5] 45 (0, 0)) (by (with_reducible repeat (first | refine Zkn ?_ _ | refine Zkd ?_ | refine Zka ?_ _)); exact BK248.out)) : gb248 ≠ gb283)); have n13_ := Zm ((by rw [hg]; exact Nat.ne_of_gt (blk_lt (g := gb248) (o := .cells #[.string a0_0, .string a0_1, .bool a0_2, .bool a0_3, .slice A0_4 l0_4.length c0_4, .slice A0_5 l0_5.length c0_5] 45 (0, 0)) (by (with_reducible repeat (first | refine Zkn ?_ _ | refine Zkd ?_ | refine Zka ?_ _)); exact BK248.out)) : gb283 ≠ gb248)); have n14_ := Zm ((by rw [hg]; exact Nat.ne_of_lt (blk_lt (g := gb249) (o := .cells #[.string a1_0, .string a1_1, .bool a1_2, .bool a1_3, .slice A1_4 l1_4.length c1_4, .slice A1_5 l1_5.length c1_5] 45 (0, 0)) (by (with_reducible repeat (first | refine Zkn ?_ _ | refine Zkd ?_ | refine Zka ?_ _)); exact BK249.out)) : gb249 ≠ gb283)); have n15_ := Zm ((by rw [hg]; exact Nat.ne_of_gt (blk_lt (g := gb249) (o := .cells #[.string a1_0, .string a1_1, .bool a1_2, .bool a1_3, .slice A1_4 l1_4.length c1_4, .slice A1_5 l1_5.length c1_5] 45 (0, 0)) (by (with_reducible repeat (first | refine Zkn ?_ _ | refine Zkd ?_ | refine Zka ?_ _)); exact BK249.out)) : gb283 ≠ gb249)); clear HO258; clear HO261; clear HO268; clear HO271; clear HO279; clear HO282; clear BK248; clear BK249; clear HB; have HO258 := n0_; have HO261 := n1_; have HO268 := n2_; have HO271 := n3_; have HO279 := n4_; have HO282 := n5_; have BK248 := n6_; have BK249 := n7_; have HB := n8_; have BK283 := n9_; have GW283 := n10_; have GE283 := n11_; have NB248_283 := n12_; have NB283_248 := n13_; have NB249_283 := n14_; have NB283_249 := n15_; clear n0_ n1_ n2_ n3_ n4_ n5_ n6_ n7_ n8_ n9_ n10_ n11_ n12_ n13_ n14_ n15_; clear hb hbox hg; have hnb50 := NB283_248.out; have hnc50 := NB248_283.out; have hnb51 := NB283_249.out; have hnc51 := NB249_283.out; have hcz52_0 : w49.cell? ⟨gb283, 0, none⟩ = some (.string (⟨#[]⟩ : ByteArray)) := (Zkc BK283.out 0).trans rfl; have hcz52_1 : w49.cell? ⟨gb283, 1, none⟩ = some (.string (⟨#[]⟩ : ByteArray)) := (Zkc BK283.out 1).trans rfl; have hcz52_2 : w49.cell? ⟨gb283, 2, none⟩ = some (.bool false) := (Zkc BK283.out 2).trans rfl; have hcz52_3 : w49.cell? ⟨gb283, 3, none⟩ = some (.bool false) := (Zkc BK283.out 3).trans rfl; have hcz52_4 : w49.cell? ⟨gb283, 4, none⟩ = some (.slice none 0 0) := (Zkc BK283.out 4).trans rfl; have hcz52_5 : w49.cell? ⟨gb283, 5, none⟩ = some (.slice none 0 0) := (Zkc BK283.out 5).trans rfl; have hfz52_0 := Zkf BK283.out 0; have hfz52_1 := Zkf BK283.out 1; have hfz52_2 := Zkf BK283.out 2; have hfz52_3 := Zkf BK283.out 3; have hfz52_4 := Zkf BK283.out 4; have hfz52_5 := Zkf BK283.out 5; obtain ⟨Ao53, co53, eo53⟩ := Kd.R_slice HO279.out; subst eo53; obtain ⟨Ao54, co54, eo54⟩ := Kd.S_slice HO282.out; subst eo54; have hcz55_0 : w49.cell? ⟨gb249, 0, none⟩ = some (.string a1_0) := (Zkc BK249.out 0).trans rfl; have hcz55_1 : w49.cell? ⟨gb249, 1, none⟩ = some (.string a1_1) := (Zkc BK249.out 1).trans rfl; have hcz55_2 : w49.cell? ⟨gb249, 2, none⟩ = some (.bool a1_2) := (Zkc BK249.out 2).trans rfl; have hcz55_3 : w49.cell? ⟨gb249, 3, none⟩ = some (.bool a1_3) := (Zkc BK249.out 3).trans rfl; have hcz55_4 : w49.cell? ⟨gb249, 4, none⟩ = some (.slice A1_4 l1_4.length c1_4) := (Zkc BK249.out 4).trans rfl; have hcz55_5 : w49.cell? ⟨gb249, 5, none⟩ = some (.slice A1_5 l1_5.length c1_5) := (Zkc BK249.out 5).trans rfl; have hfz55_5 := Zkf BK249.out 5) | ((with_reducible refine gate_callee (f := 22) rfl ?_); refine goesL_ (some 28) rfl rfl Try.func22 (by kernel_rfl) rfl #[.agg #[.string a1_0, .string a1_1, .bool a1_2, .bool a1_3, .slice A1_4 l1_4.length c1_4, .slice A1_5 l1_5.length c1_5]] rfl (by (try simp only [List.map_toArray, List.map_cons, List.map_nil]); first | done | rfl | (simp only [List.length_drop, List.length_take]; rfl)) ?_; (with_reducible refine (laws_toClass.calls k a1_0 a1_1 a1_2 a1_3 _ _ l1_4 _ _ l1_5 t284 t285 t286 t287 t288 t291 _ ?side1 ?side2 ?side3 ?side4 A23.out).mono ?_); (case side1 => exact Kd.C_below HR1_4.out (by repeat (first | (with_reducible first | exact HB.out | apply Zba | apply Zbn | apply Zbd | refine Zbs ?_ GE248.out | refine Zbs ?_ GE249.out | refine Zbs ?_ GE283.out) | exact HB.out))); (case side2 => exact HC1_4.out); (case side3 => exact Kd.C_below HR1_5.out (by repeat (first | (with_reducible first | exact HB.out | apply Zba | apply Zbn | apply Zbd | refine Zbs ?_ GE248.out | refine Zbs ?_ GE249.out | refine Zbs ?_ GE283.out) | exact HB.out))); (case side4 => exact HC1_5.out); rintro e w56 ⟨v289, v292, rfl, ho0, ho1, hb⟩; refine ⟨_, rfl, ?_⟩; have n0_ := Zm (Kd.R_elder' (by (with_reducible repeat (first | apply Kd.R_alloc | apply Kd.R_drewN | apply Kd.R_drew)); exact (Kd.R_mono (Kd.R_far (p := ⟨gb283, 5, none⟩) (Kd.R_far (p := ⟨gb283, 4, none⟩) (Kd.R_far (p := ⟨gb283, 3, none⟩) (Kd.R_far (p := ⟨gb283, 2, none⟩) (Kd.R_far (p := ⟨gb283, 1, none⟩) (Kd.R_far (p := ⟨gb283, 0, none⟩) (Kd.R_types HO258.out BK283.out (by decide)) (fun _ hk => hk.2) (.string t273)) (fun _ hk => hk.2) (.string t274)) (fun _ hk => hk.2) (.bool t275)) (fun _ hk => hk.2) (.bool t276)) (fun _ hk => hk.2) (.slice Ao53 t277.length co53)) (fun _ hk => hk.2) (.slice Ao54 t280.length co54)) (fun _ h_ => h_.1))) (Kd.R_base ho0) hb); have n1_ := Zm (Kd.S_elder' (by (with_reducible repeat (first | apply Kd.S_alloc | apply Kd.S_drewN | apply Kd.S_drew)); exact (Kd.S_mono (Kd.S_far (p := ⟨gb283, 5, none⟩) (Kd.S_far (p := ⟨gb283, 4, none⟩) (Kd.S_far (p := ⟨gb283, 3, none⟩) (Kd.S_far (p := ⟨gb283, 2, none⟩) (Kd.S_far (p := ⟨gb283, 1, none⟩) (Kd.S_far (p := ⟨gb283, 0, none⟩) (Kd.S_types HO261.out BK283.out (by decide)) (fun _ hk => hk.2) (.string t273)) (fun _ hk => hk.2) (.string t274)) (fun _ hk => hk.2) (.bool t275)) (fun _ hk => hk.2) (.bool t276)) (fun _ hk => hk.2) (.slice Ao53 t277.length co53)) (fun _ hk => hk.2) (.slice Ao54 t280.length co54)) (fun _ h_ => h_.1))) (Kd.S_base ho1) hb); have n2_ := Zm (Kd.R_elder' (by (with_reducible repeat (first | apply Kd.R_alloc | apply Kd.R_drewN | apply Kd.R_drew)); exact (Kd.R_mono (Kd.R_far (p := ⟨gb283, 5, none⟩) (Kd.R_far (p := ⟨gb283, 4, none⟩) (Kd.R_far (p := ⟨gb283, 3, none⟩) (Kd.R_far (p := ⟨gb283, 2, none⟩) (Kd.R_far (p := ⟨gb283, 1, none⟩) (Kd.R_far (p := ⟨gb283, 0, none⟩) (Kd.R_types HO268.out BK283.out (by decide)) (fun _ hk => hk.2) (.string t273)) (fun _ hk => hk.2) (.string t274)) (fun _ hk => hk.2) (.bool t275)) (fun _ hk => hk.2) (.bool t276)) (fun _ hk => hk.2) (.slice Ao53 t277.length co53)) (fun _ hk => hk.2) (.slice Ao54 t280.length co54)) (fun _ h_ => h_.1))) (Kd.R_base ho0) hb); have n3_ := Zm (Kd.S_elder' (by (with_reducible repeat (first | apply Kd.S_alloc | apply Kd.S_drewN | apply Kd.S_drew)); exact (Kd.S_mono (Kd.S_far (p := ⟨gb283, 5, none⟩) (Kd.S_far (p := ⟨gb283, 4, none⟩) (Kd.S_far (p := ⟨gb283, 3, none⟩) (Kd.S_far (p := ⟨gb283, 2, none⟩) (Kd.S_far (p := ⟨gb283, 1, none⟩) (Kd.S_far (p := ⟨gb283, 0, none⟩) (Kd.S_types HO271.out BK283.out (by decide)) (fun _ hk => hk.2) (.string t273)) (fun _ hk => hk.2) (.string t274)) (fun _ hk => hk.2) (.bool t275)) (fun _ hk => hk.2) (.bool t276)) (fun _ hk => hk.2) (.slice Ao53 t277.length co53)) (fun _ hk => hk.2) (.slice Ao54 t280.length co54)) (fun _ h_ => h_.1))) (Kd.S_base ho1) hb); have n4_ := Zm (Kd.R_elder' (by (with_reducible repeat (first | apply Kd.R_alloc | apply Kd.R_drewN | apply Kd.R_drew)); exact (Kd.R_mono (Kd.R_far (p := ⟨gb283, 5, none⟩) (Kd.R_far (p := ⟨gb283, 4, none⟩) (Kd.R_far (p := ⟨gb283, 3, none⟩) (Kd.R_far (p := ⟨gb283, 2, none⟩) (Kd.R_far (p := ⟨gb283, 1, none⟩) (Kd.R_far (p := ⟨gb283, 0, none⟩) (Kd.R_types HO279.out BK283.out (by decide)) (fun _ hk => hk.2) (.string t273)) (fun _ hk => hk.2) (.string t274)) (fun _ hk => hk.2) (.bool t275)) (fun _ hk => hk.2) (.bool t276)) (fun _ hk => hk.2) (.slice Ao53 t277.length co53)) (fun _ hk => hk.2) (.slice Ao54 t280.length co54)) (fun _ h_ => h_.1))) (Kd.R_base ho0) hb); have n5_ := Zm (Kd.S_elder' (by (with_reducible repeat (first | apply Kd.S_alloc | apply Kd.S_drewN | apply Kd.S_drew)); exact (Kd.S_mono (Kd.S_far (p := ⟨gb283, 5, none⟩) (Kd.S_far (p := ⟨gb283, 4, none⟩) (Kd.S_far (p := ⟨gb283, 3, none⟩) (Kd.S_far (p := ⟨gb283, 2, none⟩) (Kd.S_far (p := ⟨gb283, 1, none⟩) (Kd.S_far (p := ⟨gb283, 0, none⟩) (Kd.S_types HO282.out BK283.out (by decide)) (fun _ hk => hk.2) (.string t273)) (fun _ hk => hk.2) (.string t274)) (fun _ hk => hk.2) (.bool t275)) (fun _ hk => hk.2) (.bool t276)) (fun _ hk => hk.2) (.slice Ao53 t277.length co53)) (fun _ hk => hk.2) (.slice Ao54 t280.length co54)) (fun _ h_ => h_.1))) (Kd.S_base ho1) hb); have n6_ := Zm (Kd.R_lower (Kd.R_new' (Kd.R_new' (Kd.R_new' ho0 (Kd.R_lt (by (with_reducible repeat (first | apply Kd.R_alloc | apply Kd.R_drewN | apply Kd.R_drew)); exact (Kd.R_mono (Kd.R_far (p := ⟨gb283, 5, none⟩) (Kd.R_far (p := ⟨gb283, 4, none⟩) (Kd.R_far (p := ⟨gb283, 3, none⟩) (Kd.R_far (p := ⟨gb283, 2, none⟩) (Kd.R_far (p := ⟨gb283, 1, none⟩) (Kd.R_far (p := ⟨gb283, 0, none⟩) (Kd.R_types HO258.out BK283.out (by decide)) (fun _ hk => hk.2) (.string t273)) (fun _ hk => hk.2) (.string t274)) (fun _ hk => hk.2) (.bool t275)) (fun _ hk => hk.2) (.bool t276)) (fun _ hk => hk.2) (.slice Ao53 t277.length co53)) (fun _ hk => hk.2) (.slice Ao54 t280.length co54)) (fun _ h_ => h_.1))))) (Kd.R_lt (by (with_reducible repeat (first | apply Kd.R_alloc | apply Kd.R_drewN | apply Kd.R_drew)); exact (Kd.R_mono (Kd.R_far (p := ⟨gb283, 5, none⟩) (Kd.R_far (p := ⟨gb283, 4, none⟩) (Kd.R_far (p := ⟨gb283, 3, none⟩) (Kd.R_far (p := ⟨gb283, 2, none⟩) (Kd.R_far (p := ⟨gb283, 1, none⟩) (Kd.R_far (p := ⟨gb283, 0, none⟩) (Kd.R_types HO268.out BK283.out (by decide)) (fun _ hk => hk.2) (.string t273)) (fun _ hk => hk.2) (.string t274)) (fun _ hk => hk.2) (.bool t275)) (fun _ hk => hk.2) (.bool t276)) (fun _ hk => hk.2) (.slice Ao53 t277.length co53)) (fun _ hk => hk.2) (.slice Ao54 t280.length co54)) (fun _ h_ => h_.1))))) (Kd.R_lt (by (with_reducible repeat (first | apply Kd.R_alloc | apply Kd.R_drewN | apply Kd.R_drew)); exact (Kd.R_mono (Kd.R_far (p := ⟨gb283, 5, none⟩) (Kd.R_far (p := ⟨gb283, 4, none⟩) (Kd.R_far (p := ⟨gb283, 3, none⟩) (Kd.R_far (p := ⟨gb283, 2, none⟩) (Kd.R_far (p := ⟨gb283, 1, none⟩) (Kd.R_far (p := ⟨gb283, 0, none⟩) (Kd.R_types HO279.out BK283.out (by decide)) (fun _ hk => hk.2) (.string t273)) (fun _ hk => hk.2) (.string t274)) (fun _ hk => hk.2) (.bool t275)) (fun _ hk => hk.2) (.bool t276)) (fun _ hk => hk.2) (.slice Ao53 t277.length co53)) (fun _ hk => hk.2) (.slice Ao54 t280.length co54)) (fun _ h_ => h_.1))))) (Zbz (by repeat (first | (with_reducible first | exact HB.out | apply Zba | apply Zbn | apply Zbd | refine Zbs ?_ GE248.out | refine Zbs ?_ GE249.out | refine Zbs ?_ GE283.out) | exact HB.out)))); have n7_ := Zm (Kd.S_lower (Kd.S_new' (Kd.S_new' (Kd.S_new' ho1 (Kd.S_lt (by (with_reducible repeat (first | apply Kd.S_alloc | apply Kd.S_drewN | apply Kd.S_drew)); exact (Kd.S_mono (Kd.S_far (p := ⟨gb283, 5, none⟩) (Kd.S_far (p := ⟨gb283, 4, none⟩) (Kd.S_far (p := ⟨gb283, 3, none⟩) (Kd.S_far (p := ⟨gb283, 2, none⟩) (Kd.S_far (p := ⟨gb283, 1, none⟩) (Kd.S_far (p := ⟨gb283, 0, none⟩) (Kd.S_types HO261.out BK283.out (by decide)) (fun _ hk => hk.2) (.string t273)) (fun _ hk => hk.2) (.string t274)) (fun _ hk => hk.2) (.bool t275)) (fun _ hk => hk.2) (.bool t276)) (fun _ hk => hk.2) (.slice Ao53 t277.length co53)) (fun _ hk => hk.2) (.slice Ao54 t280.length co54)) (fun _ h_ => h_.1))))) (Kd.S_lt (by (with_reducible repeat (first | apply Kd.S_alloc | apply Kd.S_drewN | apply Kd.S_drew)); exact (Kd.S_mono (Kd.S_far (p := ⟨gb283, 5, none⟩) (Kd.S_far (p := ⟨gb283, 4, none⟩) (Kd.S_far (p := ⟨gb283, 3, none⟩) (Kd.S_far (p := ⟨gb283, 2, none⟩) (Kd.S_far (p := ⟨gb283, 1, none⟩) (Kd.S_far (p := ⟨gb283, 0, none⟩) (Kd.S_types HO271.out BK283.out (by decide)) (fun _ hk => hk.2) (.string t273)) (fun _ hk => hk.2) (.string t274)) (fun _ hk => hk.2) (.bool t275)) (fun _ hk => hk.2) (.bool t276)) (fun _ hk => hk.2) (.slice Ao53 t277.length co53)) (fun _ hk => hk.2) (.slice Ao54 t280.length co54)) (fun _ h_ => h_.1))))) (Kd.S_lt (by (with_reducible repeat (first | apply Kd.S_alloc | apply Kd.S_drewN | apply Kd.S_drew)); exact (Kd.S_mono (Kd.S_far (p := ⟨gb283, 5, none⟩) (Kd.S_far (p := ⟨gb283, 4, none⟩) (Kd.S_far (p := ⟨gb283, 3, none⟩) (Kd.S_far (p := ⟨gb283, 2, none⟩) (Kd.S_far (p := ⟨gb283, 1, none⟩) (Kd.S_far (p := ⟨gb283, 0, none⟩) (Kd.S_types HO282.out BK283.out (by decide)) (fun _ hk => hk.2) (.string t273)) (fun _ hk => hk.2) (.string t274)) (fun _ hk => hk.2) (.bool t275)) (fun _ hk => hk.2) (.bool t276)) (fun _ hk => hk.2) (.slice Ao53 t277.length co53)) (fun _ hk => hk.2) (.slice Ao54 t280.length co54)) (fun _ h_ => h_.1))))) (Zbz (by repeat (first | (with_reducible first | exact HB.out | apply Zba | apply Zbn | apply Zbd | refine Zbs ?_ GE248.out | refine Zbs ?_ GE249.out | refine Zbs ?_ GE283.out) | exact HB.out)))); have n8_ := Zm (Zkb (g := gb248) (o := .cells #[.string a0_0, .string a0_1, .bool a0_2, .bool a0_3, .slice A0_4 l0_4.length c0_4, .slice A0_5 l0_5.length c0_5] 45 (0, 0)) (by (with_reducible repeat (first | refine Zkn ?_ _ | refine Zkd ?_ | refine Zka ?_ _)); refine Zkr ?_ NB248_283.out _; (with_reducible repeat (first | refine Zkn ?_ _ | refine Zkd ?_ | refine Zka ?_ _)); refine Zkr ?_ NB248_283.out _; (with_reducible repeat (first | refine Zkn ?_ _ | refine Zkd ?_ | refine Zka ?_ _)); refine Zkr ?_ NB248_283.out _; (with_reducible repeat (first | refine Zkn ?_ _ | refine Zkd ?_ | refine Zka ?_ _)); refine Zkr ?_ NB248_283.out _; (with_reducible repeat (first | refine Zkn ?_ _ | refine Zkd ?_ | refine Zka ?_ _)); refine Zkr ?_ NB248_283.out _; (with_reducible repeat (first | refine Zkn ?_ _ | refine Zkd ?_ | refine Zka ?_ _)); refine Zkr ?_ NB248_283.out _; (with_reducible repeat (first | refine Zkn ?_ _ | refine Zkd ?_ | refine Zka ?_ _)); exact BK248.out) hb); have n9_ := Zm (Zkb (g := gb249) (o := .cells #[.string a1_0, .string a1_1, .bool a1_2, .bool a1_3, .slice A1_4 l1_4.length c1_4, .slice A1_5 l1_5.length c1_5] 45 (0, 0)) (by (with_reducible repeat (first | refine Zkn ?_ _ | refine Zkd ?_ | refine Zka ?_ _)); refine Zkr ?_ NB249_283.out _; (with_reducible repeat (first | refine Zkn ?_ _ | refine Zkd ?_ | refine Zka ?_ _)); refine Zkr ?_ NB249_283.out _; (with_reducible repeat (first | refine Zkn ?_ _ | refine Zkd ?_ | refine Zka ?_ _)); refine Zkr ?_ NB249_283.out _; (with_reducible repeat (first | refine Zkn ?_ _ | refine Zkd ?_ | refine Zka ?_ _)); refine Zkr ?_ NB249_283.out _; (with_reducible repeat (first | refine Zkn ?_ _ | refine Zkd ?_ | refine Zka ?_ _)); refine Zkr ?_ NB249_283.out _; (with_reducible repeat (first | refine Zkn ?_ _ | refine Zkd ?_ | refine Zka ?_ _)); refine Zkr ?_ NB249_283.out _; (with_reducible repeat (first | refine Zkn ?_ _ | refine Zkd ?_ | refine Zka ?_ _)); exact BK249.out) hb); have n10_ := Zm (Zkb (g := gb283) (o := .cells #[.string t273, .string t274, .bool t275, .bool t276, .slice Ao53 t277.length co53, .slice Ao54 t280.length co54] 51 (0, 0)) (by (with_reducible repeat (first | refine Zkn ?_ _ | refine Zkd ?_ | refine Zka ?_ _)); refine Zkp (cs := #[.string t273, .string t274, .bool t275, .bool t276, .slice Ao53 t277.length co53, .slice none 0 0]) ?_ 5 _ rfl; (with_reducible repeat (first | refine Zkn ?_ _ | refine Zkd ?_ | refine Zka ?_ _)); refine Zkp (cs := #[.string t273, .string t274, .bool t275, .bool t276, .slice none 0 0, .slice none 0 0]) ?_ 4 _ rfl; (with_reducible repeat (first | refine Zkn ?_ _ | refine Zkd ?_ | refine Zka ?_ _)); refine Zkp (cs := #[.string t273, .string t274, .bool t275, .bool false, .slice none 0 0, .slice none 0 0]) ?_ 3 _ rfl; (with_reducible repeat (first | refine Zkn ?_ _ | refine Zkd ?_ | refine Zka ?_ _)); refine Zkp (cs := #[.string t273, .string t274, .bool false, .bool false, .slice none 0 0, .slice none 0 0]) ?_ 2 _ rfl; (with_reducible repeat (first | refine Zkn ?_ _ | refine Zkd ?_ | refine Zka ?_ _)); refine Zkp (cs := #[.string t273, .string (⟨#[]⟩ : ByteArray), .bool false, .bool false, .slice none 0 0, .slice none 0 0]) ?_ 1 _ rfl; (with_reducible repeat (first | refine Zkn ?_ _ | refine Zkd ?_ | refine Zka ?_ _)); refine Zkp (cs := #[.string (⟨#[]⟩ : ByteArray), .string (⟨#[]⟩ : ByteArray), .bool false, .bool false, .slice none 0 0, .slice none 0 0]) ?_ 0 _ rfl; (with_reducible repeat (first | refine Zkn ?_ _ | refine Zkd ?_ | refine Zka ?_ _)); exact BK283.out) hb); have n11_ := Zm (Zbt (by repeat (first | (with_reducible first | exact HB.out | apply Zba | apply Zbn | apply Zbd | refine Zbs ?_ GE248.out | refine Zbs ?_ GE249.out | refine Zbs ?_ GE283.out) | exact HB.out)) hb); clear HO258; clear HO261; clear HO268; clear HO271; clear HO279; clear HO282; clear BK248; clear BK249; clear BK283; clear HB; have HO258 := n0_; have HO261 := n1_; have HO268 := n2_; have HO271 := n3_; have HO279 := n4_; have HO282 := n5_; have HO290 := n6_; have HO293 := n7_; have BK248 := n8_; have BK249 := n9_; have BK283 := n10_; have HB := n11_; clear n0_ n1_ n2_ n3_ n4_ n5_ n6_ n7_ n8_ n9_ n10_ n11_; (try clear hb); (try clear hb2); (try clear hk); (try clear hi); (try clear ho0); (try clear ho1)) | ((with_reducible refine gate_dst (N := 8) rfl ?_); refine box_event ?hg (N := 8) ?hd (cs := #[.string (⟨#[]⟩ : ByteArray), .string (⟨#[]⟩ : ByteArray), .bool false, .bool false, .slice none 0 0, .slice none 0 0]) (t := 51) ?hr ?_; (case hd => rfl); (case hg => rfl); (case hr => first | (go_simp; done) | (go_simp; rfl)); intro gb294 hg w57 hbox hb; have n0_ := Zm (Kd.R_below (by (with_reducible repeat (first | apply Kd.R_alloc | apply Kd.R_drewN | apply Kd.R_drew)); exact HO258.out) hb); have n1_ := Zm (Kd.S_below (by (with_reducible repeat (first | apply Kd.S_alloc | apply Kd.S_drewN | apply Kd.S_drew)); exact HO261.out) hb); have n2_ := Zm (Kd.R_below (by (with_reducible repeat (first | apply Kd.R_alloc | apply Kd.R_drewN | apply Kd.R_drew)); exact HO268.out) hb); have n3_ := Zm (Kd.S_below (by (with_reducible repeat (first | apply Kd.S_alloc | apply Kd.S_drewN | apply Kd.S_drew)); exact HO271.out) hb); have n4_ := Zm (Kd.R_below (by (with_reducible repeat (first | apply Kd.R_alloc | apply Kd.R_drewN | apply Kd.R_drew)); exact HO279.out) hb); have n5_ := Zm (Kd.S_below (by (with_reducible repeat (first | apply Kd.S_alloc | apply Kd.S_drewN | apply Kd.S_drew)); exact HO282.out) hb); have n6_ := Zm (Kd.R_below (by (with_reducible repeat (first | apply Kd.R_alloc | apply Kd.R_drewN | apply Kd.R_drew)); exact HO290.out) hb); have n7_ := Zm (Kd.S_below (by (with_reducible repeat (first | apply Kd.S_alloc | apply Kd.S_drewN | apply Kd.S_drew)); exact HO293.out) hb); have n8_ := Zm (Zkb (g := gb248) (o := .cells #[.string a0_0, .string a0_1, .bool a0_2, .bool a0_3, .slice A0_4 l0_4.length c0_4, .slice A0_5 l0_5.length c0_5] 45 (0, 0)) (by (with_reducible repeat (first | refine Zkn ?_ _ | refine Zkd ?_ | refine Zka ?_ _)); exact BK248.out) hb); have n9_ := Zm (Zkb (g := gb249) (o := .cells #[.string a1_0, .string a1_1, .bool a1_2, .bool a1_3, .slice A1_4 l1_4.length c1_4, .slice A1_5 l1_5.length c1_5] 45 (0, 0)) (by (with_reducible repeat (first | refine Zkn ?_ _ | refine Zkd ?_ | refine Zka ?_ _)); exact BK249.out) hb); have n10_ := Zm (Zkb (g := gb283) (o := .cells #[.string t273, .string t274, .bool t275, .bool t276, .slice Ao53 t277.length co53, .slice Ao54 t280.length co54] 51 (0, 0)) (by (with_reducible repeat (first | refine Zkn ?_ _ | refine Zkd ?_ | refine Zka ?_ _)); exact BK283.out) hb); have n11_ := Zm (Zbt (by repeat (first | (with_reducible first | exact HB.out | apply Zba | apply Zbn | apply Zbd | refine Zbs ?_ GE248.out | refine Zbs ?_ GE249.out | refine Zbs ?_ GE283.out) | exact HB.out)) hb); have n12_ := Zm (hbox); have n13_ := Zm ((by rw [hg]; exact (Zbz (by repeat (first | (with_reducible first | exact HB.out | apply Zba | apply Zbn | apply Zbd | refine Zbs ?_ GE248.out | refine Zbs ?_ GE249.out | refine Zbs ?_ GE283.out) | exact HB.out))) : w.heap.size ≤ gb294)); have n14_ := Zm ((by rw [hg]; exact (Zbz (by repeat (first | (with_reducible first | exact HB.out | apply Zba | apply Zbn | apply Zbd | refine Zbs ?_ GE248.out | refine Zbs ?_ GE249.out | refine Zbs ?_ GE283.out) | exact HB.out))) : w.heap.size ≤ gb294)); have n15_ := Zm ((by rw [hg]; exact Nat.ne_of_lt (blk_lt (g := gb248) (o := .cells #[.string a0_0, .string a0_1, .bool a0_2, .bool a0_3, .slice A0_4 l0_4.length c0_4, .slice A0_5 l0_5.length c0_5] 45 (0, 0)) (by (with_reducible repeat (first | refine Zkn ?_ _ | refine Zkd ?_ | refine Zka ?_ _)); exact BK248.out)) : gb248 ≠ gb294)); have n16_ := Zm ((by rw [hg]; exact Nat.ne_of_gt (blk_lt (g := gb248) (o := .cells #[.string a0_0, .string a0_1, .bool a0_2, .bool a0_3, .slice A0_4 l0_4.length c0_4, .slice A0_5 l0_5.length c0_5] 45 (0, 0)) (by (with_reducible repeat (first | refine Zkn ?_ _ | refine Zkd ?_ | refine Zka ?_ _)); exact BK248.out)) : gb294 ≠ gb248)); have n17_ := Zm ((by rw [hg]; exact Nat.ne_of_lt (blk_lt (g := gb249) (o := .cells #[.string a1_0, .string a1_1, .bool a1_2, .bool a1_3, .slice A1_4 l1_4.length c1_4, .slice A1_5 l1_5.length c1_5] 45 (0, 0)) (by (with_reducible repeat (first | refine Zkn ?_ _ | refine Zkd ?_ | refine Zka ?_ _)); exact BK249.out)) : gb249 ≠ gb294)); have n18_ := Zm ((by rw [hg]; exact Nat.ne_of_gt (blk_lt (g := gb249) (o := .cells #[.string a1_0, .string a1_1, .bool a1_2, .bool a1_3, .slice A1_4 l1_4.length c1_4, .slice A1_5 l1_5.length c1_5] 45 (0, 0)) (by (with_reducible repeat (first | refine Zkn ?_ _ | refine Zkd ?_ | refine Zka ?_ _)); exact BK249.out)) : gb294 ≠ gb249)); have n19_ := Zm ((by rw [hg]; exact Nat.ne_of_lt (blk_lt (g := gb283) (o := .cells #[.string t273, .string t274, .bool t275, .bool t276, .slice Ao53 t277.length co53, .slice Ao54 t280.length co54] 51 (0, 0)) (by (with_reducible repeat (first | refine Zkn ?_ _ | refine Zkd ?_ | refine Zka ?_ _)); exact BK283.out)) : gb283 ≠ gb294)); have n20_ := Zm ((by rw [hg]; exact Nat.ne_of_gt (blk_lt (g := gb283) (o := .cells #[.string t273, .string t274, .bool t275, .bool t276, .slice Ao53 t277.length co53, .slice Ao54 t280.length co54] 51 (0, 0)) (by (with_reducible repeat (first | refine Zkn ?_ _ | refine Zkd ?_ | refine Zka ?_ _)); exact BK283.out)) : gb294 ≠ gb283)); clear HO258; clear HO261; clear HO268; clear HO271; clear HO279; clear HO282; clear HO290; clear HO293; clear BK248; clear BK249; clear BK283; clear HB; have HO258 := n0_; have HO261 := n1_; have HO268 := n2_; have HO271 := n3_; have HO279 := n4_; have HO282 := n5_; have HO290 := n6_; have HO293 := n7_; have BK248 := n8_; have BK249 := n9_; have BK283 := n10_; have HB := n11_; have BK294 := n12_; have GW294 := n13_; have GE294 := n14_; have NB248_294 := n15_; have NB294_248 := n16_; have NB249_294 := n17_; have NB294_249 := n18_; have NB283_294 := n19_; have NB294_283 := n20_; clear n0_ n1_ n2_ n3_ n4_ n5_ n6_ n7_ n8_ n9_ n10_ n11_ n12_ n13_ n14_ n15_ n16_ n17_ n18_ n19_ n20_; clear hb hbox hg; have hnb58 := NB294_248.out; have hnc58 := NB248_294.out; have hnb59 := NB294_249.out; have hnc59 := NB249_294.out; have hnb60 := NB294_283.out; have hnc60 := NB283_294.out; have hcz61_0 : w57.cell? ⟨gb294, 0, none⟩ = some (.string (⟨#[]⟩ : ByteArray)) := (Zkc BK294.out 0).trans rfl; have hcz61_1 : w57.cell? ⟨gb294, 1, none⟩ = some (.string (⟨#[]⟩ : ByteArray)) := (Zkc BK294.out 1).trans rfl; have hcz61_2 : w57.cell? ⟨gb294, 2, none⟩ = some (.bool false) := (Zkc BK294.out 2).trans rfl; have hcz61_3 : w57.cell? ⟨gb294, 3, none⟩ = some (.bool false) := (Zkc BK294.out 3).trans rfl; have hcz61_4 : w57.cell? ⟨gb294, 4, none⟩ = some (.slice none 0 0) := (Zkc BK294.out 4).trans rfl; have hcz61_5 : w57.cell? ⟨gb294, 5, none⟩ = some (.slice none 0 0) := (Zkc BK294.out 5).trans rfl; have hfz61_0 := Zkf BK294.out 0; have hfz61_1 := Zkf BK294.out 1; have hfz61_2 := Zkf BK294.out 2; have hfz61_3 := Zkf BK294.out 3; have hfz61_4 := Zkf BK294.out 4; have hfz61_5 := Zkf BK294.out 5; obtain ⟨Ao62, co62, eo62⟩ := Kd.R_slice HO290.out; subst eo62; obtain ⟨Ao63, co63, eo63⟩ := Kd.S_slice HO293.out; subst eo63; have hcz64_0 : w57.cell? ⟨gb283, 0, none⟩ = some (.string t273) := (Zkc BK283.out 0).trans rfl; have hcz64_1 : w57.cell? ⟨gb283, 1, none⟩ = some (.string t274) := (Zkc BK283.out 1).trans rfl; have hcz64_2 : w57.cell? ⟨gb283, 2, none⟩ = some (.bool t275) := (Zkc BK283.out 2).trans rfl; have hcz64_3 : w57.cell? ⟨gb283, 3, none⟩ = some (.bool t276) := (Zkc BK283.out 3).trans rfl; have hcz64_4 : w57.cell? ⟨gb283, 4, none⟩ = some (.slice Ao53 t277.length co53) := (Zkc BK283.out 4).trans rfl; have hcz64_5 : w57.cell? ⟨gb283, 5, none⟩ = some (.slice Ao54 t280.length co54) := (Zkc BK283.out 5).trans rfl; have hfz64_0 := Zkf BK283.out 0; have hfz64_1 := Zkf BK283.out 1; have hfz64_2 := Zkf BK283.out 2; have hfz64_3 := Zkf BK283.out 3; have hfz64_4 := Zkf BK283.out 4; have hfz64_5 := Zkf BK283.out 5) | ((with_reducible refine gate_callee (f := 23) rfl ?_); refine goesL_ (some 31) rfl rfl Try.func23 (by kernel_rfl) rfl #[.agg #[.string t273, .string t274, .bool t275, .bool t276, .slice Ao53 t277.length co53, .slice Ao54 t280.length co54], .agg #[.string t284, .string t285, .bool t286, .bool t287, .slice Ao62 t288.length co62, .slice Ao63 t291.length co63]] rfl (by (try simp only [List.map_toArray, List.map_cons, List.map_nil]); first | done | rfl | (simp only [List.length_drop, List.length_take]; rfl)) ?_; (with_reducible refine (impl_ClassSame.calls k t273 t274 t275 t276 _ _ t277 _ _ t280 t284 t285 t286 t287 _ _ t288 _ _ t291 t295 _ ?side1 ?side2 ?side3 ?side4 ?side5 ?side6 ?side7 ?side8 A24.out).mono ?_); (case side1 => refine (Kd.R_reads' (e := 123) (base := w.heap.size) (ok := fun k_ => (((True ∧ some k_ ≠ (.slice Ao42 t256.length co42 : Value).ownBlock) ∧ some k_ ≠ (.slice Ao44 t266.length co44 : Value).ownBlock) ∧ some k_ ≠ (.slice Ao62 t288.length co62 : Value).ownBlock)) (n := t277.length) (c := co53) ?_).2.2; exact (by (with_reducible repeat (first | apply Kd.R_alloc | apply Kd.R_drewN | apply Kd.R_drew)); exact (Kd.R_mono (Kd.R_far (p := ⟨gb294, 5, none⟩) (Kd.R_far (p := ⟨gb294, 4, none⟩) (Kd.R_far (p := ⟨gb294, 3, none⟩) (Kd.R_far (p := ⟨gb294, 2, none⟩) (Kd.R_far (p := ⟨gb294, 1, none⟩) (Kd.R_far (p := ⟨gb294, 0, none⟩) (Kd.R_types HO279.out BK294.out (by decide)) (fun _ hk => hk.2) (.string t284)) (fun _ hk => hk.2) (.string t285)) (fun _ hk => hk.2) (.bool t286)) (fun _ hk => hk.2) (.bool t287)) (fun _ hk => hk.2) (.slice Ao62 t288.length co62)) (fun _ hk => hk.2) (.slice Ao63 t291.length co63)) (fun _ h_ => h_.1)))); (case side2 => exact (Kd.R_reads' HO279.out).2.1); (case side3 => refine (Kd.S_reads' (e := 84) (base := w.heap.size) (ok := fun k_ => (((True ∧ some k_ ≠ (.slice Ao43 t259.length co43 : Value).ownBlock) ∧ some k_ ≠ (.slice Ao45 t269.length co45 : Value).ownBlock) ∧ some k_ ≠ (.slice Ao63 t291.length co63 : Value).ownBlock)) (n := t280.length) (c := co54) ?_).2.2; exact (by (with_reducible repeat (first | apply Kd.S_alloc | apply Kd.S_drewN | apply Kd.S_drew)); exact (Kd.S_mono (Kd.S_far (p := ⟨gb294, 5, none⟩) (Kd.S_far (p := ⟨gb294, 4, none⟩) (Kd.S_far (p := ⟨gb294, 3, none⟩) (Kd.S_far (p := ⟨gb294, 2, none⟩) (Kd.S_far (p := ⟨gb294, 1, none⟩) (Kd.S_far (p := ⟨gb294, 0, none⟩) (Kd.S_types HO282.out BK294.out (by decide)) (fun _ hk => hk.2) (.string t284)) (fun _ hk => hk.2) (.string t285)) (fun _ hk => hk.2) (.bool t286)) (fun _ hk => hk.2) (.bool t287)) (fun _ hk => hk.2) (.slice Ao62 t288.length co62)) (fun _ hk => hk.2) (.slice Ao63 t291.length co63)) (fun _ h_ => h_.1)))); (case side4 => exact (Kd.S_reads' HO282.out).2.1); (case side5 => refine (Kd.R_reads' (e := 123) (base := w.heap.size) (ok := fun k_ => (((True ∧ some k_ ≠ (.slice Ao42 t256.length co42 : Value).ownBlock) ∧ some k_ ≠ (.slice Ao44 t266.length co44 : Value).ownBlock) ∧ some k_ ≠ (.slice Ao53 t277.length co53 : Value).ownBlock)) (n := t288.length) (c := co62) ?_).2.2; exact (by (with_reducible repeat (first | apply Kd.R_alloc | apply Kd.R_drewN | apply Kd.R_drew)); exact (Kd.R_mono (Kd.R_far (p := ⟨gb294, 5, none⟩) (Kd.R_far (p := ⟨gb294, 4, none⟩) (Kd.R_far (p := ⟨gb294, 3, none⟩) (Kd.R_far (p := ⟨gb294, 2, none⟩) (Kd.R_far (p := ⟨gb294, 1, none⟩) (Kd.R_far (p := ⟨gb294, 0, none⟩) (Kd.R_types HO290.out BK294.out (by decide)) (fun _ hk => hk.2) (.string t284)) (fun _ hk => hk.2) (.string t285)) (fun _ hk => hk.2) (.bool t286)) (fun _ hk => hk.2) (.bool t287)) (fun _ hk => hk.2) (.slice Ao62 t288.length co62)) (fun _ hk => hk.2) (.slice Ao63 t291.length co63)) (fun _ h_ => h_.1)))); (case side6 => exact (Kd.R_reads' HO290.out).2.1); (case side7 => refine (Kd.S_reads' (e := 84) (base := w.heap.size) (ok := fun k_ => (((True ∧ some k_ ≠ (.slice Ao43 t259.length co43 : Value).ownBlock) ∧ some k_ ≠ (.slice Ao45 t269.length co45 : Value).ownBlock) ∧ some k_ ≠ (.slice Ao54 t280.length co54 : Value).ownBlock)) (n := t291.length) (c := co63) ?_).2.2; exact (by (with_reducible repeat (first | apply Kd.S_alloc | apply Kd.S_drewN | apply Kd.S_drew)); exact (Kd.S_mono (Kd.S_far (p := ⟨gb294, 5, none⟩) (Kd.S_far (p := ⟨gb294, 4, none⟩) (Kd.S_far (p := ⟨gb294, 3, none⟩) (Kd.S_far (p := ⟨gb294, 2, none⟩) (Kd.S_far (p := ⟨gb294, 1, none⟩) (Kd.S_far (p := ⟨gb294, 0, none⟩) (Kd.S_types HO293.out BK294.out (by decide)) (fun _ hk => hk.2) (.string t284)) (fun _ hk => hk.2) (.string t285)) (fun _ hk => hk.2) (.bool t286)) (fun _ hk => hk.2) (.bool t287)) (fun _ hk => hk.2) (.slice Ao62 t288.length co62)) (fun _ hk => hk.2) (.slice Ao63 t291.length co63)) (fun _ h_ => h_.1)))); (case side8 => exact (Kd.S_reads' HO293.out).2.1); rintro e w65 ⟨rfl, hb⟩; refine ⟨_, rfl, ?_⟩; have n0_ := Zm (Kd.R_below (by (with_reducible repeat (first | apply Kd.R_alloc | apply Kd.R_drewN | apply Kd.R_drew)); exact (Kd.R_mono (Kd.R_far (p := ⟨gb294, 5, none⟩) (Kd.R_far (p := ⟨gb294, 4, none⟩) (Kd.R_far (p := ⟨gb294, 3, none⟩) (Kd.R_far (p := ⟨gb294, 2, none⟩) (Kd.R_far (p := ⟨gb294, 1, none⟩) (Kd.R_far (p := ⟨gb294, 0, none⟩) (Kd.R_types HO258.out BK294.out (by decide)) (fun _ hk => hk.2) (.string t284)) (fun _ hk => hk.2) (.string t285)) (fun _ hk => hk.2) (.bool t286)) (fun _ hk => hk.2) (.bool t287)) (fun _ hk => hk.2) (.slice Ao62 t288.length co62)) (fun _ hk => hk.2) (.slice Ao63 t291.length co63)) (fun _ h_ => h_.1))) hb); have n1_ := Zm (Kd.S_below (by (with_reducible repeat (first | apply Kd.S_alloc | apply Kd.S_drewN | apply Kd.S_drew)); exact (Kd.S_mono (Kd.S_far (p := ⟨gb294, 5, none⟩) (Kd.S_far (p := ⟨gb294, 4, none⟩) (Kd.S_far (p := ⟨gb294, 3, none⟩) (Kd.S_far (p := ⟨gb294, 2, none⟩) (Kd.S_far (p := ⟨gb294, 1, none⟩) (Kd.S_far (p := ⟨gb294, 0, none⟩) (Kd.S_types HO261.out BK294.out (by decide)) (fun _ hk => hk.2) (.string t284)) (fun _ hk => hk.2) (.string t285)) (fun _ hk => hk.2) (.bool t286)) (fun _ hk => hk.2) (.bool t287)) (fun _ hk => hk.2) (.slice Ao62 t288.length co62)) (fun _ hk => hk.2) (.slice Ao63 t291.length co63)) (fun _ h_ => h_.1))) hb); have n2_ := Zm (Kd.R_below (by (with_reducible repeat (first | apply Kd.R_alloc | apply Kd.R_drewN | apply Kd.R_drew)); exact (Kd.R_mono (Kd.R_far (p := ⟨gb294, 5, none⟩) (Kd.R_far (p := ⟨gb294, 4, none⟩) (Kd.R_far (p := ⟨gb294, 3, none⟩) (Kd.R_far (p := ⟨gb294, 2, none⟩) (Kd.R_far (p := ⟨gb294, 1, none⟩) (Kd.R_far (p := ⟨gb294, 0, none⟩) (Kd.R_types HO268.out BK294.out (by decide)) (fun _ hk => hk.2) (.string t284)) (fun _ hk => hk.2) (.string t285)) (fun _ hk => hk.2) (.bool t286)) (fun _ hk => hk.2) (.bool t287)) (fun _ hk => hk.2) (.slice Ao62 t288.length co62)) (fun _ hk => hk.2) (.slice Ao63 t291.length co63)) (fun _ h_ => h_.1))) hb); have n3_ := Zm (Kd.S_below (by (with_reducible repeat (first | apply Kd.S_alloc | apply Kd.S_drewN | apply Kd.S_drew)); exact (Kd.S_mono (Kd.S_far (p := ⟨gb294, 5, none⟩) (Kd.S_far (p := ⟨gb294, 4, none⟩) (Kd.S_far (p := ⟨gb294, 3, none⟩) (Kd.S_far (p := ⟨gb294, 2, none⟩) (Kd.S_far (p := ⟨gb294, 1, none⟩) (Kd.S_far (p := ⟨gb294, 0, none⟩) (Kd.S_types HO271.out BK294.out (by decide)) (fun _ hk => hk.2) (.string t284)) (fun _ hk => hk.2) (.string t285)) (fun _ hk => hk.2) (.bool t286)) (fun _ hk => hk.2) (.bool t287)) (fun _ hk => hk.2) (.slice Ao62 t288.length co62)) (fun _ hk => hk.2) (.slice Ao63 t291.length co63)) (fun _ h_ => h_.1))) hb); have n4_ := Zm (Kd.R_below (by (with_reducible repeat (first | apply Kd.R_alloc | apply Kd.R_drewN | apply Kd.R_drew)); exact (Kd.R_mono (Kd.R_far (p := ⟨gb294, 5, none⟩) (Kd.R_far (p := ⟨gb294, 4, none⟩) (Kd.R_far (p := ⟨gb294, 3, none⟩) (Kd.R_far (p := ⟨gb294, 2, none⟩) (Kd.R_far (p := ⟨gb294, 1, none⟩) (Kd.R_far (p := ⟨gb294, 0, none⟩) (Kd.R_types HO279.out BK294.out (by decide)) (fun _ hk => hk.2) (.string t284)) (fun _ hk => hk.2) (.string t285)) (fun _ hk => hk.2) (.bool t286)) (fun _ hk => hk.2) (.bool t287)) (fun _ hk => hk.2) (.slice Ao62 t288.length co62)) (fun _ hk => hk.2) (.slice Ao63 t291.length co63)) (fun _ h_ => h_.1))) hb); have n5_ := Zm (Kd.S_below (by (with_reducible repeat (first | apply Kd.S_alloc | apply Kd.S_drewN | apply Kd.S_drew)); exact (Kd.S_mono (Kd.S_far (p := ⟨gb294, 5, none⟩) (Kd.S_far (p := ⟨gb294, 4, none⟩) (Kd.S_far (p := ⟨gb294, 3, none⟩) (Kd.S_far (p := ⟨gb294, 2, none⟩) (Kd.S_far (p := ⟨gb294, 1, none⟩) (Kd.S_far (p := ⟨gb294, 0, none⟩) (Kd.S_types HO282.out BK294.out (by decide)) (fun _ hk => hk.2) (.string t284)) (fun _ hk => hk.2) (.string t285)) (fun _ hk => hk.2) (.bool t286)) (fun _ hk => hk.2) (.bool t287)) (fun _ hk => hk.2) (.slice Ao62 t288.length co62)) (fun _ hk => hk.2) (.slice Ao63 t291.length co63)) (fun _ h_ => h_.1))) hb); have n6_ := Zm (Kd.R_below (by (with_reducible repeat (first | apply Kd.R_alloc | apply Kd.R_drewN | apply Kd.R_drew)); exact (Kd.R_mono (Kd.R_far (p := ⟨gb294, 5, none⟩) (Kd.R_far (p := ⟨gb294, 4, none⟩) (Kd.R_far (p := ⟨gb294, 3, none⟩) (Kd.R_far (p := ⟨gb294, 2, none⟩) (Kd.R_far (p := ⟨gb294, 1, none⟩) (Kd.R_far (p := ⟨gb294, 0, none⟩) (Kd.R_types HO290.out BK294.out (by decide)) (fun _ hk => hk.2) (.string t284)) (fun _ hk => hk.2) (.string t285)) (fun _ hk => hk.2) (.bool t286)) (fun _ hk => hk.2) (.bool t287)) (fun _ hk => hk.2) (.slice Ao62 t288.length co62)) (fun _ hk => hk.2) (.slice Ao63 t291.length co63)) (fun _ h_ => h_.1))) hb); have n7_ := Zm (Kd.S_below (by (with_reducible repeat (first | apply Kd.S_alloc | apply Kd.S_drewN | apply Kd.S_drew)); exact (Kd.S_mono (Kd.S_far (p := ⟨gb294, 5, none⟩) (Kd.S_far (p := ⟨gb294, 4, none⟩) (Kd.S_far (p := ⟨gb294, 3, none⟩) (Kd.S_far (p := ⟨gb294, 2, none⟩) (Kd.S_far (p := ⟨gb294, 1, none⟩) (Kd.S_far (p := ⟨gb294, 0, none⟩) (Kd.S_types HO293.out BK294.out (by decide)) (fun _ hk => hk.2) (.string t284)) (fun _ hk => hk.2) (.string t285)) (fun _ hk => hk.2) (.bool t286)) (fun _ hk => hk.2) (.bool t287)) (fun _ hk => hk.2) (.slice Ao62 t288.length co62)) (fun _ hk => hk.2) (.slice Ao63 t291.length co63)) (fun _ h_ => h_.1))) hb); have n8_ := Zm (Zkb (g := gb248) (o := .cells #[.string a0_0, .string a0_1, .bool a0_2, .bool a0_3, .slice A0_4 l0_4.length c0_4, .slice A0_5 l0_5.length c0_5] 45 (0, 0)) (by (with_reducible repeat (first | refine Zkn ?_ _ | refine Zkd ?_ | refine Zka ?_ _)); refine Zkr ?_ NB248_294.out _; (with_reducible repeat (first | refine Zkn ?_ _ | refine Zkd ?_ | refine Zka ?_ _)); refine Zkr ?_ NB248_294.out _; (with_reducible repeat (first | refine Zkn ?_ _ | refine Zkd ?_ | refine Zka ?_ _)); refine Zkr ?_ NB248_294.out _; (with_reducible repeat (first | refine Zkn ?_ _ | refine Zkd ?_ | refine Zka ?_ _)); refine Zkr ?_ NB248_294.out _; (with_reducible repeat (first | refine Zkn ?_ _ | refine Zkd ?_ | refine Zka ?_ _)); refine Zkr ?_ NB248_294.out _; (with_reducible repeat (first | refine Zkn ?_ _ | refine Zkd ?_ | refine Zka ?_ _)); refine Zkr ?_ NB248_294.out _; (with_reducible repeat (first | refine Zkn ?_ _ | refine Zkd ?_ | refine Zka ?_ _)); exact BK248.out) hb); have n9_ := Zm (Zkb (g := gb249) (o := .cells #[.string a1_0, .string a1_1, .bool a1_2, .bool a1_3, .slice A1_4 l1_4.length c1_4, .slice A1_5 l1_5.length c1_5] 45 (0, 0)) (by (with_reducible repeat (first | refine Zkn ?_ _ | refine Zkd ?_ | refine Zka ?_ _)); refine Zkr ?_ NB249_294.out _; (with_reducible repeat (first | refine Zkn ?_ _ | refine Zkd ?_ | refine Zka ?_ _)); refine Zkr ?_ NB249_294.out _; (with_reducible repeat (first | refine Zkn ?_ _ | refine Zkd ?_ | refine Zka ?_ _)); refine Zkr ?_ NB249_294.out _; (with_reducible repeat (first | refine Zkn ?_ _ | refine Zkd ?_ | refine Zka ?_ _)); refine Zkr ?_ NB249_294.out _; (with_reducible repeat (first | refine Zkn ?_ _ | refine Zkd ?_ | refine Zka ?_ _)); refine Zkr ?_ NB249_294.out _; (with_reducible repeat (first | refine Zkn ?_ _ | refine Zkd ?_ | refine Zka ?_ _)); refine Zkr ?_ NB249_294.out _; (with_reducible repeat (first | refine Zkn ?_ _ | refine Zkd ?_ | refine Zka ?_ _)); exact BK249.out) hb); have n10_ := Zm (Zkb (g := gb283) (o := .cells #[.string t273, .string t274, .bool t275, .bool t276, .slice Ao53 t277.length co53, .slice Ao54 t280.length co54] 51 (0, 0)) (by (with_reducible repeat (first | refine Zkn ?_ _ | refine Zkd ?_ | refine Zka ?_ _)); refine Zkr ?_ NB283_294.out _; (with_reducible repeat (first | refine Zkn ?_ _ | refine Zkd ?_ | refine Zka ?_ _)); refine Zkr ?_ NB283_294.out _; (with_reducible repeat (first | refine Zkn ?_ _ | refine Zkd ?_ | refine Zka ?_ _)); refine Zkr ?_ NB283_294.out _; (with_reducible repeat (first | refine Zkn ?_ _ | refine Zkd ?_ | refine Zka ?_ _)); refine Zkr ?_ NB283_294.out _; (with_reducible repeat (first | refine Zkn ?_ _ | refine Zkd ?_ | refine Zka ?_ _)); refine Zkr ?_ NB283_294.out _; (with_reducible repeat (first | refine Zkn ?_ _ | refine Zkd ?_ | refine Zka ?_ _)); refine Zkr ?_ NB283_294.out _; (with_reducible repeat (first | refine Zkn ?_ _ | refine Zkd ?_ | refine Zka ?_ _)); exact BK283.out) hb); have n11_ := Zm (Zkb (g := gb294) (o := .cells #[.string t284, .string t285, .bool t286, .bool t287, .slice Ao62 t288.length co62, .slice Ao63 t291.length co63] 51 (0, 0)) (by (with_reducible repeat (first | refine Zkn ?_ _ | refine Zkd ?_ | refine Zka ?_ _)); refine Zkp (cs := #[.string t284, .string t285, .bool t286, .bool t287, .slice Ao62 t288.length co62, .slice none 0 0]) ?_ 5 _ rfl; (with_reducible repeat (first | refine Zkn ?_ _ | refine Zkd ?_ | refine Zka ?_ _)); refine Zkp (cs := #[.string t284, .string t285, .bool t286, .bool t287, .slice none 0 0, .slice none 0 0]) ?_ 4 _ rfl; (with_reducible repeat (first | refine Zkn ?_ _ | refine Zkd ?_ | refine Zka ?_ _)); refine Zkp (cs := #[.string t284, .string t285, .bool t286, .bool false, .slice none 0 0, .slice none 0 0]) ?_ 3 _ rfl; (with_reducible repeat (first | refine Zkn ?_ _ | refine Zkd ?_ | refine Zka ?_ _)); refine Zkp (cs := #[.string t284, .string t285, .bool false, .bool false, .slice none 0 0, .slice none 0 0]) ?_ 2 _ rfl; (with_reducible repeat (first | refine Zkn ?_ _ | refine Zkd ?_ | refine Zka ?_ _)); refine Zkp (cs := #[.string t284, .string (⟨#[]⟩ : ByteArray), .bool false, .bool false, .slice none 0 0, .slice none 0 0]) ?_ 1 _ rfl; (with_reducible repeat (first | refine Zkn ?_ _ | refine Zkd ?_ | refine Zka ?_ _)); refine Zkp (cs := #[.string (⟨#[]⟩ : ByteArray), .string (⟨#[]⟩ : ByteArray), .bool false, .bool false, .slice none 0 0, .slice none 0 0]) ?_ 0 _ rfl; (with_reducible repeat (first | refine Zkn ?_ _ | refine Zkd ?_ | refine Zka ?_ _)); exact BK294.out) hb); have n12_ := Zm (Zbt (by repeat (first | (with_reducible first | exact HB.out | apply Zba | apply Zbn | apply Zbd | refine Zbs ?_ GE248.out | refine Zbs ?_ GE249.out | refine Zbs ?_ GE283.out | refine Zbs ?_ GE294.out) | exact HB.out)) hb); clear HO258; clear HO261; clear HO268; clear HO271; clear HO279; clear HO282; clear HO290; clear HO293; clear BK248; clear BK249; clear BK283; clear BK294; clear HB; have HO258 := n0_; have HO261 := n1_; have HO268 := n2_; have HO271 := n3_; have HO279 := n4_; have HO282 := n5_; have HO290 := n6_; have HO293 := n7_; have BK248 := n8_; have BK249 := n9_; have BK283 := n10_; have BK294 := n11_; have HB := n12_; clear n0_ n1_ n2_ n3_ n4_ n5_ n6_ n7_ n8_ n9_ n10_ n11_ n12_; (try clear hb); (try clear hb2); (try clear hk); (try clear hi)))
        have n0_ := Zm (Kd.R_drew HO258.out)
        have n1_ := Zm (Kd.S_drew HO261.out)
        have n2_ := Zm (Kd.R_drew HO268.out)
        have n3_ := Zm (Kd.S_drew HO271.out)
        have n4_ := Zm (Kd.R_drew HO279.out)
        have n5_ := Zm (Kd.S_drew HO282.out)
        have n6_ := Zm (Kd.R_drew HO290.out)
        have n7_ := Zm (Kd.S_drew HO293.out)
        have n8_ := Zm (Zkd BK248.out)
        have n9_ := Zm (Zkd BK249.out)
        have n10_ := Zm (Zkd BK283.out)
        have n11_ := Zm (Zkd BK294.out)
        have n12_ := Zm (Zbd HB.out)
        clear HO258
        clear HO261
        clear HO268
        clear HO271
        clear HO279
        clear HO282
        clear HO290
        clear HO293
        clear BK248
        clear BK249
        clear BK283
        clear BK294
        clear HB
        have HO258 := n0_
        have HO261 := n1_
        have HO268 := n2_
        have HO271 := n3_
        have HO279 := n4_
        have HO282 := n5_
        have HO290 := n6_
        have HO293 := n7_
        have BK248 := n8_
        have BK249 := n9_
        have BK283 := n10_
        have BK294 := n11_
        have HB := n12_
        clear n0_ n1_ n2_ n3_ n4_ n5_ n6_ n7_ n8_ n9_ n10_ n11_ n12_
        refine start_ (n := 5) (S := fun w' => w'.cell? ⟨gb283, 0, none⟩ = some (.string t273) ∧ w'.cell? ⟨gb283, 1, none⟩ = some (.string t274) ∧ w'.cell? ⟨gb283, 2, none⟩ = some (.bool t275) ∧ w'.cell? ⟨gb283, 3, none⟩ = some (.bool t276) ∧ w'.cell? ⟨gb283, 4, none⟩ = some (.slice Ao53 t277.length co53) ∧ w'.cell? ⟨gb283, 5, none⟩ = some (.slice Ao54 t280.length co54) ∧ w'.cell? ⟨gb248, 0, none⟩ = some (.string a0_0) ∧ w'.cell? ⟨gb248, 1, none⟩ = some (.string a0_1) ∧ w'.cell? ⟨gb248, 2, none⟩ = some (.bool a0_2) ∧ w'.cell? ⟨gb248, 3, none⟩ = some (.bool a0_3) ∧ w'.cell? ⟨gb248, 4, none⟩ = some (.slice A0_4 l0_4.length c0_4) ∧ w'.cell? ⟨gb248, 5, none⟩ = some (.slice A0_5 l0_5.length c0_5)) (ds := []) #[false, false, false, false, false] (by kernel_rfl) rfl rfl ⟨(Zkc BK283.out 0).trans rfl, (Zkc BK283.out 1).trans rfl, (Zkc BK283.out 2).trans rfl, (Zkc BK283.out 3).trans rfl, (Zkc BK283.out 4).trans rfl, (Zkc BK283.out 5).trans rfl, (Zkc BK248.out 0).trans rfl, (Zkc BK248.out 1).trans rfl, (Zkc BK248.out 2).trans rfl, (Zkc BK248.out 3).trans rfl, (Zkc BK248.out 4).trans rfl, (Zkc BK248.out 5).trans rfl⟩ (fun hHeld => ?_)
        generalize w65.drew = w66 at HO258 HO261 HO268 HO271 HO279 HO282 HO290 HO293 BK248 BK249 BK283 BK294 HB hHeld ⊢
        refine take_ (i := 0) (N := some 35) (v := ?_) (a' := ?_) #[true, false, false, false, false] rfl rfl (by kernel_rfl) (fun _ _ _ h => h) (Or.inl ⟨by rfl, ?_⟩) hHeld ?_ ?_
        rotate_left
        · rintro w' ⟨s0, s1, s2, s3, s4, s5, s6, s7, s8, s9, s10, s11⟩
          go_simp
          with_reducible rfl
        rotate_left
        · simp only [Act.put, List.setIfInBounds_toArray, List.set_cons_zero, List.set_cons_succ, i64_w, i32_w]
          rfl
        refine take_ (i := 1) (N := some 36) (v := ?_) (a' := ?_) #[true, true, false, false, false] rfl rfl (by kernel_rfl) (fun _ _ _ h => h) (Or.inl ⟨by rfl, ?_⟩) hHeld ?_ ?_
        rotate_left
        · rintro w' ⟨s0, s1, s2, s3, s4, s5, s6, s7, s8, s9, s10, s11⟩
          go_simp
          with_reducible rfl
        rotate_left
        · simp only [Act.put, List.setIfInBounds_toArray, List.set_cons_zero, List.set_cons_succ, i64_w, i32_w]
          rfl
        refine one_ (i := 2) (N := some 37) #[true, true, true, false, false] rfl rfl (by kernel_rfl) (by decide) (fun K hK => ?_)
        refine goes_ Try.func22 (by kernel_rfl) rfl #[.agg #[.string a0_0, .string a0_1, .bool a0_2, .bool a0_3, .slice A0_4 l0_4.length c0_4, .slice A0_5 l0_5.length c0_5]] (by rfl) rfl rfl (by (try simp only [List.map_toArray, List.map_cons, List.map_nil]); first | done | rfl | (simp only [List.length_drop, List.length_take]; rfl)) ?_
        with_reducible refine (laws_toClass.calls k a0_0 a0_1 a0_2 a0_3 _ _ l0_4 _ _ l0_5 t296 t297 t298 t299 t300 t303 _ ?side1 ?side2 ?side3 ?side4 A26.out).mono ?_
        (case side1 => repeat (first | exact (Kd.C_below HR0_4.out HB.out) | (with_reducible refine Kd.C_alloc ?_ _) | (with_reducible refine Kd.C_drewN ?_ _) | (with_reducible refine Kd.C_drew ?_)))
        (case side2 => exact HC0_4.out)
        (case side3 => repeat (first | exact (Kd.C_below HR0_5.out HB.out) | (with_reducible refine Kd.C_alloc ?_ _) | (with_reducible refine Kd.C_drewN ?_ _) | (with_reducible refine Kd.C_drew ?_)))
        (case side4 => exact HC0_5.out)
        rintro e w67 ⟨v301, v304, rfl, ho0, ho1, hb⟩
        refine ⟨_, rfl, ?_⟩
        have n0_ := Zm (Kd.R_elder' (by (with_reducible repeat (first | apply Kd.R_alloc | apply Kd.R_drewN | apply Kd.R_drew)); exact HO258.out) (Kd.R_base ho0) hb)
        have n1_ := Zm (Kd.S_elder' (by (with_reducible repeat (first | apply Kd.S_alloc | apply Kd.S_drewN | apply Kd.S_drew)); exact HO261.out) (Kd.S_base ho1) hb)
        have n2_ := Zm (Kd.R_elder' (by (with_reducible repeat (first | apply Kd.R_alloc | apply Kd.R_drewN | apply Kd.R_drew)); exact HO268.out) (Kd.R_base ho0) hb)
        have n3_ := Zm (Kd.S_elder' (by (with_reducible repeat (first | apply Kd.S_alloc | apply Kd.S_drewN | apply Kd.S_drew)); exact HO271.out) (Kd.S_base ho1) hb)
        have n4_ := Zm (Kd.R_elder' (by (with_reducible repeat (first | apply Kd.R_alloc | apply Kd.R_drewN | apply Kd.R_drew)); exact HO279.out) (Kd.R_base ho0) hb)
        have n5_ := Zm (Kd.S_elder' (by (with_reducible repeat (first | apply Kd.S_alloc | apply Kd.S_drewN | apply Kd.S_drew)); exact HO282.out) (Kd.S_base ho1) hb)
        have n6_ := Zm (Kd.R_elder' (by (with_reducible repeat (first | apply Kd.R_alloc | apply Kd.R_drewN | apply Kd.R_drew)); exact HO290.out) (Kd.R_base ho0) hb)
        have n7_ := Zm (Kd.S_elder' (by (with_reducible repeat (first | apply Kd.S_alloc | apply Kd.S_drewN | apply Kd.S_drew)); exact HO293.out) (Kd.S_base ho1) hb)
        have n8_ := Zm (Kd.R_lower (Kd.R_new' (Kd.R_new' (Kd.R_new' (Kd.R_new' ho0 (Kd.R_lt (by (with_reducible repeat (first | apply Kd.R_alloc | apply Kd.R_drewN | apply Kd.R_drew)); exact HO258.out))) (Kd.R_lt (by (with_reducible repeat (first | apply Kd.R_alloc | apply Kd.R_drewN | apply Kd.R_drew)); exact HO268.out))) (Kd.R_lt (by (with_reducible repeat (first | apply Kd.R_alloc | apply Kd.R_drewN | apply Kd.R_drew)); exact HO279.out))) (Kd.R_lt (by (with_reducible repeat (first | apply Kd.R_alloc | apply Kd.R_drewN | apply Kd.R_drew)); exact HO290.out))) (Zbz (by repeat (first | (with_reducible first | exact HB.out | apply Zba | apply Zbn | apply Zbd | refine Zbs ?_ GE248.out | refine Zbs ?_ GE249.out | refine Zbs ?_ GE283.out | refine Zbs ?_ GE294.out) | exact HB.out))))
        have n9_ := Zm (Kd.S_lower (Kd.S_new' (Kd.S_new' (Kd.S_new' (Kd.S_new' ho1 (Kd.S_lt (by (with_reducible repeat (first | apply Kd.S_alloc | apply Kd.S_drewN | apply Kd.S_drew)); exact HO261.out))) (Kd.S_lt (by (with_reducible repeat (first | apply Kd.S_alloc | apply Kd.S_drewN | apply Kd.S_drew)); exact HO271.out))) (Kd.S_lt (by (with_reducible repeat (first | apply Kd.S_alloc | apply Kd.S_drewN | apply Kd.S_drew)); exact HO282.out))) (Kd.S_lt (by (with_reducible repeat (first | apply Kd.S_alloc | apply Kd.S_drewN | apply Kd.S_drew)); exact HO293.out))) (Zbz (by repeat (first | (with_reducible first | exact HB.out | apply Zba | apply Zbn | apply Zbd | refine Zbs ?_ GE248.out | refine Zbs ?_ GE249.out | refine Zbs ?_ GE283.out | refine Zbs ?_ GE294.out) | exact HB.out))))
        have n10_ := Zm (Zkb (g := gb248) (o := .cells #[.string a0_0, .string a0_1, .bool a0_2, .bool a0_3, .slice A0_4 l0_4.length c0_4, .slice A0_5 l0_5.length c0_5] 45 (0, 0)) (by (with_reducible repeat (first | refine Zkn ?_ _ | refine Zkd ?_ | refine Zka ?_ _)); exact BK248.out) hb)
        have n11_ := Zm (Zkb (g := gb249) (o := .cells #[.string a1_0, .string a1_1, .bool a1_2, .bool a1_3, .slice A1_4 l1_4.length c1_4, .slice A1_5 l1_5.length c1_5] 45 (0, 0)) (by (with_reducible repeat (first | refine Zkn ?_ _ | refine Zkd ?_ | refine Zka ?_ _)); exact BK249.out) hb)
        have n12_ := Zm (Zkb (g := gb283) (o := .cells #[.string t273, .string t274, .bool t275, .bool t276, .slice Ao53 t277.length co53, .slice Ao54 t280.length co54] 51 (0, 0)) (by (with_reducible repeat (first | refine Zkn ?_ _ | refine Zkd ?_ | refine Zka ?_ _)); exact BK283.out) hb)
        have n13_ := Zm (Zkb (g := gb294) (o := .cells #[.string t284, .string t285, .bool t286, .bool t287, .slice Ao62 t288.length co62, .slice Ao63 t291.length co63] 51 (0, 0)) (by (with_reducible repeat (first | refine Zkn ?_ _ | refine Zkd ?_ | refine Zka ?_ _)); exact BK294.out) hb)
        have n14_ := Zm (Zbt (by repeat (first | (with_reducible first | exact HB.out | apply Zba | apply Zbn | apply Zbd | refine Zbs ?_ GE248.out | refine Zbs ?_ GE249.out | refine Zbs ?_ GE283.out | refine Zbs ?_ GE294.out) | exact HB.out)) hb)
        clear HO258
        clear HO261
        clear HO268
        clear HO271
        clear HO279
        clear HO282
        clear HO290
        clear HO293
        clear BK248
        clear BK249
        clear BK283
        clear BK294
        clear HB
        have HO258 := n0_
        have HO261 := n1_
        have HO268 := n2_
        have HO271 := n3_
        have HO279 := n4_
        have HO282 := n5_
        have HO290 := n6_
        have HO293 := n7_
        have HO302 := n8_
        have HO305 := n9_
        have BK248 := n10_
        have BK249 := n11_
        have BK283 := n12_
        have BK294 := n13_
        have HB := n14_
        clear n0_ n1_ n2_ n3_ n4_ n5_ n6_ n7_ n8_ n9_ n10_ n11_ n12_ n13_ n14_
        (try clear hb)
        (try clear hb2)
        (try clear hk)
        (try clear hi)
        (try clear ho0)
        (try clear ho1)
        obtain ⟨Ao68, co68, eo68⟩ := Kd.R_slice HO302.out
        (first | subst eo68 | (injection eo68 with f1_ f2_ f3_; have f4_ := f1_.symm; have f5_ := f3_.symm; clear f1_ f2_ f3_; subst f4_; subst f5_))
        obtain ⟨Ao69, co69, eo69⟩ := Kd.S_slice HO305.out
        (first | subst eo69 | (injection eo69 with f1_ f2_ f3_; have f4_ := f1_.symm; have f5_ := f3_.symm; clear f1_ f2_ f3_; subst f4_; subst f5_))
        refine hK.out _ _ ⟨(Zkc BK283.out 0).trans rfl, (Zkc BK283.out 1).trans rfl, (Zkc BK283.out 2).trans rfl, (Zkc BK283.out 3).trans rfl, (Zkc BK283.out 4).trans rfl, (Zkc BK283.out 5).trans rfl, (Zkc BK248.out 0).trans rfl, (Zkc BK248.out 1).trans rfl, (Zkc BK248.out 2).trans rfl, (Zkc BK248.out 3).trans rfl, (Zkc BK248.out 4).trans rfl, (Zkc BK248.out 5).trans rfl⟩ (fun hHeld => ?_)
        clear hK K
        refine norm_ (a' := ?_) ?_ ?_
        rotate_left
        · show Act.put _ (some 37) _ = _
          simp only [Act.put, List.setIfInBounds_toArray, List.set_cons_zero, List.set_cons_succ, i64_w, i32_w]
          rfl
        refine one_ (i := 3) (N := some 38) #[true, true, true, true, false] rfl rfl (by kernel_rfl) (by decide) (fun K hK => ?_)
        refine goes_ Try.func24 (by kernel_rfl) rfl #[.agg #[.string t273, .string t274, .bool t275, .bool t276, .slice Ao53 t277.length co53, .slice Ao54 t280.length co54], .agg #[.string t296, .string t297, .bool t298, .bool t299, .slice Ao68 t300.length co68, .slice Ao69 t303.length co69]] (by rfl) rfl rfl (by (try simp only [List.map_toArray, List.map_cons, List.map_nil]); first | done | rfl | (simp only [List.length_drop, List.length_take]; rfl)) ?_
        with_reducible refine (laws_eqClass.calls k t273 t274 t275 t276 _ _ t277 _ _ t280 t296 t297 t298 t299 _ _ t300 _ _ t303 true _ ?side1 ?side2 ?side3 ?side4 ?side5 ?side6 ?side7 ?side8 A27.out).mono ?_
        (case side1 => repeat (first | exact (Kd.R_reads' HO279.out).2.2 | (with_reducible refine Kd.C_alloc ?_ _) | (with_reducible refine Kd.C_drewN ?_ _) | (with_reducible refine Kd.C_drew ?_)))
        (case side2 => exact (Kd.R_reads' HO279.out).2.1)
        (case side3 => repeat (first | exact (Kd.S_reads' HO282.out).2.2 | (with_reducible refine Kd.C_alloc ?_ _) | (with_reducible refine Kd.C_drewN ?_ _) | (with_reducible refine Kd.C_drew ?_)))
        (case side4 => exact (Kd.S_reads' HO282.out).2.1)
        (case side5 => repeat (first | exact (Kd.R_reads' HO302.out).2.2 | (with_reducible refine Kd.C_alloc ?_ _) | (with_reducible refine Kd.C_drewN ?_ _) | (with_reducible refine Kd.C_drew ?_)))
        (case side6 => exact (Kd.R_reads' HO302.out).2.1)
        (case side7 => repeat (first | exact (Kd.S_reads' HO305.out).2.2 | (with_reducible refine Kd.C_alloc ?_ _) | (with_reducible refine Kd.C_drewN ?_ _) | (with_reducible refine Kd.C_drew ?_)))
        (case side8 => exact (Kd.S_reads' HO305.out).2.1)
        rintro e w70 ⟨rfl, hb⟩
        refine ⟨_, rfl, ?_⟩
        have n0_ := Zm (Kd.R_below (by (with_reducible repeat (first | apply Kd.R_alloc | apply Kd.R_drewN | apply Kd.R_drew)); exact HO258.out) hb)
        have n1_ := Zm (Kd.S_below (by (with_reducible repeat (first | apply Kd.S_alloc | apply Kd.S_drewN | apply Kd.S_drew)); exact HO261.out) hb)
        have n2_ := Zm (Kd.R_below (by (with_reducible repeat (first | apply Kd.R_alloc | apply Kd.R_drewN | apply Kd.R_drew)); exact HO268.out) hb)
        have n3_ := Zm (Kd.S_below (by (with_reducible repeat (first | apply Kd.S_alloc | apply Kd.S_drewN | apply Kd.S_drew)); exact HO271.out) hb)
        have n4_ := Zm (Kd.R_below (by (with_reducible repeat (first | apply Kd.R_alloc | apply Kd.R_drewN | apply Kd.R_drew)); exact HO279.out) hb)
        have n5_ := Zm (Kd.S_below (by (with_reducible repeat (first | apply Kd.S_alloc | apply Kd.S_drewN | apply Kd.S_drew)); exact HO282.out) hb)
        have n6_ := Zm (Kd.R_below (by (with_reducible repeat (first | apply Kd.R_alloc | apply Kd.R_drewN | apply Kd.R_drew)); exact HO290.out) hb)
        have n7_ := Zm (Kd.S_below (by (with_reducible repeat (first | apply Kd.S_alloc | apply Kd.S_drewN | apply Kd.S_drew)); exact HO293.out) hb)
        have n8_ := Zm (Kd.R_below (by (with_reducible repeat (first | apply Kd.R_alloc | apply Kd.R_drewN | apply Kd.R_drew)); exact HO302.out) hb)
        have n9_ := Zm (Kd.S_below (by (with_reducible repeat (first | apply Kd.S_alloc | apply Kd.S_drewN | apply Kd.S_drew)); exact HO305.out) hb)
        have n10_ := Zm (Zkb (g := gb248) (o := .cells #[.string a0_0, .string a0_1, .bool a0_2, .bool a0_3, .slice A0_4 l0_4.length c0_4, .slice A0_5 l0_5.length c0_5] 45 (0, 0)) (by (with_reducible repeat (first | refine Zkn ?_ _ | refine Zkd ?_ | refine Zka ?_ _)); exact BK248.out) hb)
        have n11_ := Zm (Zkb (g := gb249) (o := .cells #[.string a1_0, .string a1_1, .bool a1_2, .bool a1_3, .slice A1_4 l1_4.length c1_4, .slice A1_5 l1_5.length c1_5] 45 (0, 0)) (by (with_reducible repeat (first | refine Zkn ?_ _ | refine Zkd ?_ | refine Zka ?_ _)); exact BK249.out) hb)
        have n12_ := Zm (Zkb (g := gb283) (o := .cells #[.string t273, .string t274, .bool t275, .bool t276, .slice Ao53 t277.length co53, .slice Ao54 t280.length co54] 51 (0, 0)) (by (with_reducible repeat (first | refine Zkn ?_ _ | refine Zkd ?_ | refine Zka ?_ _)); exact BK283.out) hb)
        have n13_ := Zm (Zkb (g := gb294) (o := .cells #[.string t284, .string t285, .bool t286, .bool t287, .slice Ao62 t288.length co62, .slice Ao63 t291.length co63] 51 (0, 0)) (by (with_reducible repeat (first | refine Zkn ?_ _ | refine Zkd ?_ | refine Zka ?_ _)); exact BK294.out) hb)
        have n14_ := Zm (Zbt (by repeat (first | (with_reducible first | exact HB.out | apply Zba | apply Zbn | apply Zbd | refine Zbs ?_ GE248.out | refine Zbs ?_ GE249.out | refine Zbs ?_ GE283.out | refine Zbs ?_ GE294.out) | exact HB.out)) hb)
        clear HO258
        clear HO261
        clear HO268
        clear HO271
        clear HO279
        clear HO282
        clear HO290
        clear HO293
        clear HO302
        clear HO305
        clear BK248
        clear BK249
        clear BK283
        clear BK294
        clear HB
        have HO258 := n0_
        have HO261 := n1_
        have HO268 := n2_
        have HO271 := n3_
        have HO279 := n4_
        have HO282 := n5_
        have HO290 := n6_
        have HO293 := n7_
        have HO302 := n8_
        have HO305 := n9_
        have BK248 := n10_
        have BK249 := n11_
        have BK283 := n12_
        have BK294 := n13_
        have HB := n14_
        clear n0_ n1_ n2_ n3_ n4_ n5_ n6_ n7_ n8_ n9_ n10_ n11_ n12_ n13_ n14_
        (try clear hb)
        (try clear hb2)
        (try clear hk)
        (try clear hi)
        refine hK.out _ _ ⟨(Zkc BK283.out 0).trans rfl, (Zkc BK283.out 1).trans rfl, (Zkc BK283.out 2).trans rfl, (Zkc BK283.out 3).trans rfl, (Zkc BK283.out 4).trans rfl, (Zkc BK283.out 5).trans rfl, (Zkc BK248.out 0).trans rfl, (Zkc BK248.out 1).trans rfl, (Zkc BK248.out 2).trans rfl, (Zkc BK248.out 3).trans rfl, (Zkc BK248.out 4).trans rfl, (Zkc BK248.out 5).trans rfl⟩ (fun hHeld => ?_)
        clear hK K
        refine norm_ (a' := ?_) ?_ ?_
        rotate_left
        · show Act.put _ (some 38) _ = _
          simp only [Act.put, List.setIfInBounds_toArray, List.set_cons_zero, List.set_cons_succ, i64_w, i32_w]
          rfl
        refine pure_ (i := 4) (N := some 39) (v := ?_) (a' := ?_) #[true, true, true, true, true] rfl rfl (by kernel_rfl) (fun _ _ _ h => h) (Or.inl ⟨by rfl, ?_⟩) ?_ ?_
        rotate_left
        · intro w'
          go_simp
          with_reducible rfl
        rotate_left
        · simp only [Act.put, List.setIfInBounds_toArray, List.set_cons_zero, List.set_cons_succ, i64_w, i32_w]
          rfl
        refine done_ (by kernel_rfl) ?_
        try go_wp2
        have n0_ := Zm (Kd.R_drew HO258.out)
        have n1_ := Zm (Kd.S_drew HO261.out)
        have n2_ := Zm (Kd.R_drew HO268.out)
        have n3_ := Zm (Kd.S_drew HO271.out)
        have n4_ := Zm (Kd.R_drew HO279.out)
        have n5_ := Zm (Kd.S_drew HO282.out)
        have n6_ := Zm (Kd.R_drew HO290.out)
        have n7_ := Zm (Kd.S_drew HO293.out)
        have n8_ := Zm (Kd.R_drew HO302.out)
        have n9_ := Zm (Kd.S_drew HO305.out)
        have n10_ := Zm (Zkd BK248.out)
        have n11_ := Zm (Zkd BK249.out)
        have n12_ := Zm (Zkd BK283.out)
        have n13_ := Zm (Zkd BK294.out)
        have n14_ := Zm (Zbd HB.out)
        clear HO258
        clear HO261
        clear HO268
        clear HO271
        clear HO279
        clear HO282
        clear HO290
        clear HO293
        clear HO302
        clear HO305
        clear BK248
        clear BK249
        clear BK283
        clear BK294
        clear HB
        have HO258 := n0_
        have HO261 := n1_
        have HO268 := n2_
        have HO271 := n3_
        have HO279 := n4_
        have HO282 := n5_
        have HO290 := n6_
        have HO293 := n7_
        have HO302 := n8_
        have HO305 := n9_
        have BK248 := n10_
        have BK249 := n11_
        have BK283 := n12_
        have BK294 := n13_
        have HB := n14_
        clear n0_ n1_ n2_ n3_ n4_ n5_ n6_ n7_ n8_ n9_ n10_ n11_ n12_ n13_ n14_
        refine start_ (n := 5) (S := fun w' => w'.cell? ⟨gb294, 0, none⟩ = some (.string t284) ∧ w'.cell? ⟨gb294, 1, none⟩ = some (.string t285) ∧ w'.cell? ⟨gb294, 2, none⟩ = some (.bool t286) ∧ w'.cell? ⟨gb294, 3, none⟩ = some (.bool t287) ∧ w'.cell? ⟨gb294, 4, none⟩ = some (.slice Ao62 t288.length co62) ∧ w'.cell? ⟨gb294, 5, none⟩ = some (.slice Ao63 t291.length co63) ∧ w'.cell? ⟨gb249, 0, none⟩ = some (.string a1_0) ∧ w'.cell? ⟨gb249, 1, none⟩ = some (.string a1_1) ∧ w'.cell? ⟨gb249, 2, none⟩ = some (.bool a1_2) ∧ w'.cell? ⟨gb249, 3, none⟩ = some (.bool a1_3) ∧ w'.cell? ⟨gb249, 4, none⟩ = some (.slice A1_4 l1_4.length c1_4) ∧ w'.cell? ⟨gb249, 5, none⟩ = some (.slice A1_5 l1_5.length c1_5)) (ds := []) #[false, false, false, false, false] (by kernel_rfl) rfl rfl ⟨(Zkc BK294.out 0).trans rfl, (Zkc BK294.out 1).trans rfl, (Zkc BK294.out 2).trans rfl, (Zkc BK294.out 3).trans rfl, (Zkc BK294.out 4).trans rfl, (Zkc BK294.out 5).trans rfl, (Zkc BK249.out 0).trans rfl, (Zkc BK249.out 1).trans rfl, (Zkc BK249.out 2).trans rfl, (Zkc BK249.out 3).trans rfl, (Zkc BK249.out 4).trans rfl, (Zkc BK249.out 5).trans rfl⟩ (fun hHeld => ?_)
        generalize w70.drew = w71 at HO258 HO261 HO268 HO271 HO279 HO282 HO290 HO293 HO302 HO305 BK248 BK249 BK283 BK294 HB hHeld ⊢
        refine take_ (i := 0) (N := some 40) (v := ?_) (a' := ?_) #[true, false, false, false, false] rfl rfl (by kernel_rfl) (fun _ _ _ h => h) (Or.inl ⟨by rfl, ?_⟩) hHeld ?_ ?_
        rotate_left
        · rintro w' ⟨s0, s1, s2, s3, s4, s5, s6, s7, s8, s9, s10, s11⟩
          go_simp
          with_reducible rfl
        rotate_left
        · simp only [Act.put, List.setIfInBounds_toArray, List.set_cons_zero, List.set_cons_succ, i64_w, i32_w]
          rfl
        refine take_ (i := 1) (N := some 41) (v := ?_) (a' := ?_) #[true, true, false, false, false] rfl rfl (by kernel_rfl) (fun _ _ _ h => h) (Or.inl ⟨by rfl, ?_⟩) hHeld ?_ ?_
        rotate_left
        · rintro w' ⟨s0, s1, s2, s3, s4, s5, s6, s7, s8, s9, s10, s11⟩
          go_simp
          with_reducible rfl
        rotate_left
        · simp only [Act.put, List.setIfInBounds_toArray, List.set_cons_zero, List.set_cons_succ, i64_w, i32_w]
          rfl
        refine one_ (i := 2) (N := some 42) #[true, true, true, false, false] rfl rfl (by kernel_rfl) (by decide) (fun K hK => ?_)
        refine goes_ Try.func22 (by kernel_rfl) rfl #[.agg #[.string a1_0, .string a1_1, .bool a1_2, .bool a1_3, .slice A1_4 l1_4.length c1_4, .slice A1_5 l1_5.length c1_5]] (by rfl) rfl rfl (by (try simp only [List.map_toArray, List.map_cons, List.map_nil]); first | done | rfl | (simp only [List.length_drop, List.length_take]; rfl)) ?_
        with_reducible refine (laws_toClass.calls k a1_0 a1_1 a1_2 a1_3 _ _ l1_4 _ _ l1_5 t307 t308 t309 t310 t311 t314 _ ?side1 ?side2 ?side3 ?side4 A29.out).mono ?_
        (case side1 => repeat (first | exact (Kd.C_below HR1_4.out HB.out) | (with_reducible refine Kd.C_alloc ?_ _) | (with_reducible refine Kd.C_drewN ?_ _) | (with_reducible refine Kd.C_drew ?_)))
        (case side2 => exact HC1_4.out)
        (case side3 => repeat (first | exact (Kd.C_below HR1_5.out HB.out) | (with_reducible refine Kd.C_alloc ?_ _) | (with_reducible refine Kd.C_drewN ?_ _) | (with_reducible refine Kd.C_drew ?_)))
        (case side4 => exact HC1_5.out)
        rintro e w72 ⟨v312, v315, rfl, ho0, ho1, hb⟩
        refine ⟨_, rfl, ?_⟩
        have n0_ := Zm (Kd.R_elder' (by (with_reducible repeat (first | apply Kd.R_alloc | apply Kd.R_drewN | apply Kd.R_drew)); exact HO258.out) (Kd.R_base ho0) hb)
        have n1_ := Zm (Kd.S_elder' (by (with_reducible repeat (first | apply Kd.S_alloc | apply Kd.S_drewN | apply Kd.S_drew)); exact HO261.out) (Kd.S_base ho1) hb)
        have n2_ := Zm (Kd.R_elder' (by (with_reducible repeat (first | apply Kd.R_alloc | apply Kd.R_drewN | apply Kd.R_drew)); exact HO268.out) (Kd.R_base ho0) hb)
        have n3_ := Zm (Kd.S_elder' (by (with_reducible repeat (first | apply Kd.S_alloc | apply Kd.S_drewN | apply Kd.S_drew)); exact HO271.out) (Kd.S_base ho1) hb)
        have n4_ := Zm (Kd.R_elder' (by (with_reducible repeat (first | apply Kd.R_alloc | apply Kd.R_drewN | apply Kd.R_drew)); exact HO279.out) (Kd.R_base ho0) hb)
        have n5_ := Zm (Kd.S_elder' (by (with_reducible repeat (first | apply Kd.S_alloc | apply Kd.S_drewN | apply Kd.S_drew)); exact HO282.out) (Kd.S_base ho1) hb)
        have n6_ := Zm (Kd.R_elder' (by (with_reducible repeat (first | apply Kd.R_alloc | apply Kd.R_drewN | apply Kd.R_drew)); exact HO290.out) (Kd.R_base ho0) hb)
        have n7_ := Zm (Kd.S_elder' (by (with_reducible repeat (first | apply Kd.S_alloc | apply Kd.S_drewN | apply Kd.S_drew)); exact HO293.out) (Kd.S_base ho1) hb)
        have n8_ := Zm (Kd.R_elder' (by (with_reducible repeat (first | apply Kd.R_alloc | apply Kd.R_drewN | apply Kd.R_drew)); exact HO302.out) (Kd.R_base ho0) hb)
        have n9_ := Zm (Kd.S_elder' (by (with_reducible repeat (first | apply Kd.S_alloc | apply Kd.S_drewN | apply Kd.S_drew)); exact HO305.out) (Kd.S_base ho1) hb)
        have n10_ := Zm (Kd.R_lower (Kd.R_new' (Kd.R_new' (Kd.R_new' (Kd.R_new' (Kd.R_new' ho0 (Kd.R_lt (by (with_reducible repeat (first | apply Kd.R_alloc | apply Kd.R_drewN | apply Kd.R_drew)); exact HO258.out))) (Kd.R_lt (by (with_reducible repeat (first | apply Kd.R_alloc | apply Kd.R_drewN | apply Kd.R_drew)); exact HO268.out))) (Kd.R_lt (by (with_reducible repeat (first | apply Kd.R_alloc | apply Kd.R_drewN | apply Kd.R_drew)); exact HO279.out))) (Kd.R_lt (by (with_reducible repeat (first | apply Kd.R_alloc | apply Kd.R_drewN | apply Kd.R_drew)); exact HO290.out))) (Kd.R_lt (by (with_reducible repeat (first | apply Kd.R_alloc | apply Kd.R_drewN | apply Kd.R_drew)); exact HO302.out))) (Zbz (by repeat (first | (with_reducible first | exact HB.out | apply Zba | apply Zbn | apply Zbd | refine Zbs ?_ GE248.out | refine Zbs ?_ GE249.out | refine Zbs ?_ GE283.out | refine Zbs ?_ GE294.out) | exact HB.out))))
        have n11_ := Zm (Kd.S_lower (Kd.S_new' (Kd.S_new' (Kd.S_new' (Kd.S_new' (Kd.S_new' ho1 (Kd.S_lt (by (with_reducible repeat (first | apply Kd.S_alloc | apply Kd.S_drewN | apply Kd.S_drew)); exact HO261.out))) (Kd.S_lt (by (with_reducible repeat (first | apply Kd.S_alloc | apply Kd.S_drewN | apply Kd.S_drew)); exact HO271.out))) (Kd.S_lt (by (with_reducible repeat (first | apply Kd.S_alloc | apply Kd.S_drewN | apply Kd.S_drew)); exact HO282.out))) (Kd.S_lt (by (with_reducible repeat (first | apply Kd.S_alloc | apply Kd.S_drewN | apply Kd.S_drew)); exact HO293.out))) (Kd.S_lt (by (with_reducible repeat (first | apply Kd.S_alloc | apply Kd.S_drewN | apply Kd.S_drew)); exact HO305.out))) (Zbz (by repeat (first | (with_reducible first | exact HB.out | apply Zba | apply Zbn | apply Zbd | refine Zbs ?_ GE248.out | refine Zbs ?_ GE249.out | refine Zbs ?_ GE283.out | refine Zbs ?_ GE294.out) | exact HB.out))))
        have n12_ := Zm (Zkb (g := gb248) (o := .cells #[.string a0_0, .string a0_1, .bool a0_2, .bool a0_3, .slice A0_4 l0_4.length c0_4, .slice A0_5 l0_5.length c0_5] 45 (0, 0)) (by (with_reducible repeat (first | refine Zkn ?_ _ | refine Zkd ?_ | refine Zka ?_ _)); exact BK248.out) hb)
        have n13_ := Zm (Zkb (g := gb249) (o := .cells #[.string a1_0, .string a1_1, .bool a1_2, .bool a1_3, .slice A1_4 l1_4.length c1_4, .slice A1_5 l1_5.length c1_5] 45 (0, 0)) (by (with_reducible repeat (first | refine Zkn ?_ _ | refine Zkd ?_ | refine Zka ?_ _)); exact BK249.out) hb)
        have n14_ := Zm (Zkb (g := gb283) (o := .cells #[.string t273, .string t274, .bool t275, .bool t276, .slice Ao53 t277.length co53, .slice Ao54 t280.length co54] 51 (0, 0)) (by (with_reducible repeat (first | refine Zkn ?_ _ | refine Zkd ?_ | refine Zka ?_ _)); exact BK283.out) hb)
        have n15_ := Zm (Zkb (g := gb294) (o := .cells #[.string t284, .string t285, .bool t286, .bool t287, .slice Ao62 t288.length co62, .slice Ao63 t291.length co63] 51 (0, 0)) (by (with_reducible repeat (first | refine Zkn ?_ _ | refine Zkd ?_ | refine Zka ?_ _)); exact BK294.out) hb)
        have n16_ := Zm (Zbt (by repeat (first | (with_reducible first | exact HB.out | apply Zba | apply Zbn | apply Zbd | refine Zbs ?_ GE248.out | refine Zbs ?_ GE249.out | refine Zbs ?_ GE283.out | refine Zbs ?_ GE294.out) | exact HB.out)) hb)
        clear HO258
        clear HO261
        clear HO268
        clear HO271
        clear HO279
        clear HO282
        clear HO290
        clear HO293
        clear HO302
        clear HO305
        clear BK248
        clear BK249
        clear BK283
        clear BK294
        clear HB
        have HO258 := n0_
        have HO261 := n1_
        have HO268 := n2_
        have HO271 := n3_
        have HO279 := n4_
        have HO282 := n5_
        have HO290 := n6_
        have HO293 := n7_
        have HO302 := n8_
        have HO305 := n9_
        have HO313 := n10_
        have HO316 := n11_
        have BK248 := n12_
        have BK249 := n13_
        have BK283 := n14_
        have BK294 := n15_
        have HB := n16_
        clear n0_ n1_ n2_ n3_ n4_ n5_ n6_ n7_ n8_ n9_ n10_ n11_ n12_ n13_ n14_ n15_ n16_
        (try clear hb)
        (try clear hb2)
        (try clear hk)
        (try clear hi)
        (try clear ho0)
        (try clear ho1)
        obtain ⟨Ao73, co73, eo73⟩ := Kd.R_slice HO313.out
        (first | subst eo73 | (injection eo73 with f1_ f2_ f3_; have f4_ := f1_.symm; have f5_ := f3_.symm; clear f1_ f2_ f3_; subst f4_; subst f5_))
        obtain ⟨Ao74, co74, eo74⟩ := Kd.S_slice HO316.out
        (first | subst eo74 | (injection eo74 with f1_ f2_ f3_; have f4_ := f1_.symm; have f5_ := f3_.symm; clear f1_ f2_ f3_; subst f4_; subst f5_))
        refine hK.out _ _ ⟨(Zkc BK294.out 0).trans rfl, (Zkc BK294.out 1).trans rfl, (Zkc BK294.out 2).trans rfl, (Zkc BK294.out 3).trans rfl, (Zkc BK294.out 4).trans rfl, (Zkc BK294.out 5).trans rfl, (Zkc BK249.out 0).trans rfl, (Zkc BK249.out 1).trans rfl, (Zkc BK249.out 2).trans rfl, (Zkc BK249.out 3).trans rfl, (Zkc BK249.out 4).trans rfl, (Zkc BK249.out 5).trans rfl⟩ (fun hHeld => ?_)
        clear hK K
        refine norm_ (a' := ?_) ?_ ?_
        rotate_left
        · show Act.put _ (some 42) _ = _
          simp only [Act.put, List.setIfInBounds_toArray, List.set_cons_zero, List.set_cons_succ, i64_w, i32_w]
          rfl
        refine one_ (i := 3) (N := some 43) #[true, true, true, true, false] rfl rfl (by kernel_rfl) (by decide) (fun K hK => ?_)
        refine goes_ Try.func24 (by kernel_rfl) rfl #[.agg #[.string t284, .string t285, .bool t286, .bool t287, .slice Ao62 t288.length co62, .slice Ao63 t291.length co63], .agg #[.string t307, .string t308, .bool t309, .bool t310, .slice Ao73 t311.length co73, .slice Ao74 t314.length co74]] (by rfl) rfl rfl (by (try simp only [List.map_toArray, List.map_cons, List.map_nil]); first | done | rfl | (simp only [List.length_drop, List.length_take]; rfl)) ?_
        with_reducible refine (laws_eqClass.calls k t284 t285 t286 t287 _ _ t288 _ _ t291 t307 t308 t309 t310 _ _ t311 _ _ t314 true _ ?side1 ?side2 ?side3 ?side4 ?side5 ?side6 ?side7 ?side8 A30.out).mono ?_
        (case side1 => repeat (first | exact (Kd.R_reads' HO290.out).2.2 | (with_reducible refine Kd.C_alloc ?_ _) | (with_reducible refine Kd.C_drewN ?_ _) | (with_reducible refine Kd.C_drew ?_)))
        (case side2 => exact (Kd.R_reads' HO290.out).2.1)
        (case side3 => repeat (first | exact (Kd.S_reads' HO293.out).2.2 | (with_reducible refine Kd.C_alloc ?_ _) | (with_reducible refine Kd.C_drewN ?_ _) | (with_reducible refine Kd.C_drew ?_)))
        (case side4 => exact (Kd.S_reads' HO293.out).2.1)
        (case side5 => repeat (first | exact (Kd.R_reads' HO313.out).2.2 | (with_reducible refine Kd.C_alloc ?_ _) | (with_reducible refine Kd.C_drewN ?_ _) | (with_reducible refine Kd.C_drew ?_)))
        (case side6 => exact (Kd.R_reads' HO313.out).2.1)
        (case side7 => repeat (first | exact (Kd.S_reads' HO316.out).2.2 | (with_reducible refine Kd.C_alloc ?_ _) | (with_reducible refine Kd.C_drewN ?_ _) | (with_reducible refine Kd.C_drew ?_)))
        (case side8 => exact (Kd.S_reads' HO316.out).2.1)
        rintro e w75 ⟨rfl, hb⟩
        refine ⟨_, rfl, ?_⟩
        have n0_ := Zm (Kd.R_below (by (with_reducible repeat (first | apply Kd.R_alloc | apply Kd.R_drewN | apply Kd.R_drew)); exact HO258.out) hb)
        have n1_ := Zm (Kd.S_below (by (with_reducible repeat (first | apply Kd.S_alloc | apply Kd.S_drewN | apply Kd.S_drew)); exact HO261.out) hb)
        have n2_ := Zm (Kd.R_below (by (with_reducible repeat (first | apply Kd.R_alloc | apply Kd.R_drewN | apply Kd.R_drew)); exact HO268.out) hb)
        have n3_ := Zm (Kd.S_below (by (with_reducible repeat (first | apply Kd.S_alloc | apply Kd.S_drewN | apply Kd.S_drew)); exact HO271.out) hb)
        have n4_ := Zm (Kd.R_below (by (with_reducible repeat (first | apply Kd.R_alloc | apply Kd.R_drewN | apply Kd.R_drew)); exact HO279.out) hb)
        have n5_ := Zm (Kd.S_below (by (with_reducible repeat (first | apply Kd.S_alloc | apply Kd.S_drewN | apply Kd.S_drew)); exact HO282.out) hb)
        have n6_ := Zm (Kd.R_below (by (with_reducible repeat (first | apply Kd.R_alloc | apply Kd.R_drewN | apply Kd.R_drew)); exact HO290.out) hb)
        have n7_ := Zm (Kd.S_below (by (with_reducible repeat (first | apply Kd.S_alloc | apply Kd.S_drewN | apply Kd.S_drew)); exact HO293.out) hb)
        have n8_ := Zm (Kd.R_below (by (with_reducible repeat (first | apply Kd.R_alloc | apply Kd.R_drewN | apply Kd.R_drew)); exact HO302.out) hb)
        have n9_ := Zm (Kd.S_below (by (with_reducible repeat (first | apply Kd.S_alloc | apply Kd.S_drewN | apply Kd.S_drew)); exact HO305.out) hb)
        have n10_ := Zm (Kd.R_below (by (with_reducible repeat (first | apply Kd.R_alloc | apply Kd.R_drewN | apply Kd.R_drew)); exact HO313.out) hb)
        have n11_ := Zm (Kd.S_below (by (with_reducible repeat (first | apply Kd.S_alloc | apply Kd.S_drewN | apply Kd.S_drew)); exact HO316.out) hb)
        have n12_ := Zm (Zkb (g := gb248) (o := .cells #[.string a0_0, .string a0_1, .bool a0_2, .bool a0_3, .slice A0_4 l0_4.length c0_4, .slice A0_5 l0_5.length c0_5] 45 (0, 0)) (by (with_reducible repeat (first | refine Zkn ?_ _ | refine Zkd ?_ | refine Zka ?_ _)); exact BK248.out) hb)
        have n13_ := Zm (Zkb (g := gb249) (o := .cells #[.string a1_0, .string a1_1, .bool a1_2, .bool a1_3, .slice A1_4 l1_4.length c1_4, .slice A1_5 l1_5.length c1_5] 45 (0, 0)) (by (with_reducible repeat (first | refine Zkn ?_ _ | refine Zkd ?_ | refine Zka ?_ _)); exact BK249.out) hb)
        have n14_ := Zm (Zkb (g := gb283) (o := .cells #[.string t273, .string t274, .bool t275, .bool t276, .slice Ao53 t277.length co53, .slice Ao54 t280.length co54] 51 (0, 0)) (by (with_reducible repeat (first | refine Zkn ?_ _ | refine Zkd ?_ | refine Zka ?_ _)); exact BK283.out) hb)
        have n15_ := Zm (Zkb (g := gb294) (o := .cells #[.string t284, .string t285, .bool t286, .bool t287, .slice Ao62 t288.length co62, .slice Ao63 t291.length co63] 51 (0, 0)) (by (with_reducible repeat (first | refine Zkn ?_ _ | refine Zkd ?_ | refine Zka ?_ _)); exact BK294.out) hb)
        have n16_ := Zm (Zbt (by repeat (first | (with_reducible first | exact HB.out | apply Zba | apply Zbn | apply Zbd | refine Zbs ?_ GE248.out | refine Zbs ?_ GE249.out | refine Zbs ?_ GE283.out | refine Zbs ?_ GE294.out) | exact HB.out)) hb)
        clear HO258
        clear HO261
        clear HO268
        clear HO271
        clear HO279
        clear HO282
        clear HO290
        clear HO293
        clear HO302
        clear HO305
        clear HO313
        clear HO316
        clear BK248
        clear BK249
        clear BK283
        clear BK294
        clear HB
        have HO258 := n0_
        have HO261 := n1_
        have HO268 := n2_
        have HO271 := n3_
        have HO279 := n4_
        have HO282 := n5_
        have HO290 := n6_
        have HO293 := n7_
        have HO302 := n8_
        have HO305 := n9_
        have HO313 := n10_
        have HO316 := n11_
        have BK248 := n12_
        have BK249 := n13_
        have BK283 := n14_
        have BK294 := n15_
        have HB := n16_
        clear n0_ n1_ n2_ n3_ n4_ n5_ n6_ n7_ n8_ n9_ n10_ n11_ n12_ n13_ n14_ n15_ n16_
        (try clear hb)
        (try clear hb2)
        (try clear hk)
        (try clear hi)
        refine hK.out _ _ ⟨(Zkc BK294.out 0).trans rfl, (Zkc BK294.out 1).trans rfl, (Zkc BK294.out 2).trans rfl, (Zkc BK294.out 3).trans rfl, (Zkc BK294.out 4).trans rfl, (Zkc BK294.out 5).trans rfl, (Zkc BK249.out 0).trans rfl, (Zkc BK249.out 1).trans rfl, (Zkc BK249.out 2).trans rfl, (Zkc BK249.out 3).trans rfl, (Zkc BK249.out 4).trans rfl, (Zkc BK249.out 5).trans rfl⟩ (fun hHeld => ?_)
        clear hK K
        refine norm_ (a' := ?_) ?_ ?_
        rotate_left
        · show Act.put _ (some 43) _ = _
          simp only [Act.put, List.setIfInBounds_toArray, List.set_cons_zero, List.set_cons_succ, i64_w, i32_w]
          rfl
        refine pure_ (i := 4) (N := some 44) (v := ?_) (a' := ?_) #[true, true, true, true, true] rfl rfl (by kernel_rfl) (fun _ _ _ h => h) (Or.inl ⟨by rfl, ?_⟩) ?_ ?_
        rotate_left
        · intro w'
          go_simp
          with_reducible rfl
        rotate_left
        · simp only [Act.put, List.setIfInBounds_toArray, List.set_cons_zero, List.set_cons_succ, i64_w, i32_w]
          rfl
        refine done_ (by kernel_rfl) ?_
        try go_wp2
        go_ret
        exact ⟨by first | rfl | (simp [errW_none, errW_some] <;> rfl) | (simp [*, errW_none, errW_some] <;> rfl), by repeat (first | (with_reducible first | exact HB.out | apply Zba | apply Zbn | apply Zbd | refine Zbs ?_ GE248.out | refine Zbs ?_ GE249.out | refine Zbs ?_ GE283.out | refine Zbs ?_ GE294.out) | exact HB.out)⟩
      rw [if_pos c25] at H
      have c25b0 : (t295 != t272) = true := c25
      (try (have c25b1 : decide (t295 = t272) = false := by simpa using c25))
      (try (have c25b2 : (t295 == t272) = false := by simpa using c25))
      (try (have c25b3 : ¬ (t295 = t272) := by simpa using c25))
      clear c25
      exact absurd (H.trans (congrArg some hT_)) (by simp)
    rw [if_pos c11] at H
    have c11b0 : decide (t251 < 0) = true := decide_eq_true c11
    clear c11
    clear hT_
    obtain rfl := Option.some.inj H
    go_enter Try.func5, Try.ntmps5
    go_wp2_with (first | ((with_reducible refine gate_dst (N := 2) rfl ?_); refine box_event ?hg (N := 2) ?hd (cs := #[.string a0_0, .string a0_1, .bool a0_2, .bool a0_3, .slice A0_4 l0_4.length c0_4, .slice A0_5 l0_5.length c0_5]) (t := 45) ?hr ?_; (case hd => rfl); (case hg => rfl); (case hr => first | (go_simp; done) | (go_simp; rfl)); intro gb248 hg w12 hbox hb; have n0_ := Zm (Zbt (by repeat (first | (with_reducible first | exact HB.out | apply Zba | apply Zbn | apply Zbd) | exact HB.out)) hb); have n1_ := Zm (hbox); have n2_ := Zm ((by rw [hg]; exact (Zbz (by repeat (first | (with_reducible first | exact HB.out | apply Zba | apply Zbn | apply Zbd) | exact HB.out))) : w.heap.size ≤ gb248)); have n3_ := Zm ((by rw [hg]; exact (Zbz (by repeat (first | (with_reducible first | exact HB.out | apply Zba | apply Zbn | apply Zbd) | exact HB.out))) : w.heap.size ≤ gb248)); clear HB; have HB := n0_; have BK248 := n1_; have GW248 := n2_; have GE248 := n3_; clear n0_ n1_ n2_ n3_; clear hb hbox hg) | ((with_reducible refine gate_dst (N := 3) rfl ?_); refine box_event ?hg (N := 3) ?hd (cs := #[.string a1_0, .string a1_1, .bool a1_2, .bool a1_3, .slice A1_4 l1_4.length c1_4, .slice A1_5 l1_5.length c1_5]) (t := 45) ?hr ?_; (case hd => rfl); (case hg => rfl); (case hr => first | (go_simp; done) | (go_simp; rfl)); intro gb249 hg w13 hbox hb; have n0_ := Zm (Zkb (g := gb248) (o := .cells #[.string a0_0, .string a0_1, .bool a0_2, .bool a0_3, .slice A0_4 l0_4.length c0_4, .slice A0_5 l0_5.length c0_5] 45 (0, 0)) (by (with_reducible repeat (first | refine Zkn ?_ _ | refine Zkd ?_ | refine Zka ?_ _)); exact BK248.out) hb); have n1_ := Zm (Zbt (by repeat (first | (with_reducible first | exact HB.out | apply Zba | apply Zbn | apply Zbd | refine Zbs ?_ GE248.out) | exact HB.out)) hb); have n2_ := Zm (hbox); have n3_ := Zm ((by rw [hg]; exact (Zbz (by repeat (first | (with_reducible first | exact HB.out | apply Zba | apply Zbn | apply Zbd | refine Zbs ?_ GE248.out) | exact HB.out))) : w.heap.size ≤ gb249)); have n4_ := Zm ((by rw [hg]; exact (Zbz (by repeat (first | (with_reducible first | exact HB.out | apply Zba | apply Zbn | apply Zbd | refine Zbs ?_ GE248.out) | exact HB.out))) : w.heap.size ≤ gb249)); have n5_ := Zm ((by rw [hg]; exact Nat.ne_of_lt (blk_lt (g := gb248) (o := .cells #[.string a0_0, .string a0_1, .bool a0_2, .bool a0_3, .slice A0_4 l0_4.length c0_4, .slice A0_5 l0_5.length c0_5] 45 (0, 0)) (by (with_reducible repeat (first | refine Zkn ?_ _ | refine Zkd ?_ | refine Zka ?_ _)); exact BK248.out)) : gb248 ≠ gb249)); have n6_ := Zm ((by rw [hg]; exact Nat.ne_of_gt (blk_lt (g := gb248) (o := .cells #[.string a0_0, .string a0_1, .bool a0_2, .bool a0_3, .slice A0_4 l0_4.length c0_4, .slice A0_5 l0_5.length c0_5] 45 (0, 0)) (by (with_reducible repeat (first | refine Zkn ?_ _ | refine Zkd ?_ | refine Zka ?_ _)); exact BK248.out)) : gb249 ≠ gb248)); clear BK248; clear HB; have BK248 := n0_; have HB := n1_; have BK249 := n2_; have GW249 := n3_; have GE249 := n4_; have NB248_249 := n5_; have NB249_248 := n6_; clear n0_ n1_ n2_ n3_ n4_ n5_ n6_; clear hb hbox hg; have hnb14 := NB248_249.out; have hnc14 := NB249_248.out; have hcz15_0 : w13.cell? ⟨gb248, 0, none⟩ = some (.string a0_0) := (Zkc BK248.out 0).trans rfl; have hcz15_1 : w13.cell? ⟨gb248, 1, none⟩ = some (.string a0_1) := (Zkc BK248.out 1).trans rfl; have hcz15_2 : w13.cell? ⟨gb248, 2, none⟩ = some (.bool a0_2) := (Zkc BK248.out 2).trans rfl; have hcz15_3 : w13.cell? ⟨gb248, 3, none⟩ = some (.bool a0_3) := (Zkc BK248.out 3).trans rfl; have hcz15_4 : w13.cell? ⟨gb248, 4, none⟩ = some (.slice A0_4 l0_4.length c0_4) := (Zkc BK248.out 4).trans rfl; have hcz15_5 : w13.cell? ⟨gb248, 5, none⟩ = some (.slice A0_5 l0_5.length c0_5) := (Zkc BK248.out 5).trans rfl; (try clear BK248)) | ((with_reducible refine gate_callee (f := 20) rfl ?_); refine goesL_ (some 12) rfl rfl Try.func20 (by kernel_rfl) rfl #[.agg #[.string a0_0, .string a0_1, .bool a0_2, .bool a0_3, .slice A0_4 l0_4.length c0_4, .slice A0_5 l0_5.length c0_5], .int .i64 1048576] rfl (by (try simp only [List.map_toArray, List.map_cons, List.map_nil]); first | done | rfl | (simp only [List.length_drop, List.length_take]; rfl)) ?_; (with_reducible refine (laws_szClass.calls k a0_0 a0_1 a0_2 a0_3 _ _ l0_4 _ _ l0_5 1048576 t250 _ ?side1 ?side2 ?side3 ?side4 A3.out).mono ?_); (case side1 => repeat (first | exact (Kd.C_below HR0_4.out HB.out) | (with_reducible refine Kd.C_alloc ?_ _) | (with_reducible refine Kd.C_drewN ?_ _) | (with_reducible refine Kd.C_drew ?_))); (case side2 => exact HC0_4.out); (case side3 => repeat (first | exact (Kd.C_below HR0_5.out HB.out) | (with_reducible refine Kd.C_alloc ?_ _) | (with_reducible refine Kd.C_drewN ?_ _) | (with_reducible refine Kd.C_drew ?_))); (case side4 => exact HC0_5.out); rintro e w16 ⟨rfl, hb⟩; refine ⟨_, rfl, ?_⟩; have n0_ := Zm (Zkb (g := gb249) (o := .cells #[.string a1_0, .string a1_1, .bool a1_2, .bool a1_3, .slice A1_4 l1_4.length c1_4, .slice A1_5 l1_5.length c1_5] 45 (0, 0)) (by (with_reducible repeat (first | refine Zkn ?_ _ | refine Zkd ?_ | refine Zka ?_ _)); exact BK249.out) hb); have n1_ := Zm (Zbt (by repeat (first | (with_reducible first | exact HB.out | apply Zba | apply Zbn | apply Zbd | refine Zbs ?_ GE249.out) | exact HB.out)) hb); clear BK249; clear HB; have BK249 := n0_; have HB := n1_; clear n0_ n1_; (try clear hb); (try clear hb2); (try clear hk); (try clear hi); have hcz17_0 : w16.cell? ⟨gb249, 0, none⟩ = some (.string a1_0) := (Zkc BK249.out 0).trans rfl; have hcz17_1 : w16.cell? ⟨gb249, 1, none⟩ = some (.string a1_1) := (Zkc BK249.out 1).trans rfl; have hcz17_2 : w16.cell? ⟨gb249, 2, none⟩ = some (.bool a1_2) := (Zkc BK249.out 2).trans rfl; have hcz17_3 : w16.cell? ⟨gb249, 3, none⟩ = some (.bool a1_3) := (Zkc BK249.out 3).trans rfl; have hcz17_4 : w16.cell? ⟨gb249, 4, none⟩ = some (.slice A1_4 l1_4.length c1_4) := (Zkc BK249.out 4).trans rfl; have hcz17_5 : w16.cell? ⟨gb249, 5, none⟩ = some (.slice A1_5 l1_5.length c1_5) := (Zkc BK249.out 5).trans rfl; (try clear BK249)) | ((with_reducible refine gate_callee (f := 20) rfl ?_); refine goesL_ (some 17) rfl rfl Try.func20 (by kernel_rfl) rfl #[.agg #[.string a1_0, .string a1_1, .bool a1_2, .bool a1_3, .slice A1_4 l1_4.length c1_4, .slice A1_5 l1_5.length c1_5], .int .i64 t250] rfl (by (try simp only [List.map_toArray, List.map_cons, List.map_nil]); first | done | rfl | (simp only [List.length_drop, List.length_take]; rfl)) ?_; (with_reducible refine (laws_szClass.calls k a1_0 a1_1 a1_2 a1_3 _ _ l1_4 _ _ l1_5 t250 t251 _ ?side1 ?side2 ?side3 ?side4 A10.out).mono ?_); (case side1 => repeat (first | exact (Kd.C_below HR1_4.out HB.out) | (with_reducible refine Kd.C_alloc ?_ _) | (with_reducible refine Kd.C_drewN ?_ _) | (with_reducible refine Kd.C_drew ?_))); (case side2 => exact HC1_4.out); (case side3 => repeat (first | exact (Kd.C_below HR1_5.out HB.out) | (with_reducible refine Kd.C_alloc ?_ _) | (with_reducible refine Kd.C_drewN ?_ _) | (with_reducible refine Kd.C_drew ?_))); (case side4 => exact HC1_5.out); rintro e w18 ⟨rfl, hb⟩; refine ⟨_, rfl, ?_⟩; have n0_ := Zm (Zbt (by repeat (first | (with_reducible first | exact HB.out | apply Zba | apply Zbn | apply Zbd) | exact HB.out)) hb); clear HB; have HB := n0_; clear n0_; (try clear hb); (try clear hb2); (try clear hk); (try clear hi)))
    go_ret
    exact ⟨by first | rfl | (simp [errW_none, errW_some] <;> rfl) | (simp [*, errW_none, errW_some] <;> rfl), by repeat (first | (with_reducible first | exact HB.out | apply Zba | apply Zbn | apply Zbd) | exact HB.out)⟩
  rw [if_pos c4] at H
  have c4b0 : decide (t250 < 0) = true := decide_eq_true c4
  clear c4
  clear hT_
  obtain rfl := Option.some.inj H
  go_enter Try.func5, Try.ntmps5
  go_wp2_with (first | ((with_reducible refine gate_dst (N := 2) rfl ?_); refine box_event ?hg (N := 2) ?hd (cs := #[.string a0_0, .string a0_1, .bool a0_2, .bool a0_3, .slice A0_4 l0_4.length c0_4, .slice A0_5 l0_5.length c0_5]) (t := 45) ?hr ?_; (case hd => rfl); (case hg => rfl); (case hr => first | (go_simp; done) | (go_simp; rfl)); intro gb248 hg w5 hbox hb; have n0_ := Zm (Zbt (by repeat (first | (with_reducible first | exact HB.out | apply Zba | apply Zbn | apply Zbd) | exact HB.out)) hb); have n1_ := Zm (hbox); have n2_ := Zm ((by rw [hg]; exact (Zbz (by repeat (first | (with_reducible first | exact HB.out | apply Zba | apply Zbn | apply Zbd) | exact HB.out))) : w.heap.size ≤ gb248)); have n3_ := Zm ((by rw [hg]; exact (Zbz (by repeat (first | (with_reducible first | exact HB.out | apply Zba | apply Zbn | apply Zbd) | exact HB.out))) : w.heap.size ≤ gb248)); clear HB; have HB := n0_; have BK248 := n1_; have GW248 := n2_; have GE248 := n3_; clear n0_ n1_ n2_ n3_; clear hb hbox hg) | ((with_reducible refine gate_dst (N := 3) rfl ?_); refine box_event ?hg (N := 3) ?hd (cs := #[.string a1_0, .string a1_1, .bool a1_2, .bool a1_3, .slice A1_4 l1_4.length c1_4, .slice A1_5 l1_5.length c1_5]) (t := 45) ?hr ?_; (case hd => rfl); (case hg => rfl); (case hr => first | (go_simp; done) | (go_simp; rfl)); intro gb249 hg w6 hbox hb; have n0_ := Zm (Zkb (g := gb248) (o := .cells #[.string a0_0, .string a0_1, .bool a0_2, .bool a0_3, .slice A0_4 l0_4.length c0_4, .slice A0_5 l0_5.length c0_5] 45 (0, 0)) (by (with_reducible repeat (first | refine Zkn ?_ _ | refine Zkd ?_ | refine Zka ?_ _)); exact BK248.out) hb); have n1_ := Zm (Zbt (by repeat (first | (with_reducible first | exact HB.out | apply Zba | apply Zbn | apply Zbd | refine Zbs ?_ GE248.out) | exact HB.out)) hb); have n2_ := Zm (hbox); have n3_ := Zm ((by rw [hg]; exact (Zbz (by repeat (first | (with_reducible first | exact HB.out | apply Zba | apply Zbn | apply Zbd | refine Zbs ?_ GE248.out) | exact HB.out))) : w.heap.size ≤ gb249)); have n4_ := Zm ((by rw [hg]; exact (Zbz (by repeat (first | (with_reducible first | exact HB.out | apply Zba | apply Zbn | apply Zbd | refine Zbs ?_ GE248.out) | exact HB.out))) : w.heap.size ≤ gb249)); have n5_ := Zm ((by rw [hg]; exact Nat.ne_of_lt (blk_lt (g := gb248) (o := .cells #[.string a0_0, .string a0_1, .bool a0_2, .bool a0_3, .slice A0_4 l0_4.length c0_4, .slice A0_5 l0_5.length c0_5] 45 (0, 0)) (by (with_reducible repeat (first | refine Zkn ?_ _ | refine Zkd ?_ | refine Zka ?_ _)); exact BK248.out)) : gb248 ≠ gb249)); have n6_ := Zm ((by rw [hg]; exact Nat.ne_of_gt (blk_lt (g := gb248) (o := .cells #[.string a0_0, .string a0_1, .bool a0_2, .bool a0_3, .slice A0_4 l0_4.length c0_4, .slice A0_5 l0_5.length c0_5] 45 (0, 0)) (by (with_reducible repeat (first | refine Zkn ?_ _ | refine Zkd ?_ | refine Zka ?_ _)); exact BK248.out)) : gb249 ≠ gb248)); clear BK248; clear HB; have BK248 := n0_; have HB := n1_; have BK249 := n2_; have GW249 := n3_; have GE249 := n4_; have NB248_249 := n5_; have NB249_248 := n6_; clear n0_ n1_ n2_ n3_ n4_ n5_ n6_; clear hb hbox hg; have hnb7 := NB248_249.out; have hnc7 := NB249_248.out; have hcz8_0 : w6.cell? ⟨gb248, 0, none⟩ = some (.string a0_0) := (Zkc BK248.out 0).trans rfl; have hcz8_1 : w6.cell? ⟨gb248, 1, none⟩ = some (.string a0_1) := (Zkc BK248.out 1).trans rfl; have hcz8_2 : w6.cell? ⟨gb248, 2, none⟩ = some (.bool a0_2) := (Zkc BK248.out 2).trans rfl; have hcz8_3 : w6.cell? ⟨gb248, 3, none⟩ = some (.bool a0_3) := (Zkc BK248.out 3).trans rfl; have hcz8_4 : w6.cell? ⟨gb248, 4, none⟩ = some (.slice A0_4 l0_4.length c0_4) := (Zkc BK248.out 4).trans rfl; have hcz8_5 : w6.cell? ⟨gb248, 5, none⟩ = some (.slice A0_5 l0_5.length c0_5) := (Zkc BK248.out 5).trans rfl; (try clear BK248); (try clear BK249)) | ((with_reducible refine gate_callee (f := 20) rfl ?_); refine goesL_ (some 12) rfl rfl Try.func20 (by kernel_rfl) rfl #[.agg #[.string a0_0, .string a0_1, .bool a0_2, .bool a0_3, .slice A0_4 l0_4.length c0_4, .slice A0_5 l0_5.length c0_5], .int .i64 1048576] rfl (by (try simp only [List.map_toArray, List.map_cons, List.map_nil]); first | done | rfl | (simp only [List.length_drop, List.length_take]; rfl)) ?_; (with_reducible refine (laws_szClass.calls k a0_0 a0_1 a0_2 a0_3 _ _ l0_4 _ _ l0_5 1048576 t250 _ ?side1 ?side2 ?side3 ?side4 A3.out).mono ?_); (case side1 => repeat (first | exact (Kd.C_below HR0_4.out HB.out) | (with_reducible refine Kd.C_alloc ?_ _) | (with_reducible refine Kd.C_drewN ?_ _) | (with_reducible refine Kd.C_drew ?_))); (case side2 => exact HC0_4.out); (case side3 => repeat (first | exact (Kd.C_below HR0_5.out HB.out) | (with_reducible refine Kd.C_alloc ?_ _) | (with_reducible refine Kd.C_drewN ?_ _) | (with_reducible refine Kd.C_drew ?_))); (case side4 => exact HC0_5.out); rintro e w9 ⟨rfl, hb⟩; refine ⟨_, rfl, ?_⟩; have n0_ := Zm (Zbt (by repeat (first | (with_reducible first | exact HB.out | apply Zba | apply Zbn | apply Zbd) | exact HB.out)) hb); clear HB; have HB := n0_; clear n0_; (try clear hb); (try clear hb2); (try clear hk); (try clear hi)))
  go_ret
  exact ⟨by first | rfl | (simp [errW_none, errW_some] <;> rfl) | (simp [*, errW_none, errW_some] <;> rfl), by repeat (first | (with_reducible first | exact HB.out | apply Zba | apply Zbn | apply Zbd) | exact HB.out)⟩
def ok188 (x : S188) : Prop := x.f0.size ≤ maxLen ∧ x.f1.size ≤ maxLen ∧ True
def ok199 (x : S199) : Prop := (Lit.int .i64 x.f0).wf = true ∧ (Lit.int .i64 x.f1).wf = true ∧ x.f2.size ≤ maxLen ∧ x.f3.size ≤ maxLen ∧ x.f4.size ≤ maxLen
def ok201 (x : S201) : Prop := (Lit.int .i64 x.f0).wf = true ∧ (Lit.int .i64 x.f1).wf = true ∧ (Lit.int .i64 x.f2).wf = true ∧ x.f3.size ≤ maxLen
def ok78 (x : S78) : Prop := x.f0.size ≤ maxLen ∧ x.f1.size ≤ maxLen ∧ True ∧ True ∧ True ∧ (Lit.int .i64 x.f5).wf = true ∧ (Lit.int .i64 x.f6).wf = true ∧ (x.f7.length ≤ maxLen ∧ ∀ x_ ∈ x.f7, ok199 x_) ∧ (x.f8.length ≤ maxLen ∧ ∀ x_ ∈ x.f8, ok201 x_)
def ok45 (x : S45) : Prop := x.f0.size ≤ maxLen ∧ x.f1.size ≤ maxLen ∧ True ∧ True ∧ (x.f4.length ≤ maxLen ∧ ∀ x_ ∈ x.f4, ok188 x_) ∧ (x.f5.length ≤ maxLen ∧ ∀ x_ ∈ x.f5, ok78 x_)
/-- THE ONE PURE STATEMENT of laws_FnExactClassSame: yours. -/
def laws_FnExactClassSame.Pure : Prop := ∀ (x0 : S45) (x1 : S45), ok45 x0 → ok45 x1 → ∃ k, laws_FnExactClassSame.f k x0.f0 x0.f1 x0.f2 x0.f3 x0.f4 x0.f5 x1.f0 x1.f1 x1.f2 x1.f3 x1.f4 x1.f5 = some true

end Go.Proofs.Ytlflbmbcjjegaaa.PFnExactClassSame
