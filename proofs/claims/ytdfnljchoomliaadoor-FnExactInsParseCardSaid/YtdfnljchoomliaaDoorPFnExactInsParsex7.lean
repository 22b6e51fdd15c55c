/- Functions of the program as plain Lean functions, each with a proof that the program's call comes to the same; no condition. Written by a program of this session. -/
import Derived.Test.YtdfnljchoomliaaDoorPFnExactInsParsex0
namespace Go.Proofs.YtdfnljchoomliaaDoor.PFnExactInsParse
open Go.RowKit Go.Proofs.YtdfnljchoomliaaDoorW.PrintWords Go.Proofs.YtdfnljchoomliaaDoorW.PrintLast Go.Proofs.YtdfnljchoomliaaDoorW.PrintMore
open Go.Proofs.YtdfnljchoomliaaDoorW.PrintWords renaming below_alloc → Zba, pw_below_drewN → Zbn, below_drew1 → Zbd, below_set → Zbs, below_size → Zbz, below_step → Zbt, blk_cell → Zkc, blk_frozen → Zkf, blk_far → Zkr
open Go.Proofs.YtdfnljchoomliaaDoorW.PrintWords.Aside0 renaming mk → Zm
attribute [local go_sem] max2_int min2_int max_two min_two max_three min_three max_four min_four   -- for this text's walks alone
set_option linter.unusedVariables false
set_option linter.unusedSimpArgs false

/-! ### impl_within: function 50 -/
def impl_within.f (a0 : Int) (a1 : Int) (a2 : Int) : Option (Bool) := if a0 ≥ a1 then (some (decide (a0 ≤ a2))) else (some false)
set_option maxHeartbeats 8000000 in
set_option maxRecDepth 100000 in
theorem impl_within.calls (a0 : Int) (a1 : Int) (a2 : Int) (r : Bool) (w : World) (h : impl_within.f a0 a1 a2 = some r) :
 Calls Tryd.prog 50 #[.int .i64 a0, .int .i64 a1, .int .i64 a2] w fun e w' => e = .returned (.bool r) ∧ Drawn0 w w' := by
 have H : (if a0 ≥ a1 then (some (decide (a0 ≤ a2))) else (some false)) = some r := h; clear h; by_cases c4 : a0 ≥ a1; rotate_left
 · rw [if_neg c4] at H; have c4b0 : decide (a1 ≤ a0) = false := decide_eq_false c4; clear c4; obtain rfl := Option.some.inj H; go_enter Tryd.func50, Tryd.ntmps50; go_wp2; go_ret; exact ⟨by first | rfl | (simp; done) | (simp [*]; done), by repeat (first | exact Drawn0.refl _ | apply Drawn0.step)⟩

 rw [if_pos c4] at H
 have c4b0 : decide (a1 ≤ a0) = true := decide_eq_true c4
 clear c4
 obtain rfl := Option.some.inj H
 go_enter Tryd.func50, Tryd.ntmps50
 go_wp2
 go_ret
 exact ⟨by first | rfl | (simp; done) | (simp [*]; done), by repeat (first | exact Drawn0.refl _ | apply Drawn0.step)⟩
/-! ### impl_isOp: function 70 -/
def impl_isOp.f (a0 : Int) : Option (Bool) := (impl_within.f a0 1 44).bind fun t258 => (some t258)
set_option maxHeartbeats 8000000 in
set_option maxRecDepth 100000 in
theorem impl_isOp.calls (a0 : Int) (r : Bool) (w : World) (h : impl_isOp.f a0 = some r) :
 Calls Tryd.prog 70 #[.int .i64 a0] w fun e w' => e = .returned (.bool r) ∧ Drawn0 w w' := by
 have H : ((impl_within.f a0 1 44).bind fun t258 => (some t258)) = some r := h; clear h; replace H := Option.bind_eq_some_iff.mp H; obtain ⟨t258, A20, H⟩ := H; (try dsimp only at H); have A2 := Zm A20; clear A20; obtain rfl := Option.some.inj H; go_enter Tryd.func70, Tryd.ntmps70; go_wp2_with (first | ((with_reducible refine gate_callee (f := 50) rfl ?_); refine ge_ (some 4) Tryd.func50 #[.int .i64 a0, .int .i64 1, .int .i64 44] ?_; (with_reducible refine (impl_within.calls _ _ _ _ _ A2.out).mono ?_); rintro e w' ⟨rfl, ⟨nd, rfl⟩⟩; refine ⟨_, rfl, ?_⟩)); go_ret; exact ⟨by first | rfl | (simp; done) | (simp [*]; done), by repeat (first | exact Drawn0.refl _ | apply Drawn0.step)⟩

/-! ### impl_opForms: function 71 -/
def impl_opForms.f  : Option (List ByteArray) := some (([(⟨#[110]⟩ : ByteArray), (⟨#[]⟩ : ByteArray), (⟨#[105]⟩ : ByteArray), (⟨#[105]⟩ : ByteArray), (⟨#[]⟩ : ByteArray), (⟨#[]⟩ : ByteArray), (⟨#[]⟩ : ByteArray), (⟨#[]⟩ : ByteArray), (⟨#[]⟩ : ByteArray), (⟨#[]⟩ : ByteArray), (⟨#[]⟩ : ByteArray), (⟨#[]⟩ : ByteArray), (⟨#[]⟩ : ByteArray), (⟨#[]⟩ : ByteArray), (⟨#[]⟩ : ByteArray), (⟨#[]⟩ : ByteArray), (⟨#[]⟩ : ByteArray), (⟨#[]⟩ : ByteArray), (⟨#[116]⟩ : ByteArray), (⟨#[116]⟩ : ByteArray), (⟨#[116]⟩ : ByteArray), (⟨#[116]⟩ : ByteArray), (⟨#[116]⟩ : ByteArray), (⟨#[116]⟩ : ByteArray), (⟨#[116]⟩ : ByteArray), (⟨#[]⟩ : ByteArray), (⟨#[]⟩ : ByteArray), (⟨#[]⟩ : ByteArray), (⟨#[]⟩ : ByteArray), (⟨#[]⟩ : ByteArray), (⟨#[99]⟩ : ByteArray), (⟨#[102]⟩ : ByteArray), (⟨#[102]⟩ : ByteArray), (⟨#[102]⟩ : ByteArray), (⟨#[102]⟩ : ByteArray), (⟨#[109]⟩ : ByteArray), (⟨#[109]⟩ : ByteArray), (⟨#[109]⟩ : ByteArray), (⟨#[99]⟩ : ByteArray), (⟨#[99]⟩ : ByteArray), (⟨#[121]⟩ : ByteArray), (⟨#[]⟩ : ByteArray), (⟨#[]⟩ : ByteArray), (⟨#[]⟩ : ByteArray)] : List ByteArray))
set_option maxHeartbeats 8000000 in
set_option maxRecDepth 100000 in
theorem impl_opForms.calls  (r : List ByteArray) (w : World) (h : impl_opForms.f  = some r) :
 Calls Tryd.prog 71 #[] w fun e w' => ∃ v0_ : Value, e = .returned (v0_) ∧ Kd.R Kd.string 9 w' w.heap.size (fun _ => True) v0_ r ∧ Below w.heap.size w w' := by
 have HB := Zm (Below.refl w.heap.size w); have H : (some (([(⟨#[110]⟩ : ByteArray), (⟨#[]⟩ : ByteArray), (⟨#[105]⟩ : ByteArray), (⟨#[105]⟩ : ByteArray), (⟨#[]⟩ : ByteArray), (⟨#[]⟩ : ByteArray), (⟨#[]⟩ : ByteArray), (⟨#[]⟩ : ByteArray), (⟨#[]⟩ : ByteArray), (⟨#[]⟩ : ByteArray), (⟨#[]⟩ : ByteArray), (⟨#[]⟩ : ByteArray), (⟨#[]⟩ : ByteArray), (⟨#[]⟩ : ByteArray), (⟨#[]⟩ : ByteArray), (⟨#[]⟩ : ByteArray), (⟨#[]⟩ : ByteArray), (⟨#[]⟩ : ByteArray), (⟨#[116]⟩ : ByteArray), (⟨#[116]⟩ : ByteArray), (⟨#[116]⟩ : ByteArray), (⟨#[116]⟩ : ByteArray), (⟨#[116]⟩ : ByteArray), (⟨#[116]⟩ : ByteArray), (⟨#[116]⟩ : ByteArray), (⟨#[]⟩ : ByteArray), (⟨#[]⟩ : ByteArray), (⟨#[]⟩ : ByteArray), (⟨#[]⟩ : ByteArray), (⟨#[]⟩ : ByteArray), (⟨#[99]⟩ : ByteArray), (⟨#[102]⟩ : ByteArray), (⟨#[102]⟩ : ByteArray), (⟨#[102]⟩ : ByteArray), (⟨#[102]⟩ : ByteArray), (⟨#[109]⟩ : ByteArray), (⟨#[109]⟩ : ByteArray), (⟨#[109]⟩ : ByteArray), (⟨#[99]⟩ : ByteArray), (⟨#[99]⟩ : ByteArray), (⟨#[121]⟩ : ByteArray), (⟨#[]⟩ : ByteArray), (⟨#[]⟩ : ByteArray), (⟨#[]⟩ : ByteArray)] : List ByteArray))) = some r := h; clear h; obtain ⟨y259, hy259⟩ : ∃ y_ : List ByteArray, y_ = (([(⟨#[110]⟩ : ByteArray), (⟨#[]⟩ : ByteArray), (⟨#[105]⟩ : ByteArray), (⟨#[105]⟩ : ByteArray), (⟨#[]⟩ : ByteArray), (⟨#[]⟩ : ByteArray), (⟨#[]⟩ : ByteArray), (⟨#[]⟩ : ByteArray), (⟨#[]⟩ : ByteArray), (⟨#[]⟩ : ByteArray), (⟨#[]⟩ : ByteArray), (⟨#[]⟩ : ByteArray), (⟨#[]⟩ : ByteArray), (⟨#[]⟩ : ByteArray), (⟨#[]⟩ : ByteArray), (⟨#[]⟩ : ByteArray), (⟨#[]⟩ : ByteArray), (⟨#[]⟩ : ByteArray), (⟨#[116]⟩ : ByteArray), (⟨#[116]⟩ : ByteArray), (⟨#[116]⟩ : ByteArray), (⟨#[116]⟩ : ByteArray), (⟨#[116]⟩ : ByteArray), (⟨#[116]⟩ : ByteArray), (⟨#[116]⟩ : ByteArray), (⟨#[]⟩ : ByteArray), (⟨#[]⟩ : ByteArray), (⟨#[]⟩ : ByteArray), (⟨#[]⟩ : ByteArray), (⟨#[]⟩ : ByteArray), (⟨#[99]⟩ : ByteArray), (⟨#[102]⟩ : ByteArray), (⟨#[102]⟩ : ByteArray), (⟨#[102]⟩ : ByteArray), (⟨#[102]⟩ : ByteArray), (⟨#[109]⟩ : ByteArray), (⟨#[109]⟩ : ByteArray), (⟨#[109]⟩ : ByteArray), (⟨#[99]⟩ : ByteArray), (⟨#[99]⟩ : ByteArray), (⟨#[121]⟩ : ByteArray), (⟨#[]⟩ : ByteArray), (⟨#[]⟩ : ByteArray), (⟨#[]⟩ : ByteArray)] : List ByteArray)) := ⟨_, rfl⟩; replace H : (some y259) = some r := by first | (rw [hy259]; with_reducible exact H) | (have H2_ := (Option.bind_some _ _).symm.trans H; rw [hy259]; with_reducible exact H2_) | (have H2_ := (Option.bind_some _ _).symm.trans H; with_reducible exact H2_) | with_reducible exact H | (rw [hy259]; exact H) | exact H
 have Ny259 := Zm hy259; clear hy259; obtain rfl := Option.some.inj H; go_enter Tryd.func71, Tryd.ntmps71; go_wp2_with (first | ((with_reducible refine gate_dst (N := 1) rfl ?_); refine Kd.R_lit Kd.string _ 9 ?hg (N := 1) ?hd (xs := ([(⟨#[110]⟩ : ByteArray), (⟨#[]⟩ : ByteArray), (⟨#[105]⟩ : ByteArray), (⟨#[105]⟩ : ByteArray), (⟨#[]⟩ : ByteArray), (⟨#[]⟩ : ByteArray), (⟨#[]⟩ : ByteArray), (⟨#[]⟩ : ByteArray), (⟨#[]⟩ : ByteArray), (⟨#[]⟩ : ByteArray), (⟨#[]⟩ : ByteArray), (⟨#[]⟩ : ByteArray), (⟨#[]⟩ : ByteArray), (⟨#[]⟩ : ByteArray), (⟨#[]⟩ : ByteArray), (⟨#[]⟩ : ByteArray), (⟨#[]⟩ : ByteArray), (⟨#[]⟩ : ByteArray), (⟨#[116]⟩ : ByteArray), (⟨#[116]⟩ : ByteArray), (⟨#[116]⟩ : ByteArray), (⟨#[116]⟩ : ByteArray), (⟨#[116]⟩ : ByteArray), (⟨#[116]⟩ : ByteArray), (⟨#[116]⟩ : ByteArray), (⟨#[]⟩ : ByteArray), (⟨#[]⟩ : ByteArray), (⟨#[]⟩ : ByteArray), (⟨#[]⟩ : ByteArray), (⟨#[]⟩ : ByteArray), (⟨#[99]⟩ : ByteArray), (⟨#[102]⟩ : ByteArray), (⟨#[102]⟩ : ByteArray), (⟨#[102]⟩ : ByteArray), (⟨#[102]⟩ : ByteArray), (⟨#[109]⟩ : ByteArray), (⟨#[109]⟩ : ByteArray), (⟨#[109]⟩ : ByteArray), (⟨#[99]⟩ : ByteArray), (⟨#[99]⟩ : ByteArray), (⟨#[121]⟩ : ByteArray), (⟨#[]⟩ : ByteArray), (⟨#[]⟩ : ByteArray), (⟨#[]⟩ : ByteArray)] : List ByteArray)) (inner := [.string (⟨#[110]⟩ : ByteArray), .string (⟨#[]⟩ : ByteArray), .string (⟨#[105]⟩ : ByteArray), .string (⟨#[105]⟩ : ByteArray), .string (⟨#[]⟩ : ByteArray), .string (⟨#[]⟩ : ByteArray), .string (⟨#[]⟩ : ByteArray), .string (⟨#[]⟩ : ByteArray), .string (⟨#[]⟩ : ByteArray), .string (⟨#[]⟩ : ByteArray), .string (⟨#[]⟩ : ByteArray), .string (⟨#[]⟩ : ByteArray), .string (⟨#[]⟩ : ByteArray), .string (⟨#[]⟩ : ByteArray), .string (⟨#[]⟩ : ByteArray), .string (⟨#[]⟩ : ByteArray), .string (⟨#[]⟩ : ByteArray), .string (⟨#[]⟩ : ByteArray), .string (⟨#[116]⟩ : ByteArray), .string (⟨#[116]⟩ : ByteArray), .string (⟨#[116]⟩ : ByteArray), .string (⟨#[116]⟩ : ByteArray), .string (⟨#[116]⟩ : ByteArray), .string (⟨#[116]⟩ : ByteArray), .string (⟨#[116]⟩ : ByteArray), .string (⟨#[]⟩ : ByteArray), .string (⟨#[]⟩ : ByteArray), .string (⟨#[]⟩ : ByteArray), .string (⟨#[]⟩ : ByteArray), .string (⟨#[]⟩ : ByteArray), .string (⟨#[99]⟩ : ByteArray), .string (⟨#[102]⟩ : ByteArray), .string (⟨#[102]⟩ : ByteArray), .string (⟨#[102]⟩ : ByteArray), .string (⟨#[102]⟩ : ByteArray), .string (⟨#[109]⟩ : ByteArray), .string (⟨#[109]⟩ : ByteArray), .string (⟨#[109]⟩ : ByteArray), .string (⟨#[99]⟩ : ByteArray), .string (⟨#[99]⟩ : ByteArray), .string (⟨#[121]⟩ : ByteArray), .string (⟨#[]⟩ : ByteArray), .string (⟨#[]⟩ : ByteArray), .string (⟨#[]⟩ : ByteArray)]) (ok := fun _ => True) (okp := fun _ => True) ?hr ?hp (fun _ hk => hk) trivial (Below.refl _ _) (Nat.le_refl _) (by simp) ?_; (case hd => rfl); (case hg => rfl); (case hr => first | (go_simp; done) | (go_simp; rfl)); (case hp => exact (Reps.one (show Kd.M Kd.string _ _ _ (⟨#[110]⟩ : ByteArray) [.string (⟨#[110]⟩ : ByteArray)] from rfl) (Reps.one (show Kd.M Kd.string _ _ _ (⟨#[]⟩ : ByteArray) [.string (⟨#[]⟩ : ByteArray)] from rfl) (Reps.one (show Kd.M Kd.string _ _ _ (⟨#[105]⟩ : ByteArray) [.string (⟨#[105]⟩ : ByteArray)] from rfl) (Reps.one (show Kd.M Kd.string _ _ _ (⟨#[105]⟩ : ByteArray) [.string (⟨#[105]⟩ : ByteArray)] from rfl) (Reps.one (show Kd.M Kd.string _ _ _ (⟨#[]⟩ : ByteArray) [.string (⟨#[]⟩ : ByteArray)] from rfl) (Reps.one (show Kd.M Kd.string _ _ _ (⟨#[]⟩ : ByteArray) [.string (⟨#[]⟩ : ByteArray)] from rfl) (Reps.one (show Kd.M Kd.string _ _ _ (⟨#[]⟩ : ByteArray) [.string (⟨#[]⟩ : ByteArray)] from rfl) (Reps.one (show Kd.M Kd.string _ _ _ (⟨#[]⟩ : ByteArray) [.string (⟨#[]⟩ : ByteArray)] from rfl) (Reps.one (show Kd.M Kd.string _ _ _ (⟨#[]⟩ : ByteArray) [.string (⟨#[]⟩ : ByteArray)] from rfl) (Reps.one (show Kd.M Kd.string _ _ _ (⟨#[]⟩ : ByteArray) [.string (⟨#[]⟩ : ByteArray)] from rfl) (Reps.one (show Kd.M Kd.string _ _ _ (⟨#[]⟩ : ByteArray) [.string (⟨#[]⟩ : ByteArray)] from rfl) (Reps.one (show Kd.M Kd.string _ _ _ (⟨#[]⟩ : ByteArray) [.string (⟨#[]⟩ : ByteArray)] from rfl) (Reps.one (show Kd.M Kd.string _ _ _ (⟨#[]⟩ : ByteArray) [.string (⟨#[]⟩ : ByteArray)] from rfl) (Reps.one (show Kd.M Kd.string _ _ _ (⟨#[]⟩ : ByteArray) [.string (⟨#[]⟩ : ByteArray)] from rfl) (Reps.one (show Kd.M Kd.string _ _ _ (⟨#[]⟩ : ByteArray) [.string (⟨#[]⟩ : ByteArray)] from rfl) (Reps.one (show Kd.M Kd.string _ _ _ (⟨#[]⟩ : ByteArray) [.string (⟨#[]⟩ : ByteArray)] from rfl) (Reps.one (show Kd.M Kd.string _ _ _ (⟨#[]⟩ : ByteArray) [.string (⟨#[]⟩ : ByteArray)] from rfl) (Reps.one (show Kd.M Kd.string _ _ _ (⟨#[]⟩ : ByteArray) [.string (⟨#[]⟩ : ByteArray)] from rfl) (Reps.one (show Kd.M Kd.string _ _ _ (⟨#[116]⟩ : ByteArray) [.string (⟨#[116]⟩ : ByteArray)] from rfl) (Reps.one (show Kd.M Kd.string _ _ _ (⟨#[116]⟩ : ByteArray) [.string (⟨#[116]⟩ : ByteArray)] from rfl) (Reps.one (show Kd.M Kd.string _ _ _ (⟨#[116]⟩ : ByteArray) [.string (⟨#[116]⟩ : ByteArray)] from rfl) (Reps.one (show Kd.M Kd.string _ _ _ (⟨#[116]⟩ : ByteArray) [.string (⟨#[116]⟩ : ByteArray)] from rfl) (Reps.one (show Kd.M Kd.string _ _ _ (⟨#[116]⟩ : ByteArray) [.string (⟨#[116]⟩ : ByteArray)] from rfl) (Reps.one (show Kd.M Kd.string _ _ _ (⟨#[116]⟩ : ByteArray) [.string (⟨#[116]⟩ : ByteArray)] from rfl) (Reps.one (show Kd.M Kd.string _ _ _ (⟨#[116]⟩ : ByteArray) [.string (⟨#[116]⟩ : ByteArray)] from rfl) (Reps.one (show Kd.M Kd.string _ _ _ (⟨#[]⟩ : ByteArray) [.string (⟨#[]⟩ : ByteArray)] from rfl) (Reps.one (show Kd.M Kd.string _ _ _ (⟨#[]⟩ : ByteArray) [.string (⟨#[]⟩ : ByteArray)] from rfl) (Reps.one (show Kd.M Kd.string _ _ _ (⟨#[]⟩ : ByteArray) [.string (⟨#[]⟩ : ByteArray)] from rfl) (Reps.one (show Kd.M Kd.string _ _ _ (⟨#[]⟩ : ByteArray) [.string (⟨#[]⟩ : ByteArray)] from rfl) (Reps.one (show Kd.M Kd.string _ _ _ (⟨#[]⟩ : ByteArray) [.string (⟨#[]⟩ : ByteArray)] from rfl) (Reps.one (show Kd.M Kd.string _ _ _ (⟨#[99]⟩ : ByteArray) [.string (⟨#[99]⟩ : ByteArray)] from rfl) (Reps.one (show Kd.M Kd.string _ _ _ (⟨#[102]⟩ : ByteArray) [.string (⟨#[102]⟩ : ByteArray)] from rfl) (Reps.one (show Kd.M Kd.string _ _ _ (⟨#[102]⟩ : ByteArray) [.string (⟨#[102]⟩ : ByteArray)] from rfl) (Reps.one (show Kd.M Kd.string _ _ _ (⟨#[102]⟩ : ByteArray) [.string (⟨#[102]⟩ : ByteArray)] from rfl) (Reps.one (show Kd.M Kd.string _ _ _ (⟨#[102]⟩ : ByteArray) [.string (⟨#[102]⟩ : ByteArray)] from rfl) (Reps.one (show Kd.M Kd.string _ _ _ (⟨#[109]⟩ : ByteArray) [.string (⟨#[109]⟩ : ByteArray)] from rfl) (Reps.one (show Kd.M Kd.string _ _ _ (⟨#[109]⟩ : ByteArray) [.string (⟨#[109]⟩ : ByteArray)] from rfl) (Reps.one (show Kd.M Kd.string _ _ _ (⟨#[109]⟩ : ByteArray) [.string (⟨#[109]⟩ : ByteArray)] from rfl) (Reps.one (show Kd.M Kd.string _ _ _ (⟨#[99]⟩ : ByteArray) [.string (⟨#[99]⟩ : ByteArray)] from rfl) (Reps.one (show Kd.M Kd.string _ _ _ (⟨#[99]⟩ : ByteArray) [.string (⟨#[99]⟩ : ByteArray)] from rfl) (Reps.one (show Kd.M Kd.string _ _ _ (⟨#[121]⟩ : ByteArray) [.string (⟨#[121]⟩ : ByteArray)] from rfl) (Reps.one (show Kd.M Kd.string _ _ _ (⟨#[]⟩ : ByteArray) [.string (⟨#[]⟩ : ByteArray)] from rfl) (Reps.one (show Kd.M Kd.string _ _ _ (⟨#[]⟩ : ByteArray) [.string (⟨#[]⟩ : ByteArray)] from rfl) (Reps.one (show Kd.M Kd.string _ _ _ (⟨#[]⟩ : ByteArray) [.string (⟨#[]⟩ : ByteArray)] from rfl) (Reps.none _ _)))))))))))))))))))))))))))))))))))))))))))))); intro v260 w1 ho2 hb hg_ hnew_; clear hg_ hnew_; (first | rw [← Ny259.out] at ho2 | (simp only [Int.reduceToNat] at ho2; rw [← Ny259.out] at ho2)); have n0_ := (⟨Zm (Kd.R_lower ho2 (Zbz (bk HB.out))), Zm (Zbt (bk HB.out) hb)⟩ : _ ∧ _); clear HB; obtain ⟨HO261, HB⟩ := n0_; clear hb ho2)); go_ret; exact ⟨_, by first | rfl | (simp [*] <;> rfl), by (with_reducible repeat (first | apply Kd.R_alloc | apply Kd.R_drewN | apply Kd.R_drew)); exact HO261.out, bk HB.out⟩

/-! ### impl_OpForm: function 48 -/
def impl_OpForm.f (a0 : Int) : Option (ByteArray) := (impl_isOp.f a0).bind fun t262 => (if t262 = true then ((impl_opForms.f).bind fun t263 => (if 0 ≤ (wrap64 (a0 - 1)) then (if (wrap64 (a0 - 1)) < (t263.length : Int) then (some (rdOf ByteArray.empty t263 (wrap64 (a0 - 1)))) else (none)) else (none))) else (some (⟨#[33]⟩ : ByteArray)))
set_option maxHeartbeats 8000000 in
set_option maxRecDepth 100000 in
theorem impl_OpForm.calls (a0 : Int) (r : ByteArray) (w : World) (h : impl_OpForm.f a0 = some r) :
 Calls Tryd.prog 48 #[.int .i64 a0] w fun e w' => e = .returned (.string r) ∧ Below w.heap.size w w' := by
 have HB := Zm (Below.refl w.heap.size w); have H : ((impl_isOp.f a0).bind fun t262 => (if t262 = true then ((impl_opForms.f).bind fun t263 => (if 0 ≤ (wrap64 (a0 - 1)) then (if (wrap64 (a0 - 1)) < (t263.length : Int) then (some (rdOf ByteArray.empty t263 (wrap64 (a0 - 1)))) else (none)) else (none))) else (some (⟨#[33]⟩ : ByteArray)))) = some r := h; clear h; replace H := Option.bind_eq_some_iff.mp H; obtain ⟨t262, A20, H⟩ := H; (try dsimp only at H); have A2 := Zm A20; clear A20; have HC3 := Zm H; clear H; go_enter Tryd.func48, Tryd.ntmps48; go_upto_if 5 with (first | ((with_reducible refine gate_callee (f := 70) rfl ?_); refine ge_ (some 4) Tryd.func70 #[.int .i64 a0] ?_; (with_reducible refine (impl_isOp.calls _ _ _ A2.out).mono ?_); rintro e w' ⟨rfl, ⟨nd, rfl⟩⟩; refine ⟨_, rfl, ?_⟩)); have H := HC3.out; clear HC3; by_cases c4 : t262 = true; rotate_left
 · replace c4 := Bool.eq_false_iff.mpr c4; subst c4; rw [if_neg (show ¬ (false = true) by decide)] at H; obtain rfl := Option.some.inj H; go_wp2; go_ret; exact fin_ HB

 subst c4
 rw [if_pos rfl] at H
 replace H := Option.bind_eq_some_iff.mp H
 obtain ⟨t263, A50, H⟩ := H
 (try dsimp only at H)
 have A5 := Zm A50
 clear A50
 obtain ⟨ji6, hji6⟩ : ∃ j_ : Int, (wrap64 (a0 - 1)) = j_ := ⟨_, rfl⟩
 replace H : (if 0 ≤ (ji6) then (if (ji6) < (t263.length : Int) then (some (rdOf ByteArray.empty t263 (ji6))) else (none)) else (none)) = some r := by first | (rw [hji6] at H; exact H) | (simp only [hji6] at H ⊢; exact H)
 (try rw [hji6] at A5)
 have hji6w : (IntKind.i64.wrap (a0 - 1)) = ji6 := (i64_w _).trans hji6
 by_cases c7 : 0 ≤ (ji6)
 rotate_left
 · rw [if_neg c7] at H
   exact absurd H (by simp)
 rw [if_pos c7] at H
 have c7b0 := decide_eq_true c7
 clear c7
 (first | rw [c7b0] | (simp only [i64_w, i32_w]; rw [c7b0]) | skip)
 by_cases c8 : (ji6) < (t263.length : Int)
 rotate_left
 · rw [if_neg c8] at H
   exact absurd H (by simp)
 rw [if_pos c8] at H
 have c8b0 := decide_eq_true c8
 clear c8
 obtain rfl := Option.some.inj H
 go_wp2_with (first | ((with_reducible refine gate_callee (f := 71) rfl ?_); refine ge_ (some 6) Tryd.func71 #[] ?_; (with_reducible refine (impl_opForms.calls _ _ A5.out).mono ?_); rintro e w9 ⟨v264, rfl, ho0, hb⟩; refine ⟨_, rfl, ?_⟩; have n0_ := (⟨Zm (Kd.R_lower ho0 (Zbz (bk HB.out))), Zm (Zbt (bk HB.out) hb)⟩ : _ ∧ _); clear HB; obtain ⟨HO265, HB⟩ := n0_; (try clear hb); (try clear hb2); (try clear hk); (try clear hi); (try clear ho0); obtain ⟨Ao10, co10, eo10⟩ := Kd.R_slice HO265.out; subst eo10; have p266 : 0 ≤ ((ji6) : Int) := of_decide_eq_true (by first | (with_reducible assumption) | assumption); have q266 : (ji6) < (t263.length : Int) := of_decide_eq_true (by first | (with_reducible assumption) | assumption); obtain ⟨ad266, e266, hx266_0⟩ := Kd.at_string (Kd.R_reads' HO265.out).2.2 (ji6) p266 q266; cases e266; replace p266 := eq_true p266; replace q266 := eq_true q266))
 go_ret
 exact ⟨by first | rfl | (simp [errW_none, errW_some] <;> rfl) | (simp only [← hji6]; first | rfl | (simp [errW_none, errW_some] <;> rfl)) | (simp [*, errW_none, errW_some] <;> rfl), bk HB.out⟩
/-! ### impl_isInt: function 49 -/
def impl_isInt.f (a0 : Int) : Option (Bool) := (impl_within.f a0 (-2147483648) 2147483647).bind fun t267 => (some t267)
set_option maxHeartbeats 8000000 in
set_option maxRecDepth 100000 in
theorem impl_isInt.calls (a0 : Int) (r : Bool) (w : World) (h : impl_isInt.f a0 = some r) :
 Calls Tryd.prog 49 #[.int .i64 a0] w fun e w' => e = .returned (.bool r) ∧ Drawn0 w w' := by
 have H : ((impl_within.f a0 (-2147483648) 2147483647).bind fun t267 => (some t267)) = some r := h; clear h; replace H := Option.bind_eq_some_iff.mp H; obtain ⟨t267, A20, H⟩ := H; (try dsimp only at H); have A2 := Zm A20; clear A20; obtain rfl := Option.some.inj H; go_enter Tryd.func49, Tryd.ntmps49; go_wp2_with (first | ((with_reducible refine gate_callee (f := 50) rfl ?_); refine ge_ (some 4) Tryd.func50 #[.int .i64 a0, .int .i64 (-2147483648), .int .i64 2147483647] ?_; (with_reducible refine (impl_within.calls _ _ _ _ _ A2.out).mono ?_); rintro e w' ⟨rfl, ⟨nd, rfl⟩⟩; refine ⟨_, rfl, ?_⟩)); go_ret; exact ⟨by first | rfl | (simp; done) | (simp [*]; done), by repeat (first | exact Drawn0.refl _ | apply Drawn0.step)⟩

-- NOT PRINTED: function 116 (bytealg_IndexByteString)

-- NOT PRINTED: function 103 (stringslite_IndexByte)

/-! ### strings_IndexByte: function 86 -/
def strings_IndexByte.f (a0 : ByteArray) (a1 : Int) : Option (Int) := some (Lib.indexByte a0.data.toList a1.toNat.toUInt8)
set_option maxHeartbeats 8000000 in
set_option maxRecDepth 100000 in
theorem strings_IndexByte.calls (a0 : ByteArray) (a1 : Int) (r : Int) (w : World) (h : strings_IndexByte.f a0 a1 = some r) :
    Calls Tryd.prog 86 #[.string a0, .int .u8 a1] w fun e w' => e = .returned (.int .i64 r) ∧ Drawn0 w w' := by
  obtain rfl := Option.some.inj h; exact (Tryd.strings_IndexByte a0 a1 w).mono fun e w' ⟨he, hw⟩ => ⟨he, hw ▸ Drawn0.refl _⟩

/-! ### impl_isNameByte: function 72 -/
def impl_isNameByte.f (a0 : Int) (a1 : Int) : Option (Bool) := (strings_IndexByte.f (⟨#[48, 49, 50, 51, 52, 53, 54, 55, 56, 57, 97, 98, 99, 100, 101, 102, 103, 104, 105, 106, 107, 108, 109, 110, 111, 112, 113, 114, 115, 116, 117, 118, 119, 120, 121, 122, 65, 66, 67, 68, 69, 70, 71, 72, 73, 74, 75, 76, 77, 78, 79, 80, 81, 82, 83, 84, 85, 86, 87, 88, 89, 90, 36]⟩ : ByteArray) a0).bind fun t268 => (if t268 ≥ 10 then (some true) else (if t268 ≥ 0 then (some (decide (a1 > 0))) else (some false)))
set_option maxHeartbeats 8000000 in
set_option maxRecDepth 100000 in
theorem impl_isNameByte.calls (a0 : Int) (a1 : Int) (r : Bool) (w : World) (h : impl_isNameByte.f a0 a1 = some r) :
 Calls Tryd.prog 72 #[.int .u8 a0, .int .i64 a1] w fun e w' => e = .returned (.bool r) ∧ Drawn0 w w' := by
 have H : ((strings_IndexByte.f (⟨#[48, 49, 50, 51, 52, 53, 54, 55, 56, 57, 97, 98, 99, 100, 101, 102, 103, 104, 105, 106, 107, 108, 109, 110, 111, 112, 113, 114, 115, 116, 117, 118, 119, 120, 121, 122, 65, 66, 67, 68, 69, 70, 71, 72, 73, 74, 75, 76, 77, 78, 79, 80, 81, 82, 83, 84, 85, 86, 87, 88, 89, 90, 36]⟩ : ByteArray) a0).bind fun t268 => (if t268 ≥ 10 then (some true) else (if t268 ≥ 0 then (some (decide (a1 > 0))) else (some false)))) = some r := h; clear h; replace H := Option.bind_eq_some_iff.mp H; obtain ⟨t268, A30, H⟩ := H; (try dsimp only at H); have A3 := Zm A30; clear A30; by_cases c4 : t268 ≥ 10; rotate_left
 · rw [if_neg c4] at H; have c4b0 : decide (10 ≤ t268) = false := decide_eq_false c4; clear c4; by_cases c5 : t268 ≥ 0; rotate_left
   · rw [if_neg c5] at H; have c5b0 : decide (0 ≤ t268) = false := decide_eq_false c5; clear c5; obtain rfl := Option.some.inj H; go_enter Tryd.func72, Tryd.ntmps72; go_wp2_with (first | ((with_reducible refine gate_callee (f := 86) rfl ?_); refine ge_ (some 7) Tryd.func86 #[.string (⟨#[48, 49, 50, 51, 52, 53, 54, 55, 56, 57, 97, 98, 99, 100, 101, 102, 103, 104, 105, 106, 107, 108, 109, 110, 111, 112, 113, 114, 115, 116, 117, 118, 119, 120, 121, 122, 65, 66, 67, 68, 69, 70, 71, 72, 73, 74, 75, 76, 77, 78, 79, 80, 81, 82, 83, 84, 85, 86, 87, 88, 89, 90, 36]⟩ : ByteArray), .int .u8 a0] ?_; (with_reducible refine (strings_IndexByte.calls _ _ _ _ A3.out).mono ?_); rintro e w' ⟨rfl, ⟨nd, rfl⟩⟩; refine ⟨_, rfl, ?_⟩)); go_ret; exact ⟨by first | rfl | (simp; done) | (simp [*]; done), by repeat (first | exact Drawn0.refl _ | apply Drawn0.step)⟩

   rw [if_pos c5] at H
   have c5b0 : decide (0 ≤ t268) = true := decide_eq_true c5
   clear c5
   obtain rfl := Option.some.inj H
   go_enter Tryd.func72, Tryd.ntmps72
   go_wp2_with (first | ((with_reducible refine gate_callee (f := 86) rfl ?_); refine ge_ (some 7) Tryd.func86 #[.string (⟨#[48, 49, 50, 51, 52, 53, 54, 55, 56, 57, 97, 98, 99, 100, 101, 102, 103, 104, 105, 106, 107, 108, 109, 110, 111, 112, 113, 114, 115, 116, 117, 118, 119, 120, 121, 122, 65, 66, 67, 68, 69, 70, 71, 72, 73, 74, 75, 76, 77, 78, 79, 80, 81, 82, 83, 84, 85, 86, 87, 88, 89, 90, 36]⟩ : ByteArray), .int .u8 a0] ?_; (with_reducible refine (strings_IndexByte.calls _ _ _ _ A3.out).mono ?_); rintro e w' ⟨rfl, ⟨nd, rfl⟩⟩; refine ⟨_, rfl, ?_⟩))
   go_ret
   exact ⟨by first | rfl | (simp; done) | (simp [*]; done), by repeat (first | exact Drawn0.refl _ | apply Drawn0.step)⟩
 rw [if_pos c4] at H
 have c4b0 : decide (10 ≤ t268) = true := decide_eq_true c4
 clear c4
 obtain rfl := Option.some.inj H
 go_enter Tryd.func72, Tryd.ntmps72
 go_wp2_with (first | ((with_reducible refine gate_callee (f := 86) rfl ?_); refine ge_ (some 7) Tryd.func86 #[.string (⟨#[48, 49, 50, 51, 52, 53, 54, 55, 56, 57, 97, 98, 99, 100, 101, 102, 103, 104, 105, 106, 107, 108, 109, 110, 111, 112, 113, 114, 115, 116, 117, 118, 119, 120, 121, 122, 65, 66, 67, 68, 69, 70, 71, 72, 73, 74, 75, 76, 77, 78, 79, 80, 81, 82, 83, 84, 85, 86, 87, 88, 89, 90, 36]⟩ : ByteArray), .int .u8 a0] ?_; (with_reducible refine (strings_IndexByte.calls _ _ _ _ A3.out).mono ?_); rintro e w' ⟨rfl, ⟨nd, rfl⟩⟩; refine ⟨_, rfl, ?_⟩))
 go_ret
 exact ⟨by first | rfl | (simp; done) | (simp [*]; done), by repeat (first | exact Drawn0.refl _ | apply Drawn0.step)⟩
/-! ### impl_length: function 73 -/
def impl_length.f (a0 : ByteArray) : Option (Int) := some (a0.size : Int)
set_option maxHeartbeats 8000000 in
set_option maxRecDepth 100000 in
theorem impl_length.calls (a0 : ByteArray) (r : Int) (w : World) (h : impl_length.f a0 = some r) :
 Calls Tryd.prog 73 #[.string a0] w fun e w' => e = .returned (.int .i64 r) ∧ Drawn0 w w' := by
 have H : (some (a0.size : Int)) = some r := h; clear h; obtain rfl := Option.some.inj H; go_enter Tryd.func73, Tryd.ntmps73; go_wp2; go_ret; exact ⟨by first | rfl | (simp; done) | (simp [*]; done), by repeat (first | exact Drawn0.refl _ | apply Drawn0.step)⟩

/-! ### impl_NameRight: function 51 -/
def impl_NameRight.l0 : Nat → ByteArray → Int → Int → Option (Bool)
 | 0, _, _, _ => none
 | k + 1, x0, x5, x6 => if x6 < x5 then (if 0 ≤ x6 then (if x6 < (x0.size : Int) then ((impl_isNameByte.f (bt x0 x6) x6).bind fun t269 => (if t269 = true then (impl_NameRight.l0 k x0 x5 (wrap64 (x6 + 1))) else (some false))) else (none)) else (none)) else ((impl_length.f x0).bind fun t270 => ((impl_within.f t270 1 20).bind fun t271 => (some t271)))
def impl_NameRight.f (k : Nat) (a0 : ByteArray) : Option (Bool) := impl_NameRight.l0 k a0 (a0.size : Int) 0
theorem impl_NameRight.mono_l : ∀ k, (∀ y0 y1 y2, LeO (impl_NameRight.l0 k y0 y1 y2) (impl_NameRight.l0 (k + 1) y0 y1 y2))
 | 0 => fun _ _ _ r h => by simp [impl_NameRight.l0] at h
 | k + 1 => by
  have ih0 := impl_NameRight.mono_l k
  · intro y0 y1 y2; unfold impl_NameRight.l0
    repeat' first
    | (with_reducible exact ih0 _ _ _)
    | (with_reducible exact LeO.refl _)
    | (with_reducible exact LeO.none _)
    | (with_reducible refine LeO.ite ?_ ?_)
    | (with_reducible refine LeO.bind ?_ (fun _ => ?_))
    | exact ih0 _ _ _
    | exact LeO.none _
    | refine LeO.ite ?_ ?_
    | refine LeO.bind ?_ (fun _ => ?_)
theorem impl_NameRight.mono : ∀ a0 k, LeO (impl_NameRight.f k a0) (impl_NameRight.f (k + 1) a0) := by
 intro a0 k; have ih0 := impl_NameRight.mono_l k; unfold impl_NameRight.f
 repeat' first
  | (with_reducible exact ih0 _ _ _)
  | (with_reducible exact LeO.refl _)
  | (with_reducible exact LeO.none _)
  | (with_reducible refine LeO.ite ?_ ?_)
  | (with_reducible refine LeO.bind ?_ (fun _ => ?_))
  | exact ih0 _ _ _
  | exact LeO.none _
  | refine LeO.ite ?_ ?_
  | refine LeO.bind ?_ (fun _ => ?_)
set_option maxHeartbeats 8000000 in
set_option maxRecDepth 100000 in
theorem impl_NameRight.calls (k : Nat) (a0 : ByteArray) (r : Bool) (w : World) (h : impl_NameRight.f k a0 = some r) :
 Calls Tryd.prog 51 #[.string a0] w fun e w' => e = .returned (.bool r) ∧ Drawn0 w w' := by
 have H : (impl_NameRight.l0 k a0 (a0.size : Int) 0) = some r := h; clear h; have H' := Zm H; clear H; go_enter Tryd.func51, Tryd.ntmps51; go_wp2; go_loopg [6] k (fun kq v6 w' => ∃ (x6_1 : Int), v6 = .int .i64 x6_1 ∧ Aside0 (impl_NameRight.l0 kq a0 (a0.size : Int) x6_1 = some r) ∧ Aside0 (kq ≤ k) ∧ Drawn0 w w')
 case atStart => exact ⟨(0), (by first | rfl | (simp; done) | (simp [*]; done)), H', ⟨Nat.le_refl _⟩, by repeat (first | exact Drawn0.refl _ | apply Drawn0.step)⟩
 case round =>
  clear H'; obtain ⟨x6_1, rfl, HA, HK1, ⟨m1, rfl⟩⟩ := hrel
  cases gk with
  | zero => exact absurd HA.out (by simp [impl_NameRight.l0])
  | succ k1 =>
   have H := HA.out; clear HA; simp only [impl_NameRight.l0] at H; by_cases c2 : x6_1 < (a0.size : Int); rotate_left
   · rw [if_neg c2] at H; have c2b0 := decide_eq_false c2; clear c2; replace H := Option.bind_eq_some_iff.mp H; obtain ⟨t270, A90, H⟩ := H; (try dsimp only at H); have A9 := Zm A90; clear A90; replace H := Option.bind_eq_some_iff.mp H; obtain ⟨t271, A100, H⟩ := H; (try dsimp only at H); have A10 := Zm A100; clear A100; obtain rfl := Option.some.inj H; go_wp2_with (first | ((with_reducible refine gate_callee (f := 73) rfl ?_); refine ge_ (some 17) Tryd.func73 #[.string a0] ?_; (with_reducible refine (impl_length.calls _ _ _ A9.out).mono ?_); rintro e w' ⟨rfl, ⟨nd, rfl⟩⟩; refine ⟨_, rfl, ?_⟩) | ((with_reducible refine gate_callee (f := 50) rfl ?_); refine ge_ (some 18) Tryd.func50 #[.int .i64 t270, .int .i64 1, .int .i64 20] ?_; (with_reducible refine (impl_within.calls _ _ _ _ _ A10.out).mono ?_); rintro e w' ⟨rfl, ⟨nd, rfl⟩⟩; refine ⟨_, rfl, ?_⟩)); go_ret; exact ⟨by first | rfl | (simp; done) | (simp [*]; done), by repeat (first | exact Drawn0.refl _ | apply Drawn0.step)⟩

   rw [if_pos c2] at H
   have c2b0 := decide_eq_true c2
   clear c2
   by_cases c3 : 0 ≤ x6_1
   rotate_left
   · rw [if_neg c3] at H
     exact absurd H (by simp)
   rw [if_pos c3] at H
   have c3b0 := decide_eq_true c3
   clear c3
   by_cases c4 : x6_1 < (a0.size : Int)
   rotate_left
   · rw [if_neg c4] at H
     exact absurd H (by simp)
   rw [if_pos c4] at H
   have c4b0 := decide_eq_true c4
   clear c4
   replace H := Option.bind_eq_some_iff.mp H
   obtain ⟨t269, A60, H⟩ := H
   (try dsimp only at H)
   have A6 := Zm A60
   clear A60
   have HC7 := Zm H
   clear H
   have p5 : 0 ≤ (x6_1 : Int) := of_decide_eq_true (by first | (with_reducible assumption) | assumption)
   have q5 : x6_1 < (a0.size : Int) := of_decide_eq_true (by first | (with_reducible assumption) | assumption)
   have hx5 := bt_at a0 x6_1
   replace p5 := eq_true p5
   replace q5 := eq_true q5
   go_upto_if 14 with (first | ((with_reducible refine gate_callee (f := 72) rfl ?_); refine ge_ (some 13) Tryd.func72 #[.int .u8 (bt a0 x6_1), .int .i64 x6_1] ?_; (with_reducible refine (impl_isNameByte.calls _ _ _ _ A6.out).mono ?_); rintro e w' ⟨rfl, ⟨nd, rfl⟩⟩; refine ⟨_, rfl, ?_⟩))
   have H := HC7.out
   clear HC7
   by_cases c8 : t269 = true
   rotate_left
   · replace c8 := Bool.eq_false_iff.mpr c8
     subst c8
     rw [if_neg (show ¬ (false = true) by decide)] at H
     obtain rfl := Option.some.inj H
     go_wp2
     go_ret
     exact ⟨by first | rfl | (simp; done) | (simp [*]; done), by repeat (first | exact Drawn0.refl _ | apply Drawn0.step)⟩
   subst c8
   rw [if_pos rfl] at H
   have H' := Zm H
   clear H
   go_wp2
   go_roundg k1
   case measure => have := HK1.out; omega
   case rel => exact ⟨(wrap64 (x6_1 + 1)), (by first | rfl | (simp; done) | (simp [*]; done)), H', ⟨by have := HK1.out; omega⟩, by repeat (first | exact Drawn0.refl _ | apply Drawn0.step)⟩
/-- A state of type 97 at block g of W; what its slices lead to came in by w0. -/
def IsS97 (w0 W : World) (g : Nat) (f0 : ByteArray) (f1 : Int) (f2 : Bool) : Prop := W.heap[g]? = some (.cells #[.string f0, .int .i64 f1, .bool f2] 97 (0, 0)) ∧ w0.heap.size ≤ g
theorem IsS97.grown {w0 W : World} {g : Nat} {f0 : ByteArray} {f1 : Int} {f2 : Bool} {W1 : World} {row : Option Nat} (h : IsS97 w0 W g f0 f1 f2) (hw : W.grownBy W1 row) (hne : some g ≠ row) : IsS97 w0 W1 g f0 f1 f2 := by
 obtain ⟨hb, hg⟩ := h; exact ⟨blk_grown hb hw hne, hg⟩
theorem IsS97.own_neN {w0 W : World} {g : Nat} {f0 : ByteArray} {f1 : Int} {f2 : Bool} {α : Type} {d : Kd α} {e : Nat} {base : Nat} {ok : Nat → Prop} {v : Value} {xs : List α} (h : IsS97 w0 W g f0 f1 f2) (ho : Kd.N d e W base ok v xs) (ht : e ≠ 97) : some g ≠ v.ownBlock := by
 obtain ⟨hb, hg⟩ := h; exact Kd.N_ne ho hb ht
theorem IsS97.fresh {w0 W : World} {g : Nat} {f0 : ByteArray} {f1 : Int} {f2 : Bool} (h : IsS97 w0 W g f0 f1 f2) : ∀ k, W.heap.size ≤ k → k ≠ g := by
 obtain ⟨hb, hg⟩ := h; exact Kd.freshB hb
theorem IsS97.kept {w0 W : World} {g : Nat} {f0 : ByteArray} {f1 : Int} {f2 : Bool} {W1 : World} {S : Nat → Prop} (h : IsS97 w0 W g f0 f1 f2) (hk : Kept W W1 S) (hne : ¬ S g) : IsS97 w0 W1 g f0 f1 f2 := by
 obtain ⟨hb, hg⟩ := h; exact ⟨blk_kept hb hk hne, hg⟩
theorem IsS97.below {w0 W : World} {g : Nat} {f0 : ByteArray} {f1 : Int} {f2 : Bool} {W1 : World} (h : IsS97 w0 W g f0 f1 f2) (hw : Below W.heap.size W W1) : IsS97 w0 W1 g f0 f1 f2 := h.grown (grown_of_below hw none) (by simp)
theorem IsS97.alloc {w0 W : World} {g : Nat} {f0 : ByteArray} {f1 : Int} {f2 : Bool} (h : IsS97 w0 W g f0 f1 f2) (o : Obj) : IsS97 w0 (W.alloc o) g f0 f1 f2 := h.below (Zba (Below.refl _ _) o)
theorem IsS97.drewN {w0 W : World} {g : Nat} {f0 : ByteArray} {f1 : Int} {f2 : Bool} (h : IsS97 w0 W g f0 f1 f2) (m : Nat) : IsS97 w0 (W.drewN m) g f0 f1 f2 := h
theorem IsS97.drew {w0 W : World} {g : Nat} {f0 : ByteArray} {f1 : Int} {f2 : Bool} (h : IsS97 w0 W g f0 f1 f2) : IsS97 w0 W.drew g f0 f1 f2 := h
theorem IsS97.at_ {w0 W : World} {g : Nat} {f0 : ByteArray} {f1 : Int} {f2 : Bool} {w' : World} {m : Nat} (hq : W.drewN m = w') (h : IsS97 w0 W g f0 f1 f2) : IsS97 w0 w' g f0 f1 f2 := by subst hq; exact IsS97.drewN h m
theorem IsS97.apart {w0 W : World} {g : Nat} {f0 : ByteArray} {f1 : Int} {f2 : Bool} {α : Type} {d : Kd α} {e : Nat} {base : Nat} {ok : Nat → Prop} {v : Value} {xs : List α} (h : IsS97 w0 W g f0 f1 f2) (ho : d.R e W base ok v xs) (ht : ∀ q, q ∈ e :: d.E → q ≠ 97) : d.R e W base (fun k => ok k ∧ k ≠ g) v xs := by
 obtain ⟨hb, hg⟩ := h; exact Kd.R_types ho hb ht
theorem IsS97.own_ne {w0 W : World} {g : Nat} {f0 : ByteArray} {f1 : Int} {f2 : Bool} {α : Type} {d : Kd α} {e : Nat} {base : Nat} {ok : Nat → Prop} {v : Value} {xs : List α} (h : IsS97 w0 W g f0 f1 f2) (ho : d.R e W base ok v xs) (ht : e ≠ 97) : some g ≠ v.ownBlock := by
 obtain ⟨hb, hg⟩ := h; exact Kd.R_ne ho hb ht
theorem IsS97.apartQ {w0 W : World} {g : Nat} {f0 : ByteArray} {f1 : Int} {f2 : Bool} {α : Type} {d : Kd α} {e : Nat} {base : Nat} {ok : Nat → Prop} {v : Value} {xs : List α} (h : IsS97 w0 W g f0 f1 f2) (ho : d.Q e W base ok v xs) (ht : ∀ q, q ∈ e :: d.E → q ≠ 97) : d.Q e W base (fun k => ok k ∧ k ≠ g) v xs := by
 obtain ⟨hb, hg⟩ := h; exact Kd.Q_types ho hb ht
theorem IsS97.own_neQ {w0 W : World} {g : Nat} {f0 : ByteArray} {f1 : Int} {f2 : Bool} {α : Type} {d : Kd α} {e : Nat} {base : Nat} {ok : Nat → Prop} {v : Value} {xs : List α} (h : IsS97 w0 W g f0 f1 f2) (ho : d.Q e W base ok v xs) (ht : e ≠ 97) : some g ≠ v.ownBlock := by
 obtain ⟨hb, hg⟩ := h; exact Kd.Q_ne ho hb ht
theorem IsS97.apartS {w0 W : World} {g : Nat} {f0 : ByteArray} {f1 : Int} {f2 : Bool} {α : Type} {d : Kd α} {e : Nat} {base : Nat} {ok : Nat → Prop} {v : Value} {xs : List α} (h : IsS97 w0 W g f0 f1 f2) (ho : d.S e W base ok v xs) (ht : ∀ q, q ∈ e :: d.E → q ≠ 97) : d.S e W base (fun k => ok k ∧ k ≠ g) v xs := by
 obtain ⟨hb, hg⟩ := h; exact Kd.S_types ho hb ht
theorem IsS97.own_neS {w0 W : World} {g : Nat} {f0 : ByteArray} {f1 : Int} {f2 : Bool} {α : Type} {d : Kd α} {e : Nat} {base : Nat} {ok : Nat → Prop} {v : Value} {xs : List α} (h : IsS97 w0 W g f0 f1 f2) (ho : d.S e W base ok v xs) (ht : e ≠ 97) : some g ≠ v.ownBlock := by
 obtain ⟨hb, hg⟩ := h; exact Kd.S_ne ho hb ht
theorem IsS97.lt {w0 W : World} {g : Nat} {f0 : ByteArray} {f1 : Int} {f2 : Bool} (h : IsS97 w0 W g f0 f1 f2) : g < W.heap.size := by
 obtain ⟨hb, hg⟩ := h; exact blk_lt hb
theorem IsS97.ge {w0 W : World} {g : Nat} {f0 : ByteArray} {f1 : Int} {f2 : Bool} (h : IsS97 w0 W g f0 f1 f2) : w0.heap.size ≤ g := by
 obtain ⟨hb, hg⟩ := h; exact hg
theorem IsS97.ne_blk {w0 W : World} {g : Nat} {f0 : ByteArray} {f1 : Int} {f2 : Bool} {a : Nat} {cs : Array Value} {t : TypeId} {fr : Nat × Nat} (h : IsS97 w0 W g f0 f1 f2) (hb2 : W.heap[a]? = some (.cells cs t fr)) (ht : t ≠ 97) : g ≠ a := by
 obtain ⟨hb, hg⟩ := h; rintro rfl; rw [hb] at hb2; injection hb2 with hb2; injection hb2 with _ ht2; exact ht ht2.symm
theorem IsS97.far {w0 W : World} {g : Nat} {f0 : ByteArray} {f1 : Int} {f2 : Bool} {p : Addr} (h : IsS97 w0 W g f0 f1 f2) (hne : g ≠ p.block) (u : Value) : IsS97 w0 (W.setCell p u) g f0 f1 f2 := by
 obtain ⟨hb, hg⟩ := h; exact ⟨Zkr hb hne u, hg⟩
theorem cellS97_0 {W : World} {g : Nat} {f0 : ByteArray} {f1 : Int} {f2 : Bool} (h : W.heap[g]? = some (.cells #[.string f0, .int .i64 f1, .bool f2] 97 (0, 0))) : W.cell? ⟨g, 0, none⟩ = some (.string f0) := (Zkc h 0).trans rfl
theorem IsS97.set_0 {w0 W : World} {g : Nat} {f0 : ByteArray} {f1 : Int} {f2 : Bool} (h : IsS97 w0 W g f0 f1 f2) (x : ByteArray) : IsS97 w0 (W.setCell ⟨g, 0, none⟩ (.string x)) g x f1 f2 := by
 obtain ⟨hb, hg⟩ := h; exact ⟨by simpa using blk_set hb 0 (.string x), hg⟩
theorem cellS97_1 {W : World} {g : Nat} {f0 : ByteArray} {f1 : Int} {f2 : Bool} (h : W.heap[g]? = some (.cells #[.string f0, .int .i64 f1, .bool f2] 97 (0, 0))) : W.cell? ⟨g, 1, none⟩ = some (.int .i64 f1) := (Zkc h 1).trans rfl
theorem IsS97.set_1 {w0 W : World} {g : Nat} {f0 : ByteArray} {f1 : Int} {f2 : Bool} (h : IsS97 w0 W g f0 f1 f2) (x : Int) : IsS97 w0 (W.setCell ⟨g, 1, none⟩ (.int .i64 x)) g f0 x f2 := by
 obtain ⟨hb, hg⟩ := h; exact ⟨by simpa using blk_set hb 1 (.int .i64 x), hg⟩
theorem cellS97_2 {W : World} {g : Nat} {f0 : ByteArray} {f1 : Int} {f2 : Bool} (h : W.heap[g]? = some (.cells #[.string f0, .int .i64 f1, .bool f2] 97 (0, 0))) : W.cell? ⟨g, 2, none⟩ = some (.bool f2) := (Zkc h 2).trans rfl
theorem IsS97.set_2 {w0 W : World} {g : Nat} {f0 : ByteArray} {f1 : Int} {f2 : Bool} (h : IsS97 w0 W g f0 f1 f2) (x : Bool) : IsS97 w0 (W.setCell ⟨g, 2, none⟩ (.bool x)) g f0 f1 x := by
 obtain ⟨hb, hg⟩ := h; exact ⟨by simpa using blk_set hb 2 (.bool x), hg⟩
theorem IsS97.new (w0 W : World) (f0 : ByteArray) (f1 : Int) (f2 : Bool) (hB : Below w0.heap.size w0 W) : IsS97 w0 (W.alloc (.cells #[.string f0, .int .i64 f1, .bool f2] 97)) W.heap.size f0 f1 f2 := ⟨by simpa using heap_alloc_new W _, hB.size⟩

/-! ### impl_reader_is: function 104 -/
def impl_reader_is.f (s0_0 : ByteArray) (s0_1 : Int) (s0_2 : Bool) (a1 : Int) : Option (Bool × ByteArray × Int × Bool) := if s0_2 = true then (some (false, s0_0, s0_1, s0_2)) else ((impl_length.f s0_0).bind fun t272 => (if s0_1 < t272 then (if 0 ≤ s0_1 then (if s0_1 < (s0_0.size : Int) then (some (((bt s0_0 s0_1) == a1), s0_0, s0_1, s0_2)) else (none)) else (none)) else (some (false, s0_0, s0_1, s0_2))))
set_option maxHeartbeats 8000000 in
set_option maxRecDepth 100000 in
theorem impl_reader_is.calls (g : Nat) (s0_0 : ByteArray) (s0_1 : Int) (s0_2 : Bool) (a1 : Int) (r1 : Bool) (r2 : ByteArray) (r3 : Int) (r4 : Bool) (w0 w : World) (hI : IsS97 w0 w g s0_0 s0_1 s0_2) (hB : Below w0.heap.size w0 w) (h : impl_reader_is.f s0_0 s0_1 s0_2 a1 = some (r1, r2, r3, r4)) :
 Calls Tryd.prog 104 #[.pointer (some ⟨g, 0, none⟩), .int .u8 a1] w fun e w' => e = .returned (.bool r1) ∧ IsS97 w0 w' g r2 r3 r4 ∧ Below w0.heap.size w0 w' ∧ KeepBut w w' g none := by
 have HI0 := Zm hI; have HK := Zm (KeepBut.refl w g none); have HL := Zm hB.size; clear hI; have HW0 := Zm hB.size; have HB := Zm hB; clear hB; have H : (if s0_2 = true then (some (false, s0_0, s0_1, s0_2)) else ((impl_length.f s0_0).bind fun t272 => (if s0_1 < t272 then (if 0 ≤ s0_1 then (if s0_1 < (s0_0.size : Int) then (some (((bt s0_0 s0_1) == a1), s0_0, s0_1, s0_2)) else (none)) else (none)) else (some (false, s0_0, s0_1, s0_2))))) = some (r1, r2, r3, r4) := h; clear h; obtain ⟨hb, hg⟩ := HI0.out; have f0 := cellS97_0 hb; have f1 := cellS97_1 hb; have f2 := cellS97_2 hb; have hu97 := Tryd.underlying97; have hlen : ∀ W : World, Calls Tryd.prog 73 #[.string s0_0] W fun e W' => e = .returned (.int .i64 (s0_0.size : Int)) ∧ Drawn0 W W' := fun W => impl_length.calls s0_0 (s0_0.size : Int) W rfl
 have hlq : ∀ (W : World) (n : Nat), Calls Tryd.prog 73 #[.string s0_0] (W.drewN n) fun e w'' => e = .returned (.int .i64 (s0_0.size : Int)) ∧ ∃ m, w'' = W.drewN m := fun W n => Calls.quiet_of ((hlen (W.drewN n)).mono fun e W' ⟨he, ⟨m, hm⟩⟩ => ⟨he, m, hm⟩)
 clear hb
 cases s0_2 with
 | true =>
  rw [if_pos rfl] at H; simp only [Option.some.injEq, Prod.mk.injEq] at H; obtain ⟨rfl, rfl, rfl, rfl⟩ := H; go_enter Tryd.func104, Tryd.ntmps104; go_wp2; go_quiet (fail); go_wp2; go_ret
  exact ⟨rfl, HI0.out, by repeat (with_reducible first | exact HB.out | apply Zbn | apply Zbd), by repeat (with_reducible first | exact HK.out | apply keep_drewN | apply keep_drew)⟩
 | false =>
  rw [if_neg (by simp)] at H; simp only [impl_length.f, Option.bind_some] at H; by_cases c1 : s0_1 < (s0_0.size : Int); rotate_left
  · rw [if_neg c1] at H; have c1b : decide (s0_1 < (s0_0.size : Int)) = false := decide_eq_false c1; simp only [Option.some.injEq, Prod.mk.injEq] at H; obtain ⟨rfl, rfl, rfl, rfl⟩ := H; go_enter Tryd.func104, Tryd.ntmps104; go_wp2; go_quiet ((go_at_call 73; exact hlq _ _)); go_wp2; go_ret; exact ⟨rfl, HI0.out, by repeat (with_reducible first | exact HB.out | apply Zbn | apply Zbd), by repeat (with_reducible first | exact HK.out | apply keep_drewN | apply keep_drew)⟩

  rw [if_pos c1] at H
  have c1b : decide (s0_1 < (s0_0.size : Int)) = true := decide_eq_true c1
  by_cases c2 : 0 ≤ s0_1
  rotate_left
  · rw [if_neg c2] at H
    exact absurd H (by simp)
  rw [if_pos c2, if_pos c1] at H
  have c2b : decide (0 ≤ s0_1) = true := decide_eq_true c2
  simp only [Option.some.injEq, Prod.mk.injEq] at H
  obtain ⟨rfl, rfl, rfl, rfl⟩ := H
  have hbt := bt_at s0_0 s0_1
  go_enter Tryd.func104, Tryd.ntmps104
  go_wp2
  go_quiet ((go_at_call 73; exact hlq _ _))
  go_wp2
  go_ret
  exact ⟨rfl, HI0.out, by repeat (with_reducible first | exact HB.out | apply Zbn | apply Zbd), by repeat (with_reducible first | exact HK.out | apply keep_drewN | apply keep_drew)⟩
/-! ### impl_reader_take: function 87 -/
def impl_reader_take.f (s0_0 : ByteArray) (s0_1 : Int) (s0_2 : Bool) (a1 : Int) : Option (Bool × ByteArray × Int × Bool) := (impl_reader_is.f s0_0 s0_1 s0_2 a1).bind fun bt273 => (if bt273.1 = true then (some (true, bt273.2.1, wrap64 (bt273.2.2.1 + 1), bt273.2.2.2)) else (some (false, bt273.2.1, bt273.2.2.1, bt273.2.2.2)))
set_option maxHeartbeats 8000000 in
set_option maxRecDepth 100000 in
theorem impl_reader_take.calls (g : Nat) (s0_0 : ByteArray) (s0_1 : Int) (s0_2 : Bool) (a1 : Int) (r1 : Bool) (r2 : ByteArray) (r3 : Int) (r4 : Bool) (w0 w : World) (hI : IsS97 w0 w g s0_0 s0_1 s0_2) (hB : Below w0.heap.size w0 w) (h : impl_reader_take.f s0_0 s0_1 s0_2 a1 = some (r1, r2, r3, r4)) :
 Calls Tryd.prog 87 #[.pointer (some ⟨g, 0, none⟩), .int .u8 a1] w fun e w' => e = .returned (.bool r1) ∧ IsS97 w0 w' g r2 r3 r4 ∧ Below w0.heap.size w0 w' ∧ KeepBut w w' g none := by
 have HI0 := Zm hI; have HK := Zm (KeepBut.refl w g none); have HL := Zm hB.size; clear hI; have HW0 := Zm hB.size; have HB := Zm hB; clear hB; have H : ((impl_reader_is.f s0_0 s0_1 s0_2 a1).bind fun bt273 => (if bt273.1 = true then (some (true, bt273.2.1, wrap64 (bt273.2.2.1 + 1), bt273.2.2.2)) else (some (false, bt273.2.1, bt273.2.2.1, bt273.2.2.2)))) = some (r1, r2, r3, r4) := h; clear h; replace H := Option.bind_eq_some_iff.mp H; obtain ⟨⟨t273, t274, t275, t276⟩, A30, H⟩ := H; replace H : (if t273 = true then (some (true, t274, wrap64 (t275 + 1), t276)) else (some (false, t274, t275, t276))) = some (r1, r2, r3, r4) := H; have A3 := Zm A30; clear A30; have HC4 := Zm H; clear H; go_enter Tryd.func87, Tryd.ntmps87; go_upto_if 8 with (first | ((with_reducible refine gate_callee (f := 104) rfl ?_); refine ge_ (some 7) Tryd.func104 #[.pointer (some ⟨g, 0, none⟩), .int .u8 a1] ?_; (with_reducible refine (impl_reader_is.calls g _ _ _ _ _ _ _ _ w0 _ ?side1 ?side2 A3.out).mono ?_); (case side1 => repeat (first | (with_reducible first | exact HI0.out | apply IsS97.alloc | apply IsS97.drewN | apply IsS97.drew | apply IsS97.set_0 | apply IsS97.set_1 | apply IsS97.set_2) | exact HI0.out)); (case side2 => exact bk HB.out); rintro e w5 ⟨rfl, hi, hb, hk⟩; refine ⟨_, rfl, ?_⟩; have n0_ := (⟨Zm (KeepBut.trans (by repeat (first | (with_reducible first | exact HK.out | apply KeepBut.set_ | apply keep_drewN | apply keep_drew | apply keep_alloc) | exact HK.out)) hk (.inl rfl)), Zm (hb), Zm (hi)⟩ : _ ∧ _ ∧ _); clear HK HB HI0; obtain ⟨HK, HB, HI0⟩ := n0_; (try clear hb); (try clear hb2); (try clear hk); (try clear hi))); have H := HC4.out; clear HC4; by_cases c6 : t273 = true; rotate_left
 · replace c6 := Bool.eq_false_iff.mpr c6; subst c6; rw [if_neg (show ¬ (false = true) by decide)] at H; simp only [Option.some.injEq, Prod.mk.injEq] at H; obtain ⟨rfl, rfl, rfl, rfl⟩ := H; go_wp2; go_ret; exact ⟨by first | rfl | (simp [*] <;> rfl), by repeat (first | (with_reducible first | exact HI0.out | apply IsS97.alloc | apply IsS97.drewN | apply IsS97.drew | apply IsS97.set_0 | apply IsS97.set_1 | apply IsS97.set_2) | exact HI0.out), by exact bk HB.out, by repeat (first | (with_reducible first | exact HK.out | apply KeepBut.set_ | apply keep_drewN | apply keep_drew | apply keep_alloc) | exact HK.out)⟩

 subst c6
 rw [if_pos rfl] at H
 simp only [Option.some.injEq, Prod.mk.injEq] at H
 obtain ⟨rfl, rfl, rfl, rfl⟩ := H
 obtain ⟨HGz7, hgz7⟩ := HI0.out
 have hcz7_0 := cellS97_0 HGz7
 have hcz7_1 := cellS97_1 HGz7
 have hcz7_2 := cellS97_2 HGz7
 have hfz7_0 := Zkf HGz7 0
 have hfz7_1 := Zkf HGz7 1
 have hfz7_2 := Zkf HGz7 2
 clear HGz7 hgz7
 go_wp2
 go_ret
 exact ⟨by first | rfl | (simp [*] <;> rfl), by repeat (first | (with_reducible first | exact HI0.out | apply IsS97.alloc | apply IsS97.drewN | apply IsS97.drew | apply IsS97.set_0 | apply IsS97.set_1 | apply IsS97.set_2) | exact HI0.out), by repeat (first | (with_reducible first | exact HB.out | apply Zba | apply Zbn | apply Zbd | refine Zbs ?_ (IsS97.ge HI0.out)) | exact HB.out), by repeat (first | (with_reducible first | exact HK.out | apply KeepBut.set_ | apply keep_drewN | apply keep_drew | apply keep_alloc) | exact HK.out)⟩
/-! ### impl_reader_want: function 89 -/
def impl_reader_want.f (s0_0 : ByteArray) (s0_1 : Int) (s0_2 : Bool) (a1 : Int) : Option (ByteArray × Int × Bool) := (impl_reader_take.f s0_0 s0_1 s0_2 a1).bind fun bt277 => (if bt277.1 = true then (some (bt277.2.1, bt277.2.2.1, bt277.2.2.2)) else (some (bt277.2.1, bt277.2.2.1, true)))
set_option maxHeartbeats 8000000 in
set_option maxRecDepth 100000 in
theorem impl_reader_want.calls (g : Nat) (s0_0 : ByteArray) (s0_1 : Int) (s0_2 : Bool) (a1 : Int) (r1 : ByteArray) (r2 : Int) (r3 : Bool) (w0 w : World) (hI : IsS97 w0 w g s0_0 s0_1 s0_2) (hB : Below w0.heap.size w0 w) (h : impl_reader_want.f s0_0 s0_1 s0_2 a1 = some (r1, r2, r3)) :
 Calls Tryd.prog 89 #[.pointer (some ⟨g, 0, none⟩), .int .u8 a1] w fun e w' => e = .returned (.tuple #[]) ∧ IsS97 w0 w' g r1 r2 r3 ∧ Below w0.heap.size w0 w' ∧ KeepBut w w' g none := by
 have HI0 := Zm hI; have HK := Zm (KeepBut.refl w g none); have HL := Zm hB.size; clear hI; have HW0 := Zm hB.size; have HB := Zm hB; clear hB; have H : ((impl_reader_take.f s0_0 s0_1 s0_2 a1).bind fun bt277 => (if bt277.1 = true then (some (bt277.2.1, bt277.2.2.1, bt277.2.2.2)) else (some (bt277.2.1, bt277.2.2.1, true)))) = some (r1, r2, r3) := h; clear h; replace H := Option.bind_eq_some_iff.mp H; obtain ⟨⟨t277, t278, t279, t280⟩, A30, H⟩ := H; replace H : (if t277 = true then (some (t278, t279, t280)) else (some (t278, t279, true))) = some (r1, r2, r3) := H; have A3 := Zm A30; clear A30; have HC4 := Zm H; clear H; go_enter Tryd.func89, Tryd.ntmps89; go_upto_if 7 with (first | ((with_reducible refine gate_callee (f := 87) rfl ?_); refine ge_ (some 6) Tryd.func87 #[.pointer (some ⟨g, 0, none⟩), .int .u8 a1] ?_; (with_reducible refine (impl_reader_take.calls g _ _ _ _ _ _ _ _ w0 _ ?side1 ?side2 A3.out).mono ?_); (case side1 => repeat (first | (with_reducible first | exact HI0.out | apply IsS97.alloc | apply IsS97.drewN | apply IsS97.drew | apply IsS97.set_0 | apply IsS97.set_1 | apply IsS97.set_2) | exact HI0.out)); (case side2 => exact bk HB.out); rintro e w5 ⟨rfl, hi, hb, hk⟩; refine ⟨_, rfl, ?_⟩; have n0_ := (⟨Zm (KeepBut.trans (by repeat (first | (with_reducible first | exact HK.out | apply KeepBut.set_ | apply keep_drewN | apply keep_drew | apply keep_alloc) | exact HK.out)) hk (.inl rfl)), Zm (hb), Zm (hi)⟩ : _ ∧ _ ∧ _); clear HK HB HI0; obtain ⟨HK, HB, HI0⟩ := n0_; (try clear hb); (try clear hb2); (try clear hk); (try clear hi))); have H := HC4.out; clear HC4; by_cases c6 : t277 = true; rotate_left
 · replace c6 := Bool.eq_false_iff.mpr c6; subst c6; rw [if_neg (show ¬ (false = true) by decide)] at H; simp only [Option.some.injEq, Prod.mk.injEq] at H; obtain ⟨rfl, rfl, rfl⟩ := H; obtain ⟨HGz7, hgz7⟩ := HI0.out; have hcz7_0 := cellS97_0 HGz7; have hcz7_1 := cellS97_1 HGz7; have hcz7_2 := cellS97_2 HGz7; have hfz7_0 := Zkf HGz7 0; have hfz7_1 := Zkf HGz7 1; have hfz7_2 := Zkf HGz7 2; clear HGz7 hgz7; go_wp2
   first | go_end0 | ((try simp only [Exit.inBlock, Exit.then]); refine bodyPost_ret (results_none rfl _ _ _) rfl ?_)
   exact ⟨by first | rfl | (simp [*] <;> rfl), by repeat (first | (with_reducible first | exact HI0.out | apply IsS97.alloc | apply IsS97.drewN | apply IsS97.drew | apply IsS97.set_0 | apply IsS97.set_1 | apply IsS97.set_2) | exact HI0.out), by repeat (first | (with_reducible first | exact HB.out | apply Zba | apply Zbn | apply Zbd | refine Zbs ?_ (IsS97.ge HI0.out)) | exact HB.out), by repeat (first | (with_reducible first | exact HK.out | apply KeepBut.set_ | apply keep_drewN | apply keep_drew | apply keep_alloc) | exact HK.out)⟩

 subst c6
 rw [if_pos rfl] at H
 simp only [Option.some.injEq, Prod.mk.injEq] at H
 obtain ⟨rfl, rfl, rfl⟩ := H
 go_wp2
 first | go_end0 | ((try simp only [Exit.inBlock, Exit.then]); refine bodyPost_ret (results_none rfl _ _ _) rfl ?_)
 exact ⟨by first | rfl | (simp [*] <;> rfl), by repeat (first | (with_reducible first | exact HI0.out | apply IsS97.alloc | apply IsS97.drewN | apply IsS97.drew | apply IsS97.set_0 | apply IsS97.set_1 | apply IsS97.set_2) | exact HI0.out), by exact bk HB.out, by repeat (first | (with_reducible first | exact HK.out | apply KeepBut.set_ | apply keep_drewN | apply keep_drew | apply keep_alloc) | exact HK.out)⟩
/-! ### impl_reader_name: function 88 -/
def impl_reader_name.l0 : Nat → Int → ByteArray → Int → Bool → Option (ByteArray × Int × Bool)
 | 0, _, _, _, _ => none
 | k + 1, x2, x1000, x1001, x1002 => if x1002 = true then (if x1001 = x2 then ((impl_reader_want.f x1000 x1001 true 59).bind fun bt281 => (some (bt281.1, bt281.2.1, bt281.2.2))) else ((impl_reader_want.f x1000 x1001 x1002 59).bind fun bt284 => (some (bt284.1, bt284.2.1, bt284.2.2)))) else ((impl_length.f x1000).bind fun t287 => (if x1001 < t287 then (if x1001 < (wrap64 (x2 + 20)) then (if 0 ≤ x1001 then (if x1001 < (x1000.size : Int) then ((impl_isNameByte.f (bt x1000 x1001) (wrap64 (x1001 - x2))).bind fun t288 => (if t288 = true then (impl_reader_name.l0 k x2 x1000 (wrap64 (x1001 + 1)) x1002) else (if x1001 = x2 then ((impl_reader_want.f x1000 x1001 true 59).bind fun bt289 => (some (bt289.1, bt289.2.1, bt289.2.2))) else ((impl_reader_want.f x1000 x1001 x1002 59).bind fun bt292 => (some (bt292.1, bt292.2.1, bt292.2.2)))))) else (none)) else (none)) else (if x1001 = x2 then ((impl_reader_want.f x1000 x1001 true 59).bind fun bt295 => (some (bt295.1, bt295.2.1, bt295.2.2))) else ((impl_reader_want.f x1000 x1001 x1002 59).bind fun bt298 => (some (bt298.1, bt298.2.1, bt298.2.2))))) else (if x1001 = x2 then ((impl_reader_want.f x1000 x1001 true 59).bind fun bt301 => (some (bt301.1, bt301.2.1, bt301.2.2))) else ((impl_reader_want.f x1000 x1001 x1002 59).bind fun bt304 => (some (bt304.1, bt304.2.1, bt304.2.2))))))
def impl_reader_name.f (k : Nat) (s0_0 : ByteArray) (s0_1 : Int) (s0_2 : Bool) : Option (ByteArray × Int × Bool) := impl_reader_name.l0 k s0_1 s0_0 s0_1 s0_2
theorem impl_reader_name.mono_l : ∀ k, (∀ y0 y1 y2 y3, LeO (impl_reader_name.l0 k y0 y1 y2 y3) (impl_reader_name.l0 (k + 1) y0 y1 y2 y3))
 | 0 => fun _ _ _ _ r h => by simp [impl_reader_name.l0] at h
 | k + 1 => by
  have ih0 := impl_reader_name.mono_l k
  · intro y0 y1 y2 y3; unfold impl_reader_name.l0
    repeat' first
    | (with_reducible exact ih0 _ _ _ _)
    | (with_reducible exact LeO.refl _)
    | (with_reducible exact LeO.none _)
    | (with_reducible refine LeO.ite ?_ ?_)
    | (with_reducible refine LeO.bind ?_ (fun _ => ?_))
    | exact ih0 _ _ _ _
    | exact LeO.none _
    | refine LeO.ite ?_ ?_
    | refine LeO.bind ?_ (fun _ => ?_)
theorem impl_reader_name.mono : ∀ a0 a1 a2 k, LeO (impl_reader_name.f k a0 a1 a2) (impl_reader_name.f (k + 1) a0 a1 a2) := by
 intro a0 a1 a2 k; have ih0 := impl_reader_name.mono_l k; unfold impl_reader_name.f
 repeat' first
  | (with_reducible exact ih0 _ _ _ _)
  | (with_reducible exact LeO.refl _)
  | (with_reducible exact LeO.none _)
  | (with_reducible refine LeO.ite ?_ ?_)
  | (with_reducible refine LeO.bind ?_ (fun _ => ?_))
  | exact ih0 _ _ _ _
  | exact LeO.none _
  | refine LeO.ite ?_ ?_
  | refine LeO.bind ?_ (fun _ => ?_)
set_option maxHeartbeats 8000000 in
set_option maxRecDepth 100000 in
theorem impl_reader_name.calls (k : Nat) (g : Nat) (s0_0 : ByteArray) (s0_1 : Int) (s0_2 : Bool) (r1 : ByteArray) (r2 : Int) (r3 : Bool) (w0 w : World) (hI : IsS97 w0 w g s0_0 s0_1 s0_2) (hB : Below w0.heap.size w0 w) (h : impl_reader_name.f k s0_0 s0_1 s0_2 = some (r1, r2, r3)) :
 Calls Tryd.prog 88 #[.pointer (some ⟨g, 0, none⟩)] w fun e w' => e = .returned (.tuple #[]) ∧ IsS97 w0 w' g r1 r2 r3 ∧ Below w0.heap.size w0 w' ∧ KeepBut w w' g none := by
 have HI0 := Zm hI; have HK := Zm (KeepBut.refl w g none); have HL := Zm hB.size; clear hI; have HW0 := Zm hB.size; have HB := Zm hB; clear hB; have H : (impl_reader_name.l0 k s0_1 s0_0 s0_1 s0_2) = some (r1, r2, r3) := h; clear h
 have eta : ∀ (o : Option (ByteArray × Int × Bool)) (r : ByteArray × Int × Bool), (o.bind fun b => some (b.1, b.2.1, b.2.2)) = some r → o = some r := by
  intro o r h
  cases o with
  | none => exact h
  | some b => exact h
 have hg := IsS97.ge HI0.out; have hu97 := Tryd.underlying97; have hlen : ∀ W : World, Calls Tryd.prog 73 #[.string s0_0] W fun e W' => e = .returned (.int .i64 (s0_0.size : Int)) ∧ Drawn0 W W' := fun W => impl_length.calls s0_0 (s0_0.size : Int) W rfl
 have hlq : ∀ (W : World) (n : Nat), Calls Tryd.prog 73 #[.string s0_0] (W.drewN n) fun e w'' => e = .returned (.int .i64 (s0_0.size : Int)) ∧ ∃ m, w'' = W.drewN m := fun W n => Calls.quiet_of ((hlen (W.drewN n)).mono fun e W' ⟨he, ⟨m, hm⟩⟩ => ⟨he, m, hm⟩)
 have HH := Zm H; clear H hlen; obtain ⟨hb0, _⟩ := HI0.out; have g1 := cellS97_1 hb0; clear hb0; go_enter Tryd.func88, Tryd.ntmps88; go_wp2; clear g1; go_loopg [] k (fun kq w' => ∃ (x : Int), Aside0 (impl_reader_name.l0 kq s0_1 s0_0 x s0_2 = some (r1, r2, r3)) ∧ Aside0 (kq ≤ k) ∧ Aside0 (IsS97 w0 w' g s0_0 x s0_2) ∧ Aside0 (Below w0.heap.size w0 w') ∧ Aside0 (KeepBut w w' g none))
 case atStart => exact ⟨s0_1, HH, ⟨Nat.le_refl _⟩, HI0, HB, HK⟩
 case round =>
  clear HH HI0 HB HK; obtain ⟨x, HA, HK1, HI, HB, HK⟩ := hrel
  cases gk with
  | zero => exact absurd HA.out (by simp [impl_reader_name.l0])
  | succ k1 =>
   have H := HA.out; clear HA; simp only [impl_reader_name.l0, impl_length.f, Option.bind_some] at H; obtain ⟨hb, _⟩ := HI.out; have f0 := cellS97_0 hb; have f1 := cellS97_1 hb; have f2 := cellS97_2 hb; have z1 := Zkf hb 1; have z2 := Zkf hb 2; clear hb
   cases s0_2 with
   | true =>
    rw [if_pos rfl] at H; clear hlq; by_cases c9 : x = s0_1; rotate_left
    · rw [if_neg c9] at H; have c9b : (x == s0_1) = false := beq_eq_false_iff_ne.mpr c9; have HW := Zm (eta _ _ H); clear H; go_wp2; go_quiet (fail); go_wp2_with (first | ((with_reducible refine gate_callee (f := 89) rfl ?_); refine goesL_ (some 68) rfl rfl Tryd.func89 (by kernel_rfl) rfl #[.pointer (some ⟨g, 0, none⟩), .int .u8 59] rfl (by (try simp only [List.map_toArray, List.map_cons, List.map_nil]); first | done | rfl) ?_; (with_reducible refine (impl_reader_want.calls g s0_0 x true 59 r1 r2 r3 w0 _ ?side1 ?side2 HW.out).mono ?_); (case side1 => (with_reducible repeat (first | exact HI.out | apply IsS97.drewN | apply IsS97.drew | apply IsS97.set_1 | apply IsS97.set_2))); (case side2 => (with_reducible repeat (first | exact HB.out | apply Zbn | apply Zbd | refine Zbs ?_ hg))); rintro e w5 ⟨rfl, hi, hb, hk⟩; refine ⟨_, rfl, ?_⟩; have HI2 := Zm hi; have HB2 := Zm hb; have HK2 := Zm (KeepBut.trans (by (with_reducible repeat (first | exact HK.out | apply KeepBut.set_ | apply keep_drewN | apply keep_drew))) hk (.inl rfl)); clear hi hb hk))
      first | go_end0 | ((try simp only [Exit.inBlock, Exit.then]); refine bodyPost_ret (results_none rfl _ _ _) rfl ?_)
      exact ⟨rfl, HI2.out, HB2.out, HK2.out⟩
    rw [if_pos c9] at H; have c9b : (x == s0_1) = true := beq_iff_eq.mpr c9; have HW := Zm (eta _ _ H); clear H c9; go_wp2; go_quiet (fail); go_wp2_with (first | ((with_reducible refine gate_callee (f := 89) rfl ?_); refine goesL_ (some 68) rfl rfl Tryd.func89 (by kernel_rfl) rfl #[.pointer (some ⟨g, 0, none⟩), .int .u8 59] rfl (by (try simp only [List.map_toArray, List.map_cons, List.map_nil]); first | done | rfl) ?_; (with_reducible refine (impl_reader_want.calls g s0_0 x true 59 r1 r2 r3 w0 _ ?side1 ?side2 HW.out).mono ?_); (case side1 => (with_reducible repeat (first | exact HI.out | apply IsS97.drewN | apply IsS97.drew | apply IsS97.set_1 | apply IsS97.set_2))); (case side2 => (with_reducible repeat (first | exact HB.out | apply Zbn | apply Zbd | refine Zbs ?_ hg))); rintro e w5 ⟨rfl, hi, hb, hk⟩; refine ⟨_, rfl, ?_⟩; have HI2 := Zm hi; have HB2 := Zm hb; have HK2 := Zm (KeepBut.trans (by (with_reducible repeat (first | exact HK.out | apply KeepBut.set_ | apply keep_drewN | apply keep_drew))) hk (.inl rfl)); clear hi hb hk))
    first | go_end0 | ((try simp only [Exit.inBlock, Exit.then]); refine bodyPost_ret (results_none rfl _ _ _) rfl ?_)
    exact ⟨rfl, HI2.out, HB2.out, HK2.out⟩
   | false =>
    rw [if_neg (by simp)] at H; by_cases c1 : x < (s0_0.size : Int); rotate_left
    · rw [if_neg c1] at H; have c1b : decide (x < (s0_0.size : Int)) = false := decide_eq_false c1; clear c1; by_cases c9 : x = s0_1; rotate_left
      · rw [if_neg c9] at H; have c9b : (x == s0_1) = false := beq_eq_false_iff_ne.mpr c9; have HW := Zm (eta _ _ H); clear H; go_wp2; go_quiet ((go_at_call 73; exact hlq _ _)); go_wp2_with (first | ((with_reducible refine gate_callee (f := 89) rfl ?_); refine goesL_ (some 68) rfl rfl Tryd.func89 (by kernel_rfl) rfl #[.pointer (some ⟨g, 0, none⟩), .int .u8 59] rfl (by (try simp only [List.map_toArray, List.map_cons, List.map_nil]); first | done | rfl) ?_; (with_reducible refine (impl_reader_want.calls g s0_0 x false 59 r1 r2 r3 w0 _ ?side1 ?side2 HW.out).mono ?_); (case side1 => (with_reducible repeat (first | exact HI.out | apply IsS97.drewN | apply IsS97.drew | apply IsS97.set_1 | apply IsS97.set_2))); (case side2 => (with_reducible repeat (first | exact HB.out | apply Zbn | apply Zbd | refine Zbs ?_ hg))); rintro e w5 ⟨rfl, hi, hb, hk⟩; refine ⟨_, rfl, ?_⟩; have HI2 := Zm hi; have HB2 := Zm hb; have HK2 := Zm (KeepBut.trans (by (with_reducible repeat (first | exact HK.out | apply KeepBut.set_ | apply keep_drewN | apply keep_drew))) hk (.inl rfl)); clear hi hb hk))
        first | go_end0 | ((try simp only [Exit.inBlock, Exit.then]); refine bodyPost_ret (results_none rfl _ _ _) rfl ?_)
        exact ⟨rfl, HI2.out, HB2.out, HK2.out⟩

      rw [if_pos c9] at H
      have c9b : (x == s0_1) = true := beq_iff_eq.mpr c9
      have HW := Zm (eta _ _ H)
      clear H c9
      go_wp2
      go_quiet ((go_at_call 73; exact hlq _ _))
      go_wp2_with (first | ((with_reducible refine gate_callee (f := 89) rfl ?_); refine goesL_ (some 68) rfl rfl Tryd.func89 (by kernel_rfl) rfl #[.pointer (some ⟨g, 0, none⟩), .int .u8 59] rfl (by (try simp only [List.map_toArray, List.map_cons, List.map_nil]); first | done | rfl) ?_; (with_reducible refine (impl_reader_want.calls g s0_0 x true 59 r1 r2 r3 w0 _ ?side1 ?side2 HW.out).mono ?_); (case side1 => (with_reducible repeat (first | exact HI.out | apply IsS97.drewN | apply IsS97.drew | apply IsS97.set_1 | apply IsS97.set_2))); (case side2 => (with_reducible repeat (first | exact HB.out | apply Zbn | apply Zbd | refine Zbs ?_ hg))); rintro e w5 ⟨rfl, hi, hb, hk⟩; refine ⟨_, rfl, ?_⟩; have HI2 := Zm hi; have HB2 := Zm hb; have HK2 := Zm (KeepBut.trans (by (with_reducible repeat (first | exact HK.out | apply KeepBut.set_ | apply keep_drewN | apply keep_drew))) hk (.inl rfl)); clear hi hb hk))
      first | go_end0 | ((try simp only [Exit.inBlock, Exit.then]); refine bodyPost_ret (results_none rfl _ _ _) rfl ?_)
      exact ⟨rfl, HI2.out, HB2.out, HK2.out⟩
    rw [if_pos c1] at H
    have c1b : decide (x < (s0_0.size : Int)) = true := decide_eq_true c1
    by_cases c2 : x < wrap64 (s0_1 + 20)
    rotate_left
    · rw [if_neg c2] at H
      have c2b : decide (x < wrap64 (s0_1 + 20)) = false := decide_eq_false c2
      have c2c : decide (x < IntKind.i64.wrap (s0_1 + 20)) = false := by rw [i64_w]; exact c2b
      clear c1 c2
      by_cases c9 : x = s0_1
      rotate_left
      · rw [if_neg c9] at H
        have c9b : (x == s0_1) = false := beq_eq_false_iff_ne.mpr c9
        have HW := Zm (eta _ _ H)
        clear H
        go_wp2
        go_quiet ((go_at_call 73; exact hlq _ _))
        go_wp2_with (first | ((with_reducible refine gate_callee (f := 89) rfl ?_); refine goesL_ (some 68) rfl rfl Tryd.func89 (by kernel_rfl) rfl #[.pointer (some ⟨g, 0, none⟩), .int .u8 59] rfl (by (try simp only [List.map_toArray, List.map_cons, List.map_nil]); first | done | rfl) ?_; (with_reducible refine (impl_reader_want.calls g s0_0 x false 59 r1 r2 r3 w0 _ ?side1 ?side2 HW.out).mono ?_); (case side1 => (with_reducible repeat (first | exact HI.out | apply IsS97.drewN | apply IsS97.drew | apply IsS97.set_1 | apply IsS97.set_2))); (case side2 => (with_reducible repeat (first | exact HB.out | apply Zbn | apply Zbd | refine Zbs ?_ hg))); rintro e w5 ⟨rfl, hi, hb, hk⟩; refine ⟨_, rfl, ?_⟩; have HI2 := Zm hi; have HB2 := Zm hb; have HK2 := Zm (KeepBut.trans (by (with_reducible repeat (first | exact HK.out | apply KeepBut.set_ | apply keep_drewN | apply keep_drew))) hk (.inl rfl)); clear hi hb hk))
        first | go_end0 | ((try simp only [Exit.inBlock, Exit.then]); refine bodyPost_ret (results_none rfl _ _ _) rfl ?_)
        exact ⟨rfl, HI2.out, HB2.out, HK2.out⟩
      rw [if_pos c9] at H
      have c9b : (x == s0_1) = true := beq_iff_eq.mpr c9
      have HW := Zm (eta _ _ H)
      clear H c9
      go_wp2
      go_quiet ((go_at_call 73; exact hlq _ _))
      go_wp2_with (first | ((with_reducible refine gate_callee (f := 89) rfl ?_); refine goesL_ (some 68) rfl rfl Tryd.func89 (by kernel_rfl) rfl #[.pointer (some ⟨g, 0, none⟩), .int .u8 59] rfl (by (try simp only [List.map_toArray, List.map_cons, List.map_nil]); first | done | rfl) ?_; (with_reducible refine (impl_reader_want.calls g s0_0 x true 59 r1 r2 r3 w0 _ ?side1 ?side2 HW.out).mono ?_); (case side1 => (with_reducible repeat (first | exact HI.out | apply IsS97.drewN | apply IsS97.drew | apply IsS97.set_1 | apply IsS97.set_2))); (case side2 => (with_reducible repeat (first | exact HB.out | apply Zbn | apply Zbd | refine Zbs ?_ hg))); rintro e w5 ⟨rfl, hi, hb, hk⟩; refine ⟨_, rfl, ?_⟩; have HI2 := Zm hi; have HB2 := Zm hb; have HK2 := Zm (KeepBut.trans (by (with_reducible repeat (first | exact HK.out | apply KeepBut.set_ | apply keep_drewN | apply keep_drew))) hk (.inl rfl)); clear hi hb hk))
      first | go_end0 | ((try simp only [Exit.inBlock, Exit.then]); refine bodyPost_ret (results_none rfl _ _ _) rfl ?_)
      exact ⟨rfl, HI2.out, HB2.out, HK2.out⟩
    rw [if_pos c2] at H
    have c2b : decide (x < wrap64 (s0_1 + 20)) = true := decide_eq_true c2
    have c2c : decide (x < IntKind.i64.wrap (s0_1 + 20)) = true := by rw [i64_w]; exact c2b
    by_cases c3 : 0 ≤ x
    rotate_left
    · rw [if_neg c3] at H
      exact absurd H (by simp)
    rw [if_pos c3, if_pos c1] at H
    have c3b : decide (0 ≤ x) = true := decide_eq_true c3
    obtain ⟨t, ht, H⟩ := Option.bind_eq_some_iff.mp H
    have hbt := bt_at s0_0 x
    have hnq : ∀ (W : World) (n : Nat), Calls Tryd.prog 72 #[.int .u8 (bt s0_0 x), .int .i64 (wrap64 (x - s0_1))] (W.drewN n) fun e w'' => e = .returned (.bool t) ∧ ∃ m, w'' = W.drewN m := fun W n => by
     exact Calls.quiet_of ((impl_isNameByte.calls (bt s0_0 x) (wrap64 (x - s0_1)) t (W.drewN n) ht).mono fun e W' ⟨he, ⟨m, hm⟩⟩ => ⟨he, m, hm⟩)
    clear ht c2
    cases t with
    | true =>
     rw [if_pos rfl] at H; have H' := Zm H; clear H; go_wp2; go_quiet (first | (go_at_call 73; exact hlq _ _) | (go_at_call 72; with_reducible exact hnq _ _)); go_wp2; go_roundg k1
     case measure => have := HK1.out; omega
     case rel => exact ⟨wrap64 (x + 1), H', ⟨by have := HK1.out; omega⟩, ⟨by (with_reducible repeat (first | exact HI.out | apply IsS97.drewN | apply IsS97.drew | apply IsS97.set_1 | apply IsS97.set_2))⟩, ⟨by (with_reducible repeat (first | exact HB.out | apply Zbn | apply Zbd | refine Zbs ?_ hg))⟩, ⟨by (with_reducible repeat (first | exact HK.out | apply KeepBut.set_ | apply keep_drewN | apply keep_drew))⟩⟩
    | false =>
     rw [if_neg (by simp)] at H; by_cases c9 : x = s0_1; rotate_left
     · rw [if_neg c9] at H; have c9b : (x == s0_1) = false := beq_eq_false_iff_ne.mpr c9; have HW := Zm (eta _ _ H); clear H; go_wp2; go_quiet (first | (go_at_call 73; exact hlq _ _) | (go_at_call 72; with_reducible exact hnq _ _)); go_wp2_with (first | ((with_reducible refine gate_callee (f := 89) rfl ?_); refine goesL_ (some 68) rfl rfl Tryd.func89 (by kernel_rfl) rfl #[.pointer (some ⟨g, 0, none⟩), .int .u8 59] rfl (by (try simp only [List.map_toArray, List.map_cons, List.map_nil]); first | done | rfl) ?_; (with_reducible refine (impl_reader_want.calls g s0_0 x false 59 r1 r2 r3 w0 _ ?side1 ?side2 HW.out).mono ?_); (case side1 => (with_reducible repeat (first | exact HI.out | apply IsS97.drewN | apply IsS97.drew | apply IsS97.set_1 | apply IsS97.set_2))); (case side2 => (with_reducible repeat (first | exact HB.out | apply Zbn | apply Zbd | refine Zbs ?_ hg))); rintro e w5 ⟨rfl, hi, hb, hk⟩; refine ⟨_, rfl, ?_⟩; have HI2 := Zm hi; have HB2 := Zm hb; have HK2 := Zm (KeepBut.trans (by (with_reducible repeat (first | exact HK.out | apply KeepBut.set_ | apply keep_drewN | apply keep_drew))) hk (.inl rfl)); clear hi hb hk))
       first | go_end0 | ((try simp only [Exit.inBlock, Exit.then]); refine bodyPost_ret (results_none rfl _ _ _) rfl ?_)
       exact ⟨rfl, HI2.out, HB2.out, HK2.out⟩
     rw [if_pos c9] at H; have c9b : (x == s0_1) = true := beq_iff_eq.mpr c9; have HW := Zm (eta _ _ H); clear H c9; go_wp2; go_quiet (first | (go_at_call 73; exact hlq _ _) | (go_at_call 72; with_reducible exact hnq _ _)); go_wp2_with (first | ((with_reducible refine gate_callee (f := 89) rfl ?_); refine goesL_ (some 68) rfl rfl Tryd.func89 (by kernel_rfl) rfl #[.pointer (some ⟨g, 0, none⟩), .int .u8 59] rfl (by (try simp only [List.map_toArray, List.map_cons, List.map_nil]); first | done | rfl) ?_; (with_reducible refine (impl_reader_want.calls g s0_0 x true 59 r1 r2 r3 w0 _ ?side1 ?side2 HW.out).mono ?_); (case side1 => (with_reducible repeat (first | exact HI.out | apply IsS97.drewN | apply IsS97.drew | apply IsS97.set_1 | apply IsS97.set_2))); (case side2 => (with_reducible repeat (first | exact HB.out | apply Zbn | apply Zbd | refine Zbs ?_ hg))); rintro e w5 ⟨rfl, hi, hb, hk⟩; refine ⟨_, rfl, ?_⟩; have HI2 := Zm hi; have HB2 := Zm hb; have HK2 := Zm (KeepBut.trans (by (with_reducible repeat (first | exact HK.out | apply KeepBut.set_ | apply keep_drewN | apply keep_drew))) hk (.inl rfl)); clear hi hb hk))
     first | go_end0 | ((try simp only [Exit.inBlock, Exit.then]); refine bodyPost_ret (results_none rfl _ _ _) rfl ?_)
     exact ⟨rfl, HI2.out, HB2.out, HK2.out⟩
end Go.Proofs.YtdfnljchoomliaaDoor.PFnExactInsParse
