/- Functions of the program as plain Lean functions, each with a proof that the program's call comes to the same; no condition. Written by a program of this session. -/
import Derived.Test.YtlflbmbcjjegaaaPFnExactClassRightx0
import Derived.Test.YtlflbmbcjjegaaaPFnExactClassRightx12
import Derived.Test.YtlflbmbcjjegaaaPFnExactClassRightx13
import Derived.Test.YtlflbmbcjjegaaaPFnExactClassRightx14
namespace Go.Proofs.Ytlflbmbcjjegaaa.PFnExactClassRight
open Go.RowKit Go.Proofs.YtlflbmbcjjegaaaW.PrintWords Go.Proofs.YtlflbmbcjjegaaaW.PrintLast Go.Proofs.YtlflbmbcjjegaaaW.PrintMore
open Go.Proofs.YtlflbmbcjjegaaaW.PrintWords renaming below_size → Zbz, below_step → Zbt, blk_frozen → Zkf, blk_below → Zkb
open Go.Proofs.YtlflbmbcjjegaaaW.PrintWords.Aside0 renaming mk → Zm
attribute [local go_sem] max2_int min2_int max_two min_two max_three min_three max_four min_four   -- for this text's walks alone
set_option linter.unusedVariables false
set_option linter.unusedSimpArgs false

/-! ### impl_isText: function 150 -/
def impl_isText.l0 : Nat → List ByteArray → Int → Int → Option (Bool)
 | 0, _, _, _ => none
 | k + 1, x5, x6, x7 => if x7 < x6 then (if 0 ≤ x7 then (if x7 < (x5.length : Int) then (if ((rdOf ByteArray.empty x5 x7).size : Int) > 20000 then (some false) else (impl_isText.l0 k x5 x6 (wrap64 (x7 + 1)))) else (none)) else (none)) else (some true)
def impl_isText.f (k : Nat) (l0 : List ByteArray) : Option (Bool) := impl_isText.l0 k l0 (l0.length : Int) 0
theorem impl_isText.mono_l : ∀ k, (∀ y0 y1 y2, LeO (impl_isText.l0 k y0 y1 y2) (impl_isText.l0 (k + 1) y0 y1 y2))
 | 0 => fun _ _ _ r h => by simp [impl_isText.l0] at h
 | k + 1 => by
  have ih0 := impl_isText.mono_l k
  · intro y0 y1 y2; unfold impl_isText.l0
    repeat' first
    | (with_reducible exact ih0 _ _ _)
    | (with_reducible exact LeO.refl _)
    | (with_reducible exact LeO.none _)
    | (with_reducible refine LeO.ite ?_ ?_)
    | (with_reducible refine LeO.bind ?_ (fun _ => ?_))
    | exact ih0 _ _ _
    | exact LeO.none _
    | refine LeO.ite ?_ ?_
    | refine LeO.bind ?_ (fun _ => ?_)
theorem impl_isText.mono : ∀ a0 k, LeO (impl_isText.f k a0) (impl_isText.f (k + 1) a0) := by
 intro a0 k; have ih0 := impl_isText.mono_l k; unfold impl_isText.f
 repeat' first
  | (with_reducible exact ih0 _ _ _)
  | (with_reducible exact LeO.refl _)
  | (with_reducible exact LeO.none _)
  | (with_reducible refine LeO.ite ?_ ?_)
  | (with_reducible refine LeO.bind ?_ (fun _ => ?_))
  | exact ih0 _ _ _
  | exact LeO.none _
  | refine LeO.ite ?_ ?_
  | refine LeO.bind ?_ (fun _ => ?_)
set_option maxHeartbeats 8000000 in
set_option maxRecDepth 100000 in
theorem impl_isText.calls (k : Nat) (A0 : Option Addr) (c0 : Nat) (l0 : List ByteArray) (r : Bool) (w : World) (hr0 : Kd.C Kd.string w A0 l0.length l0) (hc0 : l0.length ≤ c0) (h : impl_isText.f k l0 = some r) :
 Calls Try.prog 150 #[.slice A0 l0.length c0] w fun e w' => e = .returned (.bool r) ∧ Drawn0 w w' := by
 have HR0 := Zm hr0; have HC0 := Zm hc0; clear hr0 hc0; have H : (impl_isText.l0 k l0 (l0.length : Int) 0) = some r := h; clear h; have H' := Zm H; clear H; go_enter Try.func150, Try.ntmps150; go_wp2; go_loopg [7] k (fun kq v7 w' => ∃ (x7_1 : Int), v7 = .int .i64 x7_1 ∧ Aside0 (impl_isText.l0 kq l0 (l0.length : Int) x7_1 = some r) ∧ Aside0 (kq ≤ k) ∧ Drawn0 w w')
 case atStart => exact ⟨(0), (by first | rfl | (simp; done) | (simp [*]; done)), H', ⟨Nat.le_refl _⟩, by repeat (first | exact Drawn0.refl _ | apply Drawn0.step)⟩
 case round =>
  clear H'; obtain ⟨x7_1, rfl, HA, HK1, ⟨m1, rfl⟩⟩ := hrel
  cases gk with
  | zero => exact absurd HA.out (by simp [impl_isText.l0])
  | succ k1 =>
   have H := HA.out; clear HA; simp only [impl_isText.l0] at H; by_cases c2 : x7_1 < (l0.length : Int); rotate_left
   · rw [if_neg c2] at H; have c2b0 := decide_eq_false c2; clear c2; obtain rfl := Option.some.inj H; go_wp2; go_ret; exact ⟨by first | rfl | (simp; done) | (simp [*]; done), by repeat (first | exact Drawn0.refl _ | apply Drawn0.step)⟩

   rw [if_pos c2] at H
   have c2b0 := decide_eq_true c2
   clear c2
   by_cases c3 : 0 ≤ x7_1
   rotate_left
   · rw [if_neg c3] at H
     exact absurd H (by simp)
   rw [if_pos c3] at H
   have c3b0 := decide_eq_true c3
   clear c3
   by_cases c4 : x7_1 < (l0.length : Int)
   rotate_left
   · rw [if_neg c4] at H
     exact absurd H (by simp)
   rw [if_pos c4] at H
   have c4b0 := decide_eq_true c4
   clear c4
   by_cases c5 : ((rdOf ByteArray.empty l0 x7_1).size : Int) > 20000
   rotate_left
   · rw [if_neg c5] at H
     have c5b0 : decide (20000 < ((rdOf ByteArray.empty l0 x7_1).size : Int)) = false := decide_eq_false c5
     have c5b1 : decide (20000 < (rdOf ByteArray.empty l0 x7_1).size) = false := decide_eq_false (by omega)
     clear c5
     have H' := Zm H
     clear H
     have p435 : 0 ≤ (x7_1 : Int) := of_decide_eq_true (by first | (with_reducible assumption) | assumption)
     have q435 : x7_1 < (l0.length : Int) := of_decide_eq_true (by first | (with_reducible assumption) | assumption)
     obtain ⟨ad435, e435, hx435_0⟩ := Kd.at_string HR0.out x7_1 p435 q435
     cases e435
     replace p435 := eq_true p435
     replace q435 := eq_true q435
     go_wp2
     go_roundg k1
     case measure => have := HK1.out; omega
     case rel => exact ⟨(wrap64 (x7_1 + 1)), (by first | rfl | (simp; done) | (simp [*]; done)), H', ⟨by have := HK1.out; omega⟩, by repeat (first | exact Drawn0.refl _ | apply Drawn0.step)⟩
   rw [if_pos c5] at H
   have c5b0 : decide (20000 < ((rdOf ByteArray.empty l0 x7_1).size : Int)) = true := decide_eq_true c5
   have c5b1 : decide (20000 < (rdOf ByteArray.empty l0 x7_1).size) = true := decide_eq_true (by omega)
   clear c5
   obtain rfl := Option.some.inj H
   have p435 : 0 ≤ (x7_1 : Int) := of_decide_eq_true (by first | (with_reducible assumption) | assumption)
   have q435 : x7_1 < (l0.length : Int) := of_decide_eq_true (by first | (with_reducible assumption) | assumption)
   obtain ⟨ad435, e435, hx435_0⟩ := Kd.at_string HR0.out x7_1 p435 q435
   cases e435
   replace p435 := eq_true p435
   replace q435 := eq_true q435
   go_wp2
   go_ret
   exact ⟨by first | rfl | (simp; done) | (simp [*]; done), by repeat (first | exact Drawn0.refl _ | apply Drawn0.step)⟩
/-! ### impl_isDesc: function 104 -/
def impl_isDesc.f (k : Nat) (a0 : ByteArray) : Option (Bool) := (impl_isText.f k (([a0] : List ByteArray))).bind fun t439 => (if t439 = true then ((impl_descRead.f k a0).bind fun bt440 => (some (bt440.2.2.2 == 0))) else (some false))
theorem impl_isDesc.mono : ∀ a0 k, LeO (impl_isDesc.f k a0) (impl_isDesc.f (k + 1) a0) := by
 intro a0 k; unfold impl_isDesc.f
 repeat' first
  | (with_reducible exact impl_descRead.mono _ _)
  | (with_reducible exact impl_isText.mono _ _)
  | (with_reducible exact LeO.refl _)
  | (with_reducible exact LeO.none _)
  | (with_reducible refine LeO.ite ?_ ?_)
  | (with_reducible refine LeO.bind ?_ (fun _ => ?_))
  | exact impl_descRead.mono _ _
  | exact impl_isText.mono _ _
  | exact LeO.none _
  | refine LeO.ite ?_ ?_
  | refine LeO.bind ?_ (fun _ => ?_)
set_option maxHeartbeats 8000000 in
set_option maxRecDepth 100000 in
theorem impl_isDesc.calls (k : Nat) (a0 : ByteArray) (r : Bool) (w : World) (h : impl_isDesc.f k a0 = some r) :
 Calls Try.prog 104 #[.string a0] w fun e w' => e = .returned (.bool r) ∧ Below w.heap.size w w' := by
 have hf151_2 : ∀ (a0_ a1_ a2_ a3_ : Value) (W_ : World), (Instr.field 151 (.agg #[a0_, a1_, a2_, a3_]) 2).run Try.prog W_ = .ok (a3_) W_ := fun _ _ _ _ _ => by rfl
 have HB := Zm (Below.refl w.heap.size w); have H : ((impl_isText.f k (([a0] : List ByteArray))).bind fun t439 => (if t439 = true then ((impl_descRead.f k a0).bind fun bt440 => (some (bt440.2.2.2 == 0))) else (some false))) = some r := h; clear h; obtain ⟨y436, hy436⟩ : ∃ y_ : List ByteArray, y_ = (([a0] : List ByteArray)) := ⟨_, rfl⟩; replace H : ((impl_isText.f k y436).bind fun t439 => (if t439 = true then ((impl_descRead.f k a0).bind fun bt440 => (some (bt440.2.2.2 == 0))) else (some false))) = some r := by first | (rw [hy436]; with_reducible exact H) | (have H2_ := (Option.bind_some _ _).symm.trans H; rw [hy436]; with_reducible exact H2_) | (have H2_ := (Option.bind_some _ _).symm.trans H; with_reducible exact H2_) | with_reducible exact H | (rw [hy436]; exact H) | exact H
 have Ny436 := Zm hy436; clear hy436; replace H := Option.bind_eq_some_iff.mp H; obtain ⟨t439, A20, H⟩ := H; (try dsimp only at H); have A2 := Zm A20; clear A20; by_cases c3 : t439 = true; rotate_left
 · replace c3 := Bool.eq_false_iff.mpr c3; subst c3; rw [if_neg (show ¬ (false = true) by decide)] at H; obtain rfl := Option.some.inj H; go_enter Try.func104, Try.ntmps104; go_wp2_with (first | ((with_reducible refine gate_dst (N := 4) rfl ?_); refine Kd.R_lit Kd.string _ 9 ?hg (N := 4) ?hd (xs := ([a0] : List ByteArray)) (inner := [.string a0]) (ok := fun _ => True) (okp := fun _ => True) ?hr ?hp (fun _ hk => hk) trivial (Below.refl _ _) (Nat.le_refl _) (by simp) ?_; (case hd => rfl); (case hg => rfl); (case hr => first | (go_simp; done) | (go_simp; rfl)); (case hp => exact (Reps.one (show Kd.M Kd.string _ _ _ a0 [.string a0] from rfl) (Reps.none _ _))); intro v437 w9 ho10 hb hg_ hnew_; clear hg_ hnew_; (first | rw [← Ny436.out] at ho10 | (simp only [Int.reduceToNat] at ho10; rw [← Ny436.out] at ho10)); have n0_ := (⟨Zm (Kd.R_lower ho10 (Zbz (bk HB.out))), Zm (Zbt (bk HB.out) hb)⟩ : _ ∧ _); clear HB; obtain ⟨HO438, HB⟩ := n0_; clear hb ho10; obtain ⟨Ao11, co11, eo11⟩ := Kd.R_slice HO438.out; subst eo11) | ((with_reducible refine gate_callee (f := 150) rfl ?_); refine ge_ (some 5) Try.func150 #[.slice Ao11 y436.length co11] ?_; (with_reducible refine (impl_isText.calls _ _ _ _ _ _ ?side1 ?side2 A2.out).mono ?_); (case side1 => exact pc (Kd.R_reads' HO438.out).2.2); (case side2 => exact (Kd.R_reads' HO438.out).2.1); rintro e w' ⟨rfl, ⟨nd, rfl⟩⟩; refine ⟨_, rfl, ?_⟩)); go_ret; exact fin_ HB

 subst c3
 rw [if_pos rfl] at H
 replace H := Option.bind_eq_some_iff.mp H
 obtain ⟨⟨t440, t443, t444, t445⟩, A40, H⟩ := H
 (try dsimp only at H)
 have A4 := Zm A40
 clear A40
 obtain rfl := Option.some.inj H
 go_enter Try.func104, Try.ntmps104
 go_wp2_with (first | ((with_reducible refine gate_dst (N := 4) rfl ?_); refine Kd.R_lit Kd.string _ 9 ?hg (N := 4) ?hd (xs := ([a0] : List ByteArray)) (inner := [.string a0]) (ok := fun _ => True) (okp := fun _ => True) ?hr ?hp (fun _ hk => hk) trivial (Below.refl _ _) (Nat.le_refl _) (by simp) ?_; (case hd => rfl); (case hg => rfl); (case hr => first | (go_simp; done) | (go_simp; rfl)); (case hp => exact (Reps.one (show Kd.M Kd.string _ _ _ a0 [.string a0] from rfl) (Reps.none _ _))); intro v437 w5 ho6 hb hg_ hnew_; clear hg_ hnew_; (first | rw [← Ny436.out] at ho6 | (simp only [Int.reduceToNat] at ho6; rw [← Ny436.out] at ho6)); have n0_ := (⟨Zm (Kd.R_lower ho6 (Zbz (bk HB.out))), Zm (Zbt (bk HB.out) hb)⟩ : _ ∧ _); clear HB; obtain ⟨HO438, HB⟩ := n0_; clear hb ho6; obtain ⟨Ao7, co7, eo7⟩ := Kd.R_slice HO438.out; subst eo7) | ((with_reducible refine gate_callee (f := 150) rfl ?_); refine ge_ (some 5) Try.func150 #[.slice Ao7 y436.length co7] ?_; (with_reducible refine (impl_isText.calls _ _ _ _ _ _ ?side1 ?side2 A2.out).mono ?_); (case side1 => exact pc (Kd.R_reads' HO438.out).2.2); (case side2 => exact (Kd.R_reads' HO438.out).2.1); rintro e w' ⟨rfl, ⟨nd, rfl⟩⟩; refine ⟨_, rfl, ?_⟩; (try clear HO438)) | (go_at_call 107; (first | (with_reducible refine (impl_descRead.calls _ _ _ _ _ _ _ A4.out).mono ?_) | (with_reducible refine (calls_of_args ?_ (impl_descRead.calls _ _ _ _ _ _ _ A4.out)).mono ?_; focus (simp [*]; done))); rintro e w8 ⟨v441, rfl, ho0, hb⟩; have n0_ := (⟨Zm (Kd.R_lower ho0 (Zbz (bk HB.out))), Zm (Zbt (bk HB.out) hb)⟩ : _ ∧ _); clear HB; obtain ⟨HO442, HB⟩ := n0_; (try clear hb); (try clear hb2); (try clear hk); (try clear hi); (try clear ho0)))
 go_ret
 exact fin_ HB
/-! ### impl_Ins: function 151 -/
def impl_Ins.f (l0 : List (S156)) : Option (Int) := some (l0.length : Int)
set_option maxHeartbeats 8000000 in
set_option maxRecDepth 100000 in
theorem impl_Ins.calls (A0 : Option Addr) (c0 : Nat) (l0 : List (S156)) (r : Int) (w : World) (hr0 : Kd.C k156 w A0 l0.length l0) (hc0 : l0.length ≤ c0) (h : impl_Ins.f l0 = some r) :
 Calls Try.prog 151 #[.slice A0 l0.length c0] w fun e w' => e = .returned (.int .i64 r) ∧ Drawn0 w w' := by
 have HR0 := Zm hr0; have HC0 := Zm hc0; clear hr0 hc0; have H : (some (l0.length : Int)) = some r := h; clear h; obtain rfl := Option.some.inj H; go_enter Try.func151, Try.ntmps151; go_wp2; go_ret; exact ⟨by first | rfl | (simp; done) | (simp [*]; done), by repeat (first | exact Drawn0.refl _ | apply Drawn0.step)⟩

/-! ### impl_typeRight: function 112 -/
def impl_typeRight.f (k : Nat) (a0 : ByteArray) : Option (Bool) := (impl_reader_kind.f k a0 0 false).bind fun bt447 => (if bt447.2.2.2 = true then (some false) else ((impl_length.f a0).bind fun t451 => (some (bt447.2.2.1 == t451))))
theorem impl_typeRight.mono : ∀ a0 k, LeO (impl_typeRight.f k a0) (impl_typeRight.f (k + 1) a0) := by
 intro a0 k; unfold impl_typeRight.f
 repeat' first
  | (with_reducible exact impl_reader_kind.mono _ _ _ _)
  | (with_reducible exact LeO.refl _)
  | (with_reducible exact LeO.none _)
  | (with_reducible refine LeO.ite ?_ ?_)
  | (with_reducible refine LeO.bind ?_ (fun _ => ?_))
  | exact impl_reader_kind.mono _ _ _ _
  | exact LeO.none _
  | refine LeO.ite ?_ ?_
  | refine LeO.bind ?_ (fun _ => ?_)
set_option maxHeartbeats 8000000 in
set_option maxRecDepth 100000 in
theorem impl_typeRight.calls (k : Nat) (a0 : ByteArray) (r : Bool) (w : World) (h : impl_typeRight.f k a0 = some r) :
 Calls Try.prog 112 #[.string a0] w fun e w' => e = .returned (.bool r) ∧ Below w.heap.size w w' := by
 have hu216 := Try.underlying216; have HB := Zm (Below.refl w.heap.size w); have H : ((impl_reader_kind.f k a0 0 false).bind fun bt447 => (if bt447.2.2.2 = true then (some false) else ((impl_length.f a0).bind fun t451 => (some (bt447.2.2.1 == t451))))) = some r := h; clear h; replace H := Option.bind_eq_some_iff.mp H; obtain ⟨⟨t447, t448, t449, t450⟩, A20, H⟩ := H; (try dsimp only at H); have A2 := Zm A20; clear A20; by_cases c3 : t450 = true; rotate_left
 · replace c3 := Bool.eq_false_iff.mpr c3; subst c3; rw [if_neg (show ¬ (false = true) by decide)] at H; replace H := Option.bind_eq_some_iff.mp H; obtain ⟨t451, A70, H⟩ := H; (try dsimp only at H); have A7 := Zm A70; clear A70; obtain rfl := Option.some.inj H; go_enter Try.func112, Try.ntmps112; go_wp2_with (first | ((with_reducible refine gate_dst (N := 6) rfl ?_); refine box_event ?hg (N := 6) ?hd (cs := #[.string a0, .int .i64 0, .bool false]) (t := 216) ?hr ?_; (case hd => rfl); (case hg => rfl); (case hr => first | (go_simp; done) | (go_simp; rfl)); intro gb446 hg w8 hbox hb; have n0_ := (⟨Zm (Zbt (bk HB.out) hb), Zm ((by rw [hg]; exact (Zbz (bk HB.out)) : w.heap.size ≤ gb446)), Zm ((by rw [hg]; exact (Zbz (bk HB.out)) : w.heap.size ≤ gb446)), Zm ((show IsS216 w w8 gb446 a0 0 false from ⟨hbox, (by rw [hg]; exact (Zbz (bk HB.out)) : w.heap.size ≤ gb446)⟩))⟩ : _ ∧ _ ∧ _ ∧ _); clear HB; obtain ⟨HB, GW446, GE446, HI446⟩ := n0_; clear hb hbox hg) | (go_at_call 159; (first | (with_reducible refine (impl_reader_kind.calls _ gb446 _ _ _ _ _ _ _ w _ ?side1 ?side2 A2.out).mono ?_) | (with_reducible refine (calls_of_args ?_ (impl_reader_kind.calls _ gb446 _ _ _ _ _ _ _ w _ ?side1 ?side2 A2.out)).mono ?_; focus (simp [*]; done))); (case side1 => repeat (first | (with_reducible first | exact HI446.out | apply IsS216.alloc | apply IsS216.drewN | apply IsS216.drew | apply IsS216.set_0 | apply IsS216.set_1 | apply IsS216.set_2) | exact HI446.out)); (case side2 => exact bk HB.out); rintro e w9 ⟨rfl, hi, hb, hk⟩; have n0_ := (⟨Zm (hb), Zm (hi)⟩ : _ ∧ _); clear HB HI446; obtain ⟨HB, HI446⟩ := n0_; (try clear hb); (try clear hb2); (try clear hk); (try clear hi); obtain ⟨HGz10, hgz10⟩ := HI446.out; have hcz10_0 := cellS216_0 HGz10; have hcz10_1 := cellS216_1 HGz10; have hcz10_2 := cellS216_2 HGz10; have hfz10_0 := Zkf HGz10 0; have hfz10_1 := Zkf HGz10 1; have hfz10_2 := Zkf HGz10 2; clear HGz10 hgz10) | (go_at_call 160; (first | (with_reducible refine (impl_length.calls _ _ _ A7.out).mono ?_) | (with_reducible refine (calls_of_args ?_ (impl_length.calls _ _ _ A7.out)).mono ?_; focus (simp [*]; done))); rintro e w' ⟨rfl, ⟨nd, rfl⟩⟩; (try first | exact ⟨rfl, _, World.drewN_drewN _ _ _⟩ | exact ⟨rfl, _, Eq.trans (World.drewN_drewN _ _ _) (congrArg (World.drewN _) (Nat.add_assoc _ _ _))⟩)))
   repeat (go_quiet (first | ((with_reducible refine gate_dst (N := 6) rfl ?_); refine box_event ?hg (N := 6) ?hd (cs := #[.string a0, .int .i64 0, .bool false]) (t := 216) ?hr ?_; (case hd => rfl); (case hg => rfl); (case hr => first | (go_simp; done) | (go_simp; rfl)); intro gb446 hg w8 hbox hb; have n0_ := (⟨Zm (Zbt (bk HB.out) hb), Zm ((by rw [hg]; exact (Zbz (bk HB.out)) : w.heap.size ≤ gb446)), Zm ((by rw [hg]; exact (Zbz (bk HB.out)) : w.heap.size ≤ gb446)), Zm ((show IsS216 w w8 gb446 a0 0 false from ⟨hbox, (by rw [hg]; exact (Zbz (bk HB.out)) : w.heap.size ≤ gb446)⟩))⟩ : _ ∧ _ ∧ _ ∧ _); clear HB; obtain ⟨HB, GW446, GE446, HI446⟩ := n0_; clear hb hbox hg) | (go_at_call 159; (first | (with_reducible refine (impl_reader_kind.calls _ gb446 _ _ _ _ _ _ _ w _ ?side1 ?side2 A2.out).mono ?_) | (with_reducible refine (calls_of_args ?_ (impl_reader_kind.calls _ gb446 _ _ _ _ _ _ _ w _ ?side1 ?side2 A2.out)).mono ?_; focus (simp [*]; done))); (case side1 => repeat (first | (with_reducible first | exact HI446.out | apply IsS216.alloc | apply IsS216.drewN | apply IsS216.drew | apply IsS216.set_0 | apply IsS216.set_1 | apply IsS216.set_2) | exact HI446.out)); (case side2 => exact bk HB.out); rintro e w9 ⟨rfl, hi, hb, hk⟩; have n0_ := (⟨Zm (hb), Zm (hi)⟩ : _ ∧ _); clear HB HI446; obtain ⟨HB, HI446⟩ := n0_; (try clear hb); (try clear hb2); (try clear hk); (try clear hi); obtain ⟨HGz10, hgz10⟩ := HI446.out; have hcz10_0 := cellS216_0 HGz10; have hcz10_1 := cellS216_1 HGz10; have hcz10_2 := cellS216_2 HGz10; have hfz10_0 := Zkf HGz10 0; have hfz10_1 := Zkf HGz10 1; have hfz10_2 := Zkf HGz10 2; clear HGz10 hgz10) | (go_at_call 160; (first | (with_reducible refine (impl_length.calls _ _ _ A7.out).mono ?_) | (with_reducible refine (calls_of_args ?_ (impl_length.calls _ _ _ A7.out)).mono ?_; focus (simp [*]; done))); rintro e w' ⟨rfl, ⟨nd, rfl⟩⟩; (try first | exact ⟨rfl, _, World.drewN_drewN _ _ _⟩ | exact ⟨rfl, _, Eq.trans (World.drewN_drewN _ _ _) (congrArg (World.drewN _) (Nat.add_assoc _ _ _))⟩))); try go_wp2)
   go_ret; exact fin_ HB

 subst c3
 rw [if_pos rfl] at H
 obtain rfl := Option.some.inj H
 go_enter Try.func112, Try.ntmps112
 go_wp2_with (first | ((with_reducible refine gate_dst (N := 6) rfl ?_); refine box_event ?hg (N := 6) ?hd (cs := #[.string a0, .int .i64 0, .bool false]) (t := 216) ?hr ?_; (case hd => rfl); (case hg => rfl); (case hr => first | (go_simp; done) | (go_simp; rfl)); intro gb446 hg w4 hbox hb; have n0_ := (⟨Zm (Zbt (bk HB.out) hb), Zm ((by rw [hg]; exact (Zbz (bk HB.out)) : w.heap.size ≤ gb446)), Zm ((by rw [hg]; exact (Zbz (bk HB.out)) : w.heap.size ≤ gb446)), Zm ((show IsS216 w w4 gb446 a0 0 false from ⟨hbox, (by rw [hg]; exact (Zbz (bk HB.out)) : w.heap.size ≤ gb446)⟩))⟩ : _ ∧ _ ∧ _ ∧ _); clear HB; obtain ⟨HB, GW446, GE446, HI446⟩ := n0_; clear hb hbox hg) | (go_at_call 159; (first | (with_reducible refine (impl_reader_kind.calls _ gb446 _ _ _ _ _ _ _ w _ ?side1 ?side2 A2.out).mono ?_) | (with_reducible refine (calls_of_args ?_ (impl_reader_kind.calls _ gb446 _ _ _ _ _ _ _ w _ ?side1 ?side2 A2.out)).mono ?_; focus (simp [*]; done))); (case side1 => repeat (first | (with_reducible first | exact HI446.out | apply IsS216.alloc | apply IsS216.drewN | apply IsS216.drew | apply IsS216.set_0 | apply IsS216.set_1 | apply IsS216.set_2) | exact HI446.out)); (case side2 => exact bk HB.out); rintro e w5 ⟨rfl, hi, hb, hk⟩; have n0_ := (⟨Zm (hb), Zm (hi)⟩ : _ ∧ _); clear HB HI446; obtain ⟨HB, HI446⟩ := n0_; (try clear hb); (try clear hb2); (try clear hk); (try clear hi); obtain ⟨HGz6, hgz6⟩ := HI446.out; have hcz6_0 := cellS216_0 HGz6; have hcz6_1 := cellS216_1 HGz6; have hcz6_2 := cellS216_2 HGz6; have hfz6_0 := Zkf HGz6 0; have hfz6_1 := Zkf HGz6 1; have hfz6_2 := Zkf HGz6 2; clear HGz6 hgz6))
 repeat (go_quiet (first | ((with_reducible refine gate_dst (N := 6) rfl ?_); refine box_event ?hg (N := 6) ?hd (cs := #[.string a0, .int .i64 0, .bool false]) (t := 216) ?hr ?_; (case hd => rfl); (case hg => rfl); (case hr => first | (go_simp; done) | (go_simp; rfl)); intro gb446 hg w4 hbox hb; have n0_ := (⟨Zm (Zbt (bk HB.out) hb), Zm ((by rw [hg]; exact (Zbz (bk HB.out)) : w.heap.size ≤ gb446)), Zm ((by rw [hg]; exact (Zbz (bk HB.out)) : w.heap.size ≤ gb446)), Zm ((show IsS216 w w4 gb446 a0 0 false from ⟨hbox, (by rw [hg]; exact (Zbz (bk HB.out)) : w.heap.size ≤ gb446)⟩))⟩ : _ ∧ _ ∧ _ ∧ _); clear HB; obtain ⟨HB, GW446, GE446, HI446⟩ := n0_; clear hb hbox hg) | (go_at_call 159; (first | (with_reducible refine (impl_reader_kind.calls _ gb446 _ _ _ _ _ _ _ w _ ?side1 ?side2 A2.out).mono ?_) | (with_reducible refine (calls_of_args ?_ (impl_reader_kind.calls _ gb446 _ _ _ _ _ _ _ w _ ?side1 ?side2 A2.out)).mono ?_; focus (simp [*]; done))); (case side1 => repeat (first | (with_reducible first | exact HI446.out | apply IsS216.alloc | apply IsS216.drewN | apply IsS216.drew | apply IsS216.set_0 | apply IsS216.set_1 | apply IsS216.set_2) | exact HI446.out)); (case side2 => exact bk HB.out); rintro e w5 ⟨rfl, hi, hb, hk⟩; have n0_ := (⟨Zm (hb), Zm (hi)⟩ : _ ∧ _); clear HB HI446; obtain ⟨HB, HI446⟩ := n0_; (try clear hb); (try clear hb2); (try clear hk); (try clear hi); obtain ⟨HGz6, hgz6⟩ := HI446.out; have hcz6_0 := cellS216_0 HGz6; have hcz6_1 := cellS216_1 HGz6; have hcz6_2 := cellS216_2 HGz6; have hfz6_0 := Zkf HGz6 0; have hfz6_1 := Zkf HGz6 1; have hfz6_2 := Zkf HGz6 2; clear HGz6 hgz6)); try go_wp2)
 go_ret
 exact fin_ HB
/-! ### impl_isOp: function 184 -/
def impl_isOp.f (a0 : Int) : Option (Bool) := (impl_within.f a0 1 44).bind fun t452 => (some t452)
set_option maxHeartbeats 8000000 in
set_option maxRecDepth 100000 in
theorem impl_isOp.calls (a0 : Int) (r : Bool) (w : World) (h : impl_isOp.f a0 = some r) :
 Calls Try.prog 184 #[.int .i64 a0] w fun e w' => e = .returned (.bool r) ∧ Drawn0 w w' := by
 have H : ((impl_within.f a0 1 44).bind fun t452 => (some t452)) = some r := h; clear h; replace H := Option.bind_eq_some_iff.mp H; obtain ⟨t452, A20, H⟩ := H; (try dsimp only at H); have A2 := Zm A20; clear A20; obtain rfl := Option.some.inj H; go_enter Try.func184, Try.ntmps184; go_wp2_with (first | ((with_reducible refine gate_callee (f := 44) rfl ?_); refine ge_ (some 4) Try.func44 #[.int .i64 a0, .int .i64 1, .int .i64 44] ?_; (with_reducible refine (impl_within.calls _ _ _ _ _ A2.out).mono ?_); rintro e w' ⟨rfl, ⟨nd, rfl⟩⟩; refine ⟨_, rfl, ?_⟩)); go_ret; exact ⟨by first | rfl | (simp; done) | (simp [*]; done), by repeat (first | exact Drawn0.refl _ | apply Drawn0.step)⟩

/-! ### impl_opForms: function 185 -/
def impl_opForms.f  : Option (List ByteArray) := some (([(⟨#[110]⟩ : ByteArray), (⟨#[]⟩ : ByteArray), (⟨#[105]⟩ : ByteArray), (⟨#[105]⟩ : ByteArray), (⟨#[]⟩ : ByteArray), (⟨#[]⟩ : ByteArray), (⟨#[]⟩ : ByteArray), (⟨#[]⟩ : ByteArray), (⟨#[]⟩ : ByteArray), (⟨#[]⟩ : ByteArray), (⟨#[]⟩ : ByteArray), (⟨#[]⟩ : ByteArray), (⟨#[]⟩ : ByteArray), (⟨#[]⟩ : ByteArray), (⟨#[]⟩ : ByteArray), (⟨#[]⟩ : ByteArray), (⟨#[]⟩ : ByteArray), (⟨#[]⟩ : ByteArray), (⟨#[116]⟩ : ByteArray), (⟨#[116]⟩ : ByteArray), (⟨#[116]⟩ : ByteArray), (⟨#[116]⟩ : ByteArray), (⟨#[116]⟩ : ByteArray), (⟨#[116]⟩ : ByteArray), (⟨#[116]⟩ : ByteArray), (⟨#[]⟩ : ByteArray), (⟨#[]⟩ : ByteArray), (⟨#[]⟩ : ByteArray), (⟨#[]⟩ : ByteArray), (⟨#[]⟩ : ByteArray), (⟨#[99]⟩ : ByteArray), (⟨#[102]⟩ : ByteArray), (⟨#[102]⟩ : ByteArray), (⟨#[102]⟩ : ByteArray), (⟨#[102]⟩ : ByteArray), (⟨#[109]⟩ : ByteArray), (⟨#[109]⟩ : ByteArray), (⟨#[109]⟩ : ByteArray), (⟨#[99]⟩ : ByteArray), (⟨#[99]⟩ : ByteArray), (⟨#[121]⟩ : ByteArray), (⟨#[]⟩ : ByteArray), (⟨#[]⟩ : ByteArray), (⟨#[]⟩ : ByteArray)] : List ByteArray))
set_option maxHeartbeats 8000000 in
set_option maxRecDepth 100000 in
theorem impl_opForms.calls  (r : List ByteArray) (w : World) (h : impl_opForms.f  = some r) :
 Calls Try.prog 185 #[] w fun e w' => ∃ v0_ : Value, e = .returned (v0_) ∧ Kd.R Kd.string 9 w' w.heap.size (fun _ => True) v0_ r ∧ Below w.heap.size w w' := by
 have HB := Zm (Below.refl w.heap.size w); have H : (some (([(⟨#[110]⟩ : ByteArray), (⟨#[]⟩ : ByteArray), (⟨#[105]⟩ : ByteArray), (⟨#[105]⟩ : ByteArray), (⟨#[]⟩ : ByteArray), (⟨#[]⟩ : ByteArray), (⟨#[]⟩ : ByteArray), (⟨#[]⟩ : ByteArray), (⟨#[]⟩ : ByteArray), (⟨#[]⟩ : ByteArray), (⟨#[]⟩ : ByteArray), (⟨#[]⟩ : ByteArray), (⟨#[]⟩ : ByteArray), (⟨#[]⟩ : ByteArray), (⟨#[]⟩ : ByteArray), (⟨#[]⟩ : ByteArray), (⟨#[]⟩ : ByteArray), (⟨#[]⟩ : ByteArray), (⟨#[116]⟩ : ByteArray), (⟨#[116]⟩ : ByteArray), (⟨#[116]⟩ : ByteArray), (⟨#[116]⟩ : ByteArray), (⟨#[116]⟩ : ByteArray), (⟨#[116]⟩ : ByteArray), (⟨#[116]⟩ : ByteArray), (⟨#[]⟩ : ByteArray), (⟨#[]⟩ : ByteArray), (⟨#[]⟩ : ByteArray), (⟨#[]⟩ : ByteArray), (⟨#[]⟩ : ByteArray), (⟨#[99]⟩ : ByteArray), (⟨#[102]⟩ : ByteArray), (⟨#[102]⟩ : ByteArray), (⟨#[102]⟩ : ByteArray), (⟨#[102]⟩ : ByteArray), (⟨#[109]⟩ : ByteArray), (⟨#[109]⟩ : ByteArray), (⟨#[109]⟩ : ByteArray), (⟨#[99]⟩ : ByteArray), (⟨#[99]⟩ : ByteArray), (⟨#[121]⟩ : ByteArray), (⟨#[]⟩ : ByteArray), (⟨#[]⟩ : ByteArray), (⟨#[]⟩ : ByteArray)] : List ByteArray))) = some r := h; clear h; obtain ⟨y453, hy453⟩ : ∃ y_ : List ByteArray, y_ = (([(⟨#[110]⟩ : ByteArray), (⟨#[]⟩ : ByteArray), (⟨#[105]⟩ : ByteArray), (⟨#[105]⟩ : ByteArray), (⟨#[]⟩ : ByteArray), (⟨#[]⟩ : ByteArray), (⟨#[]⟩ : ByteArray), (⟨#[]⟩ : ByteArray), (⟨#[]⟩ : ByteArray), (⟨#[]⟩ : ByteArray), (⟨#[]⟩ : ByteArray), (⟨#[]⟩ : ByteArray), (⟨#[]⟩ : ByteArray), (⟨#[]⟩ : ByteArray), (⟨#[]⟩ : ByteArray), (⟨#[]⟩ : ByteArray), (⟨#[]⟩ : ByteArray), (⟨#[]⟩ : ByteArray), (⟨#[116]⟩ : ByteArray), (⟨#[116]⟩ : ByteArray), (⟨#[116]⟩ : ByteArray), (⟨#[116]⟩ : ByteArray), (⟨#[116]⟩ : ByteArray), (⟨#[116]⟩ : ByteArray), (⟨#[116]⟩ : ByteArray), (⟨#[]⟩ : ByteArray), (⟨#[]⟩ : ByteArray), (⟨#[]⟩ : ByteArray), (⟨#[]⟩ : ByteArray), (⟨#[]⟩ : ByteArray), (⟨#[99]⟩ : ByteArray), (⟨#[102]⟩ : ByteArray), (⟨#[102]⟩ : ByteArray), (⟨#[102]⟩ : ByteArray), (⟨#[102]⟩ : ByteArray), (⟨#[109]⟩ : ByteArray), (⟨#[109]⟩ : ByteArray), (⟨#[109]⟩ : ByteArray), (⟨#[99]⟩ : ByteArray), (⟨#[99]⟩ : ByteArray), (⟨#[121]⟩ : ByteArray), (⟨#[]⟩ : ByteArray), (⟨#[]⟩ : ByteArray), (⟨#[]⟩ : ByteArray)] : List ByteArray)) := ⟨_, rfl⟩; replace H : (some y453) = some r := by first | (rw [hy453]; with_reducible exact H) | (have H2_ := (Option.bind_some _ _).symm.trans H; rw [hy453]; with_reducible exact H2_) | (have H2_ := (Option.bind_some _ _).symm.trans H; with_reducible exact H2_) | with_reducible exact H | (rw [hy453]; exact H) | exact H
 have Ny453 := Zm hy453; clear hy453; obtain rfl := Option.some.inj H; go_enter Try.func185, Try.ntmps185; go_wp2_with (first | ((with_reducible refine gate_dst (N := 1) rfl ?_); refine Kd.R_lit Kd.string _ 9 ?hg (N := 1) ?hd (xs := ([(⟨#[110]⟩ : ByteArray), (⟨#[]⟩ : ByteArray), (⟨#[105]⟩ : ByteArray), (⟨#[105]⟩ : ByteArray), (⟨#[]⟩ : ByteArray), (⟨#[]⟩ : ByteArray), (⟨#[]⟩ : ByteArray), (⟨#[]⟩ : ByteArray), (⟨#[]⟩ : ByteArray), (⟨#[]⟩ : ByteArray), (⟨#[]⟩ : ByteArray), (⟨#[]⟩ : ByteArray), (⟨#[]⟩ : ByteArray), (⟨#[]⟩ : ByteArray), (⟨#[]⟩ : ByteArray), (⟨#[]⟩ : ByteArray), (⟨#[]⟩ : ByteArray), (⟨#[]⟩ : ByteArray), (⟨#[116]⟩ : ByteArray), (⟨#[116]⟩ : ByteArray), (⟨#[116]⟩ : ByteArray), (⟨#[116]⟩ : ByteArray), (⟨#[116]⟩ : ByteArray), (⟨#[116]⟩ : ByteArray), (⟨#[116]⟩ : ByteArray), (⟨#[]⟩ : ByteArray), (⟨#[]⟩ : ByteArray), (⟨#[]⟩ : ByteArray), (⟨#[]⟩ : ByteArray), (⟨#[]⟩ : ByteArray), (⟨#[99]⟩ : ByteArray), (⟨#[102]⟩ : ByteArray), (⟨#[102]⟩ : ByteArray), (⟨#[102]⟩ : ByteArray), (⟨#[102]⟩ : ByteArray), (⟨#[109]⟩ : ByteArray), (⟨#[109]⟩ : ByteArray), (⟨#[109]⟩ : ByteArray), (⟨#[99]⟩ : ByteArray), (⟨#[99]⟩ : ByteArray), (⟨#[121]⟩ : ByteArray), (⟨#[]⟩ : ByteArray), (⟨#[]⟩ : ByteArray), (⟨#[]⟩ : ByteArray)] : List ByteArray)) (inner := [.string (⟨#[110]⟩ : ByteArray), .string (⟨#[]⟩ : ByteArray), .string (⟨#[105]⟩ : ByteArray), .string (⟨#[105]⟩ : ByteArray), .string (⟨#[]⟩ : ByteArray), .string (⟨#[]⟩ : ByteArray), .string (⟨#[]⟩ : ByteArray), .string (⟨#[]⟩ : ByteArray), .string (⟨#[]⟩ : ByteArray), .string (⟨#[]⟩ : ByteArray), .string (⟨#[]⟩ : ByteArray), .string (⟨#[]⟩ : ByteArray), .string (⟨#[]⟩ : ByteArray), .string (⟨#[]⟩ : ByteArray), .string (⟨#[]⟩ : ByteArray), .string (⟨#[]⟩ : ByteArray), .string (⟨#[]⟩ : ByteArray), .string (⟨#[]⟩ : ByteArray), .string (⟨#[116]⟩ : ByteArray), .string (⟨#[116]⟩ : ByteArray), .string (⟨#[116]⟩ : ByteArray), .string (⟨#[116]⟩ : ByteArray), .string (⟨#[116]⟩ : ByteArray), .string (⟨#[116]⟩ : ByteArray), .string (⟨#[116]⟩ : ByteArray), .string (⟨#[]⟩ : ByteArray), .string (⟨#[]⟩ : ByteArray), .string (⟨#[]⟩ : ByteArray), .string (⟨#[]⟩ : ByteArray), .string (⟨#[]⟩ : ByteArray), .string (⟨#[99]⟩ : ByteArray), .string (⟨#[102]⟩ : ByteArray), .string (⟨#[102]⟩ : ByteArray), .string (⟨#[102]⟩ : ByteArray), .string (⟨#[102]⟩ : ByteArray), .string (⟨#[109]⟩ : ByteArray), .string (⟨#[109]⟩ : ByteArray), .string (⟨#[109]⟩ : ByteArray), .string (⟨#[99]⟩ : ByteArray), .string (⟨#[99]⟩ : ByteArray), .string (⟨#[121]⟩ : ByteArray), .string (⟨#[]⟩ : ByteArray), .string (⟨#[]⟩ : ByteArray), .string (⟨#[]⟩ : ByteArray)]) (ok := fun _ => True) (okp := fun _ => True) ?hr ?hp (fun _ hk => hk) trivial (Below.refl _ _) (Nat.le_refl _) (by simp) ?_; (case hd => rfl); (case hg => rfl); (case hr => first | (go_simp; done) | (go_simp; rfl)); (case hp => exact (Reps.one (show Kd.M Kd.string _ _ _ (⟨#[110]⟩ : ByteArray) [.string (⟨#[110]⟩ : ByteArray)] from rfl) (Reps.one (show Kd.M Kd.string _ _ _ (⟨#[]⟩ : ByteArray) [.string (⟨#[]⟩ : ByteArray)] from rfl) (Reps.one (show Kd.M Kd.string _ _ _ (⟨#[105]⟩ : ByteArray) [.string (⟨#[105]⟩ : ByteArray)] from rfl) (Reps.one (show Kd.M Kd.string _ _ _ (⟨#[105]⟩ : ByteArray) [.string (⟨#[105]⟩ : ByteArray)] from rfl) (Reps.one (show Kd.M Kd.string _ _ _ (⟨#[]⟩ : ByteArray) [.string (⟨#[]⟩ : ByteArray)] from rfl) (Reps.one (show Kd.M Kd.string _ _ _ (⟨#[]⟩ : ByteArray) [.string (⟨#[]⟩ : ByteArray)] from rfl) (Reps.one (show Kd.M Kd.string _ _ _ (⟨#[]⟩ : ByteArray) [.string (⟨#[]⟩ : ByteArray)] from rfl) (Reps.one (show Kd.M Kd.string _ _ _ (⟨#[]⟩ : ByteArray) [.string (⟨#[]⟩ : ByteArray)] from rfl) (Reps.one (show Kd.M Kd.string _ _ _ (⟨#[]⟩ : ByteArray) [.string (⟨#[]⟩ : ByteArray)] from rfl) (Reps.one (show Kd.M Kd.string _ _ _ (⟨#[]⟩ : ByteArray) [.string (⟨#[]⟩ : ByteArray)] from rfl) (Reps.one (show Kd.M Kd.string _ _ _ (⟨#[]⟩ : ByteArray) [.string (⟨#[]⟩ : ByteArray)] from rfl) (Reps.one (show Kd.M Kd.string _ _ _ (⟨#[]⟩ : ByteArray) [.string (⟨#[]⟩ : ByteArray)] from rfl) (Reps.one (show Kd.M Kd.string _ _ _ (⟨#[]⟩ : ByteArray) [.string (⟨#[]⟩ : ByteArray)] from rfl) (Reps.one (show Kd.M Kd.string _ _ _ (⟨#[]⟩ : ByteArray) [.string (⟨#[]⟩ : ByteArray)] from rfl) (Reps.one (show Kd.M Kd.string _ _ _ (⟨#[]⟩ : ByteArray) [.string (⟨#[]⟩ : ByteArray)] from rfl) (Reps.one (show Kd.M Kd.string _ _ _ (⟨#[]⟩ : ByteArray) [.string (⟨#[]⟩ : ByteArray)] from rfl) (Reps.one (show Kd.M Kd.string _ _ _ (⟨#[]⟩ : ByteArray) [.string (⟨#[]⟩ : ByteArray)] from rfl) (Reps.one (show Kd.M Kd.string _ _ _ (⟨#[]⟩ : ByteArray) [.string (⟨#[]⟩ : ByteArray)] from rfl) (Reps.one (show Kd.M Kd.string _ _ _ (⟨#[116]⟩ : ByteArray) [.string (⟨#[116]⟩ : ByteArray)] from rfl) (Reps.one (show Kd.M Kd.string _ _ _ (⟨#[116]⟩ : ByteArray) [.string (⟨#[116]⟩ : ByteArray)] from rfl) (Reps.one (show Kd.M Kd.string _ _ _ (⟨#[116]⟩ : ByteArray) [.string (⟨#[116]⟩ : ByteArray)] from rfl) (Reps.one (show Kd.M Kd.string _ _ _ (⟨#[116]⟩ : ByteArray) [.string (⟨#[116]⟩ : ByteArray)] from rfl) (Reps.one (show Kd.M Kd.string _ _ _ (⟨#[116]⟩ : ByteArray) [.string (⟨#[116]⟩ : ByteArray)] from rfl) (Reps.one (show Kd.M Kd.string _ _ _ (⟨#[116]⟩ : ByteArray) [.string (⟨#[116]⟩ : ByteArray)] from rfl) (Reps.one (show Kd.M Kd.string _ _ _ (⟨#[116]⟩ : ByteArray) [.string (⟨#[116]⟩ : ByteArray)] from rfl) (Reps.one (show Kd.M Kd.string _ _ _ (⟨#[]⟩ : ByteArray) [.string (⟨#[]⟩ : ByteArray)] from rfl) (Reps.one (show Kd.M Kd.string _ _ _ (⟨#[]⟩ : ByteArray) [.string (⟨#[]⟩ : ByteArray)] from rfl) (Reps.one (show Kd.M Kd.string _ _ _ (⟨#[]⟩ : ByteArray) [.string (⟨#[]⟩ : ByteArray)] from rfl) (Reps.one (show Kd.M Kd.string _ _ _ (⟨#[]⟩ : ByteArray) [.string (⟨#[]⟩ : ByteArray)] from rfl) (Reps.one (show Kd.M Kd.string _ _ _ (⟨#[]⟩ : ByteArray) [.string (⟨#[]⟩ : ByteArray)] from rfl) (Reps.one (show Kd.M Kd.string _ _ _ (⟨#[99]⟩ : ByteArray) [.string (⟨#[99]⟩ : ByteArray)] from rfl) (Reps.one (show Kd.M Kd.string _ _ _ (⟨#[102]⟩ : ByteArray) [.string (⟨#[102]⟩ : ByteArray)] from rfl) (Reps.one (show Kd.M Kd.string _ _ _ (⟨#[102]⟩ : ByteArray) [.string (⟨#[102]⟩ : ByteArray)] from rfl) (Reps.one (show Kd.M Kd.string _ _ _ (⟨#[102]⟩ : ByteArray) [.string (⟨#[102]⟩ : ByteArray)] from rfl) (Reps.one (show Kd.M Kd.string _ _ _ (⟨#[102]⟩ : ByteArray) [.string (⟨#[102]⟩ : ByteArray)] from rfl) (Reps.one (show Kd.M Kd.string _ _ _ (⟨#[109]⟩ : ByteArray) [.string (⟨#[109]⟩ : ByteArray)] from rfl) (Reps.one (show Kd.M Kd.string _ _ _ (⟨#[109]⟩ : ByteArray) [.string (⟨#[109]⟩ : ByteArray)] from rfl) (Reps.one (show Kd.M Kd.string _ _ _ (⟨#[109]⟩ : ByteArray) [.string (⟨#[109]⟩ : ByteArray)] from rfl) (Reps.one (show Kd.M Kd.string _ _ _ (⟨#[99]⟩ : ByteArray) [.string (⟨#[99]⟩ : ByteArray)] from rfl) (Reps.one (show Kd.M Kd.string _ _ _ (⟨#[99]⟩ : ByteArray) [.string (⟨#[99]⟩ : ByteArray)] from rfl) (Reps.one (show Kd.M Kd.string _ _ _ (⟨#[121]⟩ : ByteArray) [.string (⟨#[121]⟩ : ByteArray)] from rfl) (Reps.one (show Kd.M Kd.string _ _ _ (⟨#[]⟩ : ByteArray) [.string (⟨#[]⟩ : ByteArray)] from rfl) (Reps.one (show Kd.M Kd.string _ _ _ (⟨#[]⟩ : ByteArray) [.string (⟨#[]⟩ : ByteArray)] from rfl) (Reps.one (show Kd.M Kd.string _ _ _ (⟨#[]⟩ : ByteArray) [.string (⟨#[]⟩ : ByteArray)] from rfl) (Reps.none _ _)))))))))))))))))))))))))))))))))))))))))))))); intro v454 w1 ho2 hb hg_ hnew_; clear hg_ hnew_; (first | rw [← Ny453.out] at ho2 | (simp only [Int.reduceToNat] at ho2; rw [← Ny453.out] at ho2)); have n0_ := (⟨Zm (Kd.R_lower ho2 (Zbz (bk HB.out))), Zm (Zbt (bk HB.out) hb)⟩ : _ ∧ _); clear HB; obtain ⟨HO455, HB⟩ := n0_; clear hb ho2)); go_ret; exact ⟨_, by first | rfl | (simp [*] <;> rfl), by (with_reducible repeat (first | apply Kd.R_alloc | apply Kd.R_drewN | apply Kd.R_drew)); exact HO455.out, bk HB.out⟩

/-! ### impl_OpForm: function 153 -/
def impl_OpForm.f (a0 : Int) : Option (ByteArray) := (impl_isOp.f a0).bind fun t456 => (if t456 = true then ((impl_opForms.f).bind fun t457 => (if 0 ≤ (wrap64 (a0 - 1)) then (if (wrap64 (a0 - 1)) < (t457.length : Int) then (some (rdOf ByteArray.empty t457 (wrap64 (a0 - 1)))) else (none)) else (none))) else (some (⟨#[33]⟩ : ByteArray)))
set_option maxHeartbeats 8000000 in
set_option maxRecDepth 100000 in
theorem impl_OpForm.calls (a0 : Int) (r : ByteArray) (w : World) (h : impl_OpForm.f a0 = some r) :
 Calls Try.prog 153 #[.int .i64 a0] w fun e w' => e = .returned (.string r) ∧ Below w.heap.size w w' := by
 have HB := Zm (Below.refl w.heap.size w); have H : ((impl_isOp.f a0).bind fun t456 => (if t456 = true then ((impl_opForms.f).bind fun t457 => (if 0 ≤ (wrap64 (a0 - 1)) then (if (wrap64 (a0 - 1)) < (t457.length : Int) then (some (rdOf ByteArray.empty t457 (wrap64 (a0 - 1)))) else (none)) else (none))) else (some (⟨#[33]⟩ : ByteArray)))) = some r := h; clear h; replace H := Option.bind_eq_some_iff.mp H; obtain ⟨t456, A20, H⟩ := H; (try dsimp only at H); have A2 := Zm A20; clear A20; have HC3 := Zm H; clear H; go_enter Try.func153, Try.ntmps153; go_upto_if 5 with (first | ((with_reducible refine gate_callee (f := 184) rfl ?_); refine ge_ (some 4) Try.func184 #[.int .i64 a0] ?_; (with_reducible refine (impl_isOp.calls _ _ _ A2.out).mono ?_); rintro e w' ⟨rfl, ⟨nd, rfl⟩⟩; refine ⟨_, rfl, ?_⟩)); have H := HC3.out; clear HC3; by_cases c4 : t456 = true; rotate_left
 · replace c4 := Bool.eq_false_iff.mpr c4; subst c4; rw [if_neg (show ¬ (false = true) by decide)] at H; obtain rfl := Option.some.inj H; go_wp2; go_ret; exact fin_ HB

 subst c4
 rw [if_pos rfl] at H
 replace H := Option.bind_eq_some_iff.mp H
 obtain ⟨t457, A50, H⟩ := H
 (try dsimp only at H)
 have A5 := Zm A50
 clear A50
 obtain ⟨ji6, hji6⟩ : ∃ j_ : Int, (wrap64 (a0 - 1)) = j_ := ⟨_, rfl⟩
 replace H : (if 0 ≤ (ji6) then (if (ji6) < (t457.length : Int) then (some (rdOf ByteArray.empty t457 (ji6))) else (none)) else (none)) = some r := by first | (rw [hji6] at H; exact H) | (simp only [hji6] at H ⊢; exact H)
 (try rw [hji6] at A5)
 have hji6w : (IntKind.i64.wrap (a0 - 1)) = ji6 := (i64_w _).trans hji6
 by_cases c7 : 0 ≤ (ji6)
 rotate_left
 · rw [if_neg c7] at H
   exact absurd H (by simp)
 rw [if_pos c7] at H
 have c7b0 := decide_eq_true c7
 clear c7
 (first | rw [c7b0] | (simp only [i64_w, i32_w]; rw [c7b0]) | skip)
 by_cases c8 : (ji6) < (t457.length : Int)
 rotate_left
 · rw [if_neg c8] at H
   exact absurd H (by simp)
 rw [if_pos c8] at H
 have c8b0 := decide_eq_true c8
 clear c8
 obtain rfl := Option.some.inj H
 go_wp2_with (first | ((with_reducible refine gate_callee (f := 185) rfl ?_); refine ge_ (some 6) Try.func185 #[] ?_; (with_reducible refine (impl_opForms.calls _ _ A5.out).mono ?_); rintro e w9 ⟨v458, rfl, ho0, hb⟩; refine ⟨_, rfl, ?_⟩; have n0_ := (⟨Zm (Kd.R_lower ho0 (Zbz (bk HB.out))), Zm (Zbt (bk HB.out) hb)⟩ : _ ∧ _); clear HB; obtain ⟨HO459, HB⟩ := n0_; (try clear hb); (try clear hb2); (try clear hk); (try clear hi); (try clear ho0); obtain ⟨Ao10, co10, eo10⟩ := Kd.R_slice HO459.out; subst eo10; have p460 : 0 ≤ ((ji6) : Int) := of_decide_eq_true (by first | (with_reducible assumption) | assumption); have q460 : (ji6) < (t457.length : Int) := of_decide_eq_true (by first | (with_reducible assumption) | assumption); obtain ⟨ad460, e460, hx460_0⟩ := Kd.at_string (Kd.R_reads' HO459.out).2.2 (ji6) p460 q460; cases e460; replace p460 := eq_true p460; replace q460 := eq_true q460))
 go_ret
 exact ⟨by first | rfl | (simp [errW_none, errW_some] <;> rfl) | (simp only [← hji6]; first | rfl | (simp [errW_none, errW_some] <;> rfl)) | (simp [*, errW_none, errW_some] <;> rfl), bk HB.out⟩
/-! ### impl_isInt: function 183 -/
def impl_isInt.f (a0 : Int) : Option (Bool) := (impl_within.f a0 (-2147483648) 2147483647).bind fun t461 => (some t461)
set_option maxHeartbeats 8000000 in
set_option maxRecDepth 100000 in
theorem impl_isInt.calls (a0 : Int) (r : Bool) (w : World) (h : impl_isInt.f a0 = some r) :
 Calls Try.prog 183 #[.int .i64 a0] w fun e w' => e = .returned (.bool r) ∧ Drawn0 w w' := by
 have H : ((impl_within.f a0 (-2147483648) 2147483647).bind fun t461 => (some t461)) = some r := h; clear h; replace H := Option.bind_eq_some_iff.mp H; obtain ⟨t461, A20, H⟩ := H; (try dsimp only at H); have A2 := Zm A20; clear A20; obtain rfl := Option.some.inj H; go_enter Try.func183, Try.ntmps183; go_wp2_with (first | ((with_reducible refine gate_callee (f := 44) rfl ?_); refine ge_ (some 4) Try.func44 #[.int .i64 a0, .int .i64 (-2147483648), .int .i64 2147483647] ?_; (with_reducible refine (impl_within.calls _ _ _ _ _ A2.out).mono ?_); rintro e w' ⟨rfl, ⟨nd, rfl⟩⟩; refine ⟨_, rfl, ?_⟩)); go_ret; exact ⟨by first | rfl | (simp; done) | (simp [*]; done), by repeat (first | exact Drawn0.refl _ | apply Drawn0.step)⟩

/-! ### impl_InsRight: function 152 -/
def impl_InsRight.j0 : Nat → Bool → Int → Int → ByteArray → ByteArray → ByteArray → Option (Bool)
 | 0, _, _, _, _, _, _ => none
 | k + 1, x3, x463000, x463001, x463002, x463003, x463004 => (impl_OpForm.f x463000).bind fun t463 => (if t463.toList = ([] : List UInt8) then (if x3 = true then (some (x463001 == 0)) else (some false)) else (if t463.toList = ([110] : List UInt8) then (if x3 = true then ((impl_isInt.f x463001).bind fun t464 => (some t464)) else (some false)) else (if t463.toList = ([105] : List UInt8) then (if x3 = true then ((impl_within.f x463001 0 15).bind fun t465 => (some t465)) else (some false)) else (if t463.toList = ([116] : List UInt8) then (if x3 = true then ((impl_within.f x463001 0 59).bind fun t466 => (some t466)) else (some false)) else (if t463.toList = ([99] : List UInt8) then (if x463001 = 0 then ((impl_NameRight.f k x463002).bind fun t467 => (if t467 = true then (if x463003.toList = ([] : List UInt8) then (some (x463004.toList == ([] : List UInt8))) else (some false)) else (some false))) else (some false)) else (if t463.toList = ([121] : List UInt8) then (if x463001 = 0 then (if x463002.toList = ([] : List UInt8) then (if x463003.toList = ([] : List UInt8) then (if x463004.toList = ([73] : List UInt8) then (some true) else ((impl_typeRight.f k x463004).bind fun t468 => (if t468 = true then (if 0 < (x463004.size : Int) then (some ((bt x463004 0) == 76)) else (none)) else (some false)))) else (some false)) else (some false)) else (some false)) else (if t463.toList = ([102] : List UInt8) then (if x463001 = 0 then ((impl_NameRight.f k x463002).bind fun t469 => (if t469 = true then ((impl_NameRight.f k x463003).bind fun t470 => (if t470 = true then ((impl_typeRight.f k x463004).bind fun t471 => (some t471)) else (some false))) else (some false))) else (some false)) else (if t463.toList = ([109] : List UInt8) then (if x463001 = 0 then ((impl_NameRight.f k x463002).bind fun t472 => (if t472 = true then ((impl_isMethodName.f k x463003).bind fun t473 => (if t473 = true then ((impl_isDesc.f k x463004).bind fun t474 => (some t474)) else (some false))) else (some false))) else (some false)) else (some false)))))))))
def impl_InsRight.f (k : Nat) (a0_0 : Int) (a0_1 : Int) (a0_2 : ByteArray) (a0_3 : ByteArray) (a0_4 : ByteArray) : Option (Bool) := if a0_2.toList = ([] : List UInt8) then (if a0_3.toList = ([] : List UInt8) then (impl_InsRight.j0 k (a0_4.toList == ([] : List UInt8)) a0_0 a0_1 a0_2 a0_3 a0_4) else (impl_InsRight.j0 k false a0_0 a0_1 a0_2 a0_3 a0_4)) else (impl_InsRight.j0 k false a0_0 a0_1 a0_2 a0_3 a0_4)
theorem impl_InsRight.mono_l : ∀ k, (∀ y0 y1 y2 y3 y4 y5, LeO (impl_InsRight.j0 k y0 y1 y2 y3 y4 y5) (impl_InsRight.j0 (k + 1) y0 y1 y2 y3 y4 y5))
 | 0 => fun _ _ _ _ _ _ r h => by simp [impl_InsRight.j0] at h
 | k + 1 => by
  have ih0 := impl_InsRight.mono_l k
  · intro y0 y1 y2 y3 y4 y5; unfold impl_InsRight.j0
    repeat' first
    | (with_reducible exact ih0 _ _ _ _ _ _)
    | (with_reducible exact impl_NameRight.mono _ _)
    | (with_reducible exact impl_isDesc.mono _ _)
    | (with_reducible exact impl_isMethodName.mono _ _)
    | (with_reducible exact impl_typeRight.mono _ _)
    | (with_reducible exact LeO.refl _)
    | (with_reducible exact LeO.none _)
    | (with_reducible refine LeO.ite ?_ ?_)
    | (with_reducible refine LeO.bind ?_ (fun _ => ?_))
    | exact ih0 _ _ _ _ _ _
    | exact impl_NameRight.mono _ _
    | exact impl_isDesc.mono _ _
    | exact impl_isMethodName.mono _ _
    | exact impl_typeRight.mono _ _
    | exact LeO.none _
    | refine LeO.ite ?_ ?_
    | refine LeO.bind ?_ (fun _ => ?_)
theorem impl_InsRight.mono : ∀ a0 a1 a2 a3 a4 k, LeO (impl_InsRight.f k a0 a1 a2 a3 a4) (impl_InsRight.f (k + 1) a0 a1 a2 a3 a4) := by
 intro a0 a1 a2 a3 a4 k; have ih0 := impl_InsRight.mono_l k; unfold impl_InsRight.f
 repeat' first
  | (with_reducible exact ih0 _ _ _ _ _ _)
  | (with_reducible exact impl_NameRight.mono _ _)
  | (with_reducible exact impl_isDesc.mono _ _)
  | (with_reducible exact impl_isMethodName.mono _ _)
  | (with_reducible exact impl_typeRight.mono _ _)
  | (with_reducible exact LeO.refl _)
  | (with_reducible exact LeO.none _)
  | (with_reducible refine LeO.ite ?_ ?_)
  | (with_reducible refine LeO.bind ?_ (fun _ => ?_))
  | exact ih0 _ _ _ _ _ _
  | exact impl_NameRight.mono _ _
  | exact impl_isDesc.mono _ _
  | exact impl_isMethodName.mono _ _
  | exact impl_typeRight.mono _ _
  | exact LeO.none _
  | refine LeO.ite ?_ ?_
  | refine LeO.bind ?_ (fun _ => ?_)
set_option maxHeartbeats 8000000 in
set_option maxRecDepth 100000 in
theorem impl_InsRight.calls (k : Nat) (a0_0 : Int) (a0_1 : Int) (a0_2 : ByteArray) (a0_3 : ByteArray) (a0_4 : ByteArray) (r : Bool) (w : World) (h : impl_InsRight.f k a0_0 a0_1 a0_2 a0_3 a0_4 = some r) :
 Calls Try.prog 152 #[.agg #[.int .i64 a0_0, .int .i64 a0_1, .string a0_2, .string a0_3, .string a0_4]] w fun e w' => e = .returned (.bool r) ∧ Below w.heap.size w w' := by
 have hu156 := Try.underlying156; have HB := Zm (Below.refl w.heap.size w); have H : (if a0_2.toList = ([] : List UInt8) then (if a0_3.toList = ([] : List UInt8) then (impl_InsRight.j0 k (a0_4.toList == ([] : List UInt8)) a0_0 a0_1 a0_2 a0_3 a0_4) else (impl_InsRight.j0 k false a0_0 a0_1 a0_2 a0_3 a0_4)) else (impl_InsRight.j0 k false a0_0 a0_1 a0_2 a0_3 a0_4)) = some r := h; clear h; have HC2 := Zm H; clear H; go_enter Try.func152, Try.ntmps152; go_upto_region 1 with (first | ((with_reducible refine gate_dst (N := 1) rfl ?_); refine box_event ?hg (N := 1) ?hd (cs := #[.int .i64 a0_0, .int .i64 a0_1, .string a0_2, .string a0_3, .string a0_4]) (t := 156) ?hr ?_; (case hd => rfl); (case hg => rfl); (case hr => first | (go_simp; done) | (go_simp; rfl)); intro gb462 hg w3 hbox hb; have n0_ := (⟨Zm (Zbt (bk HB.out) hb), Zm (hbox), Zm ((by rw [hg]; exact (Zbz (bk HB.out)) : w.heap.size ≤ gb462)), Zm ((by rw [hg]; exact (Zbz (bk HB.out)) : w.heap.size ≤ gb462))⟩ : _ ∧ _ ∧ _ ∧ _); clear HB; obtain ⟨HB, BK462, GW462, GE462⟩ := n0_; clear hb hbox hg)); (try simp only [Act.put, List.setIfInBounds_toArray, List.set_cons_zero, List.set_cons_succ]); go_cut [3] (fun v3 wc => ∃ (kq : Nat) (x3_1 : Bool), v3 = .bool x3_1 ∧ Aside0 (impl_InsRight.j0 kq x3_1 a0_0 a0_1 a0_2 a0_3 a0_4 = some r) ∧ Aside0 (kq ≤ k) ∧ Aside0 (wc.heap[gb462]? = some (.cells #[.int .i64 a0_0, .int .i64 a0_1, .string a0_2, .string a0_3, .string a0_4] 156 (0, 0))) ∧ Aside0 (Below w.heap.size w wc))
 case first =>
  have H := HC2.out; clear HC2; by_cases c4 : a0_2.toList = ([] : List UInt8); rotate_left
  · rw [if_neg c4] at H; have c4b0 : (a0_2.toList == ([] : List UInt8)) = false := beq_eq_false_iff_ne.mpr c4; have c4b1 : (a0_2.toList != ([] : List UInt8)) = true := bne_iff_ne.mpr c4; (first | rw [c4b0] | (simp only [i64_w, i32_w]; rw [c4b0]) | rw [ie_ c4b0] | skip); have H' := Zm H; clear H; obtain ⟨hcz8_0, hcz8_1, hcz8_2, hcz8_3, hcz8_4⟩ := cz5 BK462.out; go_wp2; go_meet
    case rel => exact ⟨_, (false), (by first | rfl | (simp; done) | (simp [*]; done)), H', ⟨by first | omega | exact Nat.le_refl _⟩, ⟨pk BK462.out⟩, ⟨bk HB.out⟩⟩
  rw [if_pos c4] at H; have c4b0 : (a0_2.toList == ([] : List UInt8)) = true := beq_iff_eq.mpr c4; have c4b1 : (a0_2.toList != ([] : List UInt8)) = false := bne_eq_false_iff_eq.mpr c4; clear c4; (first | rw [c4b0] | (simp only [i64_w, i32_w]; rw [c4b0]) | rw [ie_ c4b0] | skip); by_cases c5 : a0_3.toList = ([] : List UInt8); rotate_left
  · rw [if_neg c5] at H; have c5b0 : (a0_3.toList == ([] : List UInt8)) = false := beq_eq_false_iff_ne.mpr c5; have c5b1 : (a0_3.toList != ([] : List UInt8)) = true := bne_iff_ne.mpr c5; have H' := Zm H; clear H; obtain ⟨hcz7_0, hcz7_1, hcz7_2, hcz7_3, hcz7_4⟩ := cz5 BK462.out; go_wp2; go_meet
    case rel => exact ⟨_, (false), (by first | rfl | (simp; done) | (simp [*]; done)), H', ⟨by first | omega | exact Nat.le_refl _⟩, ⟨pk BK462.out⟩, ⟨bk HB.out⟩⟩
  rw [if_pos c5] at H; have c5b0 : (a0_3.toList == ([] : List UInt8)) = true := beq_iff_eq.mpr c5; have c5b1 : (a0_3.toList != ([] : List UInt8)) = false := bne_eq_false_iff_eq.mpr c5; clear c5; have H' := Zm H; clear H; obtain ⟨hcz6_0, hcz6_1, hcz6_2, hcz6_3, hcz6_4⟩ := cz5 BK462.out; go_wp2; go_meet
  case rel => exact ⟨_, ((a0_4.toList == ([] : List UInt8))), (by first | rfl | (simp; done) | (simp [*]; done)), H', ⟨by first | omega | exact Nat.le_refl _⟩, ⟨pk BK462.out⟩, ⟨bk HB.out⟩⟩
 case rest =>
  clear HC2; obtain ⟨kq, x3_1, rfl, HA, HJ1, BK462, HB⟩ := hcut
  cases kq with
  | zero => exact absurd HA.out (by simp [impl_InsRight.j0])
  | succ kj1 =>
   have H := HA.out; clear HA; simp only [impl_InsRight.j0] at H; replace H := Option.bind_eq_some_iff.mp H; obtain ⟨t463, A90, H⟩ := H; (try dsimp only at H); have A9 := Zm A90; clear A90; have HC10 := Zm H; clear H; obtain ⟨hcz11_0, hcz11_1, hcz11_2, hcz11_3, hcz11_4⟩ := cz5 BK462.out; go_upto_if 20 with (first | ((with_reducible refine gate_callee (f := 153) rfl ?_); refine ge_ (some 19) Try.func153 #[.int .i64 a0_0] ?_; (with_reducible refine (impl_OpForm.calls _ _ _ A9.out).mono ?_); rintro e w12 ⟨rfl, hb⟩; refine ⟨_, rfl, ?_⟩; have n0_ := (⟨Zm (Zkb (pk BK462.out) hb), Zm (Zbt (bk HB.out) hb)⟩ : _ ∧ _); clear BK462 HB; obtain ⟨BK462, HB⟩ := n0_; (try clear hb); (try clear hb2); (try clear hk); (try clear hi))); have H := HC10.out; clear HC10; by_cases c13 : t463.toList = ([] : List UInt8); rotate_left
   · rw [if_neg c13] at H; have c13b0 : (t463.toList == ([] : List UInt8)) = false := beq_eq_false_iff_ne.mpr c13; have c13b1 : (t463.toList != ([] : List UInt8)) = true := bne_iff_ne.mpr c13; (first | rw [c13b0] | (simp only [i64_w, i32_w]; rw [c13b0]) | rw [ie_ c13b0] | skip); by_cases c16 : t463.toList = ([110] : List UInt8); rotate_left
     · rw [if_neg c16] at H; have c16b0 : (t463.toList == ([110] : List UInt8)) = false := beq_eq_false_iff_ne.mpr c16; have c16b1 : (t463.toList != ([110] : List UInt8)) = true := bne_iff_ne.mpr c16; by_cases c20 : t463.toList = ([105] : List UInt8); rotate_left
       · rw [if_neg c20] at H; have c20b0 : (t463.toList == ([105] : List UInt8)) = false := beq_eq_false_iff_ne.mpr c20; have c20b1 : (t463.toList != ([105] : List UInt8)) = true := bne_iff_ne.mpr c20; by_cases c24 : t463.toList = ([116] : List UInt8); rotate_left
         · rw [if_neg c24] at H; have c24b0 : (t463.toList == ([116] : List UInt8)) = false := beq_eq_false_iff_ne.mpr c24; have c24b1 : (t463.toList != ([116] : List UInt8)) = true := bne_iff_ne.mpr c24; by_cases c28 : t463.toList = ([99] : List UInt8); rotate_left
           · rw [if_neg c28] at H; have c28b0 : (t463.toList == ([99] : List UInt8)) = false := beq_eq_false_iff_ne.mpr c28; have c28b1 : (t463.toList != ([99] : List UInt8)) = true := bne_iff_ne.mpr c28; by_cases c37 : t463.toList = ([121] : List UInt8); rotate_left
             · rw [if_neg c37] at H; have c37b0 : (t463.toList == ([121] : List UInt8)) = false := beq_eq_false_iff_ne.mpr c37; have c37b1 : (t463.toList != ([121] : List UInt8)) = true := bne_iff_ne.mpr c37; by_cases c55 : t463.toList = ([102] : List UInt8); rotate_left
               · rw [if_neg c55] at H; have c55b0 : (t463.toList == ([102] : List UInt8)) = false := beq_eq_false_iff_ne.mpr c55; have c55b1 : (t463.toList != ([102] : List UInt8)) = true := bne_iff_ne.mpr c55; by_cases c67 : t463.toList = ([109] : List UInt8); rotate_left
                 · rw [if_neg c67] at H; have c67b0 : (t463.toList == ([109] : List UInt8)) = false := beq_eq_false_iff_ne.mpr c67; have c67b1 : (t463.toList != ([109] : List UInt8)) = true := bne_iff_ne.mpr c67; obtain rfl := Option.some.inj H; go_wp2; go_ret; exact fin_ HB

                 rw [if_pos c67] at H
                 have c67b0 : (t463.toList == ([109] : List UInt8)) = true := beq_iff_eq.mpr c67
                 have c67b1 : (t463.toList != ([109] : List UInt8)) = false := bne_eq_false_iff_eq.mpr c67
                 clear c67
                 by_cases c68 : a0_1 = 0
                 rotate_left
                 · rw [if_neg c68] at H
                   have c68b0 : (a0_1 == 0) = false := beq_eq_false_iff_ne.mpr c68
                   have c68b1 : (a0_1 != 0) = true := bne_iff_ne.mpr c68
                   obtain rfl := Option.some.inj H
                   obtain ⟨hcz78_0, hcz78_1, hcz78_2, hcz78_3, hcz78_4⟩ := cz5 BK462.out
                   go_wp2
                   go_ret
                   exact fin_ HB
                 rw [if_pos c68] at H
                 have c68b0 : (a0_1 == 0) = true := beq_iff_eq.mpr c68
                 have c68b1 : (a0_1 != 0) = false := bne_eq_false_iff_eq.mpr c68
                 clear c68
                 replace H := Option.bind_eq_some_iff.mp H
                 obtain ⟨t472, A690, H⟩ := H
                 (try dsimp only at H)
                 have A69 := Zm A690
                 clear A690
                 by_cases c70 : t472 = true
                 rotate_left
                 · replace c70 := Bool.eq_false_iff.mpr c70
                   subst c70
                   rw [if_neg (show ¬ (false = true) by decide)] at H
                   obtain rfl := Option.some.inj H
                   obtain ⟨hcz77_0, hcz77_1, hcz77_2, hcz77_3, hcz77_4⟩ := cz5 BK462.out
                   (try clear BK462)
                   go_wp2_with (first | (go_at_call 111; (first | (with_reducible refine (impl_NameRight.calls _ _ _ _ A69.out).mono ?_) | (with_reducible refine (calls_of_args ?_ (impl_NameRight.calls _ _ _ _ A69.out)).mono ?_; focus (simp [*]; done))); rintro e w' ⟨rfl, ⟨nd, rfl⟩⟩))
                   go_ret
                   exact fin_ HB
                 subst c70
                 rw [if_pos rfl] at H
                 replace H := Option.bind_eq_some_iff.mp H
                 obtain ⟨t473, A710, H⟩ := H
                 (try dsimp only at H)
                 have A71 := Zm A710
                 clear A710
                 by_cases c72 : t473 = true
                 rotate_left
                 · replace c72 := Bool.eq_false_iff.mpr c72
                   subst c72
                   rw [if_neg (show ¬ (false = true) by decide)] at H
                   obtain rfl := Option.some.inj H
                   obtain ⟨hcz76_0, hcz76_1, hcz76_2, hcz76_3, hcz76_4⟩ := cz5 BK462.out
                   go_wp2_with (first | (go_at_call 111; (first | (with_reducible refine (impl_NameRight.calls _ _ _ _ A69.out).mono ?_) | (with_reducible refine (calls_of_args ?_ (impl_NameRight.calls _ _ _ _ A69.out)).mono ?_; focus (simp [*]; done))); rintro e w' ⟨rfl, ⟨nd, rfl⟩⟩; (try clear BK462)) | (go_at_call 103; (first | (with_reducible refine (impl_isMethodName.calls _ _ _ _ A71.out).mono ?_) | (with_reducible refine (calls_of_args ?_ (impl_isMethodName.calls _ _ _ _ A71.out)).mono ?_; focus (simp [*]; done))); rintro e w' ⟨rfl, ⟨nd, rfl⟩⟩))
                   go_ret
                   exact fin_ HB
                 subst c72
                 rw [if_pos rfl] at H
                 replace H := Option.bind_eq_some_iff.mp H
                 obtain ⟨t474, A730, H⟩ := H
                 (try dsimp only at H)
                 have A73 := Zm A730
                 clear A730
                 obtain rfl := Option.some.inj H
                 obtain ⟨hcz74_0, hcz74_1, hcz74_2, hcz74_3, hcz74_4⟩ := cz5 BK462.out
                 go_wp2_with (first | (go_at_call 111; (first | (with_reducible refine (impl_NameRight.calls _ _ _ _ A69.out).mono ?_) | (with_reducible refine (calls_of_args ?_ (impl_NameRight.calls _ _ _ _ A69.out)).mono ?_; focus (simp [*]; done))); rintro e w' ⟨rfl, ⟨nd, rfl⟩⟩) | (go_at_call 103; (first | (with_reducible refine (impl_isMethodName.calls _ _ _ _ A71.out).mono ?_) | (with_reducible refine (calls_of_args ?_ (impl_isMethodName.calls _ _ _ _ A71.out)).mono ?_; focus (simp [*]; done))); rintro e w' ⟨rfl, ⟨nd, rfl⟩⟩; (try clear BK462)) | (go_at_call 104; (first | (with_reducible refine (impl_isDesc.calls _ _ _ _ A73.out).mono ?_) | (with_reducible refine (calls_of_args ?_ (impl_isDesc.calls _ _ _ _ A73.out)).mono ?_; focus (simp [*]; done))); rintro e w75 ⟨rfl, hb⟩; have n0_ := Zm (Zbt (bk HB.out) hb); clear HB; have HB := n0_; clear n0_; (try clear hb); (try clear hb2); (try clear hk); (try clear hi)))
                 go_ret
                 exact fin_ HB
               rw [if_pos c55] at H
               have c55b0 : (t463.toList == ([102] : List UInt8)) = true := beq_iff_eq.mpr c55
               have c55b1 : (t463.toList != ([102] : List UInt8)) = false := bne_eq_false_iff_eq.mpr c55
               clear c55
               by_cases c56 : a0_1 = 0
               rotate_left
               · rw [if_neg c56] at H
                 have c56b0 : (a0_1 == 0) = false := beq_eq_false_iff_ne.mpr c56
                 have c56b1 : (a0_1 != 0) = true := bne_iff_ne.mpr c56
                 obtain rfl := Option.some.inj H
                 obtain ⟨hcz66_0, hcz66_1, hcz66_2, hcz66_3, hcz66_4⟩ := cz5 BK462.out
                 go_wp2
                 go_ret
                 exact fin_ HB
               rw [if_pos c56] at H
               have c56b0 : (a0_1 == 0) = true := beq_iff_eq.mpr c56
               have c56b1 : (a0_1 != 0) = false := bne_eq_false_iff_eq.mpr c56
               clear c56
               replace H := Option.bind_eq_some_iff.mp H
               obtain ⟨t469, A570, H⟩ := H
               (try dsimp only at H)
               have A57 := Zm A570
               clear A570
               by_cases c58 : t469 = true
               rotate_left
               · replace c58 := Bool.eq_false_iff.mpr c58
                 subst c58
                 rw [if_neg (show ¬ (false = true) by decide)] at H
                 obtain rfl := Option.some.inj H
                 obtain ⟨hcz65_0, hcz65_1, hcz65_2, hcz65_3, hcz65_4⟩ := cz5 BK462.out
                 (try clear BK462)
                 go_wp2_with (first | (go_at_call 111; (first | (with_reducible refine (impl_NameRight.calls _ _ _ _ A57.out).mono ?_) | (with_reducible refine (calls_of_args ?_ (impl_NameRight.calls _ _ _ _ A57.out)).mono ?_; focus (simp [*]; done))); rintro e w' ⟨rfl, ⟨nd, rfl⟩⟩))
                 go_ret
                 exact fin_ HB
               subst c58
               rw [if_pos rfl] at H
               replace H := Option.bind_eq_some_iff.mp H
               obtain ⟨t470, A590, H⟩ := H
               (try dsimp only at H)
               have A59 := Zm A590
               clear A590
               by_cases c60 : t470 = true
               rotate_left
               · replace c60 := Bool.eq_false_iff.mpr c60
                 subst c60
                 rw [if_neg (show ¬ (false = true) by decide)] at H
                 obtain rfl := Option.some.inj H
                 obtain ⟨hcz64_0, hcz64_1, hcz64_2, hcz64_3, hcz64_4⟩ := cz5 BK462.out
                 go_wp2_with (first | (go_at_call 111; (first | (with_reducible refine (impl_NameRight.calls _ _ _ _ A57.out).mono ?_) | (with_reducible refine (calls_of_args ?_ (impl_NameRight.calls _ _ _ _ A57.out)).mono ?_; focus (simp [*]; done))); rintro e w' ⟨rfl, ⟨nd, rfl⟩⟩; (try clear BK462)) | (go_at_call 111; (first | (with_reducible refine (impl_NameRight.calls _ _ _ _ A59.out).mono ?_) | (with_reducible refine (calls_of_args ?_ (impl_NameRight.calls _ _ _ _ A59.out)).mono ?_; focus (simp [*]; done))); rintro e w' ⟨rfl, ⟨nd, rfl⟩⟩))
                 go_ret
                 exact fin_ HB
               subst c60
               rw [if_pos rfl] at H
               replace H := Option.bind_eq_some_iff.mp H
               obtain ⟨t471, A610, H⟩ := H
               (try dsimp only at H)
               have A61 := Zm A610
               clear A610
               obtain rfl := Option.some.inj H
               obtain ⟨hcz62_0, hcz62_1, hcz62_2, hcz62_3, hcz62_4⟩ := cz5 BK462.out
               go_wp2_with (first | (go_at_call 111; (first | (with_reducible refine (impl_NameRight.calls _ _ _ _ A57.out).mono ?_) | (with_reducible refine (calls_of_args ?_ (impl_NameRight.calls _ _ _ _ A57.out)).mono ?_; focus (simp [*]; done))); rintro e w' ⟨rfl, ⟨nd, rfl⟩⟩) | (go_at_call 111; (first | (with_reducible refine (impl_NameRight.calls _ _ _ _ A59.out).mono ?_) | (with_reducible refine (calls_of_args ?_ (impl_NameRight.calls _ _ _ _ A59.out)).mono ?_; focus (simp [*]; done))); rintro e w' ⟨rfl, ⟨nd, rfl⟩⟩; (try clear BK462)) | (go_at_call 112; (first | (with_reducible refine (impl_typeRight.calls _ _ _ _ A61.out).mono ?_) | (with_reducible refine (calls_of_args ?_ (impl_typeRight.calls _ _ _ _ A61.out)).mono ?_; focus (simp [*]; done))); rintro e w63 ⟨rfl, hb⟩; have n0_ := Zm (Zbt (bk HB.out) hb); clear HB; have HB := n0_; clear n0_; (try clear hb); (try clear hb2); (try clear hk); (try clear hi)))
               go_ret
               exact fin_ HB
             rw [if_pos c37] at H
             have c37b0 : (t463.toList == ([121] : List UInt8)) = true := beq_iff_eq.mpr c37
             have c37b1 : (t463.toList != ([121] : List UInt8)) = false := bne_eq_false_iff_eq.mpr c37
             clear c37
             by_cases c38 : a0_1 = 0
             rotate_left
             · rw [if_neg c38] at H
               have c38b0 : (a0_1 == 0) = false := beq_eq_false_iff_ne.mpr c38
               have c38b1 : (a0_1 != 0) = true := bne_iff_ne.mpr c38
               obtain rfl := Option.some.inj H
               obtain ⟨hcz54_0, hcz54_1, hcz54_2, hcz54_3, hcz54_4⟩ := cz5 BK462.out
               go_wp2
               go_ret
               exact fin_ HB
             rw [if_pos c38] at H
             have c38b0 : (a0_1 == 0) = true := beq_iff_eq.mpr c38
             have c38b1 : (a0_1 != 0) = false := bne_eq_false_iff_eq.mpr c38
             clear c38
             by_cases c39 : a0_2.toList = ([] : List UInt8)
             rotate_left
             · rw [if_neg c39] at H
               have c39b0 : (a0_2.toList == ([] : List UInt8)) = false := beq_eq_false_iff_ne.mpr c39
               have c39b1 : (a0_2.toList != ([] : List UInt8)) = true := bne_iff_ne.mpr c39
               obtain rfl := Option.some.inj H
               obtain ⟨hcz53_0, hcz53_1, hcz53_2, hcz53_3, hcz53_4⟩ := cz5 BK462.out
               go_wp2
               go_ret
               exact fin_ HB
             rw [if_pos c39] at H
             have c39b0 : (a0_2.toList == ([] : List UInt8)) = true := beq_iff_eq.mpr c39
             have c39b1 : (a0_2.toList != ([] : List UInt8)) = false := bne_eq_false_iff_eq.mpr c39
             clear c39
             by_cases c40 : a0_3.toList = ([] : List UInt8)
             rotate_left
             · rw [if_neg c40] at H
               have c40b0 : (a0_3.toList == ([] : List UInt8)) = false := beq_eq_false_iff_ne.mpr c40
               have c40b1 : (a0_3.toList != ([] : List UInt8)) = true := bne_iff_ne.mpr c40
               obtain rfl := Option.some.inj H
               obtain ⟨hcz52_0, hcz52_1, hcz52_2, hcz52_3, hcz52_4⟩ := cz5 BK462.out
               go_wp2
               go_ret
               exact fin_ HB
             rw [if_pos c40] at H
             have c40b0 : (a0_3.toList == ([] : List UInt8)) = true := beq_iff_eq.mpr c40
             have c40b1 : (a0_3.toList != ([] : List UInt8)) = false := bne_eq_false_iff_eq.mpr c40
             clear c40
             by_cases c41 : a0_4.toList = ([73] : List UInt8)
             rotate_left
             · rw [if_neg c41] at H
               have c41b0 : (a0_4.toList == ([73] : List UInt8)) = false := beq_eq_false_iff_ne.mpr c41
               have c41b1 : (a0_4.toList != ([73] : List UInt8)) = true := bne_iff_ne.mpr c41
               replace H := Option.bind_eq_some_iff.mp H
               obtain ⟨t468, A430, H⟩ := H
               (try dsimp only at H)
               have A43 := Zm A430
               clear A430
               by_cases c44 : t468 = true
               rotate_left
               · replace c44 := Bool.eq_false_iff.mpr c44
                 subst c44
                 rw [if_neg (show ¬ (false = true) by decide)] at H
                 obtain rfl := Option.some.inj H
                 obtain ⟨hcz50_0, hcz50_1, hcz50_2, hcz50_3, hcz50_4⟩ := cz5 BK462.out
                 (try clear BK462)
                 go_wp2_with (first | (go_at_call 112; (first | (with_reducible refine (impl_typeRight.calls _ _ _ _ A43.out).mono ?_) | (with_reducible refine (calls_of_args ?_ (impl_typeRight.calls _ _ _ _ A43.out)).mono ?_; focus (simp [*]; done))); rintro e w51 ⟨rfl, hb⟩; have n0_ := Zm (Zbt (bk HB.out) hb); clear HB; have HB := n0_; clear n0_; (try clear hb); (try clear hb2); (try clear hk); (try clear hi)))
                 go_ret
                 exact fin_ HB
               subst c44
               rw [if_pos rfl] at H
               by_cases c45 : 0 < (a0_4.size : Int)
               rotate_left
               · rw [if_neg c45] at H
                 exact absurd H (by simp)
               rw [if_pos c45] at H
               have c45b0 := decide_eq_true c45
               have c45b1 : decide (0 < a0_4.size) = true := decide_eq_true (by omega)
               clear c45
               obtain rfl := Option.some.inj H
               obtain ⟨hcz47_0, hcz47_1, hcz47_2, hcz47_3, hcz47_4⟩ := cz5 BK462.out
               go_wp2_with (first | (go_at_call 112; (first | (with_reducible refine (impl_typeRight.calls _ _ _ _ A43.out).mono ?_) | (with_reducible refine (calls_of_args ?_ (impl_typeRight.calls _ _ _ _ A43.out)).mono ?_; focus (simp [*]; done))); rintro e w48 ⟨rfl, hb⟩; have n0_ := (⟨Zm (Zkb (pk BK462.out) hb), Zm (Zbt (bk HB.out) hb)⟩ : _ ∧ _); clear BK462 HB; obtain ⟨BK462, HB⟩ := n0_; (try clear hb); (try clear hb2); (try clear hk); (try clear hi); obtain ⟨hcz49_0, hcz49_1, hcz49_2, hcz49_3, hcz49_4⟩ := cz5 BK462.out; have p46 : 0 ≤ (0 : Int) := (by omega); have q46 : 0 < a0_4.size := (by have : (0 : Int) < (a0_4.size : Int) := of_decide_eq_true (by first | (with_reducible assumption) | assumption); omega); have hx46 : ∀ h : 0 < a0_4.size, ((a0_4[0]'h).toNat : Int) = bt a0_4 0 := bt_at a0_4 0; clear p46; have qi46 : (0 < (a0_4.size : Int)) = True := eq_true (of_decide_eq_true (by first | (with_reducible assumption) | assumption)); replace q46 := eq_true q46))
               go_ret
               exact fin_ HB
             rw [if_pos c41] at H
             have c41b0 : (a0_4.toList == ([73] : List UInt8)) = true := beq_iff_eq.mpr c41
             have c41b1 : (a0_4.toList != ([73] : List UInt8)) = false := bne_eq_false_iff_eq.mpr c41
             clear c41
             obtain rfl := Option.some.inj H
             obtain ⟨hcz42_0, hcz42_1, hcz42_2, hcz42_3, hcz42_4⟩ := cz5 BK462.out
             go_wp2
             go_ret
             exact fin_ HB
           rw [if_pos c28] at H
           have c28b0 : (t463.toList == ([99] : List UInt8)) = true := beq_iff_eq.mpr c28
           have c28b1 : (t463.toList != ([99] : List UInt8)) = false := bne_eq_false_iff_eq.mpr c28
           clear c28
           by_cases c29 : a0_1 = 0
           rotate_left
           · rw [if_neg c29] at H
             have c29b0 : (a0_1 == 0) = false := beq_eq_false_iff_ne.mpr c29
             have c29b1 : (a0_1 != 0) = true := bne_iff_ne.mpr c29
             obtain rfl := Option.some.inj H
             obtain ⟨hcz36_0, hcz36_1, hcz36_2, hcz36_3, hcz36_4⟩ := cz5 BK462.out
             go_wp2
             go_ret
             exact fin_ HB
           rw [if_pos c29] at H
           have c29b0 : (a0_1 == 0) = true := beq_iff_eq.mpr c29
           have c29b1 : (a0_1 != 0) = false := bne_eq_false_iff_eq.mpr c29
           clear c29
           replace H := Option.bind_eq_some_iff.mp H
           obtain ⟨t467, A300, H⟩ := H
           (try dsimp only at H)
           have A30 := Zm A300
           clear A300
           by_cases c31 : t467 = true
           rotate_left
           · replace c31 := Bool.eq_false_iff.mpr c31
             subst c31
             rw [if_neg (show ¬ (false = true) by decide)] at H
             obtain rfl := Option.some.inj H
             obtain ⟨hcz35_0, hcz35_1, hcz35_2, hcz35_3, hcz35_4⟩ := cz5 BK462.out
             (try clear BK462)
             go_wp2_with (first | (go_at_call 111; (first | (with_reducible refine (impl_NameRight.calls _ _ _ _ A30.out).mono ?_) | (with_reducible refine (calls_of_args ?_ (impl_NameRight.calls _ _ _ _ A30.out)).mono ?_; focus (simp [*]; done))); rintro e w' ⟨rfl, ⟨nd, rfl⟩⟩))
             go_ret
             exact fin_ HB
           subst c31
           rw [if_pos rfl] at H
           by_cases c32 : a0_3.toList = ([] : List UInt8)
           rotate_left
           · rw [if_neg c32] at H
             have c32b0 : (a0_3.toList == ([] : List UInt8)) = false := beq_eq_false_iff_ne.mpr c32
             have c32b1 : (a0_3.toList != ([] : List UInt8)) = true := bne_iff_ne.mpr c32
             obtain rfl := Option.some.inj H
             obtain ⟨hcz34_0, hcz34_1, hcz34_2, hcz34_3, hcz34_4⟩ := cz5 BK462.out
             go_wp2_with (first | (go_at_call 111; (first | (with_reducible refine (impl_NameRight.calls _ _ _ _ A30.out).mono ?_) | (with_reducible refine (calls_of_args ?_ (impl_NameRight.calls _ _ _ _ A30.out)).mono ?_; focus (simp [*]; done))); rintro e w' ⟨rfl, ⟨nd, rfl⟩⟩))
             go_ret
             exact fin_ HB
           rw [if_pos c32] at H
           have c32b0 : (a0_3.toList == ([] : List UInt8)) = true := beq_iff_eq.mpr c32
           have c32b1 : (a0_3.toList != ([] : List UInt8)) = false := bne_eq_false_iff_eq.mpr c32
           clear c32
           obtain rfl := Option.some.inj H
           obtain ⟨hcz33_0, hcz33_1, hcz33_2, hcz33_3, hcz33_4⟩ := cz5 BK462.out
           go_wp2_with (first | (go_at_call 111; (first | (with_reducible refine (impl_NameRight.calls _ _ _ _ A30.out).mono ?_) | (with_reducible refine (calls_of_args ?_ (impl_NameRight.calls _ _ _ _ A30.out)).mono ?_; focus (simp [*]; done))); rintro e w' ⟨rfl, ⟨nd, rfl⟩⟩))
           go_ret
           exact fin_ HB
         rw [if_pos c24] at H
         have c24b0 : (t463.toList == ([116] : List UInt8)) = true := beq_iff_eq.mpr c24
         have c24b1 : (t463.toList != ([116] : List UInt8)) = false := bne_eq_false_iff_eq.mpr c24
         clear c24
         by_cases c25 : x3_1 = true
         rotate_left
         · replace c25 := Bool.eq_false_iff.mpr c25
           subst c25
           rw [if_neg (show ¬ (false = true) by decide)] at H
           obtain rfl := Option.some.inj H
           go_wp2
           go_ret
           exact fin_ HB
         subst c25
         rw [if_pos rfl] at H
         replace H := Option.bind_eq_some_iff.mp H
         obtain ⟨t466, A260, H⟩ := H
         (try dsimp only at H)
         have A26 := Zm A260
         clear A260
         obtain rfl := Option.some.inj H
         obtain ⟨hcz27_0, hcz27_1, hcz27_2, hcz27_3, hcz27_4⟩ := cz5 BK462.out
         (try clear BK462)
         go_wp2_with (first | (go_at_call 44; (first | (with_reducible refine (impl_within.calls _ _ _ _ _ A26.out).mono ?_) | (with_reducible refine (calls_of_args ?_ (impl_within.calls _ _ _ _ _ A26.out)).mono ?_; focus (simp [*]; done))); rintro e w' ⟨rfl, ⟨nd, rfl⟩⟩))
         go_ret
         exact fin_ HB
       rw [if_pos c20] at H
       have c20b0 : (t463.toList == ([105] : List UInt8)) = true := beq_iff_eq.mpr c20
       have c20b1 : (t463.toList != ([105] : List UInt8)) = false := bne_eq_false_iff_eq.mpr c20
       clear c20
       by_cases c21 : x3_1 = true
       rotate_left
       · replace c21 := Bool.eq_false_iff.mpr c21
         subst c21
         rw [if_neg (show ¬ (false = true) by decide)] at H
         obtain rfl := Option.some.inj H
         go_wp2
         go_ret
         exact fin_ HB
       subst c21
       rw [if_pos rfl] at H
       replace H := Option.bind_eq_some_iff.mp H
       obtain ⟨t465, A220, H⟩ := H
       (try dsimp only at H)
       have A22 := Zm A220
       clear A220
       obtain rfl := Option.some.inj H
       obtain ⟨hcz23_0, hcz23_1, hcz23_2, hcz23_3, hcz23_4⟩ := cz5 BK462.out
       (try clear BK462)
       go_wp2_with (first | (go_at_call 44; (first | (with_reducible refine (impl_within.calls _ _ _ _ _ A22.out).mono ?_) | (with_reducible refine (calls_of_args ?_ (impl_within.calls _ _ _ _ _ A22.out)).mono ?_; focus (simp [*]; done))); rintro e w' ⟨rfl, ⟨nd, rfl⟩⟩))
       go_ret
       exact fin_ HB
     rw [if_pos c16] at H
     have c16b0 : (t463.toList == ([110] : List UInt8)) = true := beq_iff_eq.mpr c16
     have c16b1 : (t463.toList != ([110] : List UInt8)) = false := bne_eq_false_iff_eq.mpr c16
     clear c16
     by_cases c17 : x3_1 = true
     rotate_left
     · replace c17 := Bool.eq_false_iff.mpr c17
       subst c17
       rw [if_neg (show ¬ (false = true) by decide)] at H
       obtain rfl := Option.some.inj H
       go_wp2
       go_ret
       exact fin_ HB
     subst c17
     rw [if_pos rfl] at H
     replace H := Option.bind_eq_some_iff.mp H
     obtain ⟨t464, A180, H⟩ := H
     (try dsimp only at H)
     have A18 := Zm A180
     clear A180
     obtain rfl := Option.some.inj H
     obtain ⟨hcz19_0, hcz19_1, hcz19_2, hcz19_3, hcz19_4⟩ := cz5 BK462.out
     (try clear BK462)
     go_wp2_with (first | (go_at_call 183; (first | (with_reducible refine (impl_isInt.calls _ _ _ A18.out).mono ?_) | (with_reducible refine (calls_of_args ?_ (impl_isInt.calls _ _ _ A18.out)).mono ?_; focus (simp [*]; done))); rintro e w' ⟨rfl, ⟨nd, rfl⟩⟩))
     go_ret
     exact fin_ HB
   rw [if_pos c13] at H
   have c13b0 : (t463.toList == ([] : List UInt8)) = true := beq_iff_eq.mpr c13
   have c13b1 : (t463.toList != ([] : List UInt8)) = false := bne_eq_false_iff_eq.mpr c13
   clear c13
   (first | rw [c13b0] | (simp only [i64_w, i32_w]; rw [c13b0]) | rw [ie_ c13b0] | skip)
   by_cases c14 : x3_1 = true
   rotate_left
   · replace c14 := Bool.eq_false_iff.mpr c14
     subst c14
     rw [if_neg (show ¬ (false = true) by decide)] at H
     obtain rfl := Option.some.inj H
     go_wp2
     go_ret
     exact fin_ HB
   subst c14
   rw [if_pos rfl] at H
   obtain rfl := Option.some.inj H
   obtain ⟨hcz15_0, hcz15_1, hcz15_2, hcz15_3, hcz15_4⟩ := cz5 BK462.out
   go_wp2
   go_ret
   exact fin_ HB
end Go.Proofs.Ytlflbmbcjjegaaa.PFnExactClassRight
