/- Functions of the program as plain Lean functions, each with a proof that the program's call comes to the same; no condition. Written by a program of this session. -/
import Derived.Test.YtlflbmbcjjegaaaPFnExactClassSamex0
import Derived.Test.YtlflbmbcjjegaaaPFnExactClassSamex9
import Derived.Test.YtlflbmbcjjegaaaPFnExactClassSamex10
namespace Go.Proofs.Ytlflbmbcjjegaaa.PFnExactClassSame
open Go.RowKit Go.Proofs.YtlflbmbcjjegaaaW.PrintWords Go.Proofs.YtlflbmbcjjegaaaW.PrintLast Go.Proofs.YtlflbmbcjjegaaaW.PrintMore
open Go.Proofs.YtlflbmbcjjegaaaW.PrintWords renaming below_alloc → Zba, pw_below_drewN → Zbn, below_drew1 → Zbd, below_set → Zbs, below_size → Zbz, below_step → Zbt, blk_drewN → Zkn, blk_drew → Zkd, blk_alloc → Zka, blk_cell → Zkc, blk_frozen → Zkf, blk_below → Zkb
open Go.World renaming block_lt_of_cell? → Zlt
open Go.Proofs.YtlflbmbcjjegaaaW.PrintWords.Aside0 renaming mk → Zm
attribute [local go_sem] max2_int min2_int max_two min_two max_three min_three max_four min_four   -- for this text's walks alone
set_option linter.unusedVariables false
set_option linter.unusedSimpArgs false

/-! ### laws_eqMethodS: function 73 -/
def laws_eqMethodS.l0 : Nat → List (S84) → List (S84) → Int → Option (Bool)
  | 0, _, _, _ => none
  | k + 1, x0, x1, x5 => if x5 < (x0.length : Int) then (if 0 ≤ x5 then (if x5 < (x1.length : Int) then ((laws_eqMethod.f k ((rd_T84 x0 x5).f0) ((rd_T84 x0 x5).f1) ((rd_T84 x0 x5).f2) ((rd_T84 x0 x5).f3) ((rd_T84 x0 x5).f4) ((rd_T84 x0 x5).f5) ((rd_T84 x0 x5).f6) ((rd_T84 x0 x5).f7) ((rd_T84 x0 x5).f8) ((rd_T84 x1 x5).f0) ((rd_T84 x1 x5).f1) ((rd_T84 x1 x5).f2) ((rd_T84 x1 x5).f3) ((rd_T84 x1 x5).f4) ((rd_T84 x1 x5).f5) ((rd_T84 x1 x5).f6) ((rd_T84 x1 x5).f7) ((rd_T84 x1 x5).f8)).bind fun t243 => (if t243 = true then (laws_eqMethodS.l0 k x0 x1 (wrap64 (x5 + 1))) else (some false))) else (none)) else (none)) else (some true)
def laws_eqMethodS.f (k : Nat) (l0 : List (S84)) (l1 : List (S84)) : Option (Bool) := if (l0.length : Int) = (l1.length : Int) then (laws_eqMethodS.l0 k l0 l1 0) else (some false)
theorem laws_eqMethodS.mono_l : ∀ k, (∀ y0 y1 y2, LeO (laws_eqMethodS.l0 k y0 y1 y2) (laws_eqMethodS.l0 (k + 1) y0 y1 y2))
  | 0 => fun _ _ _ r h => by simp [laws_eqMethodS.l0] at h
  | k + 1 => by
    have ih0 := laws_eqMethodS.mono_l k
    · intro y0 y1 y2
      unfold laws_eqMethodS.l0
      repeat' first
      | (with_reducible exact ih0 _ _ _)
      | (with_reducible exact laws_eqMethod.mono _ _ _ _ _ _ _ _ _ _ _ _ _ _ _ _ _ _ _)
      | (with_reducible exact LeO.refl _)
      | (with_reducible exact LeO.none _)
      | (with_reducible refine LeO.ite ?_ ?_)
      | (with_reducible refine LeO.bind ?_ (fun _ => ?_))
      | exact ih0 _ _ _
      | exact laws_eqMethod.mono _ _ _ _ _ _ _ _ _ _ _ _ _ _ _ _ _ _ _
      | exact LeO.none _
      | refine LeO.ite ?_ ?_
      | refine LeO.bind ?_ (fun _ => ?_)
theorem laws_eqMethodS.mono : ∀ a0 a1 k, LeO (laws_eqMethodS.f k a0 a1) (laws_eqMethodS.f (k + 1) a0 a1) := by
  intro a0 a1 k
  have ih0 := laws_eqMethodS.mono_l k
  unfold laws_eqMethodS.f
  repeat' first
      | (with_reducible exact ih0 _ _ _)
      | (with_reducible exact laws_eqMethod.mono _ _ _ _ _ _ _ _ _ _ _ _ _ _ _ _ _ _ _)
      | (with_reducible exact LeO.refl _)
      | (with_reducible exact LeO.none _)
      | (with_reducible refine LeO.ite ?_ ?_)
      | (with_reducible refine LeO.bind ?_ (fun _ => ?_))
      | exact ih0 _ _ _
      | exact laws_eqMethod.mono _ _ _ _ _ _ _ _ _ _ _ _ _ _ _ _ _ _ _
      | exact LeO.none _
      | refine LeO.ite ?_ ?_
      | refine LeO.bind ?_ (fun _ => ?_)
def laws_eqMethodS.T6 : Bool × List (List Nat × List Nat) := (true, [([], []), ([], []), ([0, 1], [0, 1]), ([2], [2]), ([], []), ([], []), ([4, 5], [4, 5]), ([6], [6]), ([3, 7], [3, 7]), ([8], [8])])
def laws_eqMethodS.B6 : List Nat := [0, 0, 3, 7, 0, 0, 48, 112, 255, 511]
theorem laws_eqMethodS.tab6 : rtab .any (opsOf Try.f73 6) = laws_eqMethodS.T6 := by kernel_rfl
theorem laws_eqMethodS.bits6 : waitsOk laws_eqMethodS.T6.2 laws_eqMethodS.B6 = true := by kernel_rfl
set_option maxHeartbeats 8000000 in
set_option maxRecDepth 100000 in
theorem laws_eqMethodS.calls (k : Nat) (A0 : Option Addr) (c0 : Nat) (l0 : List (S84)) (A1 : Option Addr) (c1 : Nat) (l1 : List (S84)) (r : Bool) (w : World) (hr0 : Kd.C k84 w A0 l0.length l0) (hc0 : l0.length ≤ c0) (hr1 : Kd.C k84 w A1 l1.length l1) (hc1 : l1.length ≤ c1) (h : laws_eqMethodS.f k l0 l1 = some r) :
    Calls Try.prog 73 #[.slice A0 l0.length c0, .slice A1 l1.length c1] w fun e w' => e = .returned (.bool r) ∧ Below w.heap.size w w' := by
  have hu84 := Try.underlying84
  have HR0 := Zm hr0
  have HC0 := Zm hc0
  clear hr0 hc0
  have HR1 := Zm hr1
  have HC1 := Zm hc1
  clear hr1 hc1
  have HB := Zm (Below.refl w.heap.size w)
  have H : (if (l0.length : Int) = (l1.length : Int) then (laws_eqMethodS.l0 k l0 l1 0) else (some false)) = some r := h
  clear h
  by_cases c3 : (l0.length : Int) = (l1.length : Int)
  rotate_left
  · rw [if_neg c3] at H
    have c3b0 : ((l0.length : Int) == (l1.length : Int)) = false := beq_eq_false_iff_ne.mpr c3
    have c3b1 : ((l0.length : Int) != (l1.length : Int)) = true := bne_iff_ne.mpr c3
    have c3b2 : (l0.length == l1.length) = false := by first | simpa using c3 | (simp at c3 ⊢; omega)
    obtain rfl := Option.some.inj H
    go_enter Try.func73, Try.ntmps73
    go_wp2
    go_ret
    exact ⟨by first | rfl | (simp [errW_none, errW_some] <;> rfl) | (simp [*, errW_none, errW_some] <;> rfl), by repeat (first | (with_reducible first | exact HB.out | apply Zba | apply Zbn | apply Zbd) | exact HB.out)⟩

  rw [if_pos c3] at H
  have c3b0 : ((l0.length : Int) == (l1.length : Int)) = true := beq_iff_eq.mpr c3
  have c3b1 : ((l0.length : Int) != (l1.length : Int)) = false := bne_eq_false_iff_eq.mpr c3
  have c3b2 : (l0.length == l1.length) = true := by first | simpa using c3 | (simp at c3 ⊢; omega)
  clear c3
  have H' := Zm H
  clear H
  go_enter Try.func73, Try.ntmps73
  go_wp2
  go_loopg [5] k (fun kq v5 w' => ∃ (x5_1 : Int), v5 = .int .i64 x5_1 ∧ Aside0 (laws_eqMethodS.l0 kq l0 l1 x5_1 = some r) ∧ Aside0 (kq ≤ k) ∧ Aside0 (Below w.heap.size w w'))
  case atStart => exact ⟨(0), (by first | rfl | (simp; done) | (simp [*]; done)), H', ⟨Nat.le_refl _⟩, ⟨by repeat (first | (with_reducible first | exact HB.out | apply Zba | apply Zbn | apply Zbd) | exact HB.out)⟩⟩
  case round =>
    clear H'
    (try clear c1); (try clear p2); (try clear c3); (try clear c3b0); (try clear c3b1); (try clear c3b2)
    obtain ⟨x5_1, rfl, HA, HK1, HB⟩ := hrel
    cases gk with
    | zero => exact absurd HA.out (by simp [laws_eqMethodS.l0])
    | succ k1 =>
      have H := HA.out
      clear HA
      simp only [laws_eqMethodS.l0] at H
      by_cases c4 : x5_1 < (l0.length : Int)
      rotate_left
      · rw [if_neg c4] at H
        have c4b0 : decide (x5_1 < (l0.length : Int)) = false := decide_eq_false c4
        clear c4
        obtain rfl := Option.some.inj H
        go_wp2
        go_ret
        exact ⟨by first | rfl | (simp [errW_none, errW_some] <;> rfl) | (simp [*, errW_none, errW_some] <;> rfl), by repeat (first | (with_reducible first | exact HB.out | apply Zba | apply Zbn | apply Zbd) | exact HB.out)⟩
      rw [if_pos c4] at H
      have c4b0 : decide (x5_1 < (l0.length : Int)) = true := decide_eq_true c4
      clear c4
      by_cases c5 : 0 ≤ x5_1
      rotate_left
      · rw [if_neg c5] at H
        exact absurd H (by simp)
      rw [if_pos c5] at H
      have c5b0 : decide (0 ≤ x5_1) = true := decide_eq_true c5
      clear c5
      by_cases c6 : x5_1 < (l1.length : Int)
      rotate_left
      · rw [if_neg c6] at H
        exact absurd H (by simp)
      rw [if_pos c6] at H
      have c6b0 : decide (x5_1 < (l1.length : Int)) = true := decide_eq_true c6
      clear c6
      replace H := Option.bind_eq_some_iff.mp H
      obtain ⟨t243, A70, H⟩ := H
      replace H : (if t243 = true then (laws_eqMethodS.l0 k1 l0 l1 (wrap64 (x5_1 + 1))) else (some false)) = some r := H
      have A7 := Zm A70
      clear A70
      by_cases c8 : t243 = true
      rotate_left
      · replace c8 := Bool.eq_false_iff.mpr c8
        subst c8
        have H1 : (some false) = some r := by rw [if_neg (show ¬ (false = true) by decide)] at H; exact H
        clear H
        have H := H1
        clear H1
        obtain rfl := Option.some.inj H
        try go_wp2
        have n0_ := Zm (Zbd HB.out)
        clear HB
        have HB := n0_
        clear n0_
        have p241 : 0 ≤ (x5_1 : Int) := of_decide_eq_true (by first | (with_reducible assumption) | assumption)
        have q241 : x5_1 < (l0.length : Int) := of_decide_eq_true (by first | (with_reducible assumption) | assumption)
        obtain ⟨ad241, A241_7, c241_7, A241_8, c241_8, e241, hx241_0, hx241_1, hx241_2, hx241_3, hx241_4, hx241_5, hx241_6, hx241_7, hx241_8, hl241_7, hi241_7, hl241_8, hi241_8⟩ := at_T84 HR0.out x5_1 p241 q241
        have hw241_8 := hx241_8
        have hw241_7 := hx241_7
        have hw241_6 := hx241_6
        have hw241_5 := hx241_5
        have hw241_4 := hx241_4
        have hw241_3 := hx241_3
        have hw241_2 := hx241_2
        have hw241_1 := hx241_1
        have hw241_0 := hx241_0
        cases e241
        replace hx241_0 := (HB.out.cell (Zlt _ _ hx241_0)).trans hx241_0
        replace hx241_1 := (HB.out.cell (Zlt _ _ hx241_1)).trans hx241_1
        replace hx241_2 := (HB.out.cell (Zlt _ _ hx241_2)).trans hx241_2
        replace hx241_3 := (HB.out.cell (Zlt _ _ hx241_3)).trans hx241_3
        replace hx241_4 := (HB.out.cell (Zlt _ _ hx241_4)).trans hx241_4
        replace hx241_5 := (HB.out.cell (Zlt _ _ hx241_5)).trans hx241_5
        replace hx241_6 := (HB.out.cell (Zlt _ _ hx241_6)).trans hx241_6
        replace hx241_7 := (HB.out.cell (Zlt _ _ hx241_7)).trans hx241_7
        replace hx241_8 := (HB.out.cell (Zlt _ _ hx241_8)).trans hx241_8
        have HR241_7 := Zm hi241_7
        have HC241_7 := Zm hl241_7
        clear hi241_7 hl241_7
        have HR241_8 := Zm hi241_8
        have HC241_8 := Zm hl241_8
        clear hi241_8 hl241_8
        replace p241 := eq_true p241
        replace q241 := eq_true q241
        have p242 : 0 ≤ (x5_1 : Int) := of_decide_eq_true (by first | (with_reducible assumption) | assumption)
        have q242 : x5_1 < (l1.length : Int) := of_decide_eq_true (by first | (with_reducible assumption) | assumption)
        obtain ⟨ad242, A242_7, c242_7, A242_8, c242_8, e242, hx242_0, hx242_1, hx242_2, hx242_3, hx242_4, hx242_5, hx242_6, hx242_7, hx242_8, hl242_7, hi242_7, hl242_8, hi242_8⟩ := at_T84 HR1.out x5_1 p242 q242
        have hw242_8 := hx242_8
        have hw242_7 := hx242_7
        have hw242_6 := hx242_6
        have hw242_5 := hx242_5
        have hw242_4 := hx242_4
        have hw242_3 := hx242_3
        have hw242_2 := hx242_2
        have hw242_1 := hx242_1
        have hw242_0 := hx242_0
        cases e242
        replace hx242_0 := (HB.out.cell (Zlt _ _ hx242_0)).trans hx242_0
        replace hx242_1 := (HB.out.cell (Zlt _ _ hx242_1)).trans hx242_1
        replace hx242_2 := (HB.out.cell (Zlt _ _ hx242_2)).trans hx242_2
        replace hx242_3 := (HB.out.cell (Zlt _ _ hx242_3)).trans hx242_3
        replace hx242_4 := (HB.out.cell (Zlt _ _ hx242_4)).trans hx242_4
        replace hx242_5 := (HB.out.cell (Zlt _ _ hx242_5)).trans hx242_5
        replace hx242_6 := (HB.out.cell (Zlt _ _ hx242_6)).trans hx242_6
        replace hx242_7 := (HB.out.cell (Zlt _ _ hx242_7)).trans hx242_7
        replace hx242_8 := (HB.out.cell (Zlt _ _ hx242_8)).trans hx242_8
        have HR242_7 := Zm hi242_7
        have HC242_7 := Zm hl242_7
        clear hi242_7 hl242_7
        have HR242_8 := Zm hi242_8
        have HC242_8 := Zm hl242_8
        clear hi242_8 hl242_8
        replace p242 := eq_true p242
        replace q242 := eq_true q242
        refine start_ (n := 10) (S := fun w' => w'.cell? (ad241.add ((x5_1).toNat * 9)) = some (.string ((rd_T84 l0 x5_1).f0)) ∧ w'.cell? ⟨(ad241.add ((x5_1).toNat * 9)).block, (ad241.add ((x5_1).toNat * 9)).off + 1, none⟩ = some (.string ((rd_T84 l0 x5_1).f1)) ∧ w'.cell? ⟨(ad241.add ((x5_1).toNat * 9)).block, (ad241.add ((x5_1).toNat * 9)).off + 2, none⟩ = some (.bool ((rd_T84 l0 x5_1).f2)) ∧ w'.cell? ⟨(ad241.add ((x5_1).toNat * 9)).block, (ad241.add ((x5_1).toNat * 9)).off + 3, none⟩ = some (.bool ((rd_T84 l0 x5_1).f3)) ∧ w'.cell? ⟨(ad241.add ((x5_1).toNat * 9)).block, (ad241.add ((x5_1).toNat * 9)).off + 4, none⟩ = some (.bool ((rd_T84 l0 x5_1).f4)) ∧ w'.cell? ⟨(ad241.add ((x5_1).toNat * 9)).block, (ad241.add ((x5_1).toNat * 9)).off + 5, none⟩ = some (.int .i64 ((rd_T84 l0 x5_1).f5)) ∧ w'.cell? ⟨(ad241.add ((x5_1).toNat * 9)).block, (ad241.add ((x5_1).toNat * 9)).off + 6, none⟩ = some (.int .i64 ((rd_T84 l0 x5_1).f6)) ∧ w'.cell? ⟨(ad241.add ((x5_1).toNat * 9)).block, (ad241.add ((x5_1).toNat * 9)).off + 7, none⟩ = some (.slice A241_7 ((rd_T84 l0 x5_1).f7).length c241_7) ∧ w'.cell? ⟨(ad241.add ((x5_1).toNat * 9)).block, (ad241.add ((x5_1).toNat * 9)).off + 8, none⟩ = some (.slice A241_8 ((rd_T84 l0 x5_1).f8).length c241_8) ∧ w'.cell? (ad242.add ((x5_1).toNat * 9)) = some (.string ((rd_T84 l1 x5_1).f0)) ∧ w'.cell? ⟨(ad242.add ((x5_1).toNat * 9)).block, (ad242.add ((x5_1).toNat * 9)).off + 1, none⟩ = some (.string ((rd_T84 l1 x5_1).f1)) ∧ w'.cell? ⟨(ad242.add ((x5_1).toNat * 9)).block, (ad242.add ((x5_1).toNat * 9)).off + 2, none⟩ = some (.bool ((rd_T84 l1 x5_1).f2)) ∧ w'.cell? ⟨(ad242.add ((x5_1).toNat * 9)).block, (ad242.add ((x5_1).toNat * 9)).off + 3, none⟩ = some (.bool ((rd_T84 l1 x5_1).f3)) ∧ w'.cell? ⟨(ad242.add ((x5_1).toNat * 9)).block, (ad242.add ((x5_1).toNat * 9)).off + 4, none⟩ = some (.bool ((rd_T84 l1 x5_1).f4)) ∧ w'.cell? ⟨(ad242.add ((x5_1).toNat * 9)).block, (ad242.add ((x5_1).toNat * 9)).off + 5, none⟩ = some (.int .i64 ((rd_T84 l1 x5_1).f5)) ∧ w'.cell? ⟨(ad242.add ((x5_1).toNat * 9)).block, (ad242.add ((x5_1).toNat * 9)).off + 6, none⟩ = some (.int .i64 ((rd_T84 l1 x5_1).f6)) ∧ w'.cell? ⟨(ad242.add ((x5_1).toNat * 9)).block, (ad242.add ((x5_1).toNat * 9)).off + 7, none⟩ = some (.slice A242_7 ((rd_T84 l1 x5_1).f7).length c242_7) ∧ w'.cell? ⟨(ad242.add ((x5_1).toNat * 9)).block, (ad242.add ((x5_1).toNat * 9)).off + 8, none⟩ = some (.slice A242_8 ((rd_T84 l1 x5_1).f8).length c242_8)) (ds := []) #[false, false, false, false, false, false, false, false, false, false] (by kernel_rfl) rfl rfl ⟨((HB.out.cell (Zlt _ _ hw241_0)).trans hw241_0), ((HB.out.cell (Zlt _ _ hw241_1)).trans hw241_1), ((HB.out.cell (Zlt _ _ hw241_2)).trans hw241_2), ((HB.out.cell (Zlt _ _ hw241_3)).trans hw241_3), ((HB.out.cell (Zlt _ _ hw241_4)).trans hw241_4), ((HB.out.cell (Zlt _ _ hw241_5)).trans hw241_5), ((HB.out.cell (Zlt _ _ hw241_6)).trans hw241_6), ((HB.out.cell (Zlt _ _ hw241_7)).trans hw241_7), ((HB.out.cell (Zlt _ _ hw241_8)).trans hw241_8), ((HB.out.cell (Zlt _ _ hw242_0)).trans hw242_0), ((HB.out.cell (Zlt _ _ hw242_1)).trans hw242_1), ((HB.out.cell (Zlt _ _ hw242_2)).trans hw242_2), ((HB.out.cell (Zlt _ _ hw242_3)).trans hw242_3), ((HB.out.cell (Zlt _ _ hw242_4)).trans hw242_4), ((HB.out.cell (Zlt _ _ hw242_5)).trans hw242_5), ((HB.out.cell (Zlt _ _ hw242_6)).trans hw242_6), ((HB.out.cell (Zlt _ _ hw242_7)).trans hw242_7), ((HB.out.cell (Zlt _ _ hw242_8)).trans hw242_8)⟩ (fun hHeld => ?_); refine with_tabW laws_eqMethodS.tab6 laws_eqMethodS.bits6 (fun HT_ HW_ => ?_)
        generalize wr.drew = w11 at HB HR241_7 HR241_8 HR242_7 HR242_8 hx241_0 hx241_1 hx241_2 hx241_3 hx241_4 hx241_5 hx241_6 hx241_7 hx241_8 hx242_0 hx242_1 hx242_2 hx242_3 hx242_4 hx242_5 hx242_6 hx242_7 hx242_8 hHeld ⊢
        refine pure_ (i := 0) (N := some 17) (v := ?_) (a' := ?_) #[true, false, false, false, false, false, false, false, false, false] rfl rfl (any_of HT_.out (by kernel_rfl)) (fun _ _ _ h => h) (Or.inl ⟨by rfl, ?_⟩) ?_ ?_
        rotate_left
        · intro w'
          go_simp
          with_reducible rfl
        rotate_left
        · simp only [Act.put, List.setIfInBounds_toArray, List.set_cons_zero, List.set_cons_succ, i64_w, i32_w]
          rfl
        refine pure_ (i := 1) (N := some 18) (v := ?_) (a' := ?_) #[true, true, false, false, false, false, false, false, false, false] rfl rfl (any_of HT_.out (by kernel_rfl)) (fun _ _ _ h => h) (Or.inl ⟨by rfl, ?_⟩) ?_ ?_
        rotate_left
        · intro w'
          go_simp
          with_reducible rfl
        rotate_left
        · simp only [Act.put, List.setIfInBounds_toArray, List.set_cons_zero, List.set_cons_succ, i64_w, i32_w]
          rfl
        refine pure_ (i := 2) (N := some 19) (v := ?_) (a' := ?_) #[true, true, true, false, false, false, false, false, false, false] rfl rfl (any_of HT_.out (by kernel_rfl)) (fun _ _ _ h => h) (Or.inl ⟨by rfl, ?_⟩) ?_ ?_
        rotate_left
        · intro w'
          go_simp
          with_reducible rfl
        rotate_left
        · simp only [Act.put, List.setIfInBounds_toArray, List.set_cons_zero, List.set_cons_succ, i64_w, i32_w]
          rfl
        refine pure_ (i := 4) (N := some 21) (v := ?_) (a' := ?_) #[true, true, true, false, true, false, false, false, false, false] rfl rfl (any_of HT_.out (by kernel_rfl)) (fun _ _ _ h => h) (Or.inl ⟨by rfl, ?_⟩) ?_ ?_
        rotate_left
        · intro w'
          go_simp
          with_reducible rfl
        rotate_left
        · simp only [Act.put, List.setIfInBounds_toArray, List.set_cons_zero, List.set_cons_succ, i64_w, i32_w]
          rfl
        refine pure_ (i := 5) (N := some 22) (v := ?_) (a' := ?_) #[true, true, true, false, true, true, false, false, false, false] rfl rfl (any_of HT_.out (by kernel_rfl)) (fun _ _ _ h => h) (Or.inl ⟨by rfl, ?_⟩) ?_ ?_
        rotate_left
        · intro w'
          go_simp
          with_reducible rfl
        rotate_left
        · simp only [Act.put, List.setIfInBounds_toArray, List.set_cons_zero, List.set_cons_succ, i64_w, i32_w]
          rfl
        refine pure_ (i := 6) (N := some 23) (v := ?_) (a' := ?_) #[true, true, true, false, true, true, true, false, false, false] rfl rfl (any_of HT_.out (by kernel_rfl)) (fun _ _ _ h => h) (Or.inl ⟨by rfl, ?_⟩) ?_ ?_
        rotate_left
        · intro w'
          go_simp
          with_reducible rfl
        rotate_left
        · simp only [Act.put, List.setIfInBounds_toArray, List.set_cons_zero, List.set_cons_succ, i64_w, i32_w]
          rfl
        refine take_ (i := 3) (N := some 20) (v := ?_) (a' := ?_) #[true, true, true, true, true, true, true, false, false, false] rfl rfl (take_ofW HT_.out HW_.out (by kernel_rfl)) (fun _ _ _ h => h) (Or.inl ⟨by rfl, ?_⟩) hHeld ?_ ?_
        rotate_left
        · rintro w' ⟨s0, s1, s2, s3, s4, s5, s6, s7, s8, s9, s10, s11, s12, s13, s14, s15, s16, s17⟩
          go_simp
          with_reducible rfl
        rotate_left
        · simp only [Act.put, List.setIfInBounds_toArray, List.set_cons_zero, List.set_cons_succ, i64_w, i32_w]
          rfl
        refine take_ (i := 7) (N := some 24) (v := ?_) (a' := ?_) #[true, true, true, true, true, true, true, true, false, false] rfl rfl (take_ofW HT_.out HW_.out (by kernel_rfl)) (fun _ _ _ h => h) (Or.inl ⟨by rfl, ?_⟩) hHeld ?_ ?_
        rotate_left
        · rintro w' ⟨s0, s1, s2, s3, s4, s5, s6, s7, s8, s9, s10, s11, s12, s13, s14, s15, s16, s17⟩
          go_simp
          with_reducible rfl
        rotate_left
        · simp only [Act.put, List.setIfInBounds_toArray, List.set_cons_zero, List.set_cons_succ, i64_w, i32_w]
          rfl
        refine one_ (i := 8) (N := some 25) #[true, true, true, true, true, true, true, true, true, false] rfl rfl (one_of HT_.out (by kernel_rfl)) (by decide) (fun K hK => ?_)
        refine goes_ Try.func37 (by kernel_rfl) rfl #[.agg #[.string ((rd_T84 l0 x5_1).f0), .string ((rd_T84 l0 x5_1).f1), .bool ((rd_T84 l0 x5_1).f2), .bool ((rd_T84 l0 x5_1).f3), .bool ((rd_T84 l0 x5_1).f4), .int .i64 ((rd_T84 l0 x5_1).f5), .int .i64 ((rd_T84 l0 x5_1).f6), .slice A241_7 ((rd_T84 l0 x5_1).f7).length c241_7, .slice A241_8 ((rd_T84 l0 x5_1).f8).length c241_8], .agg #[.string ((rd_T84 l1 x5_1).f0), .string ((rd_T84 l1 x5_1).f1), .bool ((rd_T84 l1 x5_1).f2), .bool ((rd_T84 l1 x5_1).f3), .bool ((rd_T84 l1 x5_1).f4), .int .i64 ((rd_T84 l1 x5_1).f5), .int .i64 ((rd_T84 l1 x5_1).f6), .slice A242_7 ((rd_T84 l1 x5_1).f7).length c242_7, .slice A242_8 ((rd_T84 l1 x5_1).f8).length c242_8]] (by rfl) rfl rfl (by (try simp only [List.map_toArray, List.map_cons, List.map_nil]); first | done | rfl | (simp only [List.length_drop, List.length_take]; rfl)) ?_
        with_reducible refine (laws_eqMethod.calls k1 ((rd_T84 l0 x5_1).f0) ((rd_T84 l0 x5_1).f1) ((rd_T84 l0 x5_1).f2) ((rd_T84 l0 x5_1).f3) ((rd_T84 l0 x5_1).f4) ((rd_T84 l0 x5_1).f5) ((rd_T84 l0 x5_1).f6) _ _ ((rd_T84 l0 x5_1).f7) _ _ ((rd_T84 l0 x5_1).f8) ((rd_T84 l1 x5_1).f0) ((rd_T84 l1 x5_1).f1) ((rd_T84 l1 x5_1).f2) ((rd_T84 l1 x5_1).f3) ((rd_T84 l1 x5_1).f4) ((rd_T84 l1 x5_1).f5) ((rd_T84 l1 x5_1).f6) _ _ ((rd_T84 l1 x5_1).f7) _ _ ((rd_T84 l1 x5_1).f8) false _ ?side1 ?side2 ?side3 ?side4 ?side5 ?side6 ?side7 ?side8 A7.out).mono ?_
        (case side1 => repeat (first | exact (Kd.C_below HR241_7.out HB.out) | (with_reducible refine Kd.C_alloc ?_ _) | (with_reducible refine Kd.C_drewN ?_ _) | (with_reducible refine Kd.C_drew ?_)))
        (case side2 => exact HC241_7.out)
        (case side3 => repeat (first | exact (Kd.C_below HR241_8.out HB.out) | (with_reducible refine Kd.C_alloc ?_ _) | (with_reducible refine Kd.C_drewN ?_ _) | (with_reducible refine Kd.C_drew ?_)))
        (case side4 => exact HC241_8.out)
        (case side5 => repeat (first | exact (Kd.C_below HR242_7.out HB.out) | (with_reducible refine Kd.C_alloc ?_ _) | (with_reducible refine Kd.C_drewN ?_ _) | (with_reducible refine Kd.C_drew ?_)))
        (case side6 => exact HC242_7.out)
        (case side7 => repeat (first | exact (Kd.C_below HR242_8.out HB.out) | (with_reducible refine Kd.C_alloc ?_ _) | (with_reducible refine Kd.C_drewN ?_ _) | (with_reducible refine Kd.C_drew ?_)))
        (case side8 => exact HC242_8.out)
        rintro e w12 ⟨rfl, hb⟩
        refine ⟨_, rfl, ?_⟩
        have n0_ := Zm (Zbt (by repeat (first | (with_reducible first | exact HB.out | apply Zba | apply Zbn | apply Zbd) | exact HB.out)) hb)
        clear HB
        have HB := n0_
        clear n0_
        (try clear hb)
        (try clear hb2)
        (try clear hk)
        (try clear hi)
        refine hK.out _ _ ⟨((HB.out.cell (Zlt _ _ hw241_0)).trans hw241_0), ((HB.out.cell (Zlt _ _ hw241_1)).trans hw241_1), ((HB.out.cell (Zlt _ _ hw241_2)).trans hw241_2), ((HB.out.cell (Zlt _ _ hw241_3)).trans hw241_3), ((HB.out.cell (Zlt _ _ hw241_4)).trans hw241_4), ((HB.out.cell (Zlt _ _ hw241_5)).trans hw241_5), ((HB.out.cell (Zlt _ _ hw241_6)).trans hw241_6), ((HB.out.cell (Zlt _ _ hw241_7)).trans hw241_7), ((HB.out.cell (Zlt _ _ hw241_8)).trans hw241_8), ((HB.out.cell (Zlt _ _ hw242_0)).trans hw242_0), ((HB.out.cell (Zlt _ _ hw242_1)).trans hw242_1), ((HB.out.cell (Zlt _ _ hw242_2)).trans hw242_2), ((HB.out.cell (Zlt _ _ hw242_3)).trans hw242_3), ((HB.out.cell (Zlt _ _ hw242_4)).trans hw242_4), ((HB.out.cell (Zlt _ _ hw242_5)).trans hw242_5), ((HB.out.cell (Zlt _ _ hw242_6)).trans hw242_6), ((HB.out.cell (Zlt _ _ hw242_7)).trans hw242_7), ((HB.out.cell (Zlt _ _ hw242_8)).trans hw242_8)⟩ (fun hHeld => ?_)
        clear hK K
        refine norm_ (a' := ?_) ?_ ?_
        rotate_left
        · show Act.put _ (some 25) _ = _
          simp only [Act.put, List.setIfInBounds_toArray, List.set_cons_zero, List.set_cons_succ, i64_w, i32_w]
          rfl
        refine pure_ (i := 9) (N := some 26) (v := ?_) (a' := ?_) #[true, true, true, true, true, true, true, true, true, true] rfl rfl (any_of HT_.out (by kernel_rfl)) (fun _ _ _ h => h) (Or.inl ⟨by rfl, ?_⟩) ?_ ?_
        rotate_left
        · intro w'
          go_simp
          with_reducible rfl
        rotate_left
        · simp only [Act.put, List.setIfInBounds_toArray, List.set_cons_zero, List.set_cons_succ, i64_w, i32_w]
          rfl
        refine done_ (done_of HT_.out (by kernel_rfl)) ?_
        try go_wp2
        go_ret
        exact ⟨by first | rfl | (simp [errW_none, errW_some] <;> rfl) | (simp [*, errW_none, errW_some] <;> rfl), by repeat (first | (with_reducible first | exact HB.out | apply Zba | apply Zbn | apply Zbd) | exact HB.out)⟩
      subst c8
      have H1 : (laws_eqMethodS.l0 k1 l0 l1 (wrap64 (x5_1 + 1))) = some r := by rw [if_pos rfl] at H; exact H
      clear H
      have H := H1
      clear H1
      have H' := Zm H
      clear H
      try go_wp2
      have n0_ := Zm (Zbd HB.out)
      clear HB
      have HB := n0_
      clear n0_
      have p241 : 0 ≤ (x5_1 : Int) := of_decide_eq_true (by first | (with_reducible assumption) | assumption)
      have q241 : x5_1 < (l0.length : Int) := of_decide_eq_true (by first | (with_reducible assumption) | assumption)
      obtain ⟨ad241, A241_7, c241_7, A241_8, c241_8, e241, hx241_0, hx241_1, hx241_2, hx241_3, hx241_4, hx241_5, hx241_6, hx241_7, hx241_8, hl241_7, hi241_7, hl241_8, hi241_8⟩ := at_T84 HR0.out x5_1 p241 q241
      have hw241_8 := hx241_8
      have hw241_7 := hx241_7
      have hw241_6 := hx241_6
      have hw241_5 := hx241_5
      have hw241_4 := hx241_4
      have hw241_3 := hx241_3
      have hw241_2 := hx241_2
      have hw241_1 := hx241_1
      have hw241_0 := hx241_0
      cases e241
      replace hx241_0 := (HB.out.cell (Zlt _ _ hx241_0)).trans hx241_0
      replace hx241_1 := (HB.out.cell (Zlt _ _ hx241_1)).trans hx241_1
      replace hx241_2 := (HB.out.cell (Zlt _ _ hx241_2)).trans hx241_2
      replace hx241_3 := (HB.out.cell (Zlt _ _ hx241_3)).trans hx241_3
      replace hx241_4 := (HB.out.cell (Zlt _ _ hx241_4)).trans hx241_4
      replace hx241_5 := (HB.out.cell (Zlt _ _ hx241_5)).trans hx241_5
      replace hx241_6 := (HB.out.cell (Zlt _ _ hx241_6)).trans hx241_6
      replace hx241_7 := (HB.out.cell (Zlt _ _ hx241_7)).trans hx241_7
      replace hx241_8 := (HB.out.cell (Zlt _ _ hx241_8)).trans hx241_8
      have HR241_7 := Zm hi241_7
      have HC241_7 := Zm hl241_7
      clear hi241_7 hl241_7
      have HR241_8 := Zm hi241_8
      have HC241_8 := Zm hl241_8
      clear hi241_8 hl241_8
      replace p241 := eq_true p241
      replace q241 := eq_true q241
      have p242 : 0 ≤ (x5_1 : Int) := of_decide_eq_true (by first | (with_reducible assumption) | assumption)
      have q242 : x5_1 < (l1.length : Int) := of_decide_eq_true (by first | (with_reducible assumption) | assumption)
      obtain ⟨ad242, A242_7, c242_7, A242_8, c242_8, e242, hx242_0, hx242_1, hx242_2, hx242_3, hx242_4, hx242_5, hx242_6, hx242_7, hx242_8, hl242_7, hi242_7, hl242_8, hi242_8⟩ := at_T84 HR1.out x5_1 p242 q242
      have hw242_8 := hx242_8
      have hw242_7 := hx242_7
      have hw242_6 := hx242_6
      have hw242_5 := hx242_5
      have hw242_4 := hx242_4
      have hw242_3 := hx242_3
      have hw242_2 := hx242_2
      have hw242_1 := hx242_1
      have hw242_0 := hx242_0
      cases e242
      replace hx242_0 := (HB.out.cell (Zlt _ _ hx242_0)).trans hx242_0
      replace hx242_1 := (HB.out.cell (Zlt _ _ hx242_1)).trans hx242_1
      replace hx242_2 := (HB.out.cell (Zlt _ _ hx242_2)).trans hx242_2
      replace hx242_3 := (HB.out.cell (Zlt _ _ hx242_3)).trans hx242_3
      replace hx242_4 := (HB.out.cell (Zlt _ _ hx242_4)).trans hx242_4
      replace hx242_5 := (HB.out.cell (Zlt _ _ hx242_5)).trans hx242_5
      replace hx242_6 := (HB.out.cell (Zlt _ _ hx242_6)).trans hx242_6
      replace hx242_7 := (HB.out.cell (Zlt _ _ hx242_7)).trans hx242_7
      replace hx242_8 := (HB.out.cell (Zlt _ _ hx242_8)).trans hx242_8
      have HR242_7 := Zm hi242_7
      have HC242_7 := Zm hl242_7
      clear hi242_7 hl242_7
      have HR242_8 := Zm hi242_8
      have HC242_8 := Zm hl242_8
      clear hi242_8 hl242_8
      replace p242 := eq_true p242
      replace q242 := eq_true q242
      refine start_ (n := 10) (S := fun w' => w'.cell? (ad241.add ((x5_1).toNat * 9)) = some (.string ((rd_T84 l0 x5_1).f0)) ∧ w'.cell? ⟨(ad241.add ((x5_1).toNat * 9)).block, (ad241.add ((x5_1).toNat * 9)).off + 1, none⟩ = some (.string ((rd_T84 l0 x5_1).f1)) ∧ w'.cell? ⟨(ad241.add ((x5_1).toNat * 9)).block, (ad241.add ((x5_1).toNat * 9)).off + 2, none⟩ = some (.bool ((rd_T84 l0 x5_1).f2)) ∧ w'.cell? ⟨(ad241.add ((x5_1).toNat * 9)).block, (ad241.add ((x5_1).toNat * 9)).off + 3, none⟩ = some (.bool ((rd_T84 l0 x5_1).f3)) ∧ w'.cell? ⟨(ad241.add ((x5_1).toNat * 9)).block, (ad241.add ((x5_1).toNat * 9)).off + 4, none⟩ = some (.bool ((rd_T84 l0 x5_1).f4)) ∧ w'.cell? ⟨(ad241.add ((x5_1).toNat * 9)).block, (ad241.add ((x5_1).toNat * 9)).off + 5, none⟩ = some (.int .i64 ((rd_T84 l0 x5_1).f5)) ∧ w'.cell? ⟨(ad241.add ((x5_1).toNat * 9)).block, (ad241.add ((x5_1).toNat * 9)).off + 6, none⟩ = some (.int .i64 ((rd_T84 l0 x5_1).f6)) ∧ w'.cell? ⟨(ad241.add ((x5_1).toNat * 9)).block, (ad241.add ((x5_1).toNat * 9)).off + 7, none⟩ = some (.slice A241_7 ((rd_T84 l0 x5_1).f7).length c241_7) ∧ w'.cell? ⟨(ad241.add ((x5_1).toNat * 9)).block, (ad241.add ((x5_1).toNat * 9)).off + 8, none⟩ = some (.slice A241_8 ((rd_T84 l0 x5_1).f8).length c241_8) ∧ w'.cell? (ad242.add ((x5_1).toNat * 9)) = some (.string ((rd_T84 l1 x5_1).f0)) ∧ w'.cell? ⟨(ad242.add ((x5_1).toNat * 9)).block, (ad242.add ((x5_1).toNat * 9)).off + 1, none⟩ = some (.string ((rd_T84 l1 x5_1).f1)) ∧ w'.cell? ⟨(ad242.add ((x5_1).toNat * 9)).block, (ad242.add ((x5_1).toNat * 9)).off + 2, none⟩ = some (.bool ((rd_T84 l1 x5_1).f2)) ∧ w'.cell? ⟨(ad242.add ((x5_1).toNat * 9)).block, (ad242.add ((x5_1).toNat * 9)).off + 3, none⟩ = some (.bool ((rd_T84 l1 x5_1).f3)) ∧ w'.cell? ⟨(ad242.add ((x5_1).toNat * 9)).block, (ad242.add ((x5_1).toNat * 9)).off + 4, none⟩ = some (.bool ((rd_T84 l1 x5_1).f4)) ∧ w'.cell? ⟨(ad242.add ((x5_1).toNat * 9)).block, (ad242.add ((x5_1).toNat * 9)).off + 5, none⟩ = some (.int .i64 ((rd_T84 l1 x5_1).f5)) ∧ w'.cell? ⟨(ad242.add ((x5_1).toNat * 9)).block, (ad242.add ((x5_1).toNat * 9)).off + 6, none⟩ = some (.int .i64 ((rd_T84 l1 x5_1).f6)) ∧ w'.cell? ⟨(ad242.add ((x5_1).toNat * 9)).block, (ad242.add ((x5_1).toNat * 9)).off + 7, none⟩ = some (.slice A242_7 ((rd_T84 l1 x5_1).f7).length c242_7) ∧ w'.cell? ⟨(ad242.add ((x5_1).toNat * 9)).block, (ad242.add ((x5_1).toNat * 9)).off + 8, none⟩ = some (.slice A242_8 ((rd_T84 l1 x5_1).f8).length c242_8)) (ds := []) #[false, false, false, false, false, false, false, false, false, false] (by kernel_rfl) rfl rfl ⟨((HB.out.cell (Zlt _ _ hw241_0)).trans hw241_0), ((HB.out.cell (Zlt _ _ hw241_1)).trans hw241_1), ((HB.out.cell (Zlt _ _ hw241_2)).trans hw241_2), ((HB.out.cell (Zlt _ _ hw241_3)).trans hw241_3), ((HB.out.cell (Zlt _ _ hw241_4)).trans hw241_4), ((HB.out.cell (Zlt _ _ hw241_5)).trans hw241_5), ((HB.out.cell (Zlt _ _ hw241_6)).trans hw241_6), ((HB.out.cell (Zlt _ _ hw241_7)).trans hw241_7), ((HB.out.cell (Zlt _ _ hw241_8)).trans hw241_8), ((HB.out.cell (Zlt _ _ hw242_0)).trans hw242_0), ((HB.out.cell (Zlt _ _ hw242_1)).trans hw242_1), ((HB.out.cell (Zlt _ _ hw242_2)).trans hw242_2), ((HB.out.cell (Zlt _ _ hw242_3)).trans hw242_3), ((HB.out.cell (Zlt _ _ hw242_4)).trans hw242_4), ((HB.out.cell (Zlt _ _ hw242_5)).trans hw242_5), ((HB.out.cell (Zlt _ _ hw242_6)).trans hw242_6), ((HB.out.cell (Zlt _ _ hw242_7)).trans hw242_7), ((HB.out.cell (Zlt _ _ hw242_8)).trans hw242_8)⟩ (fun hHeld => ?_); refine with_tabW laws_eqMethodS.tab6 laws_eqMethodS.bits6 (fun HT_ HW_ => ?_)
      generalize wr.drew = w9 at HB HR241_7 HR241_8 HR242_7 HR242_8 hx241_0 hx241_1 hx241_2 hx241_3 hx241_4 hx241_5 hx241_6 hx241_7 hx241_8 hx242_0 hx242_1 hx242_2 hx242_3 hx242_4 hx242_5 hx242_6 hx242_7 hx242_8 hHeld ⊢
      refine pure_ (i := 0) (N := some 17) (v := ?_) (a' := ?_) #[true, false, false, false, false, false, false, false, false, false] rfl rfl (any_of HT_.out (by kernel_rfl)) (fun _ _ _ h => h) (Or.inl ⟨by rfl, ?_⟩) ?_ ?_
      rotate_left
      · intro w'
        go_simp
        with_reducible rfl
      rotate_left
      · simp only [Act.put, List.setIfInBounds_toArray, List.set_cons_zero, List.set_cons_succ, i64_w, i32_w]
        rfl
      refine pure_ (i := 1) (N := some 18) (v := ?_) (a' := ?_) #[true, true, false, false, false, false, false, false, false, false] rfl rfl (any_of HT_.out (by kernel_rfl)) (fun _ _ _ h => h) (Or.inl ⟨by rfl, ?_⟩) ?_ ?_
      rotate_left
      · intro w'
        go_simp
        with_reducible rfl
      rotate_left
      · simp only [Act.put, List.setIfInBounds_toArray, List.set_cons_zero, List.set_cons_succ, i64_w, i32_w]
        rfl
      refine pure_ (i := 2) (N := some 19) (v := ?_) (a' := ?_) #[true, true, true, false, false, false, false, false, false, false] rfl rfl (any_of HT_.out (by kernel_rfl)) (fun _ _ _ h => h) (Or.inl ⟨by rfl, ?_⟩) ?_ ?_
      rotate_left
      · intro w'
        go_simp
        with_reducible rfl
      rotate_left
      · simp only [Act.put, List.setIfInBounds_toArray, List.set_cons_zero, List.set_cons_succ, i64_w, i32_w]
        rfl
      refine pure_ (i := 4) (N := some 21) (v := ?_) (a' := ?_) #[true, true, true, false, true, false, false, false, false, false] rfl rfl (any_of HT_.out (by kernel_rfl)) (fun _ _ _ h => h) (Or.inl ⟨by rfl, ?_⟩) ?_ ?_
      rotate_left
      · intro w'
        go_simp
        with_reducible rfl
      rotate_left
      · simp only [Act.put, List.setIfInBounds_toArray, List.set_cons_zero, List.set_cons_succ, i64_w, i32_w]
        rfl
      refine pure_ (i := 5) (N := some 22) (v := ?_) (a' := ?_) #[true, true, true, false, true, true, false, false, false, false] rfl rfl (any_of HT_.out (by kernel_rfl)) (fun _ _ _ h => h) (Or.inl ⟨by rfl, ?_⟩) ?_ ?_
      rotate_left
      · intro w'
        go_simp
        with_reducible rfl
      rotate_left
      · simp only [Act.put, List.setIfInBounds_toArray, List.set_cons_zero, List.set_cons_succ, i64_w, i32_w]
        rfl
      refine pure_ (i := 6) (N := some 23) (v := ?_) (a' := ?_) #[true, true, true, false, true, true, true, false, false, false] rfl rfl (any_of HT_.out (by kernel_rfl)) (fun _ _ _ h => h) (Or.inl ⟨by rfl, ?_⟩) ?_ ?_
      rotate_left
      · intro w'
        go_simp
        with_reducible rfl
      rotate_left
      · simp only [Act.put, List.setIfInBounds_toArray, List.set_cons_zero, List.set_cons_succ, i64_w, i32_w]
        rfl
      refine take_ (i := 3) (N := some 20) (v := ?_) (a' := ?_) #[true, true, true, true, true, true, true, false, false, false] rfl rfl (take_ofW HT_.out HW_.out (by kernel_rfl)) (fun _ _ _ h => h) (Or.inl ⟨by rfl, ?_⟩) hHeld ?_ ?_
      rotate_left
      · rintro w' ⟨s0, s1, s2, s3, s4, s5, s6, s7, s8, s9, s10, s11, s12, s13, s14, s15, s16, s17⟩
        go_simp
        with_reducible rfl
      rotate_left
      · simp only [Act.put, List.setIfInBounds_toArray, List.set_cons_zero, List.set_cons_succ, i64_w, i32_w]
        rfl
      refine take_ (i := 7) (N := some 24) (v := ?_) (a' := ?_) #[true, true, true, true, true, true, true, true, false, false] rfl rfl (take_ofW HT_.out HW_.out (by kernel_rfl)) (fun _ _ _ h => h) (Or.inl ⟨by rfl, ?_⟩) hHeld ?_ ?_
      rotate_left
      · rintro w' ⟨s0, s1, s2, s3, s4, s5, s6, s7, s8, s9, s10, s11, s12, s13, s14, s15, s16, s17⟩
        go_simp
        with_reducible rfl
      rotate_left
      · simp only [Act.put, List.setIfInBounds_toArray, List.set_cons_zero, List.set_cons_succ, i64_w, i32_w]
        rfl
      refine one_ (i := 8) (N := some 25) #[true, true, true, true, true, true, true, true, true, false] rfl rfl (one_of HT_.out (by kernel_rfl)) (by decide) (fun K hK => ?_)
      refine goes_ Try.func37 (by kernel_rfl) rfl #[.agg #[.string ((rd_T84 l0 x5_1).f0), .string ((rd_T84 l0 x5_1).f1), .bool ((rd_T84 l0 x5_1).f2), .bool ((rd_T84 l0 x5_1).f3), .bool ((rd_T84 l0 x5_1).f4), .int .i64 ((rd_T84 l0 x5_1).f5), .int .i64 ((rd_T84 l0 x5_1).f6), .slice A241_7 ((rd_T84 l0 x5_1).f7).length c241_7, .slice A241_8 ((rd_T84 l0 x5_1).f8).length c241_8], .agg #[.string ((rd_T84 l1 x5_1).f0), .string ((rd_T84 l1 x5_1).f1), .bool ((rd_T84 l1 x5_1).f2), .bool ((rd_T84 l1 x5_1).f3), .bool ((rd_T84 l1 x5_1).f4), .int .i64 ((rd_T84 l1 x5_1).f5), .int .i64 ((rd_T84 l1 x5_1).f6), .slice A242_7 ((rd_T84 l1 x5_1).f7).length c242_7, .slice A242_8 ((rd_T84 l1 x5_1).f8).length c242_8]] (by rfl) rfl rfl (by (try simp only [List.map_toArray, List.map_cons, List.map_nil]); first | done | rfl | (simp only [List.length_drop, List.length_take]; rfl)) ?_
      with_reducible refine (laws_eqMethod.calls k1 ((rd_T84 l0 x5_1).f0) ((rd_T84 l0 x5_1).f1) ((rd_T84 l0 x5_1).f2) ((rd_T84 l0 x5_1).f3) ((rd_T84 l0 x5_1).f4) ((rd_T84 l0 x5_1).f5) ((rd_T84 l0 x5_1).f6) _ _ ((rd_T84 l0 x5_1).f7) _ _ ((rd_T84 l0 x5_1).f8) ((rd_T84 l1 x5_1).f0) ((rd_T84 l1 x5_1).f1) ((rd_T84 l1 x5_1).f2) ((rd_T84 l1 x5_1).f3) ((rd_T84 l1 x5_1).f4) ((rd_T84 l1 x5_1).f5) ((rd_T84 l1 x5_1).f6) _ _ ((rd_T84 l1 x5_1).f7) _ _ ((rd_T84 l1 x5_1).f8) true _ ?side1 ?side2 ?side3 ?side4 ?side5 ?side6 ?side7 ?side8 A7.out).mono ?_
      (case side1 => repeat (first | exact (Kd.C_below HR241_7.out HB.out) | (with_reducible refine Kd.C_alloc ?_ _) | (with_reducible refine Kd.C_drewN ?_ _) | (with_reducible refine Kd.C_drew ?_)))
      (case side2 => exact HC241_7.out)
      (case side3 => repeat (first | exact (Kd.C_below HR241_8.out HB.out) | (with_reducible refine Kd.C_alloc ?_ _) | (with_reducible refine Kd.C_drewN ?_ _) | (with_reducible refine Kd.C_drew ?_)))
      (case side4 => exact HC241_8.out)
      (case side5 => repeat (first | exact (Kd.C_below HR242_7.out HB.out) | (with_reducible refine Kd.C_alloc ?_ _) | (with_reducible refine Kd.C_drewN ?_ _) | (with_reducible refine Kd.C_drew ?_)))
      (case side6 => exact HC242_7.out)
      (case side7 => repeat (first | exact (Kd.C_below HR242_8.out HB.out) | (with_reducible refine Kd.C_alloc ?_ _) | (with_reducible refine Kd.C_drewN ?_ _) | (with_reducible refine Kd.C_drew ?_)))
      (case side8 => exact HC242_8.out)
      rintro e w10 ⟨rfl, hb⟩
      refine ⟨_, rfl, ?_⟩
      have n0_ := Zm (Zbt (by repeat (first | (with_reducible first | exact HB.out | apply Zba | apply Zbn | apply Zbd) | exact HB.out)) hb)
      clear HB
      have HB := n0_
      clear n0_
      (try clear hb)
      (try clear hb2)
      (try clear hk)
      (try clear hi)
      refine hK.out _ _ ⟨((HB.out.cell (Zlt _ _ hw241_0)).trans hw241_0), ((HB.out.cell (Zlt _ _ hw241_1)).trans hw241_1), ((HB.out.cell (Zlt _ _ hw241_2)).trans hw241_2), ((HB.out.cell (Zlt _ _ hw241_3)).trans hw241_3), ((HB.out.cell (Zlt _ _ hw241_4)).trans hw241_4), ((HB.out.cell (Zlt _ _ hw241_5)).trans hw241_5), ((HB.out.cell (Zlt _ _ hw241_6)).trans hw241_6), ((HB.out.cell (Zlt _ _ hw241_7)).trans hw241_7), ((HB.out.cell (Zlt _ _ hw241_8)).trans hw241_8), ((HB.out.cell (Zlt _ _ hw242_0)).trans hw242_0), ((HB.out.cell (Zlt _ _ hw242_1)).trans hw242_1), ((HB.out.cell (Zlt _ _ hw242_2)).trans hw242_2), ((HB.out.cell (Zlt _ _ hw242_3)).trans hw242_3), ((HB.out.cell (Zlt _ _ hw242_4)).trans hw242_4), ((HB.out.cell (Zlt _ _ hw242_5)).trans hw242_5), ((HB.out.cell (Zlt _ _ hw242_6)).trans hw242_6), ((HB.out.cell (Zlt _ _ hw242_7)).trans hw242_7), ((HB.out.cell (Zlt _ _ hw242_8)).trans hw242_8)⟩ (fun hHeld => ?_)
      clear hK K
      refine norm_ (a' := ?_) ?_ ?_
      rotate_left
      · show Act.put _ (some 25) _ = _
        simp only [Act.put, List.setIfInBounds_toArray, List.set_cons_zero, List.set_cons_succ, i64_w, i32_w]
        rfl
      refine pure_ (i := 9) (N := some 26) (v := ?_) (a' := ?_) #[true, true, true, true, true, true, true, true, true, true] rfl rfl (any_of HT_.out (by kernel_rfl)) (fun _ _ _ h => h) (Or.inl ⟨by rfl, ?_⟩) ?_ ?_
      rotate_left
      · intro w'
        go_simp
        with_reducible rfl
      rotate_left
      · simp only [Act.put, List.setIfInBounds_toArray, List.set_cons_zero, List.set_cons_succ, i64_w, i32_w]
        rfl
      refine done_ (done_of HT_.out (by kernel_rfl)) ?_
      try go_wp2
      go_roundg k1
      case measure => have := HK1.out; omega
      case rel => exact ⟨(wrap64 (x5_1 + 1)), (by first | rfl | (simp; done) | (simp [*]; done)), H', ⟨by have := HK1.out; omega⟩, ⟨by repeat (first | (with_reducible first | exact HB.out | apply Zba | apply Zbn | apply Zbd) | exact HB.out)⟩⟩
/-! ### laws_eqClass: function 24 -/
def laws_eqClass.f (k : Nat) (a0_0 : ByteArray) (a0_1 : ByteArray) (a0_2 : Bool) (a0_3 : Bool) (l0_4 : List (S123)) (l0_5 : List (S84)) (a1_0 : ByteArray) (a1_1 : ByteArray) (a1_2 : Bool) (a1_3 : Bool) (l1_4 : List (S123)) (l1_5 : List (S84)) : Option (Bool) := if a0_0.toList = a1_0.toList then (if a0_1.toList = a1_1.toList then (if (a0_2 != a1_2) = true then (some false) else (if (a0_3 != a1_3) = true then (some false) else ((laws_eqFieldS.f k l0_4 l1_4).bind fun t246 => (if t246 = true then ((laws_eqMethodS.f k l0_5 l1_5).bind fun t247 => (if t247 = true then (some true) else (some false))) else (some false))))) else (some false)) else (some false)
theorem laws_eqClass.mono : ∀ a0 a1 a2 a3 a4 a5 a6 a7 a8 a9 a10 a11 k, LeO (laws_eqClass.f k a0 a1 a2 a3 a4 a5 a6 a7 a8 a9 a10 a11) (laws_eqClass.f (k + 1) a0 a1 a2 a3 a4 a5 a6 a7 a8 a9 a10 a11) := by
  intro a0 a1 a2 a3 a4 a5 a6 a7 a8 a9 a10 a11 k
  unfold laws_eqClass.f
  repeat' first
      | (with_reducible exact laws_eqFieldS.mono _ _ _)
      | (with_reducible exact laws_eqMethodS.mono _ _ _)
      | (with_reducible exact LeO.refl _)
      | (with_reducible exact LeO.none _)
      | (with_reducible refine LeO.ite ?_ ?_)
      | (with_reducible refine LeO.bind ?_ (fun _ => ?_))
      | exact laws_eqFieldS.mono _ _ _
      | exact laws_eqMethodS.mono _ _ _
      | exact LeO.none _
      | refine LeO.ite ?_ ?_
      | refine LeO.bind ?_ (fun _ => ?_)
set_option maxHeartbeats 8000000 in
set_option maxRecDepth 100000 in
theorem laws_eqClass.calls (k : Nat) (a0_0 : ByteArray) (a0_1 : ByteArray) (a0_2 : Bool) (a0_3 : Bool) (A0_4 : Option Addr) (c0_4 : Nat) (l0_4 : List (S123)) (A0_5 : Option Addr) (c0_5 : Nat) (l0_5 : List (S84)) (a1_0 : ByteArray) (a1_1 : ByteArray) (a1_2 : Bool) (a1_3 : Bool) (A1_4 : Option Addr) (c1_4 : Nat) (l1_4 : List (S123)) (A1_5 : Option Addr) (c1_5 : Nat) (l1_5 : List (S84)) (r : Bool) (w : World) (hr0_4 : Kd.C k123 w A0_4 l0_4.length l0_4) (hc0_4 : l0_4.length ≤ c0_4) (hr0_5 : Kd.C k84 w A0_5 l0_5.length l0_5) (hc0_5 : l0_5.length ≤ c0_5) (hr1_4 : Kd.C k123 w A1_4 l1_4.length l1_4) (hc1_4 : l1_4.length ≤ c1_4) (hr1_5 : Kd.C k84 w A1_5 l1_5.length l1_5) (hc1_5 : l1_5.length ≤ c1_5) (h : laws_eqClass.f k a0_0 a0_1 a0_2 a0_3 l0_4 l0_5 a1_0 a1_1 a1_2 a1_3 l1_4 l1_5 = some r) :
    Calls Try.prog 24 #[.agg #[.string a0_0, .string a0_1, .bool a0_2, .bool a0_3, .slice A0_4 l0_4.length c0_4, .slice A0_5 l0_5.length c0_5], .agg #[.string a1_0, .string a1_1, .bool a1_2, .bool a1_3, .slice A1_4 l1_4.length c1_4, .slice A1_5 l1_5.length c1_5]] w fun e w' => e = .returned (.bool r) ∧ Below w.heap.size w w' := by
  have hu51 := Try.underlying51
  have HR0_4 := Zm hr0_4
  have HC0_4 := Zm hc0_4
  clear hr0_4 hc0_4
  have HR0_5 := Zm hr0_5
  have HC0_5 := Zm hc0_5
  clear hr0_5 hc0_5
  have HR1_4 := Zm hr1_4
  have HC1_4 := Zm hc1_4
  clear hr1_4 hc1_4
  have HR1_5 := Zm hr1_5
  have HC1_5 := Zm hc1_5
  clear hr1_5 hc1_5
  have HB := Zm (Below.refl w.heap.size w)
  have H : (if a0_0.toList = a1_0.toList then (if a0_1.toList = a1_1.toList then (if (a0_2 != a1_2) = true then (some false) else (if (a0_3 != a1_3) = true then (some false) else ((laws_eqFieldS.f k l0_4 l1_4).bind fun t246 => (if t246 = true then ((laws_eqMethodS.f k l0_5 l1_5).bind fun t247 => (if t247 = true then (some true) else (some false))) else (some false))))) else (some false)) else (some false)) = some r := h
  clear h
  by_cases c3 : a0_0.toList = a1_0.toList
  rotate_left
  · rw [if_neg c3] at H
    have c3b0 : (a0_0.toList == a1_0.toList) = false := beq_eq_false_iff_ne.mpr c3
    have c3b1 : (a0_0.toList != a1_0.toList) = true := bne_iff_ne.mpr c3
    obtain rfl := Option.some.inj H
    go_enter Try.func24, Try.ntmps24
    go_wp2_with (first | ((with_reducible refine gate_dst (N := 2) rfl ?_); refine box_event ?hg (N := 2) ?hd (cs := #[.string a0_0, .string a0_1, .bool a0_2, .bool a0_3, .slice A0_4 l0_4.length c0_4, .slice A0_5 l0_5.length c0_5]) (t := 51) ?hr ?_; (case hd => rfl); (case hg => rfl); (case hr => first | (go_simp; done) | (go_simp; rfl)); intro gb244 hg w50 hbox hb; have n0_ := Zm (Zbt (by repeat (first | (with_reducible first | exact HB.out | apply Zba | apply Zbn | apply Zbd) | exact HB.out)) hb); have n1_ := Zm (hbox); have n2_ := Zm ((by rw [hg]; exact (Zbz (by repeat (first | (with_reducible first | exact HB.out | apply Zba | apply Zbn | apply Zbd) | exact HB.out))) : w.heap.size ≤ gb244)); have n3_ := Zm ((by rw [hg]; exact (Zbz (by repeat (first | (with_reducible first | exact HB.out | apply Zba | apply Zbn | apply Zbd) | exact HB.out))) : w.heap.size ≤ gb244)); clear HB; have HB := n0_; have BK244 := n1_; have GW244 := n2_; have GE244 := n3_; clear n0_ n1_ n2_ n3_; clear hb hbox hg) | ((with_reducible refine gate_dst (N := 3) rfl ?_); refine box_event ?hg (N := 3) ?hd (cs := #[.string a1_0, .string a1_1, .bool a1_2, .bool a1_3, .slice A1_4 l1_4.length c1_4, .slice A1_5 l1_5.length c1_5]) (t := 51) ?hr ?_; (case hd => rfl); (case hg => rfl); (case hr => first | (go_simp; done) | (go_simp; rfl)); intro gb245 hg w51 hbox hb; have n0_ := Zm (Zkb (g := gb244) (o := .cells #[.string a0_0, .string a0_1, .bool a0_2, .bool a0_3, .slice A0_4 l0_4.length c0_4, .slice A0_5 l0_5.length c0_5] 51 (0, 0)) (by (with_reducible repeat (first | refine Zkn ?_ _ | refine Zkd ?_ | refine Zka ?_ _)); exact BK244.out) hb); have n1_ := Zm (Zbt (by repeat (first | (with_reducible first | exact HB.out | apply Zba | apply Zbn | apply Zbd | refine Zbs ?_ GE244.out) | exact HB.out)) hb); have n2_ := Zm (hbox); have n3_ := Zm ((by rw [hg]; exact (Zbz (by repeat (first | (with_reducible first | exact HB.out | apply Zba | apply Zbn | apply Zbd | refine Zbs ?_ GE244.out) | exact HB.out))) : w.heap.size ≤ gb245)); have n4_ := Zm ((by rw [hg]; exact (Zbz (by repeat (first | (with_reducible first | exact HB.out | apply Zba | apply Zbn | apply Zbd | refine Zbs ?_ GE244.out) | exact HB.out))) : w.heap.size ≤ gb245)); have n5_ := Zm ((by rw [hg]; exact Nat.ne_of_lt (blk_lt (g := gb244) (o := .cells #[.string a0_0, .string a0_1, .bool a0_2, .bool a0_3, .slice A0_4 l0_4.length c0_4, .slice A0_5 l0_5.length c0_5] 51 (0, 0)) (by (with_reducible repeat (first | refine Zkn ?_ _ | refine Zkd ?_ | refine Zka ?_ _)); exact BK244.out)) : gb244 ≠ gb245)); have n6_ := Zm ((by rw [hg]; exact Nat.ne_of_gt (blk_lt (g := gb244) (o := .cells #[.string a0_0, .string a0_1, .bool a0_2, .bool a0_3, .slice A0_4 l0_4.length c0_4, .slice A0_5 l0_5.length c0_5] 51 (0, 0)) (by (with_reducible repeat (first | refine Zkn ?_ _ | refine Zkd ?_ | refine Zka ?_ _)); exact BK244.out)) : gb245 ≠ gb244)); clear BK244; clear HB; have BK244 := n0_; have HB := n1_; have BK245 := n2_; have GW245 := n3_; have GE245 := n4_; have NB244_245 := n5_; have NB245_244 := n6_; clear n0_ n1_ n2_ n3_ n4_ n5_ n6_; clear hb hbox hg; have hnb52 := NB244_245.out; have hnc52 := NB245_244.out; have hcz53_0 : w51.cell? ⟨gb244, 0, none⟩ = some (.string a0_0) := (Zkc BK244.out 0).trans rfl; have hcz53_1 : w51.cell? ⟨gb244, 1, none⟩ = some (.string a0_1) := (Zkc BK244.out 1).trans rfl; have hcz53_2 : w51.cell? ⟨gb244, 2, none⟩ = some (.bool a0_2) := (Zkc BK244.out 2).trans rfl; have hcz53_3 : w51.cell? ⟨gb244, 3, none⟩ = some (.bool a0_3) := (Zkc BK244.out 3).trans rfl; have hcz53_4 : w51.cell? ⟨gb244, 4, none⟩ = some (.slice A0_4 l0_4.length c0_4) := (Zkc BK244.out 4).trans rfl; have hcz53_5 : w51.cell? ⟨gb244, 5, none⟩ = some (.slice A0_5 l0_5.length c0_5) := (Zkc BK244.out 5).trans rfl; have hcz54_0 : w51.cell? ⟨gb245, 0, none⟩ = some (.string a1_0) := (Zkc BK245.out 0).trans rfl; have hcz54_1 : w51.cell? ⟨gb245, 1, none⟩ = some (.string a1_1) := (Zkc BK245.out 1).trans rfl; have hcz54_2 : w51.cell? ⟨gb245, 2, none⟩ = some (.bool a1_2) := (Zkc BK245.out 2).trans rfl; have hcz54_3 : w51.cell? ⟨gb245, 3, none⟩ = some (.bool a1_3) := (Zkc BK245.out 3).trans rfl; have hcz54_4 : w51.cell? ⟨gb245, 4, none⟩ = some (.slice A1_4 l1_4.length c1_4) := (Zkc BK245.out 4).trans rfl; have hcz54_5 : w51.cell? ⟨gb245, 5, none⟩ = some (.slice A1_5 l1_5.length c1_5) := (Zkc BK245.out 5).trans rfl; have hfz54_5 := Zkf BK245.out 5))
    go_ret
    exact ⟨by first | rfl | (simp [errW_none, errW_some] <;> rfl) | (simp [*, errW_none, errW_some] <;> rfl), by repeat (first | (with_reducible first | exact HB.out | apply Zba | apply Zbn | apply Zbd | refine Zbs ?_ GE244.out | refine Zbs ?_ GE245.out) | exact HB.out)⟩

  rw [if_pos c3] at H
  have c3b0 : (a0_0.toList == a1_0.toList) = true := beq_iff_eq.mpr c3
  have c3b1 : (a0_0.toList != a1_0.toList) = false := bne_eq_false_iff_eq.mpr c3
  clear c3
  by_cases c4 : a0_1.toList = a1_1.toList
  rotate_left
  · rw [if_neg c4] at H
    have c4b0 : (a0_1.toList == a1_1.toList) = false := beq_eq_false_iff_ne.mpr c4
    have c4b1 : (a0_1.toList != a1_1.toList) = true := bne_iff_ne.mpr c4
    obtain rfl := Option.some.inj H
    go_enter Try.func24, Try.ntmps24
    go_wp2_with (first | ((with_reducible refine gate_dst (N := 2) rfl ?_); refine box_event ?hg (N := 2) ?hd (cs := #[.string a0_0, .string a0_1, .bool a0_2, .bool a0_3, .slice A0_4 l0_4.length c0_4, .slice A0_5 l0_5.length c0_5]) (t := 51) ?hr ?_; (case hd => rfl); (case hg => rfl); (case hr => first | (go_simp; done) | (go_simp; rfl)); intro gb244 hg w45 hbox hb; have n0_ := Zm (Zbt (by repeat (first | (with_reducible first | exact HB.out | apply Zba | apply Zbn | apply Zbd) | exact HB.out)) hb); have n1_ := Zm (hbox); have n2_ := Zm ((by rw [hg]; exact (Zbz (by repeat (first | (with_reducible first | exact HB.out | apply Zba | apply Zbn | apply Zbd) | exact HB.out))) : w.heap.size ≤ gb244)); have n3_ := Zm ((by rw [hg]; exact (Zbz (by repeat (first | (with_reducible first | exact HB.out | apply Zba | apply Zbn | apply Zbd) | exact HB.out))) : w.heap.size ≤ gb244)); clear HB; have HB := n0_; have BK244 := n1_; have GW244 := n2_; have GE244 := n3_; clear n0_ n1_ n2_ n3_; clear hb hbox hg) | ((with_reducible refine gate_dst (N := 3) rfl ?_); refine box_event ?hg (N := 3) ?hd (cs := #[.string a1_0, .string a1_1, .bool a1_2, .bool a1_3, .slice A1_4 l1_4.length c1_4, .slice A1_5 l1_5.length c1_5]) (t := 51) ?hr ?_; (case hd => rfl); (case hg => rfl); (case hr => first | (go_simp; done) | (go_simp; rfl)); intro gb245 hg w46 hbox hb; have n0_ := Zm (Zkb (g := gb244) (o := .cells #[.string a0_0, .string a0_1, .bool a0_2, .bool a0_3, .slice A0_4 l0_4.length c0_4, .slice A0_5 l0_5.length c0_5] 51 (0, 0)) (by (with_reducible repeat (first | refine Zkn ?_ _ | refine Zkd ?_ | refine Zka ?_ _)); exact BK244.out) hb); have n1_ := Zm (Zbt (by repeat (first | (with_reducible first | exact HB.out | apply Zba | apply Zbn | apply Zbd | refine Zbs ?_ GE244.out) | exact HB.out)) hb); have n2_ := Zm (hbox); have n3_ := Zm ((by rw [hg]; exact (Zbz (by repeat (first | (with_reducible first | exact HB.out | apply Zba | apply Zbn | apply Zbd | refine Zbs ?_ GE244.out) | exact HB.out))) : w.heap.size ≤ gb245)); have n4_ := Zm ((by rw [hg]; exact (Zbz (by repeat (first | (with_reducible first | exact HB.out | apply Zba | apply Zbn | apply Zbd | refine Zbs ?_ GE244.out) | exact HB.out))) : w.heap.size ≤ gb245)); have n5_ := Zm ((by rw [hg]; exact Nat.ne_of_lt (blk_lt (g := gb244) (o := .cells #[.string a0_0, .string a0_1, .bool a0_2, .bool a0_3, .slice A0_4 l0_4.length c0_4, .slice A0_5 l0_5.length c0_5] 51 (0, 0)) (by (with_reducible repeat (first | refine Zkn ?_ _ | refine Zkd ?_ | refine Zka ?_ _)); exact BK244.out)) : gb244 ≠ gb245)); have n6_ := Zm ((by rw [hg]; exact Nat.ne_of_gt (blk_lt (g := gb244) (o := .cells #[.string a0_0, .string a0_1, .bool a0_2, .bool a0_3, .slice A0_4 l0_4.length c0_4, .slice A0_5 l0_5.length c0_5] 51 (0, 0)) (by (with_reducible repeat (first | refine Zkn ?_ _ | refine Zkd ?_ | refine Zka ?_ _)); exact BK244.out)) : gb245 ≠ gb244)); clear BK244; clear HB; have BK244 := n0_; have HB := n1_; have BK245 := n2_; have GW245 := n3_; have GE245 := n4_; have NB244_245 := n5_; have NB245_244 := n6_; clear n0_ n1_ n2_ n3_ n4_ n5_ n6_; clear hb hbox hg; have hnb47 := NB244_245.out; have hnc47 := NB245_244.out; have hcz48_0 : w46.cell? ⟨gb244, 0, none⟩ = some (.string a0_0) := (Zkc BK244.out 0).trans rfl; have hcz48_1 : w46.cell? ⟨gb244, 1, none⟩ = some (.string a0_1) := (Zkc BK244.out 1).trans rfl; have hcz48_2 : w46.cell? ⟨gb244, 2, none⟩ = some (.bool a0_2) := (Zkc BK244.out 2).trans rfl; have hcz48_3 : w46.cell? ⟨gb244, 3, none⟩ = some (.bool a0_3) := (Zkc BK244.out 3).trans rfl; have hcz48_4 : w46.cell? ⟨gb244, 4, none⟩ = some (.slice A0_4 l0_4.length c0_4) := (Zkc BK244.out 4).trans rfl; have hcz48_5 : w46.cell? ⟨gb244, 5, none⟩ = some (.slice A0_5 l0_5.length c0_5) := (Zkc BK244.out 5).trans rfl; have hcz49_0 : w46.cell? ⟨gb245, 0, none⟩ = some (.string a1_0) := (Zkc BK245.out 0).trans rfl; have hcz49_1 : w46.cell? ⟨gb245, 1, none⟩ = some (.string a1_1) := (Zkc BK245.out 1).trans rfl; have hcz49_2 : w46.cell? ⟨gb245, 2, none⟩ = some (.bool a1_2) := (Zkc BK245.out 2).trans rfl; have hcz49_3 : w46.cell? ⟨gb245, 3, none⟩ = some (.bool a1_3) := (Zkc BK245.out 3).trans rfl; have hcz49_4 : w46.cell? ⟨gb245, 4, none⟩ = some (.slice A1_4 l1_4.length c1_4) := (Zkc BK245.out 4).trans rfl; have hcz49_5 : w46.cell? ⟨gb245, 5, none⟩ = some (.slice A1_5 l1_5.length c1_5) := (Zkc BK245.out 5).trans rfl; have hfz49_5 := Zkf BK245.out 5))
    go_ret
    exact ⟨by first | rfl | (simp [errW_none, errW_some] <;> rfl) | (simp [*, errW_none, errW_some] <;> rfl), by repeat (first | (with_reducible first | exact HB.out | apply Zba | apply Zbn | apply Zbd | refine Zbs ?_ GE244.out | refine Zbs ?_ GE245.out) | exact HB.out)⟩
  rw [if_pos c4] at H
  have c4b0 : (a0_1.toList == a1_1.toList) = true := beq_iff_eq.mpr c4
  have c4b1 : (a0_1.toList != a1_1.toList) = false := bne_eq_false_iff_eq.mpr c4
  clear c4
  by_cases c5 : (a0_2 != a1_2) = true
  rotate_left
  · rw [if_neg c5] at H
    have c5b0 : (a0_2 != a1_2) = false := by simpa using c5
    (try (have c5b1 : decide (a0_2 = a1_2) = true := by simpa using c5))
    (try (have c5b2 : (a0_2 == a1_2) = true := by simpa using c5))
    clear c5
    by_cases c11 : (a0_3 != a1_3) = true
    rotate_left
    · rw [if_neg c11] at H
      have c11b0 : (a0_3 != a1_3) = false := by simpa using c11
      (try (have c11b1 : decide (a0_3 = a1_3) = true := by simpa using c11))
      (try (have c11b2 : (a0_3 == a1_3) = true := by simpa using c11))
      clear c11
      replace H := Option.bind_eq_some_iff.mp H
      obtain ⟨t246, A170, H⟩ := H
      replace H : (if t246 = true then ((laws_eqMethodS.f k l0_5 l1_5).bind fun t247 => (if t247 = true then (some true) else (some false))) else (some false)) = some r := H
      have A17 := Zm A170
      clear A170
      by_cases c18 : t246 = true
      rotate_left
      · replace c18 := Bool.eq_false_iff.mpr c18
        subst c18
        have H1 : (some false) = some r := by rw [if_neg (show ¬ (false = true) by decide)] at H; exact H
        clear H
        have H := H1
        clear H1
        obtain rfl := Option.some.inj H
        go_enter Try.func24, Try.ntmps24
        go_wp2_with (first | ((with_reducible refine gate_dst (N := 2) rfl ?_); refine box_event ?hg (N := 2) ?hd (cs := #[.string a0_0, .string a0_1, .bool a0_2, .bool a0_3, .slice A0_4 l0_4.length c0_4, .slice A0_5 l0_5.length c0_5]) (t := 51) ?hr ?_; (case hd => rfl); (case hg => rfl); (case hr => first | (go_simp; done) | (go_simp; rfl)); intro gb244 hg w39 hbox hb; have n0_ := Zm (Zbt (by repeat (first | (with_reducible first | exact HB.out | apply Zba | apply Zbn | apply Zbd) | exact HB.out)) hb); have n1_ := Zm (hbox); have n2_ := Zm ((by rw [hg]; exact (Zbz (by repeat (first | (with_reducible first | exact HB.out | apply Zba | apply Zbn | apply Zbd) | exact HB.out))) : w.heap.size ≤ gb244)); have n3_ := Zm ((by rw [hg]; exact (Zbz (by repeat (first | (with_reducible first | exact HB.out | apply Zba | apply Zbn | apply Zbd) | exact HB.out))) : w.heap.size ≤ gb244)); clear HB; have HB := n0_; have BK244 := n1_; have GW244 := n2_; have GE244 := n3_; clear n0_ n1_ n2_ n3_; clear hb hbox hg) | ((with_reducible refine gate_dst (N := 3) rfl ?_); refine box_event ?hg (N := 3) ?hd (cs := #[.string a1_0, .string a1_1, .bool a1_2, .bool a1_3, .slice A1_4 l1_4.length c1_4, .slice A1_5 l1_5.length c1_5]) (t := 51) ?hr ?_; (case hd => rfl); (case hg => rfl); (case hr => first | (go_simp; done) | (go_simp; rfl)); intro gb245 hg w40 hbox hb; have n0_ := Zm (Zkb (g := gb244) (o := .cells #[.string a0_0, .string a0_1, .bool a0_2, .bool a0_3, .slice A0_4 l0_4.length c0_4, .slice A0_5 l0_5.length c0_5] 51 (0, 0)) (by (with_reducible repeat (first | refine Zkn ?_ _ | refine Zkd ?_ | refine Zka ?_ _)); exact BK244.out) hb); have n1_ := Zm (Zbt (by repeat (first | (with_reducible first | exact HB.out | apply Zba | apply Zbn | apply Zbd | refine Zbs ?_ GE244.out) | exact HB.out)) hb); have n2_ := Zm (hbox); have n3_ := Zm ((by rw [hg]; exact (Zbz (by repeat (first | (with_reducible first | exact HB.out | apply Zba | apply Zbn | apply Zbd | refine Zbs ?_ GE244.out) | exact HB.out))) : w.heap.size ≤ gb245)); have n4_ := Zm ((by rw [hg]; exact (Zbz (by repeat (first | (with_reducible first | exact HB.out | apply Zba | apply Zbn | apply Zbd | refine Zbs ?_ GE244.out) | exact HB.out))) : w.heap.size ≤ gb245)); have n5_ := Zm ((by rw [hg]; exact Nat.ne_of_lt (blk_lt (g := gb244) (o := .cells #[.string a0_0, .string a0_1, .bool a0_2, .bool a0_3, .slice A0_4 l0_4.length c0_4, .slice A0_5 l0_5.length c0_5] 51 (0, 0)) (by (with_reducible repeat (first | refine Zkn ?_ _ | refine Zkd ?_ | refine Zka ?_ _)); exact BK244.out)) : gb244 ≠ gb245)); have n6_ := Zm ((by rw [hg]; exact Nat.ne_of_gt (blk_lt (g := gb244) (o := .cells #[.string a0_0, .string a0_1, .bool a0_2, .bool a0_3, .slice A0_4 l0_4.length c0_4, .slice A0_5 l0_5.length c0_5] 51 (0, 0)) (by (with_reducible repeat (first | refine Zkn ?_ _ | refine Zkd ?_ | refine Zka ?_ _)); exact BK244.out)) : gb245 ≠ gb244)); clear BK244; clear HB; have BK244 := n0_; have HB := n1_; have BK245 := n2_; have GW245 := n3_; have GE245 := n4_; have NB244_245 := n5_; have NB245_244 := n6_; clear n0_ n1_ n2_ n3_ n4_ n5_ n6_; clear hb hbox hg; have hnb41 := NB244_245.out; have hnc41 := NB245_244.out; have hcz42_0 : w40.cell? ⟨gb244, 0, none⟩ = some (.string a0_0) := (Zkc BK244.out 0).trans rfl; have hcz42_1 : w40.cell? ⟨gb244, 1, none⟩ = some (.string a0_1) := (Zkc BK244.out 1).trans rfl; have hcz42_2 : w40.cell? ⟨gb244, 2, none⟩ = some (.bool a0_2) := (Zkc BK244.out 2).trans rfl; have hcz42_3 : w40.cell? ⟨gb244, 3, none⟩ = some (.bool a0_3) := (Zkc BK244.out 3).trans rfl; have hcz42_4 : w40.cell? ⟨gb244, 4, none⟩ = some (.slice A0_4 l0_4.length c0_4) := (Zkc BK244.out 4).trans rfl; have hcz42_5 : w40.cell? ⟨gb244, 5, none⟩ = some (.slice A0_5 l0_5.length c0_5) := (Zkc BK244.out 5).trans rfl; have hcz43_0 : w40.cell? ⟨gb245, 0, none⟩ = some (.string a1_0) := (Zkc BK245.out 0).trans rfl; have hcz43_1 : w40.cell? ⟨gb245, 1, none⟩ = some (.string a1_1) := (Zkc BK245.out 1).trans rfl; have hcz43_2 : w40.cell? ⟨gb245, 2, none⟩ = some (.bool a1_2) := (Zkc BK245.out 2).trans rfl; have hcz43_3 : w40.cell? ⟨gb245, 3, none⟩ = some (.bool a1_3) := (Zkc BK245.out 3).trans rfl; have hcz43_4 : w40.cell? ⟨gb245, 4, none⟩ = some (.slice A1_4 l1_4.length c1_4) := (Zkc BK245.out 4).trans rfl; have hcz43_5 : w40.cell? ⟨gb245, 5, none⟩ = some (.slice A1_5 l1_5.length c1_5) := (Zkc BK245.out 5).trans rfl; (try clear BK244); (try clear BK245)) | ((with_reducible refine gate_callee (f := 72) rfl ?_); refine goesL_ (some 29) rfl rfl Try.func72 (by kernel_rfl) rfl #[.slice A0_4 l0_4.length c0_4, .slice A1_4 l1_4.length c1_4] rfl (by (try simp only [List.map_toArray, List.map_cons, List.map_nil]); first | done | rfl | (simp only [List.length_drop, List.length_take]; rfl)) ?_; (with_reducible refine (laws_eqFieldS.calls k _ _ l0_4 _ _ l1_4 false _ ?side1 ?side2 ?side3 ?side4 A17.out).mono ?_); (case side1 => repeat (first | exact (Kd.C_below HR0_4.out HB.out) | (with_reducible refine Kd.C_alloc ?_ _) | (with_reducible refine Kd.C_drewN ?_ _) | (with_reducible refine Kd.C_drew ?_))); (case side2 => exact HC0_4.out); (case side3 => repeat (first | exact (Kd.C_below HR1_4.out HB.out) | (with_reducible refine Kd.C_alloc ?_ _) | (with_reducible refine Kd.C_drewN ?_ _) | (with_reducible refine Kd.C_drew ?_))); (case side4 => exact HC1_4.out); rintro e w44 ⟨rfl, hb⟩; refine ⟨_, rfl, ?_⟩; have n0_ := Zm (Zbt (by repeat (first | (with_reducible first | exact HB.out | apply Zba | apply Zbn | apply Zbd) | exact HB.out)) hb); clear HB; have HB := n0_; clear n0_; (try clear hb); (try clear hb2); (try clear hk); (try clear hi)))
        go_ret
        exact ⟨by first | rfl | (simp [errW_none, errW_some] <;> rfl) | (simp [*, errW_none, errW_some] <;> rfl), by repeat (first | (with_reducible first | exact HB.out | apply Zba | apply Zbn | apply Zbd) | exact HB.out)⟩
      subst c18
      have H1 : ((laws_eqMethodS.f k l0_5 l1_5).bind fun t247 => (if t247 = true then (some true) else (some false))) = some r := by rw [if_pos rfl] at H; exact H
      clear H
      have H := H1
      clear H1
      replace H := Option.bind_eq_some_iff.mp H
      obtain ⟨t247, A190, H⟩ := H
      replace H : (if t247 = true then (some true) else (some false)) = some r := H
      have A19 := Zm A190
      clear A190
      by_cases c20 : t247 = true
      rotate_left
      · replace c20 := Bool.eq_false_iff.mpr c20
        subst c20
        have H1 : (some false) = some r := by rw [if_neg (show ¬ (false = true) by decide)] at H; exact H
        clear H
        have H := H1
        clear H1
        obtain rfl := Option.some.inj H
        go_enter Try.func24, Try.ntmps24
        go_wp2_with (first | ((with_reducible refine gate_dst (N := 2) rfl ?_); refine box_event ?hg (N := 2) ?hd (cs := #[.string a0_0, .string a0_1, .bool a0_2, .bool a0_3, .slice A0_4 l0_4.length c0_4, .slice A0_5 l0_5.length c0_5]) (t := 51) ?hr ?_; (case hd => rfl); (case hg => rfl); (case hr => first | (go_simp; done) | (go_simp; rfl)); intro gb244 hg w30 hbox hb; have n0_ := Zm (Zbt (by repeat (first | (with_reducible first | exact HB.out | apply Zba | apply Zbn | apply Zbd) | exact HB.out)) hb); have n1_ := Zm (hbox); have n2_ := Zm ((by rw [hg]; exact (Zbz (by repeat (first | (with_reducible first | exact HB.out | apply Zba | apply Zbn | apply Zbd) | exact HB.out))) : w.heap.size ≤ gb244)); have n3_ := Zm ((by rw [hg]; exact (Zbz (by repeat (first | (with_reducible first | exact HB.out | apply Zba | apply Zbn | apply Zbd) | exact HB.out))) : w.heap.size ≤ gb244)); clear HB; have HB := n0_; have BK244 := n1_; have GW244 := n2_; have GE244 := n3_; clear n0_ n1_ n2_ n3_; clear hb hbox hg) | ((with_reducible refine gate_dst (N := 3) rfl ?_); refine box_event ?hg (N := 3) ?hd (cs := #[.string a1_0, .string a1_1, .bool a1_2, .bool a1_3, .slice A1_4 l1_4.length c1_4, .slice A1_5 l1_5.length c1_5]) (t := 51) ?hr ?_; (case hd => rfl); (case hg => rfl); (case hr => first | (go_simp; done) | (go_simp; rfl)); intro gb245 hg w31 hbox hb; have n0_ := Zm (Zkb (g := gb244) (o := .cells #[.string a0_0, .string a0_1, .bool a0_2, .bool a0_3, .slice A0_4 l0_4.length c0_4, .slice A0_5 l0_5.length c0_5] 51 (0, 0)) (by (with_reducible repeat (first | refine Zkn ?_ _ | refine Zkd ?_ | refine Zka ?_ _)); exact BK244.out) hb); have n1_ := Zm (Zbt (by repeat (first | (with_reducible first | exact HB.out | apply Zba | apply Zbn | apply Zbd | refine Zbs ?_ GE244.out) | exact HB.out)) hb); have n2_ := Zm (hbox); have n3_ := Zm ((by rw [hg]; exact (Zbz (by repeat (first | (with_reducible first | exact HB.out | apply Zba | apply Zbn | apply Zbd | refine Zbs ?_ GE244.out) | exact HB.out))) : w.heap.size ≤ gb245)); have n4_ := Zm ((by rw [hg]; exact (Zbz (by repeat (first | (with_reducible first | exact HB.out | apply Zba | apply Zbn | apply Zbd | refine Zbs ?_ GE244.out) | exact HB.out))) : w.heap.size ≤ gb245)); have n5_ := Zm ((by rw [hg]; exact Nat.ne_of_lt (blk_lt (g := gb244) (o := .cells #[.string a0_0, .string a0_1, .bool a0_2, .bool a0_3, .slice A0_4 l0_4.length c0_4, .slice A0_5 l0_5.length c0_5] 51 (0, 0)) (by (with_reducible repeat (first | refine Zkn ?_ _ | refine Zkd ?_ | refine Zka ?_ _)); exact BK244.out)) : gb244 ≠ gb245)); have n6_ := Zm ((by rw [hg]; exact Nat.ne_of_gt (blk_lt (g := gb244) (o := .cells #[.string a0_0, .string a0_1, .bool a0_2, .bool a0_3, .slice A0_4 l0_4.length c0_4, .slice A0_5 l0_5.length c0_5] 51 (0, 0)) (by (with_reducible repeat (first | refine Zkn ?_ _ | refine Zkd ?_ | refine Zka ?_ _)); exact BK244.out)) : gb245 ≠ gb244)); clear BK244; clear HB; have BK244 := n0_; have HB := n1_; have BK245 := n2_; have GW245 := n3_; have GE245 := n4_; have NB244_245 := n5_; have NB245_244 := n6_; clear n0_ n1_ n2_ n3_ n4_ n5_ n6_; clear hb hbox hg; have hnb32 := NB244_245.out; have hnc32 := NB245_244.out; have hcz33_0 : w31.cell? ⟨gb244, 0, none⟩ = some (.string a0_0) := (Zkc BK244.out 0).trans rfl; have hcz33_1 : w31.cell? ⟨gb244, 1, none⟩ = some (.string a0_1) := (Zkc BK244.out 1).trans rfl; have hcz33_2 : w31.cell? ⟨gb244, 2, none⟩ = some (.bool a0_2) := (Zkc BK244.out 2).trans rfl; have hcz33_3 : w31.cell? ⟨gb244, 3, none⟩ = some (.bool a0_3) := (Zkc BK244.out 3).trans rfl; have hcz33_4 : w31.cell? ⟨gb244, 4, none⟩ = some (.slice A0_4 l0_4.length c0_4) := (Zkc BK244.out 4).trans rfl; have hcz33_5 : w31.cell? ⟨gb244, 5, none⟩ = some (.slice A0_5 l0_5.length c0_5) := (Zkc BK244.out 5).trans rfl; have hcz34_0 : w31.cell? ⟨gb245, 0, none⟩ = some (.string a1_0) := (Zkc BK245.out 0).trans rfl; have hcz34_1 : w31.cell? ⟨gb245, 1, none⟩ = some (.string a1_1) := (Zkc BK245.out 1).trans rfl; have hcz34_2 : w31.cell? ⟨gb245, 2, none⟩ = some (.bool a1_2) := (Zkc BK245.out 2).trans rfl; have hcz34_3 : w31.cell? ⟨gb245, 3, none⟩ = some (.bool a1_3) := (Zkc BK245.out 3).trans rfl; have hcz34_4 : w31.cell? ⟨gb245, 4, none⟩ = some (.slice A1_4 l1_4.length c1_4) := (Zkc BK245.out 4).trans rfl; have hcz34_5 : w31.cell? ⟨gb245, 5, none⟩ = some (.slice A1_5 l1_5.length c1_5) := (Zkc BK245.out 5).trans rfl; have hfz34_5 := Zkf BK245.out 5) | ((with_reducible refine gate_callee (f := 72) rfl ?_); refine goesL_ (some 29) rfl rfl Try.func72 (by kernel_rfl) rfl #[.slice A0_4 l0_4.length c0_4, .slice A1_4 l1_4.length c1_4] rfl (by (try simp only [List.map_toArray, List.map_cons, List.map_nil]); first | done | rfl | (simp only [List.length_drop, List.length_take]; rfl)) ?_; (with_reducible refine (laws_eqFieldS.calls k _ _ l0_4 _ _ l1_4 true _ ?side1 ?side2 ?side3 ?side4 A17.out).mono ?_); (case side1 => repeat (first | exact (Kd.C_below HR0_4.out HB.out) | (with_reducible refine Kd.C_alloc ?_ _) | (with_reducible refine Kd.C_drewN ?_ _) | (with_reducible refine Kd.C_drew ?_))); (case side2 => exact HC0_4.out); (case side3 => repeat (first | exact (Kd.C_below HR1_4.out HB.out) | (with_reducible refine Kd.C_alloc ?_ _) | (with_reducible refine Kd.C_drewN ?_ _) | (with_reducible refine Kd.C_drew ?_))); (case side4 => exact HC1_4.out); rintro e w35 ⟨rfl, hb⟩; refine ⟨_, rfl, ?_⟩; have n0_ := Zm (Zkb (g := gb244) (o := .cells #[.string a0_0, .string a0_1, .bool a0_2, .bool a0_3, .slice A0_4 l0_4.length c0_4, .slice A0_5 l0_5.length c0_5] 51 (0, 0)) (by (with_reducible repeat (first | refine Zkn ?_ _ | refine Zkd ?_ | refine Zka ?_ _)); exact BK244.out) hb); have n1_ := Zm (Zkb (g := gb245) (o := .cells #[.string a1_0, .string a1_1, .bool a1_2, .bool a1_3, .slice A1_4 l1_4.length c1_4, .slice A1_5 l1_5.length c1_5] 51 (0, 0)) (by (with_reducible repeat (first | refine Zkn ?_ _ | refine Zkd ?_ | refine Zka ?_ _)); exact BK245.out) hb); have n2_ := Zm (Zbt (by repeat (first | (with_reducible first | exact HB.out | apply Zba | apply Zbn | apply Zbd | refine Zbs ?_ GE244.out | refine Zbs ?_ GE245.out) | exact HB.out)) hb); clear BK244; clear BK245; clear HB; have BK244 := n0_; have BK245 := n1_; have HB := n2_; clear n0_ n1_ n2_; (try clear hb); (try clear hb2); (try clear hk); (try clear hi); have hcz36_0 : w35.cell? ⟨gb244, 0, none⟩ = some (.string a0_0) := (Zkc BK244.out 0).trans rfl; have hcz36_1 : w35.cell? ⟨gb244, 1, none⟩ = some (.string a0_1) := (Zkc BK244.out 1).trans rfl; have hcz36_2 : w35.cell? ⟨gb244, 2, none⟩ = some (.bool a0_2) := (Zkc BK244.out 2).trans rfl; have hcz36_3 : w35.cell? ⟨gb244, 3, none⟩ = some (.bool a0_3) := (Zkc BK244.out 3).trans rfl; have hcz36_4 : w35.cell? ⟨gb244, 4, none⟩ = some (.slice A0_4 l0_4.length c0_4) := (Zkc BK244.out 4).trans rfl; have hcz36_5 : w35.cell? ⟨gb244, 5, none⟩ = some (.slice A0_5 l0_5.length c0_5) := (Zkc BK244.out 5).trans rfl; have hcz37_0 : w35.cell? ⟨gb245, 0, none⟩ = some (.string a1_0) := (Zkc BK245.out 0).trans rfl; have hcz37_1 : w35.cell? ⟨gb245, 1, none⟩ = some (.string a1_1) := (Zkc BK245.out 1).trans rfl; have hcz37_2 : w35.cell? ⟨gb245, 2, none⟩ = some (.bool a1_2) := (Zkc BK245.out 2).trans rfl; have hcz37_3 : w35.cell? ⟨gb245, 3, none⟩ = some (.bool a1_3) := (Zkc BK245.out 3).trans rfl; have hcz37_4 : w35.cell? ⟨gb245, 4, none⟩ = some (.slice A1_4 l1_4.length c1_4) := (Zkc BK245.out 4).trans rfl; have hcz37_5 : w35.cell? ⟨gb245, 5, none⟩ = some (.slice A1_5 l1_5.length c1_5) := (Zkc BK245.out 5).trans rfl; (try clear BK244); (try clear BK245)) | ((with_reducible refine gate_callee (f := 73) rfl ?_); refine goesL_ (some 35) rfl rfl Try.func73 (by kernel_rfl) rfl #[.slice A0_5 l0_5.length c0_5, .slice A1_5 l1_5.length c1_5] rfl (by (try simp only [List.map_toArray, List.map_cons, List.map_nil]); first | done | rfl | (simp only [List.length_drop, List.length_take]; rfl)) ?_; (with_reducible refine (laws_eqMethodS.calls k _ _ l0_5 _ _ l1_5 false _ ?side1 ?side2 ?side3 ?side4 A19.out).mono ?_); (case side1 => repeat (first | exact (Kd.C_below HR0_5.out HB.out) | (with_reducible refine Kd.C_alloc ?_ _) | (with_reducible refine Kd.C_drewN ?_ _) | (with_reducible refine Kd.C_drew ?_))); (case side2 => exact HC0_5.out); (case side3 => repeat (first | exact (Kd.C_below HR1_5.out HB.out) | (with_reducible refine Kd.C_alloc ?_ _) | (with_reducible refine Kd.C_drewN ?_ _) | (with_reducible refine Kd.C_drew ?_))); (case side4 => exact HC1_5.out); rintro e w38 ⟨rfl, hb⟩; refine ⟨_, rfl, ?_⟩; have n0_ := Zm (Zbt (by repeat (first | (with_reducible first | exact HB.out | apply Zba | apply Zbn | apply Zbd) | exact HB.out)) hb); clear HB; have HB := n0_; clear n0_; (try clear hb); (try clear hb2); (try clear hk); (try clear hi)))
        go_ret
        exact ⟨by first | rfl | (simp [errW_none, errW_some] <;> rfl) | (simp [*, errW_none, errW_some] <;> rfl), by repeat (first | (with_reducible first | exact HB.out | apply Zba | apply Zbn | apply Zbd) | exact HB.out)⟩
      subst c20
      have H1 : (some true) = some r := by rw [if_pos rfl] at H; exact H
      clear H
      have H := H1
      clear H1
      obtain rfl := Option.some.inj H
      go_enter Try.func24, Try.ntmps24
      go_wp2_with (first | ((with_reducible refine gate_dst (N := 2) rfl ?_); refine box_event ?hg (N := 2) ?hd (cs := #[.string a0_0, .string a0_1, .bool a0_2, .bool a0_3, .slice A0_4 l0_4.length c0_4, .slice A0_5 l0_5.length c0_5]) (t := 51) ?hr ?_; (case hd => rfl); (case hg => rfl); (case hr => first | (go_simp; done) | (go_simp; rfl)); intro gb244 hg w21 hbox hb; have n0_ := Zm (Zbt (by repeat (first | (with_reducible first | exact HB.out | apply Zba | apply Zbn | apply Zbd) | exact HB.out)) hb); have n1_ := Zm (hbox); have n2_ := Zm ((by rw [hg]; exact (Zbz (by repeat (first | (with_reducible first | exact HB.out | apply Zba | apply Zbn | apply Zbd) | exact HB.out))) : w.heap.size ≤ gb244)); have n3_ := Zm ((by rw [hg]; exact (Zbz (by repeat (first | (with_reducible first | exact HB.out | apply Zba | apply Zbn | apply Zbd) | exact HB.out))) : w.heap.size ≤ gb244)); clear HB; have HB := n0_; have BK244 := n1_; have GW244 := n2_; have GE244 := n3_; clear n0_ n1_ n2_ n3_; clear hb hbox hg) | ((with_reducible refine gate_dst (N := 3) rfl ?_); refine box_event ?hg (N := 3) ?hd (cs := #[.string a1_0, .string a1_1, .bool a1_2, .bool a1_3, .slice A1_4 l1_4.length c1_4, .slice A1_5 l1_5.length c1_5]) (t := 51) ?hr ?_; (case hd => rfl); (case hg => rfl); (case hr => first | (go_simp; done) | (go_simp; rfl)); intro gb245 hg w22 hbox hb; have n0_ := Zm (Zkb (g := gb244) (o := .cells #[.string a0_0, .string a0_1, .bool a0_2, .bool a0_3, .slice A0_4 l0_4.length c0_4, .slice A0_5 l0_5.length c0_5] 51 (0, 0)) (by (with_reducible repeat (first | refine Zkn ?_ _ | refine Zkd ?_ | refine Zka ?_ _)); exact BK244.out) hb); have n1_ := Zm (Zbt (by repeat (first | (with_reducible first | exact HB.out | apply Zba | apply Zbn | apply Zbd | refine Zbs ?_ GE244.out) | exact HB.out)) hb); have n2_ := Zm (hbox); have n3_ := Zm ((by rw [hg]; exact (Zbz (by repeat (first | (with_reducible first | exact HB.out | apply Zba | apply Zbn | apply Zbd | refine Zbs ?_ GE244.out) | exact HB.out))) : w.heap.size ≤ gb245)); have n4_ := Zm ((by rw [hg]; exact (Zbz (by repeat (first | (with_reducible first | exact HB.out | apply Zba | apply Zbn | apply Zbd | refine Zbs ?_ GE244.out) | exact HB.out))) : w.heap.size ≤ gb245)); have n5_ := Zm ((by rw [hg]; exact Nat.ne_of_lt (blk_lt (g := gb244) (o := .cells #[.string a0_0, .string a0_1, .bool a0_2, .bool a0_3, .slice A0_4 l0_4.length c0_4, .slice A0_5 l0_5.length c0_5] 51 (0, 0)) (by (with_reducible repeat (first | refine Zkn ?_ _ | refine Zkd ?_ | refine Zka ?_ _)); exact BK244.out)) : gb244 ≠ gb245)); have n6_ := Zm ((by rw [hg]; exact Nat.ne_of_gt (blk_lt (g := gb244) (o := .cells #[.string a0_0, .string a0_1, .bool a0_2, .bool a0_3, .slice A0_4 l0_4.length c0_4, .slice A0_5 l0_5.length c0_5] 51 (0, 0)) (by (with_reducible repeat (first | refine Zkn ?_ _ | refine Zkd ?_ | refine Zka ?_ _)); exact BK244.out)) : gb245 ≠ gb244)); clear BK244; clear HB; have BK244 := n0_; have HB := n1_; have BK245 := n2_; have GW245 := n3_; have GE245 := n4_; have NB244_245 := n5_; have NB245_244 := n6_; clear n0_ n1_ n2_ n3_ n4_ n5_ n6_; clear hb hbox hg; have hnb23 := NB244_245.out; have hnc23 := NB245_244.out; have hcz24_0 : w22.cell? ⟨gb244, 0, none⟩ = some (.string a0_0) := (Zkc BK244.out 0).trans rfl; have hcz24_1 : w22.cell? ⟨gb244, 1, none⟩ = some (.string a0_1) := (Zkc BK244.out 1).trans rfl; have hcz24_2 : w22.cell? ⟨gb244, 2, none⟩ = some (.bool a0_2) := (Zkc BK244.out 2).trans rfl; have hcz24_3 : w22.cell? ⟨gb244, 3, none⟩ = some (.bool a0_3) := (Zkc BK244.out 3).trans rfl; have hcz24_4 : w22.cell? ⟨gb244, 4, none⟩ = some (.slice A0_4 l0_4.length c0_4) := (Zkc BK244.out 4).trans rfl; have hcz24_5 : w22.cell? ⟨gb244, 5, none⟩ = some (.slice A0_5 l0_5.length c0_5) := (Zkc BK244.out 5).trans rfl; have hcz25_0 : w22.cell? ⟨gb245, 0, none⟩ = some (.string a1_0) := (Zkc BK245.out 0).trans rfl; have hcz25_1 : w22.cell? ⟨gb245, 1, none⟩ = some (.string a1_1) := (Zkc BK245.out 1).trans rfl; have hcz25_2 : w22.cell? ⟨gb245, 2, none⟩ = some (.bool a1_2) := (Zkc BK245.out 2).trans rfl; have hcz25_3 : w22.cell? ⟨gb245, 3, none⟩ = some (.bool a1_3) := (Zkc BK245.out 3).trans rfl; have hcz25_4 : w22.cell? ⟨gb245, 4, none⟩ = some (.slice A1_4 l1_4.length c1_4) := (Zkc BK245.out 4).trans rfl; have hcz25_5 : w22.cell? ⟨gb245, 5, none⟩ = some (.slice A1_5 l1_5.length c1_5) := (Zkc BK245.out 5).trans rfl; have hfz25_5 := Zkf BK245.out 5) | ((with_reducible refine gate_callee (f := 72) rfl ?_); refine goesL_ (some 29) rfl rfl Try.func72 (by kernel_rfl) rfl #[.slice A0_4 l0_4.length c0_4, .slice A1_4 l1_4.length c1_4] rfl (by (try simp only [List.map_toArray, List.map_cons, List.map_nil]); first | done | rfl | (simp only [List.length_drop, List.length_take]; rfl)) ?_; (with_reducible refine (laws_eqFieldS.calls k _ _ l0_4 _ _ l1_4 true _ ?side1 ?side2 ?side3 ?side4 A17.out).mono ?_); (case side1 => repeat (first | exact (Kd.C_below HR0_4.out HB.out) | (with_reducible refine Kd.C_alloc ?_ _) | (with_reducible refine Kd.C_drewN ?_ _) | (with_reducible refine Kd.C_drew ?_))); (case side2 => exact HC0_4.out); (case side3 => repeat (first | exact (Kd.C_below HR1_4.out HB.out) | (with_reducible refine Kd.C_alloc ?_ _) | (with_reducible refine Kd.C_drewN ?_ _) | (with_reducible refine Kd.C_drew ?_))); (case side4 => exact HC1_4.out); rintro e w26 ⟨rfl, hb⟩; refine ⟨_, rfl, ?_⟩; have n0_ := Zm (Zkb (g := gb244) (o := .cells #[.string a0_0, .string a0_1, .bool a0_2, .bool a0_3, .slice A0_4 l0_4.length c0_4, .slice A0_5 l0_5.length c0_5] 51 (0, 0)) (by (with_reducible repeat (first | refine Zkn ?_ _ | refine Zkd ?_ | refine Zka ?_ _)); exact BK244.out) hb); have n1_ := Zm (Zkb (g := gb245) (o := .cells #[.string a1_0, .string a1_1, .bool a1_2, .bool a1_3, .slice A1_4 l1_4.length c1_4, .slice A1_5 l1_5.length c1_5] 51 (0, 0)) (by (with_reducible repeat (first | refine Zkn ?_ _ | refine Zkd ?_ | refine Zka ?_ _)); exact BK245.out) hb); have n2_ := Zm (Zbt (by repeat (first | (with_reducible first | exact HB.out | apply Zba | apply Zbn | apply Zbd | refine Zbs ?_ GE244.out | refine Zbs ?_ GE245.out) | exact HB.out)) hb); clear BK244; clear BK245; clear HB; have BK244 := n0_; have BK245 := n1_; have HB := n2_; clear n0_ n1_ n2_; (try clear hb); (try clear hb2); (try clear hk); (try clear hi); have hcz27_0 : w26.cell? ⟨gb244, 0, none⟩ = some (.string a0_0) := (Zkc BK244.out 0).trans rfl; have hcz27_1 : w26.cell? ⟨gb244, 1, none⟩ = some (.string a0_1) := (Zkc BK244.out 1).trans rfl; have hcz27_2 : w26.cell? ⟨gb244, 2, none⟩ = some (.bool a0_2) := (Zkc BK244.out 2).trans rfl; have hcz27_3 : w26.cell? ⟨gb244, 3, none⟩ = some (.bool a0_3) := (Zkc BK244.out 3).trans rfl; have hcz27_4 : w26.cell? ⟨gb244, 4, none⟩ = some (.slice A0_4 l0_4.length c0_4) := (Zkc BK244.out 4).trans rfl; have hcz27_5 : w26.cell? ⟨gb244, 5, none⟩ = some (.slice A0_5 l0_5.length c0_5) := (Zkc BK244.out 5).trans rfl; have hcz28_0 : w26.cell? ⟨gb245, 0, none⟩ = some (.string a1_0) := (Zkc BK245.out 0).trans rfl; have hcz28_1 : w26.cell? ⟨gb245, 1, none⟩ = some (.string a1_1) := (Zkc BK245.out 1).trans rfl; have hcz28_2 : w26.cell? ⟨gb245, 2, none⟩ = some (.bool a1_2) := (Zkc BK245.out 2).trans rfl; have hcz28_3 : w26.cell? ⟨gb245, 3, none⟩ = some (.bool a1_3) := (Zkc BK245.out 3).trans rfl; have hcz28_4 : w26.cell? ⟨gb245, 4, none⟩ = some (.slice A1_4 l1_4.length c1_4) := (Zkc BK245.out 4).trans rfl; have hcz28_5 : w26.cell? ⟨gb245, 5, none⟩ = some (.slice A1_5 l1_5.length c1_5) := (Zkc BK245.out 5).trans rfl; (try clear BK244); (try clear BK245)) | ((with_reducible refine gate_callee (f := 73) rfl ?_); refine goesL_ (some 35) rfl rfl Try.func73 (by kernel_rfl) rfl #[.slice A0_5 l0_5.length c0_5, .slice A1_5 l1_5.length c1_5] rfl (by (try simp only [List.map_toArray, List.map_cons, List.map_nil]); first | done | rfl | (simp only [List.length_drop, List.length_take]; rfl)) ?_; (with_reducible refine (laws_eqMethodS.calls k _ _ l0_5 _ _ l1_5 true _ ?side1 ?side2 ?side3 ?side4 A19.out).mono ?_); (case side1 => repeat (first | exact (Kd.C_below HR0_5.out HB.out) | (with_reducible refine Kd.C_alloc ?_ _) | (with_reducible refine Kd.C_drewN ?_ _) | (with_reducible refine Kd.C_drew ?_))); (case side2 => exact HC0_5.out); (case side3 => repeat (first | exact (Kd.C_below HR1_5.out HB.out) | (with_reducible refine Kd.C_alloc ?_ _) | (with_reducible refine Kd.C_drewN ?_ _) | (with_reducible refine Kd.C_drew ?_))); (case side4 => exact HC1_5.out); rintro e w29 ⟨rfl, hb⟩; refine ⟨_, rfl, ?_⟩; have n0_ := Zm (Zbt (by repeat (first | (with_reducible first | exact HB.out | apply Zba | apply Zbn | apply Zbd) | exact HB.out)) hb); clear HB; have HB := n0_; clear n0_; (try clear hb); (try clear hb2); (try clear hk); (try clear hi)))
      go_ret
      exact ⟨by first | rfl | (simp [errW_none, errW_some] <;> rfl) | (simp [*, errW_none, errW_some] <;> rfl), by repeat (first | (with_reducible first | exact HB.out | apply Zba | apply Zbn | apply Zbd) | exact HB.out)⟩
    rw [if_pos c11] at H
    have c11b0 : (a0_3 != a1_3) = true := c11
    (try (have c11b1 : decide (a0_3 = a1_3) = false := by simpa using c11))
    (try (have c11b2 : (a0_3 == a1_3) = false := by simpa using c11))
    (try (have c11b3 : ¬ (a0_3 = a1_3) := by simpa using c11))
    clear c11
    obtain rfl := Option.some.inj H
    go_enter Try.func24, Try.ntmps24
    go_wp2_with (first | ((with_reducible refine gate_dst (N := 2) rfl ?_); refine box_event ?hg (N := 2) ?hd (cs := #[.string a0_0, .string a0_1, .bool a0_2, .bool a0_3, .slice A0_4 l0_4.length c0_4, .slice A0_5 l0_5.length c0_5]) (t := 51) ?hr ?_; (case hd => rfl); (case hg => rfl); (case hr => first | (go_simp; done) | (go_simp; rfl)); intro gb244 hg w12 hbox hb; have n0_ := Zm (Zbt (by repeat (first | (with_reducible first | exact HB.out | apply Zba | apply Zbn | apply Zbd) | exact HB.out)) hb); have n1_ := Zm (hbox); have n2_ := Zm ((by rw [hg]; exact (Zbz (by repeat (first | (with_reducible first | exact HB.out | apply Zba | apply Zbn | apply Zbd) | exact HB.out))) : w.heap.size ≤ gb244)); have n3_ := Zm ((by rw [hg]; exact (Zbz (by repeat (first | (with_reducible first | exact HB.out | apply Zba | apply Zbn | apply Zbd) | exact HB.out))) : w.heap.size ≤ gb244)); clear HB; have HB := n0_; have BK244 := n1_; have GW244 := n2_; have GE244 := n3_; clear n0_ n1_ n2_ n3_; clear hb hbox hg) | ((with_reducible refine gate_dst (N := 3) rfl ?_); refine box_event ?hg (N := 3) ?hd (cs := #[.string a1_0, .string a1_1, .bool a1_2, .bool a1_3, .slice A1_4 l1_4.length c1_4, .slice A1_5 l1_5.length c1_5]) (t := 51) ?hr ?_; (case hd => rfl); (case hg => rfl); (case hr => first | (go_simp; done) | (go_simp; rfl)); intro gb245 hg w13 hbox hb; have n0_ := Zm (Zkb (g := gb244) (o := .cells #[.string a0_0, .string a0_1, .bool a0_2, .bool a0_3, .slice A0_4 l0_4.length c0_4, .slice A0_5 l0_5.length c0_5] 51 (0, 0)) (by (with_reducible repeat (first | refine Zkn ?_ _ | refine Zkd ?_ | refine Zka ?_ _)); exact BK244.out) hb); have n1_ := Zm (Zbt (by repeat (first | (with_reducible first | exact HB.out | apply Zba | apply Zbn | apply Zbd | refine Zbs ?_ GE244.out) | exact HB.out)) hb); have n2_ := Zm (hbox); have n3_ := Zm ((by rw [hg]; exact (Zbz (by repeat (first | (with_reducible first | exact HB.out | apply Zba | apply Zbn | apply Zbd | refine Zbs ?_ GE244.out) | exact HB.out))) : w.heap.size ≤ gb245)); have n4_ := Zm ((by rw [hg]; exact (Zbz (by repeat (first | (with_reducible first | exact HB.out | apply Zba | apply Zbn | apply Zbd | refine Zbs ?_ GE244.out) | exact HB.out))) : w.heap.size ≤ gb245)); have n5_ := Zm ((by rw [hg]; exact Nat.ne_of_lt (blk_lt (g := gb244) (o := .cells #[.string a0_0, .string a0_1, .bool a0_2, .bool a0_3, .slice A0_4 l0_4.length c0_4, .slice A0_5 l0_5.length c0_5] 51 (0, 0)) (by (with_reducible repeat (first | refine Zkn ?_ _ | refine Zkd ?_ | refine Zka ?_ _)); exact BK244.out)) : gb244 ≠ gb245)); have n6_ := Zm ((by rw [hg]; exact Nat.ne_of_gt (blk_lt (g := gb244) (o := .cells #[.string a0_0, .string a0_1, .bool a0_2, .bool a0_3, .slice A0_4 l0_4.length c0_4, .slice A0_5 l0_5.length c0_5] 51 (0, 0)) (by (with_reducible repeat (first | refine Zkn ?_ _ | refine Zkd ?_ | refine Zka ?_ _)); exact BK244.out)) : gb245 ≠ gb244)); clear BK244; clear HB; have BK244 := n0_; have HB := n1_; have BK245 := n2_; have GW245 := n3_; have GE245 := n4_; have NB244_245 := n5_; have NB245_244 := n6_; clear n0_ n1_ n2_ n3_ n4_ n5_ n6_; clear hb hbox hg; have hnb14 := NB244_245.out; have hnc14 := NB245_244.out; have hcz15_0 : w13.cell? ⟨gb244, 0, none⟩ = some (.string a0_0) := (Zkc BK244.out 0).trans rfl; have hcz15_1 : w13.cell? ⟨gb244, 1, none⟩ = some (.string a0_1) := (Zkc BK244.out 1).trans rfl; have hcz15_2 : w13.cell? ⟨gb244, 2, none⟩ = some (.bool a0_2) := (Zkc BK244.out 2).trans rfl; have hcz15_3 : w13.cell? ⟨gb244, 3, none⟩ = some (.bool a0_3) := (Zkc BK244.out 3).trans rfl; have hcz15_4 : w13.cell? ⟨gb244, 4, none⟩ = some (.slice A0_4 l0_4.length c0_4) := (Zkc BK244.out 4).trans rfl; have hcz15_5 : w13.cell? ⟨gb244, 5, none⟩ = some (.slice A0_5 l0_5.length c0_5) := (Zkc BK244.out 5).trans rfl; have hcz16_0 : w13.cell? ⟨gb245, 0, none⟩ = some (.string a1_0) := (Zkc BK245.out 0).trans rfl; have hcz16_1 : w13.cell? ⟨gb245, 1, none⟩ = some (.string a1_1) := (Zkc BK245.out 1).trans rfl; have hcz16_2 : w13.cell? ⟨gb245, 2, none⟩ = some (.bool a1_2) := (Zkc BK245.out 2).trans rfl; have hcz16_3 : w13.cell? ⟨gb245, 3, none⟩ = some (.bool a1_3) := (Zkc BK245.out 3).trans rfl; have hcz16_4 : w13.cell? ⟨gb245, 4, none⟩ = some (.slice A1_4 l1_4.length c1_4) := (Zkc BK245.out 4).trans rfl; have hcz16_5 : w13.cell? ⟨gb245, 5, none⟩ = some (.slice A1_5 l1_5.length c1_5) := (Zkc BK245.out 5).trans rfl; have hfz16_5 := Zkf BK245.out 5))
    go_ret
    exact ⟨by first | rfl | (simp [errW_none, errW_some] <;> rfl) | (simp [*, errW_none, errW_some] <;> rfl), by repeat (first | (with_reducible first | exact HB.out | apply Zba | apply Zbn | apply Zbd | refine Zbs ?_ GE244.out | refine Zbs ?_ GE245.out) | exact HB.out)⟩
  rw [if_pos c5] at H
  have c5b0 : (a0_2 != a1_2) = true := c5
  (try (have c5b1 : decide (a0_2 = a1_2) = false := by simpa using c5))
  (try (have c5b2 : (a0_2 == a1_2) = false := by simpa using c5))
  (try (have c5b3 : ¬ (a0_2 = a1_2) := by simpa using c5))
  clear c5
  obtain rfl := Option.some.inj H
  go_enter Try.func24, Try.ntmps24
  go_wp2_with (first | ((with_reducible refine gate_dst (N := 2) rfl ?_); refine box_event ?hg (N := 2) ?hd (cs := #[.string a0_0, .string a0_1, .bool a0_2, .bool a0_3, .slice A0_4 l0_4.length c0_4, .slice A0_5 l0_5.length c0_5]) (t := 51) ?hr ?_; (case hd => rfl); (case hg => rfl); (case hr => first | (go_simp; done) | (go_simp; rfl)); intro gb244 hg w6 hbox hb; have n0_ := Zm (Zbt (by repeat (first | (with_reducible first | exact HB.out | apply Zba | apply Zbn | apply Zbd) | exact HB.out)) hb); have n1_ := Zm (hbox); have n2_ := Zm ((by rw [hg]; exact (Zbz (by repeat (first | (with_reducible first | exact HB.out | apply Zba | apply Zbn | apply Zbd) | exact HB.out))) : w.heap.size ≤ gb244)); have n3_ := Zm ((by rw [hg]; exact (Zbz (by repeat (first | (with_reducible first | exact HB.out | apply Zba | apply Zbn | apply Zbd) | exact HB.out))) : w.heap.size ≤ gb244)); clear HB; have HB := n0_; have BK244 := n1_; have GW244 := n2_; have GE244 := n3_; clear n0_ n1_ n2_ n3_; clear hb hbox hg) | ((with_reducible refine gate_dst (N := 3) rfl ?_); refine box_event ?hg (N := 3) ?hd (cs := #[.string a1_0, .string a1_1, .bool a1_2, .bool a1_3, .slice A1_4 l1_4.length c1_4, .slice A1_5 l1_5.length c1_5]) (t := 51) ?hr ?_; (case hd => rfl); (case hg => rfl); (case hr => first | (go_simp; done) | (go_simp; rfl)); intro gb245 hg w7 hbox hb; have n0_ := Zm (Zkb (g := gb244) (o := .cells #[.string a0_0, .string a0_1, .bool a0_2, .bool a0_3, .slice A0_4 l0_4.length c0_4, .slice A0_5 l0_5.length c0_5] 51 (0, 0)) (by (with_reducible repeat (first | refine Zkn ?_ _ | refine Zkd ?_ | refine Zka ?_ _)); exact BK244.out) hb); have n1_ := Zm (Zbt (by repeat (first | (with_reducible first | exact HB.out | apply Zba | apply Zbn | apply Zbd | refine Zbs ?_ GE244.out) | exact HB.out)) hb); have n2_ := Zm (hbox); have n3_ := Zm ((by rw [hg]; exact (Zbz (by repeat (first | (with_reducible first | exact HB.out | apply Zba | apply Zbn | apply Zbd | refine Zbs ?_ GE244.out) | exact HB.out))) : w.heap.size ≤ gb245)); have n4_ := Zm ((by rw [hg]; exact (Zbz (by repeat (first | (with_reducible first | exact HB.out | apply Zba | apply Zbn | apply Zbd | refine Zbs ?_ GE244.out) | exact HB.out))) : w.heap.size ≤ gb245)); have n5_ := Zm ((by rw [hg]; exact Nat.ne_of_lt (blk_lt (g := gb244) (o := .cells #[.string a0_0, .string a0_1, .bool a0_2, .bool a0_3, .slice A0_4 l0_4.length c0_4, .slice A0_5 l0_5.length c0_5] 51 (0, 0)) (by (with_reducible repeat (first | refine Zkn ?_ _ | refine Zkd ?_ | refine Zka ?_ _)); exact BK244.out)) : gb244 ≠ gb245)); have n6_ := Zm ((by rw [hg]; exact Nat.ne_of_gt (blk_lt (g := gb244) (o := .cells #[.string a0_0, .string a0_1, .bool a0_2, .bool a0_3, .slice A0_4 l0_4.length c0_4, .slice A0_5 l0_5.length c0_5] 51 (0, 0)) (by (with_reducible repeat (first | refine Zkn ?_ _ | refine Zkd ?_ | refine Zka ?_ _)); exact BK244.out)) : gb245 ≠ gb244)); clear BK244; clear HB; have BK244 := n0_; have HB := n1_; have BK245 := n2_; have GW245 := n3_; have GE245 := n4_; have NB244_245 := n5_; have NB245_244 := n6_; clear n0_ n1_ n2_ n3_ n4_ n5_ n6_; clear hb hbox hg; have hnb8 := NB244_245.out; have hnc8 := NB245_244.out; have hcz9_0 : w7.cell? ⟨gb244, 0, none⟩ = some (.string a0_0) := (Zkc BK244.out 0).trans rfl; have hcz9_1 : w7.cell? ⟨gb244, 1, none⟩ = some (.string a0_1) := (Zkc BK244.out 1).trans rfl; have hcz9_2 : w7.cell? ⟨gb244, 2, none⟩ = some (.bool a0_2) := (Zkc BK244.out 2).trans rfl; have hcz9_3 : w7.cell? ⟨gb244, 3, none⟩ = some (.bool a0_3) := (Zkc BK244.out 3).trans rfl; have hcz9_4 : w7.cell? ⟨gb244, 4, none⟩ = some (.slice A0_4 l0_4.length c0_4) := (Zkc BK244.out 4).trans rfl; have hcz9_5 : w7.cell? ⟨gb244, 5, none⟩ = some (.slice A0_5 l0_5.length c0_5) := (Zkc BK244.out 5).trans rfl; have hcz10_0 : w7.cell? ⟨gb245, 0, none⟩ = some (.string a1_0) := (Zkc BK245.out 0).trans rfl; have hcz10_1 : w7.cell? ⟨gb245, 1, none⟩ = some (.string a1_1) := (Zkc BK245.out 1).trans rfl; have hcz10_2 : w7.cell? ⟨gb245, 2, none⟩ = some (.bool a1_2) := (Zkc BK245.out 2).trans rfl; have hcz10_3 : w7.cell? ⟨gb245, 3, none⟩ = some (.bool a1_3) := (Zkc BK245.out 3).trans rfl; have hcz10_4 : w7.cell? ⟨gb245, 4, none⟩ = some (.slice A1_4 l1_4.length c1_4) := (Zkc BK245.out 4).trans rfl; have hcz10_5 : w7.cell? ⟨gb245, 5, none⟩ = some (.slice A1_5 l1_5.length c1_5) := (Zkc BK245.out 5).trans rfl; have hfz10_5 := Zkf BK245.out 5))
  go_ret
  exact ⟨by first | rfl | (simp [errW_none, errW_some] <;> rfl) | (simp [*, errW_none, errW_some] <;> rfl), by repeat (first | (with_reducible first | exact HB.out | apply Zba | apply Zbn | apply Zbd | refine Zbs ?_ GE244.out | refine Zbs ?_ GE245.out) | exact HB.out)⟩
end Go.Proofs.Ytlflbmbcjjegaaa.PFnExactClassSame
