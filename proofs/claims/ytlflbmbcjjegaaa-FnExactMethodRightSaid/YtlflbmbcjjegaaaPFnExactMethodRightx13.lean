/- Functions of the program as plain Lean functions, each with a proof that the program's call comes to the same; no condition. Written by a program of this session. -/
import Derived.Test.YtlflbmbcjjegaaaPFnExactMethodRightx0
import Derived.Test.YtlflbmbcjjegaaaPFnExactMethodRightx12
namespace Go.Proofs.Ytlflbmbcjjegaaa.PFnExactMethodRight
open Go.RowKit Go.Proofs.YtlflbmbcjjegaaaW.PrintWords Go.Proofs.YtlflbmbcjjegaaaW.PrintLast Go.Proofs.YtlflbmbcjjegaaaW.PrintMore
open Go.Proofs.YtlflbmbcjjegaaaW.PrintWords renaming below_drew1 → Zbd, below_size → Zbz, below_step → Zbt, blk_frozen → Zkf, blk_below → Zkb
open Go.World renaming block_lt_of_cell? → Zlt
open Go.Proofs.YtlflbmbcjjegaaaW.PrintWords.Aside0 renaming mk → Zm
attribute [local go_sem] max2_int min2_int max_two min_two max_three min_three max_four min_four   -- for this text's walks alone
set_option linter.unusedVariables false
set_option linter.unusedSimpArgs false

/-! ### laws_eqInsS: function 108 -/
def laws_eqInsS.l0 : Nat → List (S156) → List (S156) → Int → Option (Bool)
 | 0, _, _, _ => none
 | k + 1, x0, x1, x5 => if x5 < (x0.length : Int) then (if 0 ≤ x5 then (if x5 < (x1.length : Int) then ((laws_eqIns.f ((rd_T156 x0 x5).f0) ((rd_T156 x0 x5).f1) ((rd_T156 x0 x5).f2) ((rd_T156 x0 x5).f3) ((rd_T156 x0 x5).f4) ((rd_T156 x1 x5).f0) ((rd_T156 x1 x5).f1) ((rd_T156 x1 x5).f2) ((rd_T156 x1 x5).f3) ((rd_T156 x1 x5).f4)).bind fun t442 => (if t442 = true then (laws_eqInsS.l0 k x0 x1 (wrap64 (x5 + 1))) else (some false))) else (none)) else (none)) else (some true)
def laws_eqInsS.f (k : Nat) (l0 : List (S156)) (l1 : List (S156)) : Option (Bool) := if (l0.length : Int) = (l1.length : Int) then (laws_eqInsS.l0 k l0 l1 0) else (some false)
theorem laws_eqInsS.mono_l : ∀ k, (∀ y0 y1 y2, LeO (laws_eqInsS.l0 k y0 y1 y2) (laws_eqInsS.l0 (k + 1) y0 y1 y2))
 | 0 => fun _ _ _ r h => by simp [laws_eqInsS.l0] at h
 | k + 1 => by
  have ih0 := laws_eqInsS.mono_l k
  · intro y0 y1 y2
    unfold laws_eqInsS.l0
    repeat' first
    | (with_reducible exact ih0 _ _ _)
    | (with_reducible exact LeO.refl _)
    | (with_reducible exact LeO.none _)
    | (with_reducible refine LeO.ite ?_ ?_)
    | (with_reducible refine LeO.bind ?_ (fun _ => ?_))
    | exact ih0 _ _ _
    | exact LeO.none _
    | refine LeO.ite ?_ ?_
    | refine LeO.bind ?_ (fun _ => ?_)
theorem laws_eqInsS.mono : ∀ a0 a1 k, LeO (laws_eqInsS.f k a0 a1) (laws_eqInsS.f (k + 1) a0 a1) := by
 intro a0 a1 k
 have ih0 := laws_eqInsS.mono_l k
 unfold laws_eqInsS.f
 repeat' first
  | (with_reducible exact ih0 _ _ _)
  | (with_reducible exact LeO.refl _)
  | (with_reducible exact LeO.none _)
  | (with_reducible refine LeO.ite ?_ ?_)
  | (with_reducible refine LeO.bind ?_ (fun _ => ?_))
  | exact ih0 _ _ _
  | exact LeO.none _
  | refine LeO.ite ?_ ?_
  | refine LeO.bind ?_ (fun _ => ?_)
def laws_eqInsS.T6 : Bool × List (List Nat × List Nat) := (true, [([], []), ([], []), ([0, 1], [0, 1]), ([2], [2]), ([], []), ([], []), ([4, 5], [4, 5]), ([6], [6]), ([3, 7], [3, 7]), ([8], [8])])
def laws_eqInsS.B6 : List Nat := [0, 0, 3, 7, 0, 0, 48, 112, 255, 511]
theorem laws_eqInsS.tab6 : rtab .any (opsOf Try.f108 6) = laws_eqInsS.T6 := by kernel_rfl
theorem laws_eqInsS.bits6 : waitsOk laws_eqInsS.T6.2 laws_eqInsS.B6 = true := by kernel_rfl
set_option maxHeartbeats 8000000 in
set_option maxRecDepth 100000 in
theorem laws_eqInsS.calls (k : Nat) (A0 : Option Addr) (c0 : Nat) (l0 : List (S156)) (A1 : Option Addr) (c1 : Nat) (l1 : List (S156)) (r : Bool) (w : World) (hr0 : Kd.C k156 w A0 l0.length l0) (hc0 : l0.length ≤ c0) (hr1 : Kd.C k156 w A1 l1.length l1) (hc1 : l1.length ≤ c1) (h : laws_eqInsS.f k l0 l1 = some r) :
 Calls Try.prog 108 #[.slice A0 l0.length c0, .slice A1 l1.length c1] w fun e w' => e = .returned (.bool r) ∧ Below w.heap.size w w' := by
 have hu156 := Try.underlying156
 have HR0 := Zm hr0
 have HC0 := Zm hc0
 clear hr0 hc0
 have HR1 := Zm hr1
 have HC1 := Zm hc1
 clear hr1 hc1
 have HB := Zm (Below.refl w.heap.size w)
 have H : (if (l0.length : Int) = (l1.length : Int) then (laws_eqInsS.l0 k l0 l1 0) else (some false)) = some r := h
 clear h
 by_cases c3 : (l0.length : Int) = (l1.length : Int)
 rotate_left
 · rw [if_neg c3] at H
   have c3b0 : ((l0.length : Int) == (l1.length : Int)) = false := beq_eq_false_iff_ne.mpr c3
   have c3b1 : ((l0.length : Int) != (l1.length : Int)) = true := bne_iff_ne.mpr c3
   have c3b2 : (l0.length == l1.length) = false := by first | simpa using c3 | (simp at c3 ⊢; omega)
   obtain rfl := Option.some.inj H
   go_enter Try.func108, Try.ntmps108
   go_wp2
   go_ret
   exact ⟨by first | rfl | (simp [*] <;> rfl), bk HB.out⟩

 rw [if_pos c3] at H
 have c3b0 : ((l0.length : Int) == (l1.length : Int)) = true := beq_iff_eq.mpr c3
 have c3b1 : ((l0.length : Int) != (l1.length : Int)) = false := bne_eq_false_iff_eq.mpr c3
 have c3b2 : (l0.length == l1.length) = true := by first | simpa using c3 | (simp at c3 ⊢; omega)
 clear c3
 have H' := Zm H
 clear H
 go_enter Try.func108, Try.ntmps108
 go_wp2
 go_loopg [5] k (fun kq v5 w' => ∃ (x5_1 : Int), v5 = .int .i64 x5_1 ∧ Aside0 (laws_eqInsS.l0 kq l0 l1 x5_1 = some r) ∧ Aside0 (kq ≤ k) ∧ Aside0 (Below w.heap.size w w'))
 case atStart => exact ⟨(0), (by first | rfl | (simp; done) | (simp [*]; done)), H', ⟨Nat.le_refl _⟩, ⟨bk HB.out⟩⟩
 case round =>
  clear H'
  (try clear c3); (try clear c3b0); (try clear c3b1); (try clear c3b2)
  obtain ⟨x5_1, rfl, HA, HK1, HB⟩ := hrel
  cases gk with
  | zero => exact absurd HA.out (by simp [laws_eqInsS.l0])
  | succ k1 =>
   have H := HA.out
   clear HA
   simp only [laws_eqInsS.l0] at H
   by_cases c4 : x5_1 < (l0.length : Int)
   rotate_left
   · rw [if_neg c4] at H
     have c4b0 := decide_eq_false c4
     clear c4
     obtain rfl := Option.some.inj H
     go_wp2
     go_ret
     exact ⟨by first | rfl | (simp [*] <;> rfl), bk HB.out⟩
   rw [if_pos c4] at H
   have c4b0 := decide_eq_true c4
   clear c4
   by_cases c5 : 0 ≤ x5_1
   rotate_left
   · rw [if_neg c5] at H
     exact absurd H (by simp)
   rw [if_pos c5] at H
   have c5b0 := decide_eq_true c5
   clear c5
   by_cases c6 : x5_1 < (l1.length : Int)
   rotate_left
   · rw [if_neg c6] at H
     exact absurd H (by simp)
   rw [if_pos c6] at H
   have c6b0 := decide_eq_true c6
   clear c6
   replace H := Option.bind_eq_some_iff.mp H
   obtain ⟨t442, A70, H⟩ := H
   (try dsimp only at H)
   have A7 := Zm A70
   clear A70
   have HC8 := Zm H
   clear H
   try go_wp2
   have n0_ := Zm (Zbd HB.out)
   clear HB
   have HB := n0_
   clear n0_
   have p440 : 0 ≤ (x5_1 : Int) := of_decide_eq_true (by first | (with_reducible assumption) | assumption)
   have q440 : x5_1 < (l0.length : Int) := of_decide_eq_true (by first | (with_reducible assumption) | assumption)
   obtain ⟨ad440, e440, hx440_0, hx440_1, hx440_2, hx440_3, hx440_4⟩ := at_T156 HR0.out x5_1 p440 q440
   have hw440_4 := hx440_4
   have hw440_3 := hx440_3
   have hw440_2 := hx440_2
   have hw440_1 := hx440_1
   have hw440_0 := hx440_0
   cases e440
   replace hx440_0 := (HB.out.cell (Zlt _ _ hx440_0)).trans hx440_0
   replace hx440_1 := (HB.out.cell (Zlt _ _ hx440_1)).trans hx440_1
   replace hx440_2 := (HB.out.cell (Zlt _ _ hx440_2)).trans hx440_2
   replace hx440_3 := (HB.out.cell (Zlt _ _ hx440_3)).trans hx440_3
   replace hx440_4 := (HB.out.cell (Zlt _ _ hx440_4)).trans hx440_4
   replace p440 := eq_true p440
   replace q440 := eq_true q440
   have p441 : 0 ≤ (x5_1 : Int) := of_decide_eq_true (by first | (with_reducible assumption) | assumption)
   have q441 : x5_1 < (l1.length : Int) := of_decide_eq_true (by first | (with_reducible assumption) | assumption)
   obtain ⟨ad441, e441, hx441_0, hx441_1, hx441_2, hx441_3, hx441_4⟩ := at_T156 HR1.out x5_1 p441 q441
   have hw441_4 := hx441_4
   have hw441_3 := hx441_3
   have hw441_2 := hx441_2
   have hw441_1 := hx441_1
   have hw441_0 := hx441_0
   cases e441
   replace hx441_0 := (HB.out.cell (Zlt _ _ hx441_0)).trans hx441_0
   replace hx441_1 := (HB.out.cell (Zlt _ _ hx441_1)).trans hx441_1
   replace hx441_2 := (HB.out.cell (Zlt _ _ hx441_2)).trans hx441_2
   replace hx441_3 := (HB.out.cell (Zlt _ _ hx441_3)).trans hx441_3
   replace hx441_4 := (HB.out.cell (Zlt _ _ hx441_4)).trans hx441_4
   replace p441 := eq_true p441
   replace q441 := eq_true q441
   refine start_ (n := 10) (S := fun w' => w'.cell? (ad440.add ((x5_1).toNat * 5)) = some (.int .i64 ((rd_T156 l0 x5_1).f0)) ∧ w'.cell? ⟨(ad440.add ((x5_1).toNat * 5)).block, (ad440.add ((x5_1).toNat * 5)).off + 1, none⟩ = some (.int .i64 ((rd_T156 l0 x5_1).f1)) ∧ w'.cell? ⟨(ad440.add ((x5_1).toNat * 5)).block, (ad440.add ((x5_1).toNat * 5)).off + 2, none⟩ = some (.string ((rd_T156 l0 x5_1).f2)) ∧ w'.cell? ⟨(ad440.add ((x5_1).toNat * 5)).block, (ad440.add ((x5_1).toNat * 5)).off + 3, none⟩ = some (.string ((rd_T156 l0 x5_1).f3)) ∧ w'.cell? ⟨(ad440.add ((x5_1).toNat * 5)).block, (ad440.add ((x5_1).toNat * 5)).off + 4, none⟩ = some (.string ((rd_T156 l0 x5_1).f4)) ∧ w'.cell? (ad441.add ((x5_1).toNat * 5)) = some (.int .i64 ((rd_T156 l1 x5_1).f0)) ∧ w'.cell? ⟨(ad441.add ((x5_1).toNat * 5)).block, (ad441.add ((x5_1).toNat * 5)).off + 1, none⟩ = some (.int .i64 ((rd_T156 l1 x5_1).f1)) ∧ w'.cell? ⟨(ad441.add ((x5_1).toNat * 5)).block, (ad441.add ((x5_1).toNat * 5)).off + 2, none⟩ = some (.string ((rd_T156 l1 x5_1).f2)) ∧ w'.cell? ⟨(ad441.add ((x5_1).toNat * 5)).block, (ad441.add ((x5_1).toNat * 5)).off + 3, none⟩ = some (.string ((rd_T156 l1 x5_1).f3)) ∧ w'.cell? ⟨(ad441.add ((x5_1).toNat * 5)).block, (ad441.add ((x5_1).toNat * 5)).off + 4, none⟩ = some (.string ((rd_T156 l1 x5_1).f4))) (ds := []) #[false, false, false, false, false, false, false, false, false, false] (by kernel_rfl) rfl rfl ⟨((HB.out.cell (Zlt _ _ hw440_0)).trans hw440_0), ((HB.out.cell (Zlt _ _ hw440_1)).trans hw440_1), ((HB.out.cell (Zlt _ _ hw440_2)).trans hw440_2), ((HB.out.cell (Zlt _ _ hw440_3)).trans hw440_3), ((HB.out.cell (Zlt _ _ hw440_4)).trans hw440_4), ((HB.out.cell (Zlt _ _ hw441_0)).trans hw441_0), ((HB.out.cell (Zlt _ _ hw441_1)).trans hw441_1), ((HB.out.cell (Zlt _ _ hw441_2)).trans hw441_2), ((HB.out.cell (Zlt _ _ hw441_3)).trans hw441_3), ((HB.out.cell (Zlt _ _ hw441_4)).trans hw441_4)⟩ (fun hHeld => ?_); refine with_tabW laws_eqInsS.tab6 laws_eqInsS.bits6 (fun HT_ HW_ => ?_)
   generalize wr.drew = w9 at HB hx440_0 hx440_1 hx440_2 hx440_3 hx440_4 hx441_0 hx441_1 hx441_2 hx441_3 hx441_4 hHeld ⊢
   refine pure_ (i := 0) (N := some 17) (v := ?_) (a' := ?_) #[true, false, false, false, false, false, false, false, false, false] rfl rfl (any_of HT_.out (by kernel_rfl)) (fun _ _ _ h => h) (Or.inl ⟨by rfl, ?_⟩) ?_ ?_
   rotate_left
   · intro w'
     go_simp
     with_reducible rfl
   rotate_left
   · simp only [Act.put, List.setIfInBounds_toArray, List.set_cons_zero, List.set_cons_succ, i64_w, i32_w]
     rfl
   refine pure_ (i := 1) (N := some 18) (v := ?_) (a' := ?_) #[true, true, false, false, false, false, false, false, false, false] rfl rfl (any_of HT_.out (by kernel_rfl)) (fun _ _ _ h => h) (Or.inl ⟨by rfl, ?_⟩) ?_ ?_
   rotate_left
   · intro w'
     go_simp
     with_reducible rfl
   rotate_left
   · simp only [Act.put, List.setIfInBounds_toArray, List.set_cons_zero, List.set_cons_succ, i64_w, i32_w]
     rfl
   refine pure_ (i := 2) (N := some 19) (v := ?_) (a' := ?_) #[true, true, true, false, false, false, false, false, false, false] rfl rfl (any_of HT_.out (by kernel_rfl)) (fun _ _ _ h => h) (Or.inl ⟨by rfl, ?_⟩) ?_ ?_
   rotate_left
   · intro w'
     go_simp
     with_reducible rfl
   rotate_left
   · simp only [Act.put, List.setIfInBounds_toArray, List.set_cons_zero, List.set_cons_succ, i64_w, i32_w]
     rfl
   refine pure_ (i := 4) (N := some 21) (v := ?_) (a' := ?_) #[true, true, true, false, true, false, false, false, false, false] rfl rfl (any_of HT_.out (by kernel_rfl)) (fun _ _ _ h => h) (Or.inl ⟨by rfl, ?_⟩) ?_ ?_
   rotate_left
   · intro w'
     go_simp
     with_reducible rfl
   rotate_left
   · simp only [Act.put, List.setIfInBounds_toArray, List.set_cons_zero, List.set_cons_succ, i64_w, i32_w]
     rfl
   refine pure_ (i := 5) (N := some 22) (v := ?_) (a' := ?_) #[true, true, true, false, true, true, false, false, false, false] rfl rfl (any_of HT_.out (by kernel_rfl)) (fun _ _ _ h => h) (Or.inl ⟨by rfl, ?_⟩) ?_ ?_
   rotate_left
   · intro w'
     go_simp
     with_reducible rfl
   rotate_left
   · simp only [Act.put, List.setIfInBounds_toArray, List.set_cons_zero, List.set_cons_succ, i64_w, i32_w]
     rfl
   refine pure_ (i := 6) (N := some 23) (v := ?_) (a' := ?_) #[true, true, true, false, true, true, true, false, false, false] rfl rfl (any_of HT_.out (by kernel_rfl)) (fun _ _ _ h => h) (Or.inl ⟨by rfl, ?_⟩) ?_ ?_
   rotate_left
   · intro w'
     go_simp
     with_reducible rfl
   rotate_left
   · simp only [Act.put, List.setIfInBounds_toArray, List.set_cons_zero, List.set_cons_succ, i64_w, i32_w]
     rfl
   refine take_ (i := 3) (N := some 20) (v := ?_) (a' := ?_) #[true, true, true, true, true, true, true, false, false, false] rfl rfl (take_ofW HT_.out HW_.out (by kernel_rfl)) (fun _ _ _ h => h) (Or.inl ⟨by rfl, ?_⟩) hHeld ?_ ?_
   rotate_left
   · rintro w' ⟨s0, s1, s2, s3, s4, s5, s6, s7, s8, s9⟩
     go_simp
     with_reducible rfl
   rotate_left
   · simp only [Act.put, List.setIfInBounds_toArray, List.set_cons_zero, List.set_cons_succ, i64_w, i32_w]
     rfl
   refine take_ (i := 7) (N := some 24) (v := ?_) (a' := ?_) #[true, true, true, true, true, true, true, true, false, false] rfl rfl (take_ofW HT_.out HW_.out (by kernel_rfl)) (fun _ _ _ h => h) (Or.inl ⟨by rfl, ?_⟩) hHeld ?_ ?_
   rotate_left
   · rintro w' ⟨s0, s1, s2, s3, s4, s5, s6, s7, s8, s9⟩
     go_simp
     with_reducible rfl
   rotate_left
   · simp only [Act.put, List.setIfInBounds_toArray, List.set_cons_zero, List.set_cons_succ, i64_w, i32_w]
     rfl
   refine one_ (i := 8) (N := some 25) #[true, true, true, true, true, true, true, true, true, false] rfl rfl (one_of HT_.out (by kernel_rfl)) (by decide) (fun K hK => ?_)
   refine goes_ Try.func161 (by kernel_rfl) rfl #[.agg #[.int .i64 ((rd_T156 l0 x5_1).f0), .int .i64 ((rd_T156 l0 x5_1).f1), .string ((rd_T156 l0 x5_1).f2), .string ((rd_T156 l0 x5_1).f3), .string ((rd_T156 l0 x5_1).f4)], .agg #[.int .i64 ((rd_T156 l1 x5_1).f0), .int .i64 ((rd_T156 l1 x5_1).f1), .string ((rd_T156 l1 x5_1).f2), .string ((rd_T156 l1 x5_1).f3), .string ((rd_T156 l1 x5_1).f4)]] (by rfl) rfl rfl (by (try simp only [List.map_toArray, List.map_cons, List.map_nil]); first | done | rfl | (simp only [List.length_drop, List.length_take]; rfl)) ?_
   with_reducible refine (laws_eqIns.calls ((rd_T156 l0 x5_1).f0) ((rd_T156 l0 x5_1).f1) ((rd_T156 l0 x5_1).f2) ((rd_T156 l0 x5_1).f3) ((rd_T156 l0 x5_1).f4) ((rd_T156 l1 x5_1).f0) ((rd_T156 l1 x5_1).f1) ((rd_T156 l1 x5_1).f2) ((rd_T156 l1 x5_1).f3) ((rd_T156 l1 x5_1).f4) t442 _ A7.out).mono ?_
   rintro e w10 ⟨rfl, hb⟩
   refine ⟨_, rfl, ?_⟩
   have n0_ := Zm (Zbt (bk HB.out) hb)
   clear HB
   have HB := n0_
   clear n0_
   refine hK.out _ _ ⟨((HB.out.cell (Zlt _ _ hw440_0)).trans hw440_0), ((HB.out.cell (Zlt _ _ hw440_1)).trans hw440_1), ((HB.out.cell (Zlt _ _ hw440_2)).trans hw440_2), ((HB.out.cell (Zlt _ _ hw440_3)).trans hw440_3), ((HB.out.cell (Zlt _ _ hw440_4)).trans hw440_4), ((HB.out.cell (Zlt _ _ hw441_0)).trans hw441_0), ((HB.out.cell (Zlt _ _ hw441_1)).trans hw441_1), ((HB.out.cell (Zlt _ _ hw441_2)).trans hw441_2), ((HB.out.cell (Zlt _ _ hw441_3)).trans hw441_3), ((HB.out.cell (Zlt _ _ hw441_4)).trans hw441_4)⟩ (fun hHeld => ?_)
   clear hK K
   refine norm_ (a' := ?_) ?_ ?_
   rotate_left
   · show Act.put _ (some 25) _ = _
     simp only [Act.put, List.setIfInBounds_toArray, List.set_cons_zero, List.set_cons_succ, i64_w, i32_w]
     rfl
   refine pure_ (i := 9) (N := some 26) (v := ?_) (a' := ?_) #[true, true, true, true, true, true, true, true, true, true] rfl rfl (any_of HT_.out (by kernel_rfl)) (fun _ _ _ h => h) (Or.inl ⟨by rfl, ?_⟩) ?_ ?_
   rotate_left
   · intro w'
     go_simp
     with_reducible rfl
   rotate_left
   · simp only [Act.put, List.setIfInBounds_toArray, List.set_cons_zero, List.set_cons_succ, i64_w, i32_w]
     rfl
   refine done_ (done_of HT_.out (by kernel_rfl)) ?_
   go_upto_if 26 with (fail)
   have H := HC8.out
   clear HC8
   by_cases c11 : t442 = true
   rotate_left
   · replace c11 := Bool.eq_false_iff.mpr c11
     subst c11
     rw [if_neg (show ¬ (false = true) by decide)] at H
     obtain rfl := Option.some.inj H
     go_wp2
     go_ret
     exact ⟨by first | rfl | (simp [*] <;> rfl), bk HB.out⟩
   subst c11
   rw [if_pos rfl] at H
   have H' := Zm H
   clear H
   go_wp2
   go_roundg k1
   case measure => have := HK1.out; omega
   case rel => exact ⟨(wrap64 (x5_1 + 1)), (by first | rfl | (simp; done) | (simp [*]; done)), H', ⟨by have := HK1.out; omega⟩, ⟨bk HB.out⟩⟩
/-! ### laws_eqHandler: function 162 -/
def laws_eqHandler.f (a0_0 : Int) (a0_1 : Int) (a0_2 : Int) (a0_3 : ByteArray) (a1_0 : Int) (a1_1 : Int) (a1_2 : Int) (a1_3 : ByteArray) : Option (Bool) := if a0_0 = a1_0 then (if a0_1 = a1_1 then (if a0_2 = a1_2 then (if a0_3.toList = a1_3.toList then (some true) else (some false)) else (some false)) else (some false)) else (some false)
set_option maxHeartbeats 8000000 in
set_option maxRecDepth 100000 in
theorem laws_eqHandler.calls (a0_0 : Int) (a0_1 : Int) (a0_2 : Int) (a0_3 : ByteArray) (a1_0 : Int) (a1_1 : Int) (a1_2 : Int) (a1_3 : ByteArray) (r : Bool) (w : World) (h : laws_eqHandler.f a0_0 a0_1 a0_2 a0_3 a1_0 a1_1 a1_2 a1_3 = some r) :
 Calls Try.prog 162 #[.agg #[.int .i64 a0_0, .int .i64 a0_1, .int .i64 a0_2, .string a0_3], .agg #[.int .i64 a1_0, .int .i64 a1_1, .int .i64 a1_2, .string a1_3]] w fun e w' => e = .returned (.bool r) ∧ Below w.heap.size w w' := by
 have hu160 := Try.underlying160
 have HB := Zm (Below.refl w.heap.size w)
 have H : (if a0_0 = a1_0 then (if a0_1 = a1_1 then (if a0_2 = a1_2 then (if a0_3.toList = a1_3.toList then (some true) else (some false)) else (some false)) else (some false)) else (some false)) = some r := h
 clear h
 have HC3 := Zm H
 clear H
 go_enter Try.func162, Try.ntmps162
 go_upto_if 9 with (first | ((with_reducible refine gate_dst (N := 2) rfl ?_); refine box_event ?hg (N := 2) ?hd (cs := #[.int .i64 a0_0, .int .i64 a0_1, .int .i64 a0_2, .string a0_3]) (t := 160) ?hr ?_; (case hd => rfl); (case hg => rfl); (case hr => first | (go_simp; done) | (go_simp; rfl)); intro gb443 hg w4 hbox hb; have n0_ := (⟨Zm (Zbt (bk HB.out) hb), Zm (hbox), Zm ((by rw [hg]; exact (Zbz (bk HB.out)) : w.heap.size ≤ gb443)), Zm ((by rw [hg]; exact (Zbz (bk HB.out)) : w.heap.size ≤ gb443))⟩ : _ ∧ _ ∧ _ ∧ _); clear HB; obtain ⟨HB, BK443, GW443, GE443⟩ := n0_; clear hb hbox hg) | ((with_reducible refine gate_dst (N := 3) rfl ?_); refine box_event ?hg (N := 3) ?hd (cs := #[.int .i64 a1_0, .int .i64 a1_1, .int .i64 a1_2, .string a1_3]) (t := 160) ?hr ?_; (case hd => rfl); (case hg => rfl); (case hr => first | (go_simp; done) | (go_simp; rfl)); intro gb444 hg w5 hbox hb; have n0_ := (⟨Zm (Zkb (pk BK443.out) hb), Zm (Zbt (bk HB.out) hb), Zm (hbox), Zm ((by rw [hg]; exact (Zbz (bk HB.out)) : w.heap.size ≤ gb444)), Zm ((by rw [hg]; exact (Zbz (bk HB.out)) : w.heap.size ≤ gb444)), Zm ((by rw [hg]; exact Nat.ne_of_lt (blk_lt (pk BK443.out)) : gb443 ≠ gb444)), Zm ((by rw [hg]; exact Nat.ne_of_gt (blk_lt (pk BK443.out)) : gb444 ≠ gb443))⟩ : _ ∧ _ ∧ _ ∧ _ ∧ _ ∧ _ ∧ _); clear BK443 HB; obtain ⟨BK443, HB, BK444, GW444, GE444, NB443_444, NB444_443⟩ := n0_; clear hb hbox hg; have hnb6 := NB443_444.out; have hnc6 := NB444_443.out; obtain ⟨hcz7_0, hcz7_1, hcz7_2, hcz7_3⟩ := cz4 BK443.out; obtain ⟨hcz8_0, hcz8_1, hcz8_2, hcz8_3⟩ := cz4 BK444.out; have hfz8_3 := Zkf BK444.out 3))
 have H := HC3.out
 clear HC3
 by_cases c9 : a0_0 = a1_0
 rotate_left
 · rw [if_neg c9] at H
   have c9b0 : (a0_0 == a1_0) = false := beq_eq_false_iff_ne.mpr c9
   have c9b1 : (a0_0 != a1_0) = true := bne_iff_ne.mpr c9
   (first | rw [c9b0] | (simp only [i64_w, i32_w]; rw [c9b0]) | skip)
   obtain rfl := Option.some.inj H
   go_wp2
   go_ret
   exact ⟨by first | rfl | (simp [*] <;> rfl), bk HB.out⟩

 rw [if_pos c9] at H
 have c9b0 : (a0_0 == a1_0) = true := beq_iff_eq.mpr c9
 have c9b1 : (a0_0 != a1_0) = false := bne_eq_false_iff_eq.mpr c9
 clear c9
 (first | rw [c9b0] | (simp only [i64_w, i32_w]; rw [c9b0]) | skip)
 by_cases c10 : a0_1 = a1_1
 rotate_left
 · rw [if_neg c10] at H
   have c10b0 : (a0_1 == a1_1) = false := beq_eq_false_iff_ne.mpr c10
   have c10b1 : (a0_1 != a1_1) = true := bne_iff_ne.mpr c10
   obtain rfl := Option.some.inj H
   have hnb23 := NB443_444.out
   have hnc23 := NB444_443.out
   obtain ⟨hcz24_0, hcz24_1, hcz24_2, hcz24_3⟩ := cz4 BK443.out
   obtain ⟨hcz25_0, hcz25_1, hcz25_2, hcz25_3⟩ := cz4 BK444.out
   go_wp2
   go_ret
   exact ⟨by first | rfl | (simp [*] <;> rfl), bk HB.out⟩
 rw [if_pos c10] at H
 have c10b0 : (a0_1 == a1_1) = true := beq_iff_eq.mpr c10
 have c10b1 : (a0_1 != a1_1) = false := bne_eq_false_iff_eq.mpr c10
 clear c10
 have HC11 := Zm H
 clear H
 have hnb12 := NB443_444.out
 have hnc12 := NB444_443.out
 obtain ⟨hcz13_0, hcz13_1, hcz13_2, hcz13_3⟩ := cz4 BK443.out
 obtain ⟨hcz14_0, hcz14_1, hcz14_2, hcz14_3⟩ := cz4 BK444.out
 go_upto_if 19 with (fail)
 have H := HC11.out
 clear HC11
 by_cases c15 : a0_2 = a1_2
 rotate_left
 · rw [if_neg c15] at H
   have c15b0 : (a0_2 == a1_2) = false := beq_eq_false_iff_ne.mpr c15
   have c15b1 : (a0_2 != a1_2) = true := bne_iff_ne.mpr c15
   (first | rw [c15b0] | (simp only [i64_w, i32_w]; rw [c15b0]) | skip)
   obtain rfl := Option.some.inj H
   go_wp2
   go_ret
   exact ⟨by first | rfl | (simp [*] <;> rfl), bk HB.out⟩
 rw [if_pos c15] at H
 have c15b0 : (a0_2 == a1_2) = true := beq_iff_eq.mpr c15
 have c15b1 : (a0_2 != a1_2) = false := bne_eq_false_iff_eq.mpr c15
 clear c15
 (first | rw [c15b0] | (simp only [i64_w, i32_w]; rw [c15b0]) | skip)
 by_cases c16 : a0_3.toList = a1_3.toList
 rotate_left
 · rw [if_neg c16] at H
   have c16b0 : (a0_3.toList == a1_3.toList) = false := beq_eq_false_iff_ne.mpr c16
   have c16b1 : (a0_3.toList != a1_3.toList) = true := bne_iff_ne.mpr c16
   obtain rfl := Option.some.inj H
   have hnb20 := NB443_444.out
   have hnc20 := NB444_443.out
   obtain ⟨hcz21_0, hcz21_1, hcz21_2, hcz21_3⟩ := cz4 BK443.out
   obtain ⟨hcz22_0, hcz22_1, hcz22_2, hcz22_3⟩ := cz4 BK444.out
   go_wp2
   go_ret
   exact ⟨by first | rfl | (simp [*] <;> rfl), bk HB.out⟩
 rw [if_pos c16] at H
 have c16b0 : (a0_3.toList == a1_3.toList) = true := beq_iff_eq.mpr c16
 have c16b1 : (a0_3.toList != a1_3.toList) = false := bne_eq_false_iff_eq.mpr c16
 clear c16
 obtain rfl := Option.some.inj H
 have hnb17 := NB443_444.out
 have hnc17 := NB444_443.out
 obtain ⟨hcz18_0, hcz18_1, hcz18_2, hcz18_3⟩ := cz4 BK443.out
 obtain ⟨hcz19_0, hcz19_1, hcz19_2, hcz19_3⟩ := cz4 BK444.out
 go_wp2
 go_ret
 exact ⟨by first | rfl | (simp [*] <;> rfl), bk HB.out⟩
/-! ### laws_eqHandlerS: function 109 -/
def laws_eqHandlerS.l0 : Nat → List (S160) → List (S160) → Int → Option (Bool)
 | 0, _, _, _ => none
 | k + 1, x0, x1, x5 => if x5 < (x0.length : Int) then (if 0 ≤ x5 then (if x5 < (x1.length : Int) then ((laws_eqHandler.f ((rd_T160 x0 x5).f0) ((rd_T160 x0 x5).f1) ((rd_T160 x0 x5).f2) ((rd_T160 x0 x5).f3) ((rd_T160 x1 x5).f0) ((rd_T160 x1 x5).f1) ((rd_T160 x1 x5).f2) ((rd_T160 x1 x5).f3)).bind fun t447 => (if t447 = true then (laws_eqHandlerS.l0 k x0 x1 (wrap64 (x5 + 1))) else (some false))) else (none)) else (none)) else (some true)
def laws_eqHandlerS.f (k : Nat) (l0 : List (S160)) (l1 : List (S160)) : Option (Bool) := if (l0.length : Int) = (l1.length : Int) then (laws_eqHandlerS.l0 k l0 l1 0) else (some false)
theorem laws_eqHandlerS.mono_l : ∀ k, (∀ y0 y1 y2, LeO (laws_eqHandlerS.l0 k y0 y1 y2) (laws_eqHandlerS.l0 (k + 1) y0 y1 y2))
 | 0 => fun _ _ _ r h => by simp [laws_eqHandlerS.l0] at h
 | k + 1 => by
  have ih0 := laws_eqHandlerS.mono_l k
  · intro y0 y1 y2
    unfold laws_eqHandlerS.l0
    repeat' first
    | (with_reducible exact ih0 _ _ _)
    | (with_reducible exact LeO.refl _)
    | (with_reducible exact LeO.none _)
    | (with_reducible refine LeO.ite ?_ ?_)
    | (with_reducible refine LeO.bind ?_ (fun _ => ?_))
    | exact ih0 _ _ _
    | exact LeO.none _
    | refine LeO.ite ?_ ?_
    | refine LeO.bind ?_ (fun _ => ?_)
theorem laws_eqHandlerS.mono : ∀ a0 a1 k, LeO (laws_eqHandlerS.f k a0 a1) (laws_eqHandlerS.f (k + 1) a0 a1) := by
 intro a0 a1 k
 have ih0 := laws_eqHandlerS.mono_l k
 unfold laws_eqHandlerS.f
 repeat' first
  | (with_reducible exact ih0 _ _ _)
  | (with_reducible exact LeO.refl _)
  | (with_reducible exact LeO.none _)
  | (with_reducible refine LeO.ite ?_ ?_)
  | (with_reducible refine LeO.bind ?_ (fun _ => ?_))
  | exact ih0 _ _ _
  | exact LeO.none _
  | refine LeO.ite ?_ ?_
  | refine LeO.bind ?_ (fun _ => ?_)
def laws_eqHandlerS.T6 : Bool × List (List Nat × List Nat) := (true, [([], []), ([], []), ([0, 1], [0, 1]), ([2], [2]), ([], []), ([], []), ([4, 5], [4, 5]), ([6], [6]), ([3, 7], [3, 7]), ([8], [8])])
def laws_eqHandlerS.B6 : List Nat := [0, 0, 3, 7, 0, 0, 48, 112, 255, 511]
theorem laws_eqHandlerS.tab6 : rtab .any (opsOf Try.f109 6) = laws_eqHandlerS.T6 := by kernel_rfl
theorem laws_eqHandlerS.bits6 : waitsOk laws_eqHandlerS.T6.2 laws_eqHandlerS.B6 = true := by kernel_rfl
set_option maxHeartbeats 8000000 in
set_option maxRecDepth 100000 in
theorem laws_eqHandlerS.calls (k : Nat) (A0 : Option Addr) (c0 : Nat) (l0 : List (S160)) (A1 : Option Addr) (c1 : Nat) (l1 : List (S160)) (r : Bool) (w : World) (hr0 : Kd.C k160 w A0 l0.length l0) (hc0 : l0.length ≤ c0) (hr1 : Kd.C k160 w A1 l1.length l1) (hc1 : l1.length ≤ c1) (h : laws_eqHandlerS.f k l0 l1 = some r) :
 Calls Try.prog 109 #[.slice A0 l0.length c0, .slice A1 l1.length c1] w fun e w' => e = .returned (.bool r) ∧ Below w.heap.size w w' := by
 have hu160 := Try.underlying160
 have HR0 := Zm hr0
 have HC0 := Zm hc0
 clear hr0 hc0
 have HR1 := Zm hr1
 have HC1 := Zm hc1
 clear hr1 hc1
 have HB := Zm (Below.refl w.heap.size w)
 have H : (if (l0.length : Int) = (l1.length : Int) then (laws_eqHandlerS.l0 k l0 l1 0) else (some false)) = some r := h
 clear h
 by_cases c3 : (l0.length : Int) = (l1.length : Int)
 rotate_left
 · rw [if_neg c3] at H
   have c3b0 : ((l0.length : Int) == (l1.length : Int)) = false := beq_eq_false_iff_ne.mpr c3
   have c3b1 : ((l0.length : Int) != (l1.length : Int)) = true := bne_iff_ne.mpr c3
   have c3b2 : (l0.length == l1.length) = false := by first | simpa using c3 | (simp at c3 ⊢; omega)
   obtain rfl := Option.some.inj H
   go_enter Try.func109, Try.ntmps109
   go_wp2
   go_ret
   exact ⟨by first | rfl | (simp [*] <;> rfl), bk HB.out⟩

 rw [if_pos c3] at H
 have c3b0 : ((l0.length : Int) == (l1.length : Int)) = true := beq_iff_eq.mpr c3
 have c3b1 : ((l0.length : Int) != (l1.length : Int)) = false := bne_eq_false_iff_eq.mpr c3
 have c3b2 : (l0.length == l1.length) = true := by first | simpa using c3 | (simp at c3 ⊢; omega)
 clear c3
 have H' := Zm H
 clear H
 go_enter Try.func109, Try.ntmps109
 go_wp2
 go_loopg [5] k (fun kq v5 w' => ∃ (x5_1 : Int), v5 = .int .i64 x5_1 ∧ Aside0 (laws_eqHandlerS.l0 kq l0 l1 x5_1 = some r) ∧ Aside0 (kq ≤ k) ∧ Aside0 (Below w.heap.size w w'))
 case atStart => exact ⟨(0), (by first | rfl | (simp; done) | (simp [*]; done)), H', ⟨Nat.le_refl _⟩, ⟨bk HB.out⟩⟩
 case round =>
  clear H'
  (try clear c3); (try clear c3b0); (try clear c3b1); (try clear c3b2)
  obtain ⟨x5_1, rfl, HA, HK1, HB⟩ := hrel
  cases gk with
  | zero => exact absurd HA.out (by simp [laws_eqHandlerS.l0])
  | succ k1 =>
   have H := HA.out
   clear HA
   simp only [laws_eqHandlerS.l0] at H
   by_cases c4 : x5_1 < (l0.length : Int)
   rotate_left
   · rw [if_neg c4] at H
     have c4b0 := decide_eq_false c4
     clear c4
     obtain rfl := Option.some.inj H
     go_wp2
     go_ret
     exact ⟨by first | rfl | (simp [*] <;> rfl), bk HB.out⟩
   rw [if_pos c4] at H
   have c4b0 := decide_eq_true c4
   clear c4
   by_cases c5 : 0 ≤ x5_1
   rotate_left
   · rw [if_neg c5] at H
     exact absurd H (by simp)
   rw [if_pos c5] at H
   have c5b0 := decide_eq_true c5
   clear c5
   by_cases c6 : x5_1 < (l1.length : Int)
   rotate_left
   · rw [if_neg c6] at H
     exact absurd H (by simp)
   rw [if_pos c6] at H
   have c6b0 := decide_eq_true c6
   clear c6
   replace H := Option.bind_eq_some_iff.mp H
   obtain ⟨t447, A70, H⟩ := H
   (try dsimp only at H)
   have A7 := Zm A70
   clear A70
   have HC8 := Zm H
   clear H
   try go_wp2
   have n0_ := Zm (Zbd HB.out)
   clear HB
   have HB := n0_
   clear n0_
   have p445 : 0 ≤ (x5_1 : Int) := of_decide_eq_true (by first | (with_reducible assumption) | assumption)
   have q445 : x5_1 < (l0.length : Int) := of_decide_eq_true (by first | (with_reducible assumption) | assumption)
   obtain ⟨ad445, e445, hx445_0, hx445_1, hx445_2, hx445_3⟩ := at_T160 HR0.out x5_1 p445 q445
   have hw445_3 := hx445_3
   have hw445_2 := hx445_2
   have hw445_1 := hx445_1
   have hw445_0 := hx445_0
   cases e445
   replace hx445_0 := (HB.out.cell (Zlt _ _ hx445_0)).trans hx445_0
   replace hx445_1 := (HB.out.cell (Zlt _ _ hx445_1)).trans hx445_1
   replace hx445_2 := (HB.out.cell (Zlt _ _ hx445_2)).trans hx445_2
   replace hx445_3 := (HB.out.cell (Zlt _ _ hx445_3)).trans hx445_3
   replace p445 := eq_true p445
   replace q445 := eq_true q445
   have p446 : 0 ≤ (x5_1 : Int) := of_decide_eq_true (by first | (with_reducible assumption) | assumption)
   have q446 : x5_1 < (l1.length : Int) := of_decide_eq_true (by first | (with_reducible assumption) | assumption)
   obtain ⟨ad446, e446, hx446_0, hx446_1, hx446_2, hx446_3⟩ := at_T160 HR1.out x5_1 p446 q446
   have hw446_3 := hx446_3
   have hw446_2 := hx446_2
   have hw446_1 := hx446_1
   have hw446_0 := hx446_0
   cases e446
   replace hx446_0 := (HB.out.cell (Zlt _ _ hx446_0)).trans hx446_0
   replace hx446_1 := (HB.out.cell (Zlt _ _ hx446_1)).trans hx446_1
   replace hx446_2 := (HB.out.cell (Zlt _ _ hx446_2)).trans hx446_2
   replace hx446_3 := (HB.out.cell (Zlt _ _ hx446_3)).trans hx446_3
   replace p446 := eq_true p446
   replace q446 := eq_true q446
   refine start_ (n := 10) (S := fun w' => w'.cell? (ad445.add ((x5_1).toNat * 4)) = some (.int .i64 ((rd_T160 l0 x5_1).f0)) ∧ w'.cell? ⟨(ad445.add ((x5_1).toNat * 4)).block, (ad445.add ((x5_1).toNat * 4)).off + 1, none⟩ = some (.int .i64 ((rd_T160 l0 x5_1).f1)) ∧ w'.cell? ⟨(ad445.add ((x5_1).toNat * 4)).block, (ad445.add ((x5_1).toNat * 4)).off + 2, none⟩ = some (.int .i64 ((rd_T160 l0 x5_1).f2)) ∧ w'.cell? ⟨(ad445.add ((x5_1).toNat * 4)).block, (ad445.add ((x5_1).toNat * 4)).off + 3, none⟩ = some (.string ((rd_T160 l0 x5_1).f3)) ∧ w'.cell? (ad446.add ((x5_1).toNat * 4)) = some (.int .i64 ((rd_T160 l1 x5_1).f0)) ∧ w'.cell? ⟨(ad446.add ((x5_1).toNat * 4)).block, (ad446.add ((x5_1).toNat * 4)).off + 1, none⟩ = some (.int .i64 ((rd_T160 l1 x5_1).f1)) ∧ w'.cell? ⟨(ad446.add ((x5_1).toNat * 4)).block, (ad446.add ((x5_1).toNat * 4)).off + 2, none⟩ = some (.int .i64 ((rd_T160 l1 x5_1).f2)) ∧ w'.cell? ⟨(ad446.add ((x5_1).toNat * 4)).block, (ad446.add ((x5_1).toNat * 4)).off + 3, none⟩ = some (.string ((rd_T160 l1 x5_1).f3))) (ds := []) #[false, false, false, false, false, false, false, false, false, false] (by kernel_rfl) rfl rfl ⟨((HB.out.cell (Zlt _ _ hw445_0)).trans hw445_0), ((HB.out.cell (Zlt _ _ hw445_1)).trans hw445_1), ((HB.out.cell (Zlt _ _ hw445_2)).trans hw445_2), ((HB.out.cell (Zlt _ _ hw445_3)).trans hw445_3), ((HB.out.cell (Zlt _ _ hw446_0)).trans hw446_0), ((HB.out.cell (Zlt _ _ hw446_1)).trans hw446_1), ((HB.out.cell (Zlt _ _ hw446_2)).trans hw446_2), ((HB.out.cell (Zlt _ _ hw446_3)).trans hw446_3)⟩ (fun hHeld => ?_); refine with_tabW laws_eqHandlerS.tab6 laws_eqHandlerS.bits6 (fun HT_ HW_ => ?_)
   generalize wr.drew = w9 at HB hx445_0 hx445_1 hx445_2 hx445_3 hx446_0 hx446_1 hx446_2 hx446_3 hHeld ⊢
   refine pure_ (i := 0) (N := some 17) (v := ?_) (a' := ?_) #[true, false, false, false, false, false, false, false, false, false] rfl rfl (any_of HT_.out (by kernel_rfl)) (fun _ _ _ h => h) (Or.inl ⟨by rfl, ?_⟩) ?_ ?_
   rotate_left
   · intro w'
     go_simp
     with_reducible rfl
   rotate_left
   · simp only [Act.put, List.setIfInBounds_toArray, List.set_cons_zero, List.set_cons_succ, i64_w, i32_w]
     rfl
   refine pure_ (i := 1) (N := some 18) (v := ?_) (a' := ?_) #[true, true, false, false, false, false, false, false, false, false] rfl rfl (any_of HT_.out (by kernel_rfl)) (fun _ _ _ h => h) (Or.inl ⟨by rfl, ?_⟩) ?_ ?_
   rotate_left
   · intro w'
     go_simp
     with_reducible rfl
   rotate_left
   · simp only [Act.put, List.setIfInBounds_toArray, List.set_cons_zero, List.set_cons_succ, i64_w, i32_w]
     rfl
   refine pure_ (i := 2) (N := some 19) (v := ?_) (a' := ?_) #[true, true, true, false, false, false, false, false, false, false] rfl rfl (any_of HT_.out (by kernel_rfl)) (fun _ _ _ h => h) (Or.inl ⟨by rfl, ?_⟩) ?_ ?_
   rotate_left
   · intro w'
     go_simp
     with_reducible rfl
   rotate_left
   · simp only [Act.put, List.setIfInBounds_toArray, List.set_cons_zero, List.set_cons_succ, i64_w, i32_w]
     rfl
   refine pure_ (i := 4) (N := some 21) (v := ?_) (a' := ?_) #[true, true, true, false, true, false, false, false, false, false] rfl rfl (any_of HT_.out (by kernel_rfl)) (fun _ _ _ h => h) (Or.inl ⟨by rfl, ?_⟩) ?_ ?_
   rotate_left
   · intro w'
     go_simp
     with_reducible rfl
   rotate_left
   · simp only [Act.put, List.setIfInBounds_toArray, List.set_cons_zero, List.set_cons_succ, i64_w, i32_w]
     rfl
   refine pure_ (i := 5) (N := some 22) (v := ?_) (a' := ?_) #[true, true, true, false, true, true, false, false, false, false] rfl rfl (any_of HT_.out (by kernel_rfl)) (fun _ _ _ h => h) (Or.inl ⟨by rfl, ?_⟩) ?_ ?_
   rotate_left
   · intro w'
     go_simp
     with_reducible rfl
   rotate_left
   · simp only [Act.put, List.setIfInBounds_toArray, List.set_cons_zero, List.set_cons_succ, i64_w, i32_w]
     rfl
   refine pure_ (i := 6) (N := some 23) (v := ?_) (a' := ?_) #[true, true, true, false, true, true, true, false, false, false] rfl rfl (any_of HT_.out (by kernel_rfl)) (fun _ _ _ h => h) (Or.inl ⟨by rfl, ?_⟩) ?_ ?_
   rotate_left
   · intro w'
     go_simp
     with_reducible rfl
   rotate_left
   · simp only [Act.put, List.setIfInBounds_toArray, List.set_cons_zero, List.set_cons_succ, i64_w, i32_w]
     rfl
   refine take_ (i := 3) (N := some 20) (v := ?_) (a' := ?_) #[true, true, true, true, true, true, true, false, false, false] rfl rfl (take_ofW HT_.out HW_.out (by kernel_rfl)) (fun _ _ _ h => h) (Or.inl ⟨by rfl, ?_⟩) hHeld ?_ ?_
   rotate_left
   · rintro w' ⟨s0, s1, s2, s3, s4, s5, s6, s7⟩
     go_simp
     with_reducible rfl
   rotate_left
   · simp only [Act.put, List.setIfInBounds_toArray, List.set_cons_zero, List.set_cons_succ, i64_w, i32_w]
     rfl
   refine take_ (i := 7) (N := some 24) (v := ?_) (a' := ?_) #[true, true, true, true, true, true, true, true, false, false] rfl rfl (take_ofW HT_.out HW_.out (by kernel_rfl)) (fun _ _ _ h => h) (Or.inl ⟨by rfl, ?_⟩) hHeld ?_ ?_
   rotate_left
   · rintro w' ⟨s0, s1, s2, s3, s4, s5, s6, s7⟩
     go_simp
     with_reducible rfl
   rotate_left
   · simp only [Act.put, List.setIfInBounds_toArray, List.set_cons_zero, List.set_cons_succ, i64_w, i32_w]
     rfl
   refine one_ (i := 8) (N := some 25) #[true, true, true, true, true, true, true, true, true, false] rfl rfl (one_of HT_.out (by kernel_rfl)) (by decide) (fun K hK => ?_)
   refine goes_ Try.func162 (by kernel_rfl) rfl #[.agg #[.int .i64 ((rd_T160 l0 x5_1).f0), .int .i64 ((rd_T160 l0 x5_1).f1), .int .i64 ((rd_T160 l0 x5_1).f2), .string ((rd_T160 l0 x5_1).f3)], .agg #[.int .i64 ((rd_T160 l1 x5_1).f0), .int .i64 ((rd_T160 l1 x5_1).f1), .int .i64 ((rd_T160 l1 x5_1).f2), .string ((rd_T160 l1 x5_1).f3)]] (by rfl) rfl rfl (by (try simp only [List.map_toArray, List.map_cons, List.map_nil]); first | done | rfl | (simp only [List.length_drop, List.length_take]; rfl)) ?_
   with_reducible refine (laws_eqHandler.calls ((rd_T160 l0 x5_1).f0) ((rd_T160 l0 x5_1).f1) ((rd_T160 l0 x5_1).f2) ((rd_T160 l0 x5_1).f3) ((rd_T160 l1 x5_1).f0) ((rd_T160 l1 x5_1).f1) ((rd_T160 l1 x5_1).f2) ((rd_T160 l1 x5_1).f3) t447 _ A7.out).mono ?_
   rintro e w10 ⟨rfl, hb⟩
   refine ⟨_, rfl, ?_⟩
   have n0_ := Zm (Zbt (bk HB.out) hb)
   clear HB
   have HB := n0_
   clear n0_
   refine hK.out _ _ ⟨((HB.out.cell (Zlt _ _ hw445_0)).trans hw445_0), ((HB.out.cell (Zlt _ _ hw445_1)).trans hw445_1), ((HB.out.cell (Zlt _ _ hw445_2)).trans hw445_2), ((HB.out.cell (Zlt _ _ hw445_3)).trans hw445_3), ((HB.out.cell (Zlt _ _ hw446_0)).trans hw446_0), ((HB.out.cell (Zlt _ _ hw446_1)).trans hw446_1), ((HB.out.cell (Zlt _ _ hw446_2)).trans hw446_2), ((HB.out.cell (Zlt _ _ hw446_3)).trans hw446_3)⟩ (fun hHeld => ?_)
   clear hK K
   refine norm_ (a' := ?_) ?_ ?_
   rotate_left
   · show Act.put _ (some 25) _ = _
     simp only [Act.put, List.setIfInBounds_toArray, List.set_cons_zero, List.set_cons_succ, i64_w, i32_w]
     rfl
   refine pure_ (i := 9) (N := some 26) (v := ?_) (a' := ?_) #[true, true, true, true, true, true, true, true, true, true] rfl rfl (any_of HT_.out (by kernel_rfl)) (fun _ _ _ h => h) (Or.inl ⟨by rfl, ?_⟩) ?_ ?_
   rotate_left
   · intro w'
     go_simp
     with_reducible rfl
   rotate_left
   · simp only [Act.put, List.setIfInBounds_toArray, List.set_cons_zero, List.set_cons_succ, i64_w, i32_w]
     rfl
   refine done_ (done_of HT_.out (by kernel_rfl)) ?_
   go_upto_if 26 with (fail)
   have H := HC8.out
   clear HC8
   by_cases c11 : t447 = true
   rotate_left
   · replace c11 := Bool.eq_false_iff.mpr c11
     subst c11
     rw [if_neg (show ¬ (false = true) by decide)] at H
     obtain rfl := Option.some.inj H
     go_wp2
     go_ret
     exact ⟨by first | rfl | (simp [*] <;> rfl), bk HB.out⟩
   subst c11
   rw [if_pos rfl] at H
   have H' := Zm H
   clear H
   go_wp2
   go_roundg k1
   case measure => have := HK1.out; omega
   case rel => exact ⟨(wrap64 (x5_1 + 1)), (by first | rfl | (simp; done) | (simp [*]; done)), H', ⟨by have := HK1.out; omega⟩, ⟨bk HB.out⟩⟩
/-! ### laws_eqMethod: function 37 -/
def laws_eqMethod.f (k : Nat) (a0_0 : ByteArray) (a0_1 : ByteArray) (a0_2 : Bool) (a0_3 : Bool) (a0_4 : Bool) (a0_5 : Int) (a0_6 : Int) (l0_7 : List (S156)) (l0_8 : List (S160)) (a1_0 : ByteArray) (a1_1 : ByteArray) (a1_2 : Bool) (a1_3 : Bool) (a1_4 : Bool) (a1_5 : Int) (a1_6 : Int) (l1_7 : List (S156)) (l1_8 : List (S160)) : Option (Bool) := if a0_0.toList = a1_0.toList then (if a0_1.toList = a1_1.toList then (if (a0_2 != a1_2) = true then (some false) else (if (a0_3 != a1_3) = true then (some false) else (if (a0_4 != a1_4) = true then (some false) else (if a0_5 = a1_5 then (if a0_6 = a1_6 then ((laws_eqInsS.f k l0_7 l1_7).bind fun t450 => (if t450 = true then ((laws_eqHandlerS.f k l0_8 l1_8).bind fun t451 => (if t451 = true then (some true) else (some false))) else (some false))) else (some false)) else (some false))))) else (some false)) else (some false)
theorem laws_eqMethod.mono : ∀ a0 a1 a2 a3 a4 a5 a6 a7 a8 a9 a10 a11 a12 a13 a14 a15 a16 a17 k, LeO (laws_eqMethod.f k a0 a1 a2 a3 a4 a5 a6 a7 a8 a9 a10 a11 a12 a13 a14 a15 a16 a17) (laws_eqMethod.f (k + 1) a0 a1 a2 a3 a4 a5 a6 a7 a8 a9 a10 a11 a12 a13 a14 a15 a16 a17) := by
 intro a0 a1 a2 a3 a4 a5 a6 a7 a8 a9 a10 a11 a12 a13 a14 a15 a16 a17 k
 unfold laws_eqMethod.f
 repeat' first
  | (with_reducible exact laws_eqHandlerS.mono _ _ _)
  | (with_reducible exact laws_eqInsS.mono _ _ _)
  | (with_reducible exact LeO.refl _)
  | (with_reducible exact LeO.none _)
  | (with_reducible refine LeO.ite ?_ ?_)
  | (with_reducible refine LeO.bind ?_ (fun _ => ?_))
  | exact laws_eqHandlerS.mono _ _ _
  | exact laws_eqInsS.mono _ _ _
  | exact LeO.none _
  | refine LeO.ite ?_ ?_
  | refine LeO.bind ?_ (fun _ => ?_)
set_option maxHeartbeats 8000000 in
set_option maxRecDepth 100000 in
theorem laws_eqMethod.calls (k : Nat) (a0_0 : ByteArray) (a0_1 : ByteArray) (a0_2 : Bool) (a0_3 : Bool) (a0_4 : Bool) (a0_5 : Int) (a0_6 : Int) (A0_7 : Option Addr) (c0_7 : Nat) (l0_7 : List (S156)) (A0_8 : Option Addr) (c0_8 : Nat) (l0_8 : List (S160)) (a1_0 : ByteArray) (a1_1 : ByteArray) (a1_2 : Bool) (a1_3 : Bool) (a1_4 : Bool) (a1_5 : Int) (a1_6 : Int) (A1_7 : Option Addr) (c1_7 : Nat) (l1_7 : List (S156)) (A1_8 : Option Addr) (c1_8 : Nat) (l1_8 : List (S160)) (r : Bool) (w : World) (hr0_7 : Kd.C k156 w A0_7 l0_7.length l0_7) (hc0_7 : l0_7.length ≤ c0_7) (hr0_8 : Kd.C k160 w A0_8 l0_8.length l0_8) (hc0_8 : l0_8.length ≤ c0_8) (hr1_7 : Kd.C k156 w A1_7 l1_7.length l1_7) (hc1_7 : l1_7.length ≤ c1_7) (hr1_8 : Kd.C k160 w A1_8 l1_8.length l1_8) (hc1_8 : l1_8.length ≤ c1_8) (h : laws_eqMethod.f k a0_0 a0_1 a0_2 a0_3 a0_4 a0_5 a0_6 l0_7 l0_8 a1_0 a1_1 a1_2 a1_3 a1_4 a1_5 a1_6 l1_7 l1_8 = some r) :
 Calls Try.prog 37 #[.agg #[.string a0_0, .string a0_1, .bool a0_2, .bool a0_3, .bool a0_4, .int .i64 a0_5, .int .i64 a0_6, .slice A0_7 l0_7.length c0_7, .slice A0_8 l0_8.length c0_8], .agg #[.string a1_0, .string a1_1, .bool a1_2, .bool a1_3, .bool a1_4, .int .i64 a1_5, .int .i64 a1_6, .slice A1_7 l1_7.length c1_7, .slice A1_8 l1_8.length c1_8]] w fun e w' => e = .returned (.bool r) ∧ Below w.heap.size w w' := by
 have hu84 := Try.underlying84
 have HR0_7 := Zm hr0_7
 have HC0_7 := Zm hc0_7
 clear hr0_7 hc0_7
 have HR0_8 := Zm hr0_8
 have HC0_8 := Zm hc0_8
 clear hr0_8 hc0_8
 have HR1_7 := Zm hr1_7
 have HC1_7 := Zm hc1_7
 clear hr1_7 hc1_7
 have HR1_8 := Zm hr1_8
 have HC1_8 := Zm hc1_8
 clear hr1_8 hc1_8
 have HB := Zm (Below.refl w.heap.size w)
 have H : (if a0_0.toList = a1_0.toList then (if a0_1.toList = a1_1.toList then (if (a0_2 != a1_2) = true then (some false) else (if (a0_3 != a1_3) = true then (some false) else (if (a0_4 != a1_4) = true then (some false) else (if a0_5 = a1_5 then (if a0_6 = a1_6 then ((laws_eqInsS.f k l0_7 l1_7).bind fun t450 => (if t450 = true then ((laws_eqHandlerS.f k l0_8 l1_8).bind fun t451 => (if t451 = true then (some true) else (some false))) else (some false))) else (some false)) else (some false))))) else (some false)) else (some false)) = some r := h
 clear h
 have HC3 := Zm H
 clear H
 go_enter Try.func37, Try.ntmps37
 go_upto_if 9 with (first | ((with_reducible refine gate_dst (N := 2) rfl ?_); refine box_event ?hg (N := 2) ?hd (cs := #[.string a0_0, .string a0_1, .bool a0_2, .bool a0_3, .bool a0_4, .int .i64 a0_5, .int .i64 a0_6, .slice A0_7 l0_7.length c0_7, .slice A0_8 l0_8.length c0_8]) (t := 84) ?hr ?_; (case hd => rfl); (case hg => rfl); (case hr => first | (go_simp; done) | (go_simp; rfl)); intro gb448 hg w4 hbox hb; have n0_ := (⟨Zm (Zbt (bk HB.out) hb), Zm (hbox), Zm ((by rw [hg]; exact (Zbz (bk HB.out)) : w.heap.size ≤ gb448)), Zm ((by rw [hg]; exact (Zbz (bk HB.out)) : w.heap.size ≤ gb448))⟩ : _ ∧ _ ∧ _ ∧ _); clear HB; obtain ⟨HB, BK448, GW448, GE448⟩ := n0_; clear hb hbox hg) | ((with_reducible refine gate_dst (N := 3) rfl ?_); refine box_event ?hg (N := 3) ?hd (cs := #[.string a1_0, .string a1_1, .bool a1_2, .bool a1_3, .bool a1_4, .int .i64 a1_5, .int .i64 a1_6, .slice A1_7 l1_7.length c1_7, .slice A1_8 l1_8.length c1_8]) (t := 84) ?hr ?_; (case hd => rfl); (case hg => rfl); (case hr => first | (go_simp; done) | (go_simp; rfl)); intro gb449 hg w5 hbox hb; have n0_ := (⟨Zm (Zkb (pk BK448.out) hb), Zm (Zbt (bk HB.out) hb), Zm (hbox), Zm ((by rw [hg]; exact (Zbz (bk HB.out)) : w.heap.size ≤ gb449)), Zm ((by rw [hg]; exact (Zbz (bk HB.out)) : w.heap.size ≤ gb449)), Zm ((by rw [hg]; exact Nat.ne_of_lt (blk_lt (pk BK448.out)) : gb448 ≠ gb449)), Zm ((by rw [hg]; exact Nat.ne_of_gt (blk_lt (pk BK448.out)) : gb449 ≠ gb448))⟩ : _ ∧ _ ∧ _ ∧ _ ∧ _ ∧ _ ∧ _); clear BK448 HB; obtain ⟨BK448, HB, BK449, GW449, GE449, NB448_449, NB449_448⟩ := n0_; clear hb hbox hg; have hnb6 := NB448_449.out; have hnc6 := NB449_448.out; obtain ⟨hcz7_0, hcz7_1, hcz7_2, hcz7_3, hcz7_4, hcz7_5, hcz7_6, hcz7_7, hcz7_8⟩ := cz9 BK448.out; obtain ⟨hcz8_0, hcz8_1, hcz8_2, hcz8_3, hcz8_4, hcz8_5, hcz8_6, hcz8_7, hcz8_8⟩ := cz9 BK449.out; have hfz8_8 := Zkf BK449.out 8))
 have H := HC3.out
 clear HC3
 by_cases c9 : a0_0.toList = a1_0.toList
 rotate_left
 · rw [if_neg c9] at H
   have c9b0 : (a0_0.toList == a1_0.toList) = false := beq_eq_false_iff_ne.mpr c9
   have c9b1 : (a0_0.toList != a1_0.toList) = true := bne_iff_ne.mpr c9
   (first | rw [c9b0] | (simp only [i64_w, i32_w]; rw [c9b0]) | skip)
   obtain rfl := Option.some.inj H
   go_wp2
   go_ret
   exact ⟨by first | rfl | (simp [*] <;> rfl), bk HB.out⟩

 rw [if_pos c9] at H
 have c9b0 : (a0_0.toList == a1_0.toList) = true := beq_iff_eq.mpr c9
 have c9b1 : (a0_0.toList != a1_0.toList) = false := bne_eq_false_iff_eq.mpr c9
 clear c9
 (first | rw [c9b0] | (simp only [i64_w, i32_w]; rw [c9b0]) | skip)
 by_cases c10 : a0_1.toList = a1_1.toList
 rotate_left
 · rw [if_neg c10] at H
   have c10b0 : (a0_1.toList == a1_1.toList) = false := beq_eq_false_iff_ne.mpr c10
   have c10b1 : (a0_1.toList != a1_1.toList) = true := bne_iff_ne.mpr c10
   obtain rfl := Option.some.inj H
   have hnb48 := NB448_449.out
   have hnc48 := NB449_448.out
   obtain ⟨hcz49_0, hcz49_1, hcz49_2, hcz49_3, hcz49_4, hcz49_5, hcz49_6, hcz49_7, hcz49_8⟩ := cz9 BK448.out
   obtain ⟨hcz50_0, hcz50_1, hcz50_2, hcz50_3, hcz50_4, hcz50_5, hcz50_6, hcz50_7, hcz50_8⟩ := cz9 BK449.out
   go_wp2
   go_ret
   exact ⟨by first | rfl | (simp [*] <;> rfl), bk HB.out⟩
 rw [if_pos c10] at H
 have c10b0 : (a0_1.toList == a1_1.toList) = true := beq_iff_eq.mpr c10
 have c10b1 : (a0_1.toList != a1_1.toList) = false := bne_eq_false_iff_eq.mpr c10
 clear c10
 have HC11 := Zm H
 clear H
 have hnb12 := NB448_449.out
 have hnc12 := NB449_448.out
 obtain ⟨hcz13_0, hcz13_1, hcz13_2, hcz13_3, hcz13_4, hcz13_5, hcz13_6, hcz13_7, hcz13_8⟩ := cz9 BK448.out
 obtain ⟨hcz14_0, hcz14_1, hcz14_2, hcz14_3, hcz14_4, hcz14_5, hcz14_6, hcz14_7, hcz14_8⟩ := cz9 BK449.out
 go_upto_if 19 with (fail)
 have H := HC11.out
 clear HC11
 by_cases c15 : (a0_2 != a1_2) = true
 rotate_left
 · rw [if_neg c15] at H
   have c15b0 : (a0_2 != a1_2) = false := by simpa using c15
   (try (have c15b1 : decide (a0_2 = a1_2) = true := by simpa using c15))
   (try (have c15b2 : (a0_2 == a1_2) = true := by simpa using c15))
   clear c15
   (first | rw [c15b0] | (simp only [i64_w, i32_w]; rw [c15b0]) | rw [bne_ c15b0] | skip)
   by_cases c16 : (a0_3 != a1_3) = true
   rotate_left
   · rw [if_neg c16] at H
     have c16b0 : (a0_3 != a1_3) = false := by simpa using c16
     (try (have c16b1 : decide (a0_3 = a1_3) = true := by simpa using c16))
     (try (have c16b2 : (a0_3 == a1_3) = true := by simpa using c16))
     clear c16
     have HC20 := Zm H
     clear H
     have hnb21 := NB448_449.out
     have hnc21 := NB449_448.out
     obtain ⟨hcz22_0, hcz22_1, hcz22_2, hcz22_3, hcz22_4, hcz22_5, hcz22_6, hcz22_7, hcz22_8⟩ := cz9 BK448.out
     obtain ⟨hcz23_0, hcz23_1, hcz23_2, hcz23_3, hcz23_4, hcz23_5, hcz23_6, hcz23_7, hcz23_8⟩ := cz9 BK449.out
     go_upto_if 29 with (fail)
     have H := HC20.out
     clear HC20
     by_cases c24 : (a0_4 != a1_4) = true
     rotate_left
     · rw [if_neg c24] at H
       have c24b0 : (a0_4 != a1_4) = false := by simpa using c24
       (try (have c24b1 : decide (a0_4 = a1_4) = true := by simpa using c24))
       (try (have c24b2 : (a0_4 == a1_4) = true := by simpa using c24))
       clear c24
       (first | rw [c24b0] | (simp only [i64_w, i32_w]; rw [c24b0]) | rw [bne_ c24b0] | skip)
       by_cases c25 : a0_5 = a1_5
       rotate_left
       · rw [if_neg c25] at H
         have c25b0 : (a0_5 == a1_5) = false := beq_eq_false_iff_ne.mpr c25
         have c25b1 : (a0_5 != a1_5) = true := bne_iff_ne.mpr c25
         obtain rfl := Option.some.inj H
         have hnb45 := NB448_449.out
         have hnc45 := NB449_448.out
         obtain ⟨hcz46_0, hcz46_1, hcz46_2, hcz46_3, hcz46_4, hcz46_5, hcz46_6, hcz46_7, hcz46_8⟩ := cz9 BK448.out
         obtain ⟨hcz47_0, hcz47_1, hcz47_2, hcz47_3, hcz47_4, hcz47_5, hcz47_6, hcz47_7, hcz47_8⟩ := cz9 BK449.out
         go_wp2
         go_ret
         exact ⟨by first | rfl | (simp [*] <;> rfl), bk HB.out⟩
       rw [if_pos c25] at H
       have c25b0 : (a0_5 == a1_5) = true := beq_iff_eq.mpr c25
       have c25b1 : (a0_5 != a1_5) = false := bne_eq_false_iff_eq.mpr c25
       clear c25
       have HC26 := Zm H
       clear H
       have hnb27 := NB448_449.out
       have hnc27 := NB449_448.out
       obtain ⟨hcz28_0, hcz28_1, hcz28_2, hcz28_3, hcz28_4, hcz28_5, hcz28_6, hcz28_7, hcz28_8⟩ := cz9 BK448.out
       obtain ⟨hcz29_0, hcz29_1, hcz29_2, hcz29_3, hcz29_4, hcz29_5, hcz29_6, hcz29_7, hcz29_8⟩ := cz9 BK449.out
       go_upto_if 39 with (fail)
       have H := HC26.out
       clear HC26
       by_cases c30 : a0_6 = a1_6
       rotate_left
       · rw [if_neg c30] at H
         have c30b0 : (a0_6 == a1_6) = false := beq_eq_false_iff_ne.mpr c30
         have c30b1 : (a0_6 != a1_6) = true := bne_iff_ne.mpr c30
         (first | rw [c30b0] | (simp only [i64_w, i32_w]; rw [c30b0]) | skip)
         obtain rfl := Option.some.inj H
         go_wp2
         go_ret
         exact ⟨by first | rfl | (simp [*] <;> rfl), bk HB.out⟩
       rw [if_pos c30] at H
       have c30b0 : (a0_6 == a1_6) = true := beq_iff_eq.mpr c30
       have c30b1 : (a0_6 != a1_6) = false := bne_eq_false_iff_eq.mpr c30
       clear c30
       (first | rw [c30b0] | (simp only [i64_w, i32_w]; rw [c30b0]) | skip)
       replace H := Option.bind_eq_some_iff.mp H
       obtain ⟨t450, A310, H⟩ := H
       (try dsimp only at H)
       have A31 := Zm A310
       clear A310
       have HC32 := Zm H
       clear H
       have hnb33 := NB448_449.out
       have hnc33 := NB449_448.out
       obtain ⟨hcz34_0, hcz34_1, hcz34_2, hcz34_3, hcz34_4, hcz34_5, hcz34_6, hcz34_7, hcz34_8⟩ := cz9 BK448.out
       obtain ⟨hcz35_0, hcz35_1, hcz35_2, hcz35_3, hcz35_4, hcz35_5, hcz35_6, hcz35_7, hcz35_8⟩ := cz9 BK449.out
       go_upto_if 45 with (first | ((with_reducible refine gate_callee (f := 108) rfl ?_); refine goesL_ (some 44) rfl rfl Try.func108 (by kernel_rfl) rfl #[.slice A0_7 l0_7.length c0_7, .slice A1_7 l1_7.length c1_7] rfl (by (try simp only [List.map_toArray, List.map_cons, List.map_nil]); first | done | rfl | (simp only [List.length_drop, List.length_take]; rfl)) ?_; (with_reducible refine (laws_eqInsS.calls k _ _ l0_7 _ _ l1_7 t450 _ ?side1 ?side2 ?side3 ?side4 A31.out).mono ?_); (case side1 => exact pc (Kd.C_below HR0_7.out HB.out)); (case side2 => exact HC0_7.out); (case side3 => exact pc (Kd.C_below HR1_7.out HB.out)); (case side4 => exact HC1_7.out); rintro e w36 ⟨rfl, hb⟩; refine ⟨_, rfl, ?_⟩; have n0_ := (⟨Zm (Zkb (pk BK448.out) hb), Zm (Zkb (pk BK449.out) hb), Zm (Zbt (bk HB.out) hb)⟩ : _ ∧ _ ∧ _); clear BK448 BK449 HB; obtain ⟨BK448, BK449, HB⟩ := n0_; (try clear hb); (try clear hb2); (try clear hk); (try clear hi)))
       have H := HC32.out
       clear HC32
       by_cases c37 : t450 = true
       rotate_left
       · replace c37 := Bool.eq_false_iff.mpr c37
         subst c37
         rw [if_neg (show ¬ (false = true) by decide)] at H
         obtain rfl := Option.some.inj H
         go_wp2
         go_ret
         exact ⟨by first | rfl | (simp [*] <;> rfl), bk HB.out⟩
       subst c37
       rw [if_pos rfl] at H
       replace H := Option.bind_eq_some_iff.mp H
       obtain ⟨t451, A380, H⟩ := H
       (try dsimp only at H)
       have A38 := Zm A380
       clear A380
       have HC39 := Zm H
       clear H
       have hnb40 := NB448_449.out
       have hnc40 := NB449_448.out
       obtain ⟨hcz41_0, hcz41_1, hcz41_2, hcz41_3, hcz41_4, hcz41_5, hcz41_6, hcz41_7, hcz41_8⟩ := cz9 BK448.out
       obtain ⟨hcz42_0, hcz42_1, hcz42_2, hcz42_3, hcz42_4, hcz42_5, hcz42_6, hcz42_7, hcz42_8⟩ := cz9 BK449.out
       (try clear BK448)
       (try clear BK449)
       go_upto_if 51 with (first | ((with_reducible refine gate_callee (f := 109) rfl ?_); refine goesL_ (some 50) rfl rfl Try.func109 (by kernel_rfl) rfl #[.slice A0_8 l0_8.length c0_8, .slice A1_8 l1_8.length c1_8] rfl (by (try simp only [List.map_toArray, List.map_cons, List.map_nil]); first | done | rfl | (simp only [List.length_drop, List.length_take]; rfl)) ?_; (with_reducible refine (laws_eqHandlerS.calls k _ _ l0_8 _ _ l1_8 t451 _ ?side1 ?side2 ?side3 ?side4 A38.out).mono ?_); (case side1 => exact pc (Kd.C_below HR0_8.out HB.out)); (case side2 => exact HC0_8.out); (case side3 => exact pc (Kd.C_below HR1_8.out HB.out)); (case side4 => exact HC1_8.out); rintro e w43 ⟨rfl, hb⟩; refine ⟨_, rfl, ?_⟩; have n0_ := Zm (Zbt (bk HB.out) hb); clear HB; have HB := n0_; clear n0_; (try clear hb); (try clear hb2); (try clear hk); (try clear hi)))
       have H := HC39.out
       clear HC39
       by_cases c44 : t451 = true
       rotate_left
       · replace c44 := Bool.eq_false_iff.mpr c44
         subst c44
         rw [if_neg (show ¬ (false = true) by decide)] at H
         obtain rfl := Option.some.inj H
         go_wp2
         go_ret
         exact ⟨by first | rfl | (simp [*] <;> rfl), bk HB.out⟩
       subst c44
       rw [if_pos rfl] at H
       obtain rfl := Option.some.inj H
       go_wp2
       go_ret
       exact ⟨by first | rfl | (simp [*] <;> rfl), bk HB.out⟩
     rw [if_pos c24] at H
     have c24b0 : (a0_4 != a1_4) = true := c24
     (try (have c24b1 : decide (a0_4 = a1_4) = false := by simpa using c24))
     (try (have c24b2 : (a0_4 == a1_4) = false := by simpa using c24))
     (try (have c24b3 : ¬ (a0_4 = a1_4) := by simpa using c24))
     clear c24
     (first | rw [c24b0] | (simp only [i64_w, i32_w]; rw [c24b0]) | rw [bne_ c24b0] | skip)
     obtain rfl := Option.some.inj H
     go_wp2
     go_ret
     exact ⟨by first | rfl | (simp [*] <;> rfl), bk HB.out⟩
   rw [if_pos c16] at H
   have c16b0 : (a0_3 != a1_3) = true := c16
   (try (have c16b1 : decide (a0_3 = a1_3) = false := by simpa using c16))
   (try (have c16b2 : (a0_3 == a1_3) = false := by simpa using c16))
   (try (have c16b3 : ¬ (a0_3 = a1_3) := by simpa using c16))
   clear c16
   obtain rfl := Option.some.inj H
   have hnb17 := NB448_449.out
   have hnc17 := NB449_448.out
   obtain ⟨hcz18_0, hcz18_1, hcz18_2, hcz18_3, hcz18_4, hcz18_5, hcz18_6, hcz18_7, hcz18_8⟩ := cz9 BK448.out
   obtain ⟨hcz19_0, hcz19_1, hcz19_2, hcz19_3, hcz19_4, hcz19_5, hcz19_6, hcz19_7, hcz19_8⟩ := cz9 BK449.out
   go_wp2
   go_ret
   exact ⟨by first | rfl | (simp [*] <;> rfl), bk HB.out⟩
 rw [if_pos c15] at H
 have c15b0 : (a0_2 != a1_2) = true := c15
 (try (have c15b1 : decide (a0_2 = a1_2) = false := by simpa using c15))
 (try (have c15b2 : (a0_2 == a1_2) = false := by simpa using c15))
 (try (have c15b3 : ¬ (a0_2 = a1_2) := by simpa using c15))
 clear c15
 (first | rw [c15b0] | (simp only [i64_w, i32_w]; rw [c15b0]) | rw [bne_ c15b0] | skip)
 obtain rfl := Option.some.inj H
 go_wp2
 go_ret
 exact ⟨by first | rfl | (simp [*] <;> rfl), bk HB.out⟩
end Go.Proofs.Ytlflbmbcjjegaaa.PFnExactMethodRight
