/- Functions of the program as plain Lean functions, each with a proof that the program's call comes to the same; no condition. Written by a program of this session. -/
import Derived.Test.YtlflbmbcjjegaaaPFnExactClassRightx0
import Derived.Test.YtlflbmbcjjegaaaPFnExactClassRightx3
namespace Go.Proofs.Ytlflbmbcjjegaaa.PFnExactClassRight
open Go.RowKit Go.Proofs.YtlflbmbcjjegaaaW.PrintWords Go.Proofs.YtlflbmbcjjegaaaW.PrintLast Go.Proofs.YtlflbmbcjjegaaaW.PrintMore
open Go.Proofs.YtlflbmbcjjegaaaW.PrintWords renaming below_drew1 → Zbd, below_size → Zbz, below_step → Zbt, blk_frozen → Zkf, blk_below → Zkb
open Go.World renaming block_lt_of_cell? → Zlt
open Go.Proofs.YtlflbmbcjjegaaaW.PrintWords.Aside0 renaming mk → Zm
attribute [local go_sem] max2_int min2_int max_two min_two max_three min_three max_four min_four   -- for this text's walks alone
set_option linter.unusedVariables false
set_option linter.unusedSimpArgs false

/-! ### laws_eqHandlerS: function 109 -/
def laws_eqHandlerS.l0 : Nat → List (S160) → List (S160) → Int → Option (Bool)
 | 0, _, _, _ => none
 | k + 1, x0, x1, x5 => if x5 < (x0.length : Int) then (if 0 ≤ x5 then (if x5 < (x1.length : Int) then ((laws_eqHandler.f ((rd_T160 x0 x5).f0) ((rd_T160 x0 x5).f1) ((rd_T160 x0 x5).f2) ((rd_T160 x0 x5).f3) ((rd_T160 x1 x5).f0) ((rd_T160 x1 x5).f1) ((rd_T160 x1 x5).f2) ((rd_T160 x1 x5).f3)).bind fun t204 => (if t204 = true then (laws_eqHandlerS.l0 k x0 x1 (wrap64 (x5 + 1))) else (some false))) else (none)) else (none)) else (some true)
def laws_eqHandlerS.f (k : Nat) (l0 : List (S160)) (l1 : List (S160)) : Option (Bool) := if (l0.length : Int) = (l1.length : Int) then (laws_eqHandlerS.l0 k l0 l1 0) else (some false)
def laws_eqHandlerS.T6 : Bool × List (List Nat × List Nat) := (true, [([], []), ([], []), ([0, 1], [0, 1]), ([2], [2]), ([], []), ([], []), ([4, 5], [4, 5]), ([6], [6]), ([3, 7], [3, 7]), ([8], [8])])
def laws_eqHandlerS.B6 : List Nat := [0, 0, 3, 7, 0, 0, 48, 112, 255, 511]
theorem laws_eqHandlerS.tab6 : rtab .any (opsOf Try.f109 6) = laws_eqHandlerS.T6 := by kernel_rfl
theorem laws_eqHandlerS.bits6 : waitsOk laws_eqHandlerS.T6.2 laws_eqHandlerS.B6 = true := by kernel_rfl
set_option maxHeartbeats 8000000 in
set_option maxRecDepth 100000 in
theorem laws_eqHandlerS.calls (k : Nat) (A0 : Option Addr) (c0 : Nat) (l0 : List (S160)) (A1 : Option Addr) (c1 : Nat) (l1 : List (S160)) (r : Bool) (w : World) (hr0 : Kd.C k160 w A0 l0.length l0) (hc0 : l0.length ≤ c0) (hr1 : Kd.C k160 w A1 l1.length l1) (hc1 : l1.length ≤ c1) (h : laws_eqHandlerS.f k l0 l1 = some r) :
 Calls Try.prog 109 #[.slice A0 l0.length c0, .slice A1 l1.length c1] w fun e w' => e = .returned (.bool r) ∧ Below w.heap.size w w' := by
 have hu160 := Try.underlying160; have HR0 := Zm hr0; have HC0 := Zm hc0; clear hr0 hc0; have HR1 := Zm hr1; have HC1 := Zm hc1; clear hr1 hc1; have HB := Zm (Below.refl w.heap.size w); have H : (if (l0.length : Int) = (l1.length : Int) then (laws_eqHandlerS.l0 k l0 l1 0) else (some false)) = some r := h; clear h; by_cases c3 : (l0.length : Int) = (l1.length : Int); rotate_left
 · rw [if_neg c3] at H; have c3b0 : ((l0.length : Int) == (l1.length : Int)) = false := beq_eq_false_iff_ne.mpr c3; have c3b1 : ((l0.length : Int) != (l1.length : Int)) = true := bne_iff_ne.mpr c3; have c3b2 : (l0.length == l1.length) = false := by first | simpa using c3 | (simp at c3 ⊢; omega)
   obtain rfl := Option.some.inj H; go_enter Try.func109, Try.ntmps109; go_wp2; go_ret; exact fin_ HB

 rw [if_pos c3] at H
 have c3b0 : ((l0.length : Int) == (l1.length : Int)) = true := beq_iff_eq.mpr c3
 have c3b1 : ((l0.length : Int) != (l1.length : Int)) = false := bne_eq_false_iff_eq.mpr c3
 have c3b2 : (l0.length == l1.length) = true := by first | simpa using c3 | (simp at c3 ⊢; omega)
 clear c3
 have H' := Zm H
 clear H
 go_enter Try.func109, Try.ntmps109
 go_wp2
 go_loopg [5] k (fun kq v5 w' => ∃ (x5_1 : Int), v5 = .int .i64 x5_1 ∧ Aside0 (laws_eqHandlerS.l0 kq l0 l1 x5_1 = some r) ∧ Aside0 (kq ≤ k) ∧ Aside0 (Below w.heap.size w w'))
 case atStart => exact ⟨(0), (by first | rfl | (simp; done) | (simp [*]; done)), H', ⟨Nat.le_refl _⟩, ⟨bk HB.out⟩⟩
 case round =>
  clear H'
  (try clear c3); (try clear c3b0); (try clear c3b1); (try clear c3b2)
  obtain ⟨x5_1, rfl, HA, HK1, HB⟩ := hrel
  cases gk with
  | zero => exact absurd HA.out (by simp [laws_eqHandlerS.l0])
  | succ k1 =>
   have H := HA.out
   clear HA
   simp only [laws_eqHandlerS.l0] at H
   by_cases c4 : x5_1 < (l0.length : Int)
   rotate_left
   · rw [if_neg c4] at H
     have c4b0 := decide_eq_false c4
     clear c4
     obtain rfl := Option.some.inj H
     go_wp2
     go_ret
     exact fin_ HB
   rw [if_pos c4] at H
   have c4b0 := decide_eq_true c4
   clear c4
   by_cases c5 : 0 ≤ x5_1
   rotate_left
   · rw [if_neg c5] at H
     exact absurd H (by simp)
   rw [if_pos c5] at H
   have c5b0 := decide_eq_true c5
   clear c5
   by_cases c6 : x5_1 < (l1.length : Int)
   rotate_left
   · rw [if_neg c6] at H
     exact absurd H (by simp)
   rw [if_pos c6] at H
   have c6b0 := decide_eq_true c6
   clear c6
   replace H := Option.bind_eq_some_iff.mp H
   obtain ⟨t204, A70, H⟩ := H
   (try dsimp only at H)
   have A7 := Zm A70
   clear A70
   have HC8 := Zm H
   clear H
   try go_wp2
   have n0_ := Zm (Zbd HB.out)
   clear HB
   have HB := n0_
   clear n0_
   have p202 : 0 ≤ (x5_1 : Int) := of_decide_eq_true (by first | (with_reducible assumption) | assumption)
   have q202 : x5_1 < (l0.length : Int) := of_decide_eq_true (by first | (with_reducible assumption) | assumption)
   obtain ⟨ad202, e202, hx202_0, hx202_1, hx202_2, hx202_3⟩ := at_T160 HR0.out x5_1 p202 q202
   have hw202_3 := hx202_3
   have hw202_2 := hx202_2
   have hw202_1 := hx202_1
   have hw202_0 := hx202_0
   cases e202
   replace hx202_0 := hx_ HB hx202_0 (Zlt _ _ hx202_0)
   replace hx202_1 := hx_ HB hx202_1 (Zlt _ _ hx202_1)
   replace hx202_2 := hx_ HB hx202_2 (Zlt _ _ hx202_2)
   replace hx202_3 := hx_ HB hx202_3 (Zlt _ _ hx202_3)
   replace p202 := eq_true p202
   replace q202 := eq_true q202
   have p203 : 0 ≤ (x5_1 : Int) := of_decide_eq_true (by first | (with_reducible assumption) | assumption)
   have q203 : x5_1 < (l1.length : Int) := of_decide_eq_true (by first | (with_reducible assumption) | assumption)
   obtain ⟨ad203, e203, hx203_0, hx203_1, hx203_2, hx203_3⟩ := at_T160 HR1.out x5_1 p203 q203
   have hw203_3 := hx203_3
   have hw203_2 := hx203_2
   have hw203_1 := hx203_1
   have hw203_0 := hx203_0
   cases e203
   replace hx203_0 := hx_ HB hx203_0 (Zlt _ _ hx203_0)
   replace hx203_1 := hx_ HB hx203_1 (Zlt _ _ hx203_1)
   replace hx203_2 := hx_ HB hx203_2 (Zlt _ _ hx203_2)
   replace hx203_3 := hx_ HB hx203_3 (Zlt _ _ hx203_3)
   replace p203 := eq_true p203
   replace q203 := eq_true q203
   refine start_ (n := 10) (S := fun w' => w'.cell? (ad202.add ((x5_1).toNat * 4)) = some (.int .i64 ((rd_T160 l0 x5_1).f0)) ∧ w'.cell? ⟨(ad202.add ((x5_1).toNat * 4)).block, (ad202.add ((x5_1).toNat * 4)).off + 1, none⟩ = some (.int .i64 ((rd_T160 l0 x5_1).f1)) ∧ w'.cell? ⟨(ad202.add ((x5_1).toNat * 4)).block, (ad202.add ((x5_1).toNat * 4)).off + 2, none⟩ = some (.int .i64 ((rd_T160 l0 x5_1).f2)) ∧ w'.cell? ⟨(ad202.add ((x5_1).toNat * 4)).block, (ad202.add ((x5_1).toNat * 4)).off + 3, none⟩ = some (.string ((rd_T160 l0 x5_1).f3)) ∧ w'.cell? (ad203.add ((x5_1).toNat * 4)) = some (.int .i64 ((rd_T160 l1 x5_1).f0)) ∧ w'.cell? ⟨(ad203.add ((x5_1).toNat * 4)).block, (ad203.add ((x5_1).toNat * 4)).off + 1, none⟩ = some (.int .i64 ((rd_T160 l1 x5_1).f1)) ∧ w'.cell? ⟨(ad203.add ((x5_1).toNat * 4)).block, (ad203.add ((x5_1).toNat * 4)).off + 2, none⟩ = some (.int .i64 ((rd_T160 l1 x5_1).f2)) ∧ w'.cell? ⟨(ad203.add ((x5_1).toNat * 4)).block, (ad203.add ((x5_1).toNat * 4)).off + 3, none⟩ = some (.string ((rd_T160 l1 x5_1).f3))) (ds := []) #[false, false, false, false, false, false, false, false, false, false] (by kernel_rfl) rfl rfl ⟨((HB.out.cell (Zlt _ _ hw202_0)).trans hw202_0), ((HB.out.cell (Zlt _ _ hw202_1)).trans hw202_1), ((HB.out.cell (Zlt _ _ hw202_2)).trans hw202_2), ((HB.out.cell (Zlt _ _ hw202_3)).trans hw202_3), ((HB.out.cell (Zlt _ _ hw203_0)).trans hw203_0), ((HB.out.cell (Zlt _ _ hw203_1)).trans hw203_1), ((HB.out.cell (Zlt _ _ hw203_2)).trans hw203_2), ((HB.out.cell (Zlt _ _ hw203_3)).trans hw203_3)⟩ (fun hHeld => ?_); refine with_tabW laws_eqHandlerS.tab6 laws_eqHandlerS.bits6 (fun HT_ HW_ => ?_)
   generalize wr.drew = w9 at HB hx202_0 hx202_1 hx202_2 hx202_3 hx203_0 hx203_1 hx203_2 hx203_3 hHeld ⊢
   refine pure_ (i := 0) (N := some 17) (v := ?_) (a' := ?_) #[true, false, false, false, false, false, false, false, false, false] rfl rfl (any_of HT_.out (by kernel_rfl)) (fun _ _ _ h => h) (Or.inl ⟨by rfl, ?_⟩) ?_ ?_
   rotate_left
   · intro w'
     go_simp
     with_reducible rfl
   rotate_left
   · simp only [Act.put, List.setIfInBounds_toArray, List.set_cons_zero, List.set_cons_succ, i64_w, i32_w]
     rfl
   refine pure_ (i := 1) (N := some 18) (v := ?_) (a' := ?_) #[true, true, false, false, false, false, false, false, false, false] rfl rfl (any_of HT_.out (by kernel_rfl)) (fun _ _ _ h => h) (Or.inl ⟨by rfl, ?_⟩) ?_ ?_
   rotate_left
   · intro w'
     go_simp
     with_reducible rfl
   rotate_left
   · simp only [Act.put, List.setIfInBounds_toArray, List.set_cons_zero, List.set_cons_succ, i64_w, i32_w]
     rfl
   refine pure_ (i := 2) (N := some 19) (v := ?_) (a' := ?_) #[true, true, true, false, false, false, false, false, false, false] rfl rfl (any_of HT_.out (by kernel_rfl)) (fun _ _ _ h => h) (Or.inl ⟨by rfl, ?_⟩) ?_ ?_
   rotate_left
   · intro w'
     go_simp
     with_reducible rfl
   rotate_left
   · simp only [Act.put, List.setIfInBounds_toArray, List.set_cons_zero, List.set_cons_succ, i64_w, i32_w]
     rfl
   refine pure_ (i := 4) (N := some 21) (v := ?_) (a' := ?_) #[true, true, true, false, true, false, false, false, false, false] rfl rfl (any_of HT_.out (by kernel_rfl)) (fun _ _ _ h => h) (Or.inl ⟨by rfl, ?_⟩) ?_ ?_
   rotate_left
   · intro w'
     go_simp
     with_reducible rfl
   rotate_left
   · simp only [Act.put, List.setIfInBounds_toArray, List.set_cons_zero, List.set_cons_succ, i64_w, i32_w]
     rfl
   refine pure_ (i := 5) (N := some 22) (v := ?_) (a' := ?_) #[true, true, true, false, true, true, false, false, false, false] rfl rfl (any_of HT_.out (by kernel_rfl)) (fun _ _ _ h => h) (Or.inl ⟨by rfl, ?_⟩) ?_ ?_
   rotate_left
   · intro w'
     go_simp
     with_reducible rfl
   rotate_left
   · simp only [Act.put, List.setIfInBounds_toArray, List.set_cons_zero, List.set_cons_succ, i64_w, i32_w]
     rfl
   refine pure_ (i := 6) (N := some 23) (v := ?_) (a' := ?_) #[true, true, true, false, true, true, true, false, false, false] rfl rfl (any_of HT_.out (by kernel_rfl)) (fun _ _ _ h => h) (Or.inl ⟨by rfl, ?_⟩) ?_ ?_
   rotate_left
   · intro w'
     go_simp
     with_reducible rfl
   rotate_left
   · simp only [Act.put, List.setIfInBounds_toArray, List.set_cons_zero, List.set_cons_succ, i64_w, i32_w]
     rfl
   refine take_ (i := 3) (N := some 20) (v := ?_) (a' := ?_) #[true, true, true, true, true, true, true, false, false, false] rfl rfl (take_ofW HT_.out HW_.out (by kernel_rfl)) (fun _ _ _ h => h) (Or.inl ⟨by rfl, ?_⟩) hHeld ?_ ?_
   rotate_left
   · rintro w' ⟨s0, s1, s2, s3, s4, s5, s6, s7⟩
     go_simp
     with_reducible rfl
   rotate_left
   · simp only [Act.put, List.setIfInBounds_toArray, List.set_cons_zero, List.set_cons_succ, i64_w, i32_w]
     rfl
   refine take_ (i := 7) (N := some 24) (v := ?_) (a' := ?_) #[true, true, true, true, true, true, true, true, false, false] rfl rfl (take_ofW HT_.out HW_.out (by kernel_rfl)) (fun _ _ _ h => h) (Or.inl ⟨by rfl, ?_⟩) hHeld ?_ ?_
   rotate_left
   · rintro w' ⟨s0, s1, s2, s3, s4, s5, s6, s7⟩
     go_simp
     with_reducible rfl
   rotate_left
   · simp only [Act.put, List.setIfInBounds_toArray, List.set_cons_zero, List.set_cons_succ, i64_w, i32_w]
     rfl
   refine one_ (i := 8) (N := some 25) #[true, true, true, true, true, true, true, true, true, false] rfl rfl (one_of HT_.out (by kernel_rfl)) (by decide) (fun K hK => ?_)
   refine goes_ Try.func162 (by kernel_rfl) rfl #[.agg #[.int .i64 ((rd_T160 l0 x5_1).f0), .int .i64 ((rd_T160 l0 x5_1).f1), .int .i64 ((rd_T160 l0 x5_1).f2), .string ((rd_T160 l0 x5_1).f3)], .agg #[.int .i64 ((rd_T160 l1 x5_1).f0), .int .i64 ((rd_T160 l1 x5_1).f1), .int .i64 ((rd_T160 l1 x5_1).f2), .string ((rd_T160 l1 x5_1).f3)]] (by rfl) rfl rfl (by (try simp only [List.map_toArray, List.map_cons, List.map_nil]); first | done | rfl | (simp only [List.length_drop, List.length_take]; rfl)) ?_
   with_reducible refine (laws_eqHandler.calls ((rd_T160 l0 x5_1).f0) ((rd_T160 l0 x5_1).f1) ((rd_T160 l0 x5_1).f2) ((rd_T160 l0 x5_1).f3) ((rd_T160 l1 x5_1).f0) ((rd_T160 l1 x5_1).f1) ((rd_T160 l1 x5_1).f2) ((rd_T160 l1 x5_1).f3) t204 _ A7.out).mono ?_
   rintro e w10 ⟨rfl, hb⟩
   refine ⟨_, rfl, ?_⟩
   have n0_ := Zm (Zbt (bk HB.out) hb)
   clear HB
   have HB := n0_
   clear n0_
   refine hK.out _ _ ⟨((HB.out.cell (Zlt _ _ hw202_0)).trans hw202_0), ((HB.out.cell (Zlt _ _ hw202_1)).trans hw202_1), ((HB.out.cell (Zlt _ _ hw202_2)).trans hw202_2), ((HB.out.cell (Zlt _ _ hw202_3)).trans hw202_3), ((HB.out.cell (Zlt _ _ hw203_0)).trans hw203_0), ((HB.out.cell (Zlt _ _ hw203_1)).trans hw203_1), ((HB.out.cell (Zlt _ _ hw203_2)).trans hw203_2), ((HB.out.cell (Zlt _ _ hw203_3)).trans hw203_3)⟩ (fun hHeld => ?_)
   clear hK K
   refine norm_ (a' := ?_) ?_ ?_
   rotate_left
   · show Act.put _ (some 25) _ = _
     simp only [Act.put, List.setIfInBounds_toArray, List.set_cons_zero, List.set_cons_succ, i64_w, i32_w]
     rfl
   refine pure_ (i := 9) (N := some 26) (v := ?_) (a' := ?_) #[true, true, true, true, true, true, true, true, true, true] rfl rfl (any_of HT_.out (by kernel_rfl)) (fun _ _ _ h => h) (Or.inl ⟨by rfl, ?_⟩) ?_ ?_
   rotate_left
   · intro w'
     go_simp
     with_reducible rfl
   rotate_left
   · simp only [Act.put, List.setIfInBounds_toArray, List.set_cons_zero, List.set_cons_succ, i64_w, i32_w]
     rfl
   refine done_ (done_of HT_.out (by kernel_rfl)) ?_
   go_upto_if 26 with (fail)
   have H := HC8.out
   clear HC8
   by_cases c11 : t204 = true
   rotate_left
   · replace c11 := Bool.eq_false_iff.mpr c11
     subst c11
     rw [if_neg (show ¬ (false = true) by decide)] at H
     obtain rfl := Option.some.inj H
     go_wp2
     go_ret
     exact fin_ HB
   subst c11
   rw [if_pos rfl] at H
   have H' := Zm H
   clear H
   go_wp2
   go_roundg k1
   case measure => have := HK1.out; omega
   case rel => exact ⟨(wrap64 (x5_1 + 1)), (by first | rfl | (simp; done) | (simp [*]; done)), H', ⟨by have := HK1.out; omega⟩, ⟨bk HB.out⟩⟩
/-! ### laws_eqMethod: function 37 -/
def laws_eqMethod.f (k : Nat) (a0_0 : ByteArray) (a0_1 : ByteArray) (a0_2 : Bool) (a0_3 : Bool) (a0_4 : Bool) (a0_5 : Int) (a0_6 : Int) (l0_7 : List (S156)) (l0_8 : List (S160)) (a1_0 : ByteArray) (a1_1 : ByteArray) (a1_2 : Bool) (a1_3 : Bool) (a1_4 : Bool) (a1_5 : Int) (a1_6 : Int) (l1_7 : List (S156)) (l1_8 : List (S160)) : Option (Bool) := if a0_0.toList = a1_0.toList then (if a0_1.toList = a1_1.toList then (if (a0_2 != a1_2) = true then (some false) else (if (a0_3 != a1_3) = true then (some false) else (if (a0_4 != a1_4) = true then (some false) else (if a0_5 = a1_5 then (if a0_6 = a1_6 then ((laws_eqInsS.f k l0_7 l1_7).bind fun t207 => (if t207 = true then ((laws_eqHandlerS.f k l0_8 l1_8).bind fun t208 => (if t208 = true then (some true) else (some false))) else (some false))) else (some false)) else (some false))))) else (some false)) else (some false)
set_option maxHeartbeats 8000000 in
set_option maxRecDepth 100000 in
theorem laws_eqMethod.calls (k : Nat) (a0_0 : ByteArray) (a0_1 : ByteArray) (a0_2 : Bool) (a0_3 : Bool) (a0_4 : Bool) (a0_5 : Int) (a0_6 : Int) (A0_7 : Option Addr) (c0_7 : Nat) (l0_7 : List (S156)) (A0_8 : Option Addr) (c0_8 : Nat) (l0_8 : List (S160)) (a1_0 : ByteArray) (a1_1 : ByteArray) (a1_2 : Bool) (a1_3 : Bool) (a1_4 : Bool) (a1_5 : Int) (a1_6 : Int) (A1_7 : Option Addr) (c1_7 : Nat) (l1_7 : List (S156)) (A1_8 : Option Addr) (c1_8 : Nat) (l1_8 : List (S160)) (r : Bool) (w : World) (hr0_7 : Kd.C k156 w A0_7 l0_7.length l0_7) (hc0_7 : l0_7.length ≤ c0_7) (hr0_8 : Kd.C k160 w A0_8 l0_8.length l0_8) (hc0_8 : l0_8.length ≤ c0_8) (hr1_7 : Kd.C k156 w A1_7 l1_7.length l1_7) (hc1_7 : l1_7.length ≤ c1_7) (hr1_8 : Kd.C k160 w A1_8 l1_8.length l1_8) (hc1_8 : l1_8.length ≤ c1_8) (h : laws_eqMethod.f k a0_0 a0_1 a0_2 a0_3 a0_4 a0_5 a0_6 l0_7 l0_8 a1_0 a1_1 a1_2 a1_3 a1_4 a1_5 a1_6 l1_7 l1_8 = some r) :
 Calls Try.prog 37 #[.agg #[.string a0_0, .string a0_1, .bool a0_2, .bool a0_3, .bool a0_4, .int .i64 a0_5, .int .i64 a0_6, .slice A0_7 l0_7.length c0_7, .slice A0_8 l0_8.length c0_8], .agg #[.string a1_0, .string a1_1, .bool a1_2, .bool a1_3, .bool a1_4, .int .i64 a1_5, .int .i64 a1_6, .slice A1_7 l1_7.length c1_7, .slice A1_8 l1_8.length c1_8]] w fun e w' => e = .returned (.bool r) ∧ Below w.heap.size w w' := by
 have hu84 := Try.underlying84; have HR0_7 := Zm hr0_7; have HC0_7 := Zm hc0_7; clear hr0_7 hc0_7; have HR0_8 := Zm hr0_8; have HC0_8 := Zm hc0_8; clear hr0_8 hc0_8; have HR1_7 := Zm hr1_7; have HC1_7 := Zm hc1_7; clear hr1_7 hc1_7; have HR1_8 := Zm hr1_8; have HC1_8 := Zm hc1_8; clear hr1_8 hc1_8; have HB := Zm (Below.refl w.heap.size w); have H : (if a0_0.toList = a1_0.toList then (if a0_1.toList = a1_1.toList then (if (a0_2 != a1_2) = true then (some false) else (if (a0_3 != a1_3) = true then (some false) else (if (a0_4 != a1_4) = true then (some false) else (if a0_5 = a1_5 then (if a0_6 = a1_6 then ((laws_eqInsS.f k l0_7 l1_7).bind fun t207 => (if t207 = true then ((laws_eqHandlerS.f k l0_8 l1_8).bind fun t208 => (if t208 = true then (some true) else (some false))) else (some false))) else (some false)) else (some false))))) else (some false)) else (some false)) = some r := h; clear h; have HC3 := Zm H; clear H; go_enter Try.func37, Try.ntmps37; go_upto_if 9 with (first | ((with_reducible refine gate_dst (N := 2) rfl ?_); refine box_event ?hg (N := 2) ?hd (cs := #[.string a0_0, .string a0_1, .bool a0_2, .bool a0_3, .bool a0_4, .int .i64 a0_5, .int .i64 a0_6, .slice A0_7 l0_7.length c0_7, .slice A0_8 l0_8.length c0_8]) (t := 84) ?hr ?_; (case hd => rfl); (case hg => rfl); (case hr => first | (go_simp; done) | (go_simp; rfl)); intro gb205 hg w4 hbox hb; have n0_ := (⟨Zm (Zbt (bk HB.out) hb), Zm (hbox), Zm ((by rw [hg]; exact (Zbz (bk HB.out)) : w.heap.size ≤ gb205)), Zm ((by rw [hg]; exact (Zbz (bk HB.out)) : w.heap.size ≤ gb205))⟩ : _ ∧ _ ∧ _ ∧ _); clear HB; obtain ⟨HB, BK205, GW205, GE205⟩ := n0_; clear hb hbox hg) | ((with_reducible refine gate_dst (N := 3) rfl ?_); refine box_event ?hg (N := 3) ?hd (cs := #[.string a1_0, .string a1_1, .bool a1_2, .bool a1_3, .bool a1_4, .int .i64 a1_5, .int .i64 a1_6, .slice A1_7 l1_7.length c1_7, .slice A1_8 l1_8.length c1_8]) (t := 84) ?hr ?_; (case hd => rfl); (case hg => rfl); (case hr => first | (go_simp; done) | (go_simp; rfl)); intro gb206 hg w5 hbox hb; have n0_ := (⟨Zm (Zkb (pk BK205.out) hb), Zm (Zbt (bk HB.out) hb), Zm (hbox), Zm ((by rw [hg]; exact (Zbz (bk HB.out)) : w.heap.size ≤ gb206)), Zm ((by rw [hg]; exact (Zbz (bk HB.out)) : w.heap.size ≤ gb206)), Zm ((by rw [hg]; exact Nat.ne_of_lt (blk_lt (pk BK205.out)) : gb205 ≠ gb206)), Zm ((by rw [hg]; exact Nat.ne_of_gt (blk_lt (pk BK205.out)) : gb206 ≠ gb205))⟩ : _ ∧ _ ∧ _ ∧ _ ∧ _ ∧ _ ∧ _); clear BK205 HB; obtain ⟨BK205, HB, BK206, GW206, GE206, NB205_206, NB206_205⟩ := n0_; clear hb hbox hg; have hnb6 := NB205_206.out; have hnc6 := NB206_205.out; obtain ⟨hcz7_0, hcz7_1, hcz7_2, hcz7_3, hcz7_4, hcz7_5, hcz7_6, hcz7_7, hcz7_8⟩ := cz9 BK205.out; obtain ⟨hcz8_0, hcz8_1, hcz8_2, hcz8_3, hcz8_4, hcz8_5, hcz8_6, hcz8_7, hcz8_8⟩ := cz9 BK206.out; have hfz8_8 := Zkf BK206.out 8)); have H := HC3.out; clear HC3; by_cases c9 : a0_0.toList = a1_0.toList; rotate_left
 · rw [if_neg c9] at H; have c9b0 : (a0_0.toList == a1_0.toList) = false := beq_eq_false_iff_ne.mpr c9; have c9b1 : (a0_0.toList != a1_0.toList) = true := bne_iff_ne.mpr c9; (first | rw [c9b0] | (simp only [i64_w, i32_w]; rw [c9b0]) | skip); obtain rfl := Option.some.inj H; go_wp2; go_ret; exact fin_ HB

 rw [if_pos c9] at H
 have c9b0 : (a0_0.toList == a1_0.toList) = true := beq_iff_eq.mpr c9
 have c9b1 : (a0_0.toList != a1_0.toList) = false := bne_eq_false_iff_eq.mpr c9
 clear c9
 (first | rw [c9b0] | (simp only [i64_w, i32_w]; rw [c9b0]) | skip)
 by_cases c10 : a0_1.toList = a1_1.toList
 rotate_left
 · rw [if_neg c10] at H
   have c10b0 : (a0_1.toList == a1_1.toList) = false := beq_eq_false_iff_ne.mpr c10
   have c10b1 : (a0_1.toList != a1_1.toList) = true := bne_iff_ne.mpr c10
   obtain rfl := Option.some.inj H
   have hnb48 := NB205_206.out
   have hnc48 := NB206_205.out
   obtain ⟨hcz49_0, hcz49_1, hcz49_2, hcz49_3, hcz49_4, hcz49_5, hcz49_6, hcz49_7, hcz49_8⟩ := cz9 BK205.out
   obtain ⟨hcz50_0, hcz50_1, hcz50_2, hcz50_3, hcz50_4, hcz50_5, hcz50_6, hcz50_7, hcz50_8⟩ := cz9 BK206.out
   go_wp2
   go_ret
   exact fin_ HB
 rw [if_pos c10] at H
 have c10b0 : (a0_1.toList == a1_1.toList) = true := beq_iff_eq.mpr c10
 have c10b1 : (a0_1.toList != a1_1.toList) = false := bne_eq_false_iff_eq.mpr c10
 clear c10
 have HC11 := Zm H
 clear H
 have hnb12 := NB205_206.out
 have hnc12 := NB206_205.out
 obtain ⟨hcz13_0, hcz13_1, hcz13_2, hcz13_3, hcz13_4, hcz13_5, hcz13_6, hcz13_7, hcz13_8⟩ := cz9 BK205.out
 obtain ⟨hcz14_0, hcz14_1, hcz14_2, hcz14_3, hcz14_4, hcz14_5, hcz14_6, hcz14_7, hcz14_8⟩ := cz9 BK206.out
 go_upto_if 19 with (fail)
 have H := HC11.out
 clear HC11
 by_cases c15 : (a0_2 != a1_2) = true
 rotate_left
 · rw [if_neg c15] at H
   have c15b0 : (a0_2 != a1_2) = false := by simpa using c15
   (try (have c15b1 : decide (a0_2 = a1_2) = true := by simpa using c15))
   (try (have c15b2 : (a0_2 == a1_2) = true := by simpa using c15))
   clear c15
   (first | rw [c15b0] | (simp only [i64_w, i32_w]; rw [c15b0]) | rw [bne_ c15b0] | skip)
   by_cases c16 : (a0_3 != a1_3) = true
   rotate_left
   · rw [if_neg c16] at H
     have c16b0 : (a0_3 != a1_3) = false := by simpa using c16
     (try (have c16b1 : decide (a0_3 = a1_3) = true := by simpa using c16))
     (try (have c16b2 : (a0_3 == a1_3) = true := by simpa using c16))
     clear c16
     have HC20 := Zm H
     clear H
     have hnb21 := NB205_206.out
     have hnc21 := NB206_205.out
     obtain ⟨hcz22_0, hcz22_1, hcz22_2, hcz22_3, hcz22_4, hcz22_5, hcz22_6, hcz22_7, hcz22_8⟩ := cz9 BK205.out
     obtain ⟨hcz23_0, hcz23_1, hcz23_2, hcz23_3, hcz23_4, hcz23_5, hcz23_6, hcz23_7, hcz23_8⟩ := cz9 BK206.out
     go_upto_if 29 with (fail)
     have H := HC20.out
     clear HC20
     by_cases c24 : (a0_4 != a1_4) = true
     rotate_left
     · rw [if_neg c24] at H
       have c24b0 : (a0_4 != a1_4) = false := by simpa using c24
       (try (have c24b1 : decide (a0_4 = a1_4) = true := by simpa using c24))
       (try (have c24b2 : (a0_4 == a1_4) = true := by simpa using c24))
       clear c24
       (first | rw [c24b0] | (simp only [i64_w, i32_w]; rw [c24b0]) | rw [bne_ c24b0] | skip)
       by_cases c25 : a0_5 = a1_5
       rotate_left
       · rw [if_neg c25] at H
         have c25b0 : (a0_5 == a1_5) = false := beq_eq_false_iff_ne.mpr c25
         have c25b1 : (a0_5 != a1_5) = true := bne_iff_ne.mpr c25
         obtain rfl := Option.some.inj H
         have hnb45 := NB205_206.out
         have hnc45 := NB206_205.out
         obtain ⟨hcz46_0, hcz46_1, hcz46_2, hcz46_3, hcz46_4, hcz46_5, hcz46_6, hcz46_7, hcz46_8⟩ := cz9 BK205.out
         obtain ⟨hcz47_0, hcz47_1, hcz47_2, hcz47_3, hcz47_4, hcz47_5, hcz47_6, hcz47_7, hcz47_8⟩ := cz9 BK206.out
         go_wp2
         go_ret
         exact fin_ HB
       rw [if_pos c25] at H
       have c25b0 : (a0_5 == a1_5) = true := beq_iff_eq.mpr c25
       have c25b1 : (a0_5 != a1_5) = false := bne_eq_false_iff_eq.mpr c25
       clear c25
       have HC26 := Zm H
       clear H
       have hnb27 := NB205_206.out
       have hnc27 := NB206_205.out
       obtain ⟨hcz28_0, hcz28_1, hcz28_2, hcz28_3, hcz28_4, hcz28_5, hcz28_6, hcz28_7, hcz28_8⟩ := cz9 BK205.out
       obtain ⟨hcz29_0, hcz29_1, hcz29_2, hcz29_3, hcz29_4, hcz29_5, hcz29_6, hcz29_7, hcz29_8⟩ := cz9 BK206.out
       go_upto_if 39 with (fail)
       have H := HC26.out
       clear HC26
       by_cases c30 : a0_6 = a1_6
       rotate_left
       · rw [if_neg c30] at H
         have c30b0 : (a0_6 == a1_6) = false := beq_eq_false_iff_ne.mpr c30
         have c30b1 : (a0_6 != a1_6) = true := bne_iff_ne.mpr c30
         (first | rw [c30b0] | (simp only [i64_w, i32_w]; rw [c30b0]) | skip)
         obtain rfl := Option.some.inj H
         go_wp2
         go_ret
         exact fin_ HB
       rw [if_pos c30] at H
       have c30b0 : (a0_6 == a1_6) = true := beq_iff_eq.mpr c30
       have c30b1 : (a0_6 != a1_6) = false := bne_eq_false_iff_eq.mpr c30
       clear c30
       (first | rw [c30b0] | (simp only [i64_w, i32_w]; rw [c30b0]) | skip)
       replace H := Option.bind_eq_some_iff.mp H
       obtain ⟨t207, A310, H⟩ := H
       (try dsimp only at H)
       have A31 := Zm A310
       clear A310
       have HC32 := Zm H
       clear H
       have hnb33 := NB205_206.out
       have hnc33 := NB206_205.out
       obtain ⟨hcz34_0, hcz34_1, hcz34_2, hcz34_3, hcz34_4, hcz34_5, hcz34_6, hcz34_7, hcz34_8⟩ := cz9 BK205.out
       obtain ⟨hcz35_0, hcz35_1, hcz35_2, hcz35_3, hcz35_4, hcz35_5, hcz35_6, hcz35_7, hcz35_8⟩ := cz9 BK206.out
       go_upto_if 45 with (first | ((with_reducible refine gate_callee (f := 108) rfl ?_); refine ge_ (some 44) Try.func108 #[.slice A0_7 l0_7.length c0_7, .slice A1_7 l1_7.length c1_7] ?_; (with_reducible refine (laws_eqInsS.calls _ _ _ _ _ _ _ _ _ ?side1 ?side2 ?side3 ?side4 A31.out).mono ?_); (case side1 => exact pc (Kd.C_below HR0_7.out HB.out)); (case side2 => exact HC0_7.out); (case side3 => exact pc (Kd.C_below HR1_7.out HB.out)); (case side4 => exact HC1_7.out); rintro e w36 ⟨rfl, hb⟩; refine ⟨_, rfl, ?_⟩; have n0_ := (⟨Zm (Zkb (pk BK205.out) hb), Zm (Zkb (pk BK206.out) hb), Zm (Zbt (bk HB.out) hb)⟩ : _ ∧ _ ∧ _); clear BK205 BK206 HB; obtain ⟨BK205, BK206, HB⟩ := n0_; (try clear hb); (try clear hb2); (try clear hk); (try clear hi)))
       have H := HC32.out
       clear HC32
       by_cases c37 : t207 = true
       rotate_left
       · replace c37 := Bool.eq_false_iff.mpr c37
         subst c37
         rw [if_neg (show ¬ (false = true) by decide)] at H
         obtain rfl := Option.some.inj H
         go_wp2
         go_ret
         exact fin_ HB
       subst c37
       rw [if_pos rfl] at H
       replace H := Option.bind_eq_some_iff.mp H
       obtain ⟨t208, A380, H⟩ := H
       (try dsimp only at H)
       have A38 := Zm A380
       clear A380
       have HC39 := Zm H
       clear H
       have hnb40 := NB205_206.out
       have hnc40 := NB206_205.out
       obtain ⟨hcz41_0, hcz41_1, hcz41_2, hcz41_3, hcz41_4, hcz41_5, hcz41_6, hcz41_7, hcz41_8⟩ := cz9 BK205.out
       obtain ⟨hcz42_0, hcz42_1, hcz42_2, hcz42_3, hcz42_4, hcz42_5, hcz42_6, hcz42_7, hcz42_8⟩ := cz9 BK206.out
       (try clear BK205)
       (try clear BK206)
       go_upto_if 51 with (first | ((with_reducible refine gate_callee (f := 109) rfl ?_); refine ge_ (some 50) Try.func109 #[.slice A0_8 l0_8.length c0_8, .slice A1_8 l1_8.length c1_8] ?_; (with_reducible refine (laws_eqHandlerS.calls _ _ _ _ _ _ _ _ _ ?side1 ?side2 ?side3 ?side4 A38.out).mono ?_); (case side1 => exact pc (Kd.C_below HR0_8.out HB.out)); (case side2 => exact HC0_8.out); (case side3 => exact pc (Kd.C_below HR1_8.out HB.out)); (case side4 => exact HC1_8.out); rintro e w43 ⟨rfl, hb⟩; refine ⟨_, rfl, ?_⟩; have n0_ := Zm (Zbt (bk HB.out) hb); clear HB; have HB := n0_; clear n0_; (try clear hb); (try clear hb2); (try clear hk); (try clear hi)))
       have H := HC39.out
       clear HC39
       by_cases c44 : t208 = true
       rotate_left
       · replace c44 := Bool.eq_false_iff.mpr c44
         subst c44
         rw [if_neg (show ¬ (false = true) by decide)] at H
         obtain rfl := Option.some.inj H
         go_wp2
         go_ret
         exact fin_ HB
       subst c44
       rw [if_pos rfl] at H
       obtain rfl := Option.some.inj H
       go_wp2
       go_ret
       exact fin_ HB
     rw [if_pos c24] at H
     have c24b0 : (a0_4 != a1_4) = true := c24
     (try (have c24b1 : decide (a0_4 = a1_4) = false := by simpa using c24))
     (try (have c24b2 : (a0_4 == a1_4) = false := by simpa using c24))
     (try (have c24b3 : ¬ (a0_4 = a1_4) := by simpa using c24))
     clear c24
     (first | rw [c24b0] | (simp only [i64_w, i32_w]; rw [c24b0]) | rw [bne_ c24b0] | skip)
     obtain rfl := Option.some.inj H
     go_wp2
     go_ret
     exact fin_ HB
   rw [if_pos c16] at H
   have c16b0 : (a0_3 != a1_3) = true := c16
   (try (have c16b1 : decide (a0_3 = a1_3) = false := by simpa using c16))
   (try (have c16b2 : (a0_3 == a1_3) = false := by simpa using c16))
   (try (have c16b3 : ¬ (a0_3 = a1_3) := by simpa using c16))
   clear c16
   obtain rfl := Option.some.inj H
   have hnb17 := NB205_206.out
   have hnc17 := NB206_205.out
   obtain ⟨hcz18_0, hcz18_1, hcz18_2, hcz18_3, hcz18_4, hcz18_5, hcz18_6, hcz18_7, hcz18_8⟩ := cz9 BK205.out
   obtain ⟨hcz19_0, hcz19_1, hcz19_2, hcz19_3, hcz19_4, hcz19_5, hcz19_6, hcz19_7, hcz19_8⟩ := cz9 BK206.out
   go_wp2
   go_ret
   exact fin_ HB
 rw [if_pos c15] at H
 have c15b0 : (a0_2 != a1_2) = true := c15
 (try (have c15b1 : decide (a0_2 = a1_2) = false := by simpa using c15))
 (try (have c15b2 : (a0_2 == a1_2) = false := by simpa using c15))
 (try (have c15b3 : ¬ (a0_2 = a1_2) := by simpa using c15))
 clear c15
 (first | rw [c15b0] | (simp only [i64_w, i32_w]; rw [c15b0]) | rw [bne_ c15b0] | skip)
 obtain rfl := Option.some.inj H
 go_wp2
 go_ret
 exact fin_ HB
/-! ### laws_eqMethodS: function 73 -/
def laws_eqMethodS.l0 : Nat → List (S84) → List (S84) → Int → Option (Bool)
 | 0, _, _, _ => none
 | k + 1, x0, x1, x5 => if x5 < (x0.length : Int) then (if 0 ≤ x5 then (if x5 < (x1.length : Int) then ((laws_eqMethod.f k ((rd_T84 x0 x5).f0) ((rd_T84 x0 x5).f1) ((rd_T84 x0 x5).f2) ((rd_T84 x0 x5).f3) ((rd_T84 x0 x5).f4) ((rd_T84 x0 x5).f5) ((rd_T84 x0 x5).f6) ((rd_T84 x0 x5).f7) ((rd_T84 x0 x5).f8) ((rd_T84 x1 x5).f0) ((rd_T84 x1 x5).f1) ((rd_T84 x1 x5).f2) ((rd_T84 x1 x5).f3) ((rd_T84 x1 x5).f4) ((rd_T84 x1 x5).f5) ((rd_T84 x1 x5).f6) ((rd_T84 x1 x5).f7) ((rd_T84 x1 x5).f8)).bind fun t211 => (if t211 = true then (laws_eqMethodS.l0 k x0 x1 (wrap64 (x5 + 1))) else (some false))) else (none)) else (none)) else (some true)
def laws_eqMethodS.f (k : Nat) (l0 : List (S84)) (l1 : List (S84)) : Option (Bool) := if (l0.length : Int) = (l1.length : Int) then (laws_eqMethodS.l0 k l0 l1 0) else (some false)
def laws_eqMethodS.T6 : Bool × List (List Nat × List Nat) := (true, [([], []), ([], []), ([0, 1], [0, 1]), ([2], [2]), ([], []), ([], []), ([4, 5], [4, 5]), ([6], [6]), ([3, 7], [3, 7]), ([8], [8])])
def laws_eqMethodS.B6 : List Nat := [0, 0, 3, 7, 0, 0, 48, 112, 255, 511]
theorem laws_eqMethodS.tab6 : rtab .any (opsOf Try.f73 6) = laws_eqMethodS.T6 := by kernel_rfl
theorem laws_eqMethodS.bits6 : waitsOk laws_eqMethodS.T6.2 laws_eqMethodS.B6 = true := by kernel_rfl
set_option maxHeartbeats 8000000 in
set_option maxRecDepth 100000 in
theorem laws_eqMethodS.calls (k : Nat) (A0 : Option Addr) (c0 : Nat) (l0 : List (S84)) (A1 : Option Addr) (c1 : Nat) (l1 : List (S84)) (r : Bool) (w : World) (hr0 : Kd.C k84 w A0 l0.length l0) (hc0 : l0.length ≤ c0) (hr1 : Kd.C k84 w A1 l1.length l1) (hc1 : l1.length ≤ c1) (h : laws_eqMethodS.f k l0 l1 = some r) :
 Calls Try.prog 73 #[.slice A0 l0.length c0, .slice A1 l1.length c1] w fun e w' => e = .returned (.bool r) ∧ Below w.heap.size w w' := by
 have hu84 := Try.underlying84; have HR0 := Zm hr0; have HC0 := Zm hc0; clear hr0 hc0; have HR1 := Zm hr1; have HC1 := Zm hc1; clear hr1 hc1; have HB := Zm (Below.refl w.heap.size w); have H : (if (l0.length : Int) = (l1.length : Int) then (laws_eqMethodS.l0 k l0 l1 0) else (some false)) = some r := h; clear h; by_cases c3 : (l0.length : Int) = (l1.length : Int); rotate_left
 · rw [if_neg c3] at H; have c3b0 : ((l0.length : Int) == (l1.length : Int)) = false := beq_eq_false_iff_ne.mpr c3; have c3b1 : ((l0.length : Int) != (l1.length : Int)) = true := bne_iff_ne.mpr c3; have c3b2 : (l0.length == l1.length) = false := by first | simpa using c3 | (simp at c3 ⊢; omega)
   obtain rfl := Option.some.inj H; go_enter Try.func73, Try.ntmps73; go_wp2; go_ret; exact fin_ HB

 rw [if_pos c3] at H
 have c3b0 : ((l0.length : Int) == (l1.length : Int)) = true := beq_iff_eq.mpr c3
 have c3b1 : ((l0.length : Int) != (l1.length : Int)) = false := bne_eq_false_iff_eq.mpr c3
 have c3b2 : (l0.length == l1.length) = true := by first | simpa using c3 | (simp at c3 ⊢; omega)
 clear c3
 have H' := Zm H
 clear H
 go_enter Try.func73, Try.ntmps73
 go_wp2
 go_loopg [5] k (fun kq v5 w' => ∃ (x5_1 : Int), v5 = .int .i64 x5_1 ∧ Aside0 (laws_eqMethodS.l0 kq l0 l1 x5_1 = some r) ∧ Aside0 (kq ≤ k) ∧ Aside0 (Below w.heap.size w w'))
 case atStart => exact ⟨(0), (by first | rfl | (simp; done) | (simp [*]; done)), H', ⟨Nat.le_refl _⟩, ⟨bk HB.out⟩⟩
 case round =>
  clear H'
  (try clear c3); (try clear c3b0); (try clear c3b1); (try clear c3b2)
  obtain ⟨x5_1, rfl, HA, HK1, HB⟩ := hrel
  cases gk with
  | zero => exact absurd HA.out (by simp [laws_eqMethodS.l0])
  | succ k1 =>
   have H := HA.out
   clear HA
   simp only [laws_eqMethodS.l0] at H
   by_cases c4 : x5_1 < (l0.length : Int)
   rotate_left
   · rw [if_neg c4] at H
     have c4b0 := decide_eq_false c4
     clear c4
     obtain rfl := Option.some.inj H
     go_wp2
     go_ret
     exact fin_ HB
   rw [if_pos c4] at H
   have c4b0 := decide_eq_true c4
   clear c4
   by_cases c5 : 0 ≤ x5_1
   rotate_left
   · rw [if_neg c5] at H
     exact absurd H (by simp)
   rw [if_pos c5] at H
   have c5b0 := decide_eq_true c5
   clear c5
   by_cases c6 : x5_1 < (l1.length : Int)
   rotate_left
   · rw [if_neg c6] at H
     exact absurd H (by simp)
   rw [if_pos c6] at H
   have c6b0 := decide_eq_true c6
   clear c6
   replace H := Option.bind_eq_some_iff.mp H
   obtain ⟨t211, A70, H⟩ := H
   (try dsimp only at H)
   have A7 := Zm A70
   clear A70
   have HC8 := Zm H
   clear H
   try go_wp2
   have n0_ := Zm (Zbd HB.out)
   clear HB
   have HB := n0_
   clear n0_
   have p209 : 0 ≤ (x5_1 : Int) := of_decide_eq_true (by first | (with_reducible assumption) | assumption)
   have q209 : x5_1 < (l0.length : Int) := of_decide_eq_true (by first | (with_reducible assumption) | assumption)
   obtain ⟨ad209, A209_7, c209_7, A209_8, c209_8, e209, hx209_0, hx209_1, hx209_2, hx209_3, hx209_4, hx209_5, hx209_6, hx209_7, hx209_8, hl209_7, hi209_7, hl209_8, hi209_8⟩ := at_T84 HR0.out x5_1 p209 q209
   have hw209_8 := hx209_8
   have hw209_7 := hx209_7
   have hw209_6 := hx209_6
   have hw209_5 := hx209_5
   have hw209_4 := hx209_4
   have hw209_3 := hx209_3
   have hw209_2 := hx209_2
   have hw209_1 := hx209_1
   have hw209_0 := hx209_0
   cases e209
   replace hx209_0 := hx_ HB hx209_0 (Zlt _ _ hx209_0)
   replace hx209_1 := hx_ HB hx209_1 (Zlt _ _ hx209_1)
   replace hx209_2 := hx_ HB hx209_2 (Zlt _ _ hx209_2)
   replace hx209_3 := hx_ HB hx209_3 (Zlt _ _ hx209_3)
   replace hx209_4 := hx_ HB hx209_4 (Zlt _ _ hx209_4)
   replace hx209_5 := hx_ HB hx209_5 (Zlt _ _ hx209_5)
   replace hx209_6 := hx_ HB hx209_6 (Zlt _ _ hx209_6)
   replace hx209_7 := hx_ HB hx209_7 (Zlt _ _ hx209_7)
   replace hx209_8 := hx_ HB hx209_8 (Zlt _ _ hx209_8)
   have HR209_7 := Zm hi209_7
   have HC209_7 := Zm hl209_7
   clear hi209_7 hl209_7
   have HR209_8 := Zm hi209_8
   have HC209_8 := Zm hl209_8
   clear hi209_8 hl209_8
   replace p209 := eq_true p209
   replace q209 := eq_true q209
   have p210 : 0 ≤ (x5_1 : Int) := of_decide_eq_true (by first | (with_reducible assumption) | assumption)
   have q210 : x5_1 < (l1.length : Int) := of_decide_eq_true (by first | (with_reducible assumption) | assumption)
   obtain ⟨ad210, A210_7, c210_7, A210_8, c210_8, e210, hx210_0, hx210_1, hx210_2, hx210_3, hx210_4, hx210_5, hx210_6, hx210_7, hx210_8, hl210_7, hi210_7, hl210_8, hi210_8⟩ := at_T84 HR1.out x5_1 p210 q210
   have hw210_8 := hx210_8
   have hw210_7 := hx210_7
   have hw210_6 := hx210_6
   have hw210_5 := hx210_5
   have hw210_4 := hx210_4
   have hw210_3 := hx210_3
   have hw210_2 := hx210_2
   have hw210_1 := hx210_1
   have hw210_0 := hx210_0
   cases e210
   replace hx210_0 := hx_ HB hx210_0 (Zlt _ _ hx210_0)
   replace hx210_1 := hx_ HB hx210_1 (Zlt _ _ hx210_1)
   replace hx210_2 := hx_ HB hx210_2 (Zlt _ _ hx210_2)
   replace hx210_3 := hx_ HB hx210_3 (Zlt _ _ hx210_3)
   replace hx210_4 := hx_ HB hx210_4 (Zlt _ _ hx210_4)
   replace hx210_5 := hx_ HB hx210_5 (Zlt _ _ hx210_5)
   replace hx210_6 := hx_ HB hx210_6 (Zlt _ _ hx210_6)
   replace hx210_7 := hx_ HB hx210_7 (Zlt _ _ hx210_7)
   replace hx210_8 := hx_ HB hx210_8 (Zlt _ _ hx210_8)
   have HR210_7 := Zm hi210_7
   have HC210_7 := Zm hl210_7
   clear hi210_7 hl210_7
   have HR210_8 := Zm hi210_8
   have HC210_8 := Zm hl210_8
   clear hi210_8 hl210_8
   replace p210 := eq_true p210
   replace q210 := eq_true q210
   refine start_ (n := 10) (S := fun w' => w'.cell? (ad209.add ((x5_1).toNat * 9)) = some (.string ((rd_T84 l0 x5_1).f0)) ∧ w'.cell? ⟨(ad209.add ((x5_1).toNat * 9)).block, (ad209.add ((x5_1).toNat * 9)).off + 1, none⟩ = some (.string ((rd_T84 l0 x5_1).f1)) ∧ w'.cell? ⟨(ad209.add ((x5_1).toNat * 9)).block, (ad209.add ((x5_1).toNat * 9)).off + 2, none⟩ = some (.bool ((rd_T84 l0 x5_1).f2)) ∧ w'.cell? ⟨(ad209.add ((x5_1).toNat * 9)).block, (ad209.add ((x5_1).toNat * 9)).off + 3, none⟩ = some (.bool ((rd_T84 l0 x5_1).f3)) ∧ w'.cell? ⟨(ad209.add ((x5_1).toNat * 9)).block, (ad209.add ((x5_1).toNat * 9)).off + 4, none⟩ = some (.bool ((rd_T84 l0 x5_1).f4)) ∧ w'.cell? ⟨(ad209.add ((x5_1).toNat * 9)).block, (ad209.add ((x5_1).toNat * 9)).off + 5, none⟩ = some (.int .i64 ((rd_T84 l0 x5_1).f5)) ∧ w'.cell? ⟨(ad209.add ((x5_1).toNat * 9)).block, (ad209.add ((x5_1).toNat * 9)).off + 6, none⟩ = some (.int .i64 ((rd_T84 l0 x5_1).f6)) ∧ w'.cell? ⟨(ad209.add ((x5_1).toNat * 9)).block, (ad209.add ((x5_1).toNat * 9)).off + 7, none⟩ = some (.slice A209_7 ((rd_T84 l0 x5_1).f7).length c209_7) ∧ w'.cell? ⟨(ad209.add ((x5_1).toNat * 9)).block, (ad209.add ((x5_1).toNat * 9)).off + 8, none⟩ = some (.slice A209_8 ((rd_T84 l0 x5_1).f8).length c209_8) ∧ w'.cell? (ad210.add ((x5_1).toNat * 9)) = some (.string ((rd_T84 l1 x5_1).f0)) ∧ w'.cell? ⟨(ad210.add ((x5_1).toNat * 9)).block, (ad210.add ((x5_1).toNat * 9)).off + 1, none⟩ = some (.string ((rd_T84 l1 x5_1).f1)) ∧ w'.cell? ⟨(ad210.add ((x5_1).toNat * 9)).block, (ad210.add ((x5_1).toNat * 9)).off + 2, none⟩ = some (.bool ((rd_T84 l1 x5_1).f2)) ∧ w'.cell? ⟨(ad210.add ((x5_1).toNat * 9)).block, (ad210.add ((x5_1).toNat * 9)).off + 3, none⟩ = some (.bool ((rd_T84 l1 x5_1).f3)) ∧ w'.cell? ⟨(ad210.add ((x5_1).toNat * 9)).block, (ad210.add ((x5_1).toNat * 9)).off + 4, none⟩ = some (.bool ((rd_T84 l1 x5_1).f4)) ∧ w'.cell? ⟨(ad210.add ((x5_1).toNat * 9)).block, (ad210.add ((x5_1).toNat * 9)).off + 5, none⟩ = some (.int .i64 ((rd_T84 l1 x5_1).f5)) ∧ w'.cell? ⟨(ad210.add ((x5_1).toNat * 9)).block, (ad210.add ((x5_1).toNat * 9)).off + 6, none⟩ = some (.int .i64 ((rd_T84 l1 x5_1).f6)) ∧ w'.cell? ⟨(ad210.add ((x5_1).toNat * 9)).block, (ad210.add ((x5_1).toNat * 9)).off + 7, none⟩ = some (.slice A210_7 ((rd_T84 l1 x5_1).f7).length c210_7) ∧ w'.cell? ⟨(ad210.add ((x5_1).toNat * 9)).block, (ad210.add ((x5_1).toNat * 9)).off + 8, none⟩ = some (.slice A210_8 ((rd_T84 l1 x5_1).f8).length c210_8)) (ds := []) #[false, false, false, false, false, false, false, false, false, false] (by kernel_rfl) rfl rfl ⟨((HB.out.cell (Zlt _ _ hw209_0)).trans hw209_0), ((HB.out.cell (Zlt _ _ hw209_1)).trans hw209_1), ((HB.out.cell (Zlt _ _ hw209_2)).trans hw209_2), ((HB.out.cell (Zlt _ _ hw209_3)).trans hw209_3), ((HB.out.cell (Zlt _ _ hw209_4)).trans hw209_4), ((HB.out.cell (Zlt _ _ hw209_5)).trans hw209_5), ((HB.out.cell (Zlt _ _ hw209_6)).trans hw209_6), ((HB.out.cell (Zlt _ _ hw209_7)).trans hw209_7), ((HB.out.cell (Zlt _ _ hw209_8)).trans hw209_8), ((HB.out.cell (Zlt _ _ hw210_0)).trans hw210_0), ((HB.out.cell (Zlt _ _ hw210_1)).trans hw210_1), ((HB.out.cell (Zlt _ _ hw210_2)).trans hw210_2), ((HB.out.cell (Zlt _ _ hw210_3)).trans hw210_3), ((HB.out.cell (Zlt _ _ hw210_4)).trans hw210_4), ((HB.out.cell (Zlt _ _ hw210_5)).trans hw210_5), ((HB.out.cell (Zlt _ _ hw210_6)).trans hw210_6), ((HB.out.cell (Zlt _ _ hw210_7)).trans hw210_7), ((HB.out.cell (Zlt _ _ hw210_8)).trans hw210_8)⟩ (fun hHeld => ?_); refine with_tabW laws_eqMethodS.tab6 laws_eqMethodS.bits6 (fun HT_ HW_ => ?_)
   generalize wr.drew = w9 at HB HR209_7 HR209_8 HR210_7 HR210_8 hx209_0 hx209_1 hx209_2 hx209_3 hx209_4 hx209_5 hx209_6 hx209_7 hx209_8 hx210_0 hx210_1 hx210_2 hx210_3 hx210_4 hx210_5 hx210_6 hx210_7 hx210_8 hHeld ⊢
   refine pure_ (i := 0) (N := some 17) (v := ?_) (a' := ?_) #[true, false, false, false, false, false, false, false, false, false] rfl rfl (any_of HT_.out (by kernel_rfl)) (fun _ _ _ h => h) (Or.inl ⟨by rfl, ?_⟩) ?_ ?_
   rotate_left
   · intro w'
     go_simp
     with_reducible rfl
   rotate_left
   · simp only [Act.put, List.setIfInBounds_toArray, List.set_cons_zero, List.set_cons_succ, i64_w, i32_w]
     rfl
   refine pure_ (i := 1) (N := some 18) (v := ?_) (a' := ?_) #[true, true, false, false, false, false, false, false, false, false] rfl rfl (any_of HT_.out (by kernel_rfl)) (fun _ _ _ h => h) (Or.inl ⟨by rfl, ?_⟩) ?_ ?_
   rotate_left
   · intro w'
     go_simp
     with_reducible rfl
   rotate_left
   · simp only [Act.put, List.setIfInBounds_toArray, List.set_cons_zero, List.set_cons_succ, i64_w, i32_w]
     rfl
   refine pure_ (i := 2) (N := some 19) (v := ?_) (a' := ?_) #[true, true, true, false, false, false, false, false, false, false] rfl rfl (any_of HT_.out (by kernel_rfl)) (fun _ _ _ h => h) (Or.inl ⟨by rfl, ?_⟩) ?_ ?_
   rotate_left
   · intro w'
     go_simp
     with_reducible rfl
   rotate_left
   · simp only [Act.put, List.setIfInBounds_toArray, List.set_cons_zero, List.set_cons_succ, i64_w, i32_w]
     rfl
   refine pure_ (i := 4) (N := some 21) (v := ?_) (a' := ?_) #[true, true, true, false, true, false, false, false, false, false] rfl rfl (any_of HT_.out (by kernel_rfl)) (fun _ _ _ h => h) (Or.inl ⟨by rfl, ?_⟩) ?_ ?_
   rotate_left
   · intro w'
     go_simp
     with_reducible rfl
   rotate_left
   · simp only [Act.put, List.setIfInBounds_toArray, List.set_cons_zero, List.set_cons_succ, i64_w, i32_w]
     rfl
   refine pure_ (i := 5) (N := some 22) (v := ?_) (a' := ?_) #[true, true, true, false, true, true, false, false, false, false] rfl rfl (any_of HT_.out (by kernel_rfl)) (fun _ _ _ h => h) (Or.inl ⟨by rfl, ?_⟩) ?_ ?_
   rotate_left
   · intro w'
     go_simp
     with_reducible rfl
   rotate_left
   · simp only [Act.put, List.setIfInBounds_toArray, List.set_cons_zero, List.set_cons_succ, i64_w, i32_w]
     rfl
   refine pure_ (i := 6) (N := some 23) (v := ?_) (a' := ?_) #[true, true, true, false, true, true, true, false, false, false] rfl rfl (any_of HT_.out (by kernel_rfl)) (fun _ _ _ h => h) (Or.inl ⟨by rfl, ?_⟩) ?_ ?_
   rotate_left
   · intro w'
     go_simp
     with_reducible rfl
   rotate_left
   · simp only [Act.put, List.setIfInBounds_toArray, List.set_cons_zero, List.set_cons_succ, i64_w, i32_w]
     rfl
   refine take_ (i := 3) (N := some 20) (v := ?_) (a' := ?_) #[true, true, true, true, true, true, true, false, false, false] rfl rfl (take_ofW HT_.out HW_.out (by kernel_rfl)) (fun _ _ _ h => h) (Or.inl ⟨by rfl, ?_⟩) hHeld ?_ ?_
   rotate_left
   · rintro w' ⟨s0, s1, s2, s3, s4, s5, s6, s7, s8, s9, s10, s11, s12, s13, s14, s15, s16, s17⟩
     go_simp
     with_reducible rfl
   rotate_left
   · simp only [Act.put, List.setIfInBounds_toArray, List.set_cons_zero, List.set_cons_succ, i64_w, i32_w]
     rfl
   refine take_ (i := 7) (N := some 24) (v := ?_) (a' := ?_) #[true, true, true, true, true, true, true, true, false, false] rfl rfl (take_ofW HT_.out HW_.out (by kernel_rfl)) (fun _ _ _ h => h) (Or.inl ⟨by rfl, ?_⟩) hHeld ?_ ?_
   rotate_left
   · rintro w' ⟨s0, s1, s2, s3, s4, s5, s6, s7, s8, s9, s10, s11, s12, s13, s14, s15, s16, s17⟩
     go_simp
     with_reducible rfl
   rotate_left
   · simp only [Act.put, List.setIfInBounds_toArray, List.set_cons_zero, List.set_cons_succ, i64_w, i32_w]
     rfl
   refine one_ (i := 8) (N := some 25) #[true, true, true, true, true, true, true, true, true, false] rfl rfl (one_of HT_.out (by kernel_rfl)) (by decide) (fun K hK => ?_)
   refine goes_ Try.func37 (by kernel_rfl) rfl #[.agg #[.string ((rd_T84 l0 x5_1).f0), .string ((rd_T84 l0 x5_1).f1), .bool ((rd_T84 l0 x5_1).f2), .bool ((rd_T84 l0 x5_1).f3), .bool ((rd_T84 l0 x5_1).f4), .int .i64 ((rd_T84 l0 x5_1).f5), .int .i64 ((rd_T84 l0 x5_1).f6), .slice A209_7 ((rd_T84 l0 x5_1).f7).length c209_7, .slice A209_8 ((rd_T84 l0 x5_1).f8).length c209_8], .agg #[.string ((rd_T84 l1 x5_1).f0), .string ((rd_T84 l1 x5_1).f1), .bool ((rd_T84 l1 x5_1).f2), .bool ((rd_T84 l1 x5_1).f3), .bool ((rd_T84 l1 x5_1).f4), .int .i64 ((rd_T84 l1 x5_1).f5), .int .i64 ((rd_T84 l1 x5_1).f6), .slice A210_7 ((rd_T84 l1 x5_1).f7).length c210_7, .slice A210_8 ((rd_T84 l1 x5_1).f8).length c210_8]] (by rfl) rfl rfl (by (try simp only [List.map_toArray, List.map_cons, List.map_nil]); first | done | rfl | (simp only [List.length_drop, List.length_take]; rfl)) ?_
   with_reducible refine (laws_eqMethod.calls k1 ((rd_T84 l0 x5_1).f0) ((rd_T84 l0 x5_1).f1) ((rd_T84 l0 x5_1).f2) ((rd_T84 l0 x5_1).f3) ((rd_T84 l0 x5_1).f4) ((rd_T84 l0 x5_1).f5) ((rd_T84 l0 x5_1).f6) _ _ ((rd_T84 l0 x5_1).f7) _ _ ((rd_T84 l0 x5_1).f8) ((rd_T84 l1 x5_1).f0) ((rd_T84 l1 x5_1).f1) ((rd_T84 l1 x5_1).f2) ((rd_T84 l1 x5_1).f3) ((rd_T84 l1 x5_1).f4) ((rd_T84 l1 x5_1).f5) ((rd_T84 l1 x5_1).f6) _ _ ((rd_T84 l1 x5_1).f7) _ _ ((rd_T84 l1 x5_1).f8) t211 _ ?side1 ?side2 ?side3 ?side4 ?side5 ?side6 ?side7 ?side8 A7.out).mono ?_
   (case side1 => exact pc (Kd.C_below HR209_7.out HB.out))
   (case side2 => exact HC209_7.out)
   (case side3 => exact pc (Kd.C_below HR209_8.out HB.out))
   (case side4 => exact HC209_8.out)
   (case side5 => exact pc (Kd.C_below HR210_7.out HB.out))
   (case side6 => exact HC210_7.out)
   (case side7 => exact pc (Kd.C_below HR210_8.out HB.out))
   (case side8 => exact HC210_8.out)
   rintro e w10 ⟨rfl, hb⟩
   refine ⟨_, rfl, ?_⟩
   have n0_ := Zm (Zbt (bk HB.out) hb)
   clear HB
   have HB := n0_
   clear n0_
   refine hK.out _ _ ⟨((HB.out.cell (Zlt _ _ hw209_0)).trans hw209_0), ((HB.out.cell (Zlt _ _ hw209_1)).trans hw209_1), ((HB.out.cell (Zlt _ _ hw209_2)).trans hw209_2), ((HB.out.cell (Zlt _ _ hw209_3)).trans hw209_3), ((HB.out.cell (Zlt _ _ hw209_4)).trans hw209_4), ((HB.out.cell (Zlt _ _ hw209_5)).trans hw209_5), ((HB.out.cell (Zlt _ _ hw209_6)).trans hw209_6), ((HB.out.cell (Zlt _ _ hw209_7)).trans hw209_7), ((HB.out.cell (Zlt _ _ hw209_8)).trans hw209_8), ((HB.out.cell (Zlt _ _ hw210_0)).trans hw210_0), ((HB.out.cell (Zlt _ _ hw210_1)).trans hw210_1), ((HB.out.cell (Zlt _ _ hw210_2)).trans hw210_2), ((HB.out.cell (Zlt _ _ hw210_3)).trans hw210_3), ((HB.out.cell (Zlt _ _ hw210_4)).trans hw210_4), ((HB.out.cell (Zlt _ _ hw210_5)).trans hw210_5), ((HB.out.cell (Zlt _ _ hw210_6)).trans hw210_6), ((HB.out.cell (Zlt _ _ hw210_7)).trans hw210_7), ((HB.out.cell (Zlt _ _ hw210_8)).trans hw210_8)⟩ (fun hHeld => ?_)
   clear hK K
   refine norm_ (a' := ?_) ?_ ?_
   rotate_left
   · show Act.put _ (some 25) _ = _
     simp only [Act.put, List.setIfInBounds_toArray, List.set_cons_zero, List.set_cons_succ, i64_w, i32_w]
     rfl
   refine pure_ (i := 9) (N := some 26) (v := ?_) (a' := ?_) #[true, true, true, true, true, true, true, true, true, true] rfl rfl (any_of HT_.out (by kernel_rfl)) (fun _ _ _ h => h) (Or.inl ⟨by rfl, ?_⟩) ?_ ?_
   rotate_left
   · intro w'
     go_simp
     with_reducible rfl
   rotate_left
   · simp only [Act.put, List.setIfInBounds_toArray, List.set_cons_zero, List.set_cons_succ, i64_w, i32_w]
     rfl
   refine done_ (done_of HT_.out (by kernel_rfl)) ?_
   go_upto_if 26 with (fail)
   have H := HC8.out
   clear HC8
   by_cases c11 : t211 = true
   rotate_left
   · replace c11 := Bool.eq_false_iff.mpr c11
     subst c11
     rw [if_neg (show ¬ (false = true) by decide)] at H
     obtain rfl := Option.some.inj H
     go_wp2
     go_ret
     exact fin_ HB
   subst c11
   rw [if_pos rfl] at H
   have H' := Zm H
   clear H
   go_wp2
   go_roundg k1
   case measure => have := HK1.out; omega
   case rel => exact ⟨(wrap64 (x5_1 + 1)), (by first | rfl | (simp; done) | (simp [*]; done)), H', ⟨by have := HK1.out; omega⟩, ⟨bk HB.out⟩⟩
end Go.Proofs.Ytlflbmbcjjegaaa.PFnExactClassRight
