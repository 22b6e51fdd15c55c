/- Functions of the program as plain Lean functions, each with a proof that the program's call comes to the same; no condition. Written by a program of this session. -/
import Derived.Test.YtlflbmbcjjegaaaPFnExactClassRightx0
namespace Go.Proofs.Ytlflbmbcjjegaaa.PFnExactClassRight
open Go.RowKit Go.Proofs.YtlflbmbcjjegaaaW.PrintWords Go.Proofs.YtlflbmbcjjegaaaW.PrintLast Go.Proofs.YtlflbmbcjjegaaaW.PrintMore
open Go.Proofs.YtlflbmbcjjegaaaW.PrintWords renaming below_drew1 → Zbd, below_size → Zbz, below_step → Zbt, blk_frozen → Zkf, blk_below → Zkb
open Go.World renaming block_lt_of_cell? → Zlt
open Go.Proofs.YtlflbmbcjjegaaaW.PrintWords.Aside0 renaming mk → Zm
attribute [local go_sem] max2_int min2_int max_two min_two max_three min_three max_four min_four   -- for this text's walks alone
set_option linter.unusedVariables false
set_option linter.unusedSimpArgs false

/-! ### laws_eqField: function 133 -/
def laws_eqField.f (a0_0 : ByteArray) (a0_1 : ByteArray) (a0_2 : Bool) (a1_0 : ByteArray) (a1_1 : ByteArray) (a1_2 : Bool) : Option (Bool) := if a0_0.toList = a1_0.toList then (if a0_1.toList = a1_1.toList then (if (a0_2 != a1_2) = true then (some false) else (some true)) else (some false)) else (some false)
set_option maxHeartbeats 8000000 in
set_option maxRecDepth 100000 in
theorem laws_eqField.calls (a0_0 : ByteArray) (a0_1 : ByteArray) (a0_2 : Bool) (a1_0 : ByteArray) (a1_1 : ByteArray) (a1_2 : Bool) (r : Bool) (w : World) (h : laws_eqField.f a0_0 a0_1 a0_2 a1_0 a1_1 a1_2 = some r) :
 Calls Try.prog 133 #[.agg #[.string a0_0, .string a0_1, .bool a0_2], .agg #[.string a1_0, .string a1_1, .bool a1_2]] w fun e w' => e = .returned (.bool r) ∧ Below w.heap.size w w' := by
 have hu123 := Try.underlying123; have HB := Zm (Below.refl w.heap.size w); have H : (if a0_0.toList = a1_0.toList then (if a0_1.toList = a1_1.toList then (if (a0_2 != a1_2) = true then (some false) else (some true)) else (some false)) else (some false)) = some r := h; clear h; have HC3 := Zm H; clear H; go_enter Try.func133, Try.ntmps133; go_upto_if 9 with (first | ((with_reducible refine gate_dst (N := 2) rfl ?_); refine box_event ?hg (N := 2) ?hd (cs := #[.string a0_0, .string a0_1, .bool a0_2]) (t := 123) ?hr ?_; (case hd => rfl); (case hg => rfl); (case hr => first | (go_simp; done) | (go_simp; rfl)); intro gb190 hg w4 hbox hb; have n0_ := (⟨Zm (Zbt (bk HB.out) hb), Zm (hbox), Zm ((by rw [hg]; exact (Zbz (bk HB.out)) : w.heap.size ≤ gb190)), Zm ((by rw [hg]; exact (Zbz (bk HB.out)) : w.heap.size ≤ gb190))⟩ : _ ∧ _ ∧ _ ∧ _); clear HB; obtain ⟨HB, BK190, GW190, GE190⟩ := n0_; clear hb hbox hg) | ((with_reducible refine gate_dst (N := 3) rfl ?_); refine box_event ?hg (N := 3) ?hd (cs := #[.string a1_0, .string a1_1, .bool a1_2]) (t := 123) ?hr ?_; (case hd => rfl); (case hg => rfl); (case hr => first | (go_simp; done) | (go_simp; rfl)); intro gb191 hg w5 hbox hb; have n0_ := (⟨Zm (Zkb (pk BK190.out) hb), Zm (Zbt (bk HB.out) hb), Zm (hbox), Zm ((by rw [hg]; exact (Zbz (bk HB.out)) : w.heap.size ≤ gb191)), Zm ((by rw [hg]; exact (Zbz (bk HB.out)) : w.heap.size ≤ gb191)), Zm ((by rw [hg]; exact Nat.ne_of_lt (blk_lt (pk BK190.out)) : gb190 ≠ gb191)), Zm ((by rw [hg]; exact Nat.ne_of_gt (blk_lt (pk BK190.out)) : gb191 ≠ gb190))⟩ : _ ∧ _ ∧ _ ∧ _ ∧ _ ∧ _ ∧ _); clear BK190 HB; obtain ⟨BK190, HB, BK191, GW191, GE191, NB190_191, NB191_190⟩ := n0_; clear hb hbox hg; have hnb6 := NB190_191.out; have hnc6 := NB191_190.out; obtain ⟨hcz7_0, hcz7_1, hcz7_2⟩ := cz3 BK190.out; obtain ⟨hcz8_0, hcz8_1, hcz8_2⟩ := cz3 BK191.out; have hfz8_2 := Zkf BK191.out 2)); have H := HC3.out; clear HC3; by_cases c9 : a0_0.toList = a1_0.toList; rotate_left
 · rw [if_neg c9] at H; have c9b0 : (a0_0.toList == a1_0.toList) = false := beq_eq_false_iff_ne.mpr c9; have c9b1 : (a0_0.toList != a1_0.toList) = true := bne_iff_ne.mpr c9; (first | rw [c9b0] | (simp only [i64_w, i32_w]; rw [c9b0]) | skip); obtain rfl := Option.some.inj H; go_wp2; go_ret; exact fin_ HB

 rw [if_pos c9] at H
 have c9b0 : (a0_0.toList == a1_0.toList) = true := beq_iff_eq.mpr c9
 have c9b1 : (a0_0.toList != a1_0.toList) = false := bne_eq_false_iff_eq.mpr c9
 clear c9
 (first | rw [c9b0] | (simp only [i64_w, i32_w]; rw [c9b0]) | skip)
 by_cases c10 : a0_1.toList = a1_1.toList
 rotate_left
 · rw [if_neg c10] at H
   have c10b0 : (a0_1.toList == a1_1.toList) = false := beq_eq_false_iff_ne.mpr c10
   have c10b1 : (a0_1.toList != a1_1.toList) = true := bne_iff_ne.mpr c10
   obtain rfl := Option.some.inj H
   have hnb16 := NB190_191.out
   have hnc16 := NB191_190.out
   obtain ⟨hcz17_0, hcz17_1, hcz17_2⟩ := cz3 BK190.out
   obtain ⟨hcz18_0, hcz18_1, hcz18_2⟩ := cz3 BK191.out
   go_wp2
   go_ret
   exact fin_ HB
 rw [if_pos c10] at H
 have c10b0 : (a0_1.toList == a1_1.toList) = true := beq_iff_eq.mpr c10
 have c10b1 : (a0_1.toList != a1_1.toList) = false := bne_eq_false_iff_eq.mpr c10
 clear c10
 have HC11 := Zm H
 clear H
 have hnb12 := NB190_191.out
 have hnc12 := NB191_190.out
 obtain ⟨hcz13_0, hcz13_1, hcz13_2⟩ := cz3 BK190.out
 obtain ⟨hcz14_0, hcz14_1, hcz14_2⟩ := cz3 BK191.out
 go_upto_if 19 with (fail)
 have H := HC11.out
 clear HC11
 by_cases c15 : (a0_2 != a1_2) = true
 rotate_left
 · rw [if_neg c15] at H
   have c15b0 : (a0_2 != a1_2) = false := by simpa using c15
   (try (have c15b1 : decide (a0_2 = a1_2) = true := by simpa using c15))
   (try (have c15b2 : (a0_2 == a1_2) = true := by simpa using c15))
   clear c15
   (first | rw [c15b0] | (simp only [i64_w, i32_w]; rw [c15b0]) | rw [bne_ c15b0] | skip)
   obtain rfl := Option.some.inj H
   go_wp2
   go_ret
   exact fin_ HB
 rw [if_pos c15] at H
 have c15b0 : (a0_2 != a1_2) = true := c15
 (try (have c15b1 : decide (a0_2 = a1_2) = false := by simpa using c15))
 (try (have c15b2 : (a0_2 == a1_2) = false := by simpa using c15))
 (try (have c15b3 : ¬ (a0_2 = a1_2) := by simpa using c15))
 clear c15
 (first | rw [c15b0] | (simp only [i64_w, i32_w]; rw [c15b0]) | rw [bne_ c15b0] | skip)
 obtain rfl := Option.some.inj H
 go_wp2
 go_ret
 exact fin_ HB
/-! ### laws_eqFieldS: function 72 -/
def laws_eqFieldS.l0 : Nat → List (S123) → List (S123) → Int → Option (Bool)
 | 0, _, _, _ => none
 | k + 1, x0, x1, x5 => if x5 < (x0.length : Int) then (if 0 ≤ x5 then (if x5 < (x1.length : Int) then ((laws_eqField.f ((rd_T123 x0 x5).f0) ((rd_T123 x0 x5).f1) ((rd_T123 x0 x5).f2) ((rd_T123 x1 x5).f0) ((rd_T123 x1 x5).f1) ((rd_T123 x1 x5).f2)).bind fun t194 => (if t194 = true then (laws_eqFieldS.l0 k x0 x1 (wrap64 (x5 + 1))) else (some false))) else (none)) else (none)) else (some true)
def laws_eqFieldS.f (k : Nat) (l0 : List (S123)) (l1 : List (S123)) : Option (Bool) := if (l0.length : Int) = (l1.length : Int) then (laws_eqFieldS.l0 k l0 l1 0) else (some false)
def laws_eqFieldS.T6 : Bool × List (List Nat × List Nat) := (true, [([], []), ([], []), ([0, 1], [0, 1]), ([2], [2]), ([], []), ([], []), ([4, 5], [4, 5]), ([6], [6]), ([3, 7], [3, 7]), ([8], [8])])
def laws_eqFieldS.B6 : List Nat := [0, 0, 3, 7, 0, 0, 48, 112, 255, 511]
theorem laws_eqFieldS.tab6 : rtab .any (opsOf Try.f72 6) = laws_eqFieldS.T6 := by kernel_rfl
theorem laws_eqFieldS.bits6 : waitsOk laws_eqFieldS.T6.2 laws_eqFieldS.B6 = true := by kernel_rfl
set_option maxHeartbeats 8000000 in
set_option maxRecDepth 100000 in
theorem laws_eqFieldS.calls (k : Nat) (A0 : Option Addr) (c0 : Nat) (l0 : List (S123)) (A1 : Option Addr) (c1 : Nat) (l1 : List (S123)) (r : Bool) (w : World) (hr0 : Kd.C k123 w A0 l0.length l0) (hc0 : l0.length ≤ c0) (hr1 : Kd.C k123 w A1 l1.length l1) (hc1 : l1.length ≤ c1) (h : laws_eqFieldS.f k l0 l1 = some r) :
 Calls Try.prog 72 #[.slice A0 l0.length c0, .slice A1 l1.length c1] w fun e w' => e = .returned (.bool r) ∧ Below w.heap.size w w' := by
 have hu123 := Try.underlying123; have HR0 := Zm hr0; have HC0 := Zm hc0; clear hr0 hc0; have HR1 := Zm hr1; have HC1 := Zm hc1; clear hr1 hc1; have HB := Zm (Below.refl w.heap.size w); have H : (if (l0.length : Int) = (l1.length : Int) then (laws_eqFieldS.l0 k l0 l1 0) else (some false)) = some r := h; clear h; by_cases c3 : (l0.length : Int) = (l1.length : Int); rotate_left
 · rw [if_neg c3] at H; have c3b0 : ((l0.length : Int) == (l1.length : Int)) = false := beq_eq_false_iff_ne.mpr c3; have c3b1 : ((l0.length : Int) != (l1.length : Int)) = true := bne_iff_ne.mpr c3; have c3b2 : (l0.length == l1.length) = false := by first | simpa using c3 | (simp at c3 ⊢; omega)
   obtain rfl := Option.some.inj H; go_enter Try.func72, Try.ntmps72; go_wp2; go_ret; exact fin_ HB

 rw [if_pos c3] at H
 have c3b0 : ((l0.length : Int) == (l1.length : Int)) = true := beq_iff_eq.mpr c3
 have c3b1 : ((l0.length : Int) != (l1.length : Int)) = false := bne_eq_false_iff_eq.mpr c3
 have c3b2 : (l0.length == l1.length) = true := by first | simpa using c3 | (simp at c3 ⊢; omega)
 clear c3
 have H' := Zm H
 clear H
 go_enter Try.func72, Try.ntmps72
 go_wp2
 go_loopg [5] k (fun kq v5 w' => ∃ (x5_1 : Int), v5 = .int .i64 x5_1 ∧ Aside0 (laws_eqFieldS.l0 kq l0 l1 x5_1 = some r) ∧ Aside0 (kq ≤ k) ∧ Aside0 (Below w.heap.size w w'))
 case atStart => exact ⟨(0), (by first | rfl | (simp; done) | (simp [*]; done)), H', ⟨Nat.le_refl _⟩, ⟨bk HB.out⟩⟩
 case round =>
  clear H'
  (try clear c3); (try clear c3b0); (try clear c3b1); (try clear c3b2)
  obtain ⟨x5_1, rfl, HA, HK1, HB⟩ := hrel
  cases gk with
  | zero => exact absurd HA.out (by simp [laws_eqFieldS.l0])
  | succ k1 =>
   have H := HA.out
   clear HA
   simp only [laws_eqFieldS.l0] at H
   by_cases c4 : x5_1 < (l0.length : Int)
   rotate_left
   · rw [if_neg c4] at H
     have c4b0 := decide_eq_false c4
     clear c4
     obtain rfl := Option.some.inj H
     go_wp2
     go_ret
     exact fin_ HB
   rw [if_pos c4] at H
   have c4b0 := decide_eq_true c4
   clear c4
   by_cases c5 : 0 ≤ x5_1
   rotate_left
   · rw [if_neg c5] at H
     exact absurd H (by simp)
   rw [if_pos c5] at H
   have c5b0 := decide_eq_true c5
   clear c5
   by_cases c6 : x5_1 < (l1.length : Int)
   rotate_left
   · rw [if_neg c6] at H
     exact absurd H (by simp)
   rw [if_pos c6] at H
   have c6b0 := decide_eq_true c6
   clear c6
   replace H := Option.bind_eq_some_iff.mp H
   obtain ⟨t194, A70, H⟩ := H
   (try dsimp only at H)
   have A7 := Zm A70
   clear A70
   have HC8 := Zm H
   clear H
   try go_wp2
   have n0_ := Zm (Zbd HB.out)
   clear HB
   have HB := n0_
   clear n0_
   have p192 : 0 ≤ (x5_1 : Int) := of_decide_eq_true (by first | (with_reducible assumption) | assumption)
   have q192 : x5_1 < (l0.length : Int) := of_decide_eq_true (by first | (with_reducible assumption) | assumption)
   obtain ⟨ad192, e192, hx192_0, hx192_1, hx192_2⟩ := at_T123 HR0.out x5_1 p192 q192
   have hw192_2 := hx192_2
   have hw192_1 := hx192_1
   have hw192_0 := hx192_0
   cases e192
   replace hx192_0 := hx_ HB hx192_0 (Zlt _ _ hx192_0)
   replace hx192_1 := hx_ HB hx192_1 (Zlt _ _ hx192_1)
   replace hx192_2 := hx_ HB hx192_2 (Zlt _ _ hx192_2)
   replace p192 := eq_true p192
   replace q192 := eq_true q192
   have p193 : 0 ≤ (x5_1 : Int) := of_decide_eq_true (by first | (with_reducible assumption) | assumption)
   have q193 : x5_1 < (l1.length : Int) := of_decide_eq_true (by first | (with_reducible assumption) | assumption)
   obtain ⟨ad193, e193, hx193_0, hx193_1, hx193_2⟩ := at_T123 HR1.out x5_1 p193 q193
   have hw193_2 := hx193_2
   have hw193_1 := hx193_1
   have hw193_0 := hx193_0
   cases e193
   replace hx193_0 := hx_ HB hx193_0 (Zlt _ _ hx193_0)
   replace hx193_1 := hx_ HB hx193_1 (Zlt _ _ hx193_1)
   replace hx193_2 := hx_ HB hx193_2 (Zlt _ _ hx193_2)
   replace p193 := eq_true p193
   replace q193 := eq_true q193
   refine start_ (n := 10) (S := fun w' => w'.cell? (ad192.add ((x5_1).toNat * 3)) = some (.string ((rd_T123 l0 x5_1).f0)) ∧ w'.cell? ⟨(ad192.add ((x5_1).toNat * 3)).block, (ad192.add ((x5_1).toNat * 3)).off + 1, none⟩ = some (.string ((rd_T123 l0 x5_1).f1)) ∧ w'.cell? ⟨(ad192.add ((x5_1).toNat * 3)).block, (ad192.add ((x5_1).toNat * 3)).off + 2, none⟩ = some (.bool ((rd_T123 l0 x5_1).f2)) ∧ w'.cell? (ad193.add ((x5_1).toNat * 3)) = some (.string ((rd_T123 l1 x5_1).f0)) ∧ w'.cell? ⟨(ad193.add ((x5_1).toNat * 3)).block, (ad193.add ((x5_1).toNat * 3)).off + 1, none⟩ = some (.string ((rd_T123 l1 x5_1).f1)) ∧ w'.cell? ⟨(ad193.add ((x5_1).toNat * 3)).block, (ad193.add ((x5_1).toNat * 3)).off + 2, none⟩ = some (.bool ((rd_T123 l1 x5_1).f2))) (ds := []) #[false, false, false, false, false, false, false, false, false, false] (by kernel_rfl) rfl rfl ⟨((HB.out.cell (Zlt _ _ hw192_0)).trans hw192_0), ((HB.out.cell (Zlt _ _ hw192_1)).trans hw192_1), ((HB.out.cell (Zlt _ _ hw192_2)).trans hw192_2), ((HB.out.cell (Zlt _ _ hw193_0)).trans hw193_0), ((HB.out.cell (Zlt _ _ hw193_1)).trans hw193_1), ((HB.out.cell (Zlt _ _ hw193_2)).trans hw193_2)⟩ (fun hHeld => ?_); refine with_tabW laws_eqFieldS.tab6 laws_eqFieldS.bits6 (fun HT_ HW_ => ?_)
   generalize wr.drew = w9 at HB hx192_0 hx192_1 hx192_2 hx193_0 hx193_1 hx193_2 hHeld ⊢
   refine pure_ (i := 0) (N := some 17) (v := ?_) (a' := ?_) #[true, false, false, false, false, false, false, false, false, false] rfl rfl (any_of HT_.out (by kernel_rfl)) (fun _ _ _ h => h) (Or.inl ⟨by rfl, ?_⟩) ?_ ?_
   rotate_left
   · intro w'
     go_simp
     with_reducible rfl
   rotate_left
   · simp only [Act.put, List.setIfInBounds_toArray, List.set_cons_zero, List.set_cons_succ, i64_w, i32_w]
     rfl
   refine pure_ (i := 1) (N := some 18) (v := ?_) (a' := ?_) #[true, true, false, false, false, false, false, false, false, false] rfl rfl (any_of HT_.out (by kernel_rfl)) (fun _ _ _ h => h) (Or.inl ⟨by rfl, ?_⟩) ?_ ?_
   rotate_left
   · intro w'
     go_simp
     with_reducible rfl
   rotate_left
   · simp only [Act.put, List.setIfInBounds_toArray, List.set_cons_zero, List.set_cons_succ, i64_w, i32_w]
     rfl
   refine pure_ (i := 2) (N := some 19) (v := ?_) (a' := ?_) #[true, true, true, false, false, false, false, false, false, false] rfl rfl (any_of HT_.out (by kernel_rfl)) (fun _ _ _ h => h) (Or.inl ⟨by rfl, ?_⟩) ?_ ?_
   rotate_left
   · intro w'
     go_simp
     with_reducible rfl
   rotate_left
   · simp only [Act.put, List.setIfInBounds_toArray, List.set_cons_zero, List.set_cons_succ, i64_w, i32_w]
     rfl
   refine pure_ (i := 4) (N := some 21) (v := ?_) (a' := ?_) #[true, true, true, false, true, false, false, false, false, false] rfl rfl (any_of HT_.out (by kernel_rfl)) (fun _ _ _ h => h) (Or.inl ⟨by rfl, ?_⟩) ?_ ?_
   rotate_left
   · intro w'
     go_simp
     with_reducible rfl
   rotate_left
   · simp only [Act.put, List.setIfInBounds_toArray, List.set_cons_zero, List.set_cons_succ, i64_w, i32_w]
     rfl
   refine pure_ (i := 5) (N := some 22) (v := ?_) (a' := ?_) #[true, true, true, false, true, true, false, false, false, false] rfl rfl (any_of HT_.out (by kernel_rfl)) (fun _ _ _ h => h) (Or.inl ⟨by rfl, ?_⟩) ?_ ?_
   rotate_left
   · intro w'
     go_simp
     with_reducible rfl
   rotate_left
   · simp only [Act.put, List.setIfInBounds_toArray, List.set_cons_zero, List.set_cons_succ, i64_w, i32_w]
     rfl
   refine pure_ (i := 6) (N := some 23) (v := ?_) (a' := ?_) #[true, true, true, false, true, true, true, false, false, false] rfl rfl (any_of HT_.out (by kernel_rfl)) (fun _ _ _ h => h) (Or.inl ⟨by rfl, ?_⟩) ?_ ?_
   rotate_left
   · intro w'
     go_simp
     with_reducible rfl
   rotate_left
   · simp only [Act.put, List.setIfInBounds_toArray, List.set_cons_zero, List.set_cons_succ, i64_w, i32_w]
     rfl
   refine take_ (i := 3) (N := some 20) (v := ?_) (a' := ?_) #[true, true, true, true, true, true, true, false, false, false] rfl rfl (take_ofW HT_.out HW_.out (by kernel_rfl)) (fun _ _ _ h => h) (Or.inl ⟨by rfl, ?_⟩) hHeld ?_ ?_
   rotate_left
   · rintro w' ⟨s0, s1, s2, s3, s4, s5⟩
     go_simp
     with_reducible rfl
   rotate_left
   · simp only [Act.put, List.setIfInBounds_toArray, List.set_cons_zero, List.set_cons_succ, i64_w, i32_w]
     rfl
   refine take_ (i := 7) (N := some 24) (v := ?_) (a' := ?_) #[true, true, true, true, true, true, true, true, false, false] rfl rfl (take_ofW HT_.out HW_.out (by kernel_rfl)) (fun _ _ _ h => h) (Or.inl ⟨by rfl, ?_⟩) hHeld ?_ ?_
   rotate_left
   · rintro w' ⟨s0, s1, s2, s3, s4, s5⟩
     go_simp
     with_reducible rfl
   rotate_left
   · simp only [Act.put, List.setIfInBounds_toArray, List.set_cons_zero, List.set_cons_succ, i64_w, i32_w]
     rfl
   refine one_ (i := 8) (N := some 25) #[true, true, true, true, true, true, true, true, true, false] rfl rfl (one_of HT_.out (by kernel_rfl)) (by decide) (fun K hK => ?_)
   refine goes_ Try.func133 (by kernel_rfl) rfl #[.agg #[.string ((rd_T123 l0 x5_1).f0), .string ((rd_T123 l0 x5_1).f1), .bool ((rd_T123 l0 x5_1).f2)], .agg #[.string ((rd_T123 l1 x5_1).f0), .string ((rd_T123 l1 x5_1).f1), .bool ((rd_T123 l1 x5_1).f2)]] (by rfl) rfl rfl (by (try simp only [List.map_toArray, List.map_cons, List.map_nil]); first | done | rfl | (simp only [List.length_drop, List.length_take]; rfl)) ?_
   with_reducible refine (laws_eqField.calls ((rd_T123 l0 x5_1).f0) ((rd_T123 l0 x5_1).f1) ((rd_T123 l0 x5_1).f2) ((rd_T123 l1 x5_1).f0) ((rd_T123 l1 x5_1).f1) ((rd_T123 l1 x5_1).f2) t194 _ A7.out).mono ?_
   rintro e w10 ⟨rfl, hb⟩
   refine ⟨_, rfl, ?_⟩
   have n0_ := Zm (Zbt (bk HB.out) hb)
   clear HB
   have HB := n0_
   clear n0_
   refine hK.out _ _ ⟨((HB.out.cell (Zlt _ _ hw192_0)).trans hw192_0), ((HB.out.cell (Zlt _ _ hw192_1)).trans hw192_1), ((HB.out.cell (Zlt _ _ hw192_2)).trans hw192_2), ((HB.out.cell (Zlt _ _ hw193_0)).trans hw193_0), ((HB.out.cell (Zlt _ _ hw193_1)).trans hw193_1), ((HB.out.cell (Zlt _ _ hw193_2)).trans hw193_2)⟩ (fun hHeld => ?_)
   clear hK K
   refine norm_ (a' := ?_) ?_ ?_
   rotate_left
   · show Act.put _ (some 25) _ = _
     simp only [Act.put, List.setIfInBounds_toArray, List.set_cons_zero, List.set_cons_succ, i64_w, i32_w]
     rfl
   refine pure_ (i := 9) (N := some 26) (v := ?_) (a' := ?_) #[true, true, true, true, true, true, true, true, true, true] rfl rfl (any_of HT_.out (by kernel_rfl)) (fun _ _ _ h => h) (Or.inl ⟨by rfl, ?_⟩) ?_ ?_
   rotate_left
   · intro w'
     go_simp
     with_reducible rfl
   rotate_left
   · simp only [Act.put, List.setIfInBounds_toArray, List.set_cons_zero, List.set_cons_succ, i64_w, i32_w]
     rfl
   refine done_ (done_of HT_.out (by kernel_rfl)) ?_
   go_upto_if 26 with (fail)
   have H := HC8.out
   clear HC8
   by_cases c11 : t194 = true
   rotate_left
   · replace c11 := Bool.eq_false_iff.mpr c11
     subst c11
     rw [if_neg (show ¬ (false = true) by decide)] at H
     obtain rfl := Option.some.inj H
     go_wp2
     go_ret
     exact fin_ HB
   subst c11
   rw [if_pos rfl] at H
   have H' := Zm H
   clear H
   go_wp2
   go_roundg k1
   case measure => have := HK1.out; omega
   case rel => exact ⟨(wrap64 (x5_1 + 1)), (by first | rfl | (simp; done) | (simp [*]; done)), H', ⟨by have := HK1.out; omega⟩, ⟨bk HB.out⟩⟩
/-! ### laws_eqIns: function 161 -/
def laws_eqIns.f (a0_0 : Int) (a0_1 : Int) (a0_2 : ByteArray) (a0_3 : ByteArray) (a0_4 : ByteArray) (a1_0 : Int) (a1_1 : Int) (a1_2 : ByteArray) (a1_3 : ByteArray) (a1_4 : ByteArray) : Option (Bool) := if a0_0 = a1_0 then (if a0_1 = a1_1 then (if a0_2.toList = a1_2.toList then (if a0_3.toList = a1_3.toList then (if a0_4.toList = a1_4.toList then (some true) else (some false)) else (some false)) else (some false)) else (some false)) else (some false)
set_option maxHeartbeats 8000000 in
set_option maxRecDepth 100000 in
theorem laws_eqIns.calls (a0_0 : Int) (a0_1 : Int) (a0_2 : ByteArray) (a0_3 : ByteArray) (a0_4 : ByteArray) (a1_0 : Int) (a1_1 : Int) (a1_2 : ByteArray) (a1_3 : ByteArray) (a1_4 : ByteArray) (r : Bool) (w : World) (h : laws_eqIns.f a0_0 a0_1 a0_2 a0_3 a0_4 a1_0 a1_1 a1_2 a1_3 a1_4 = some r) :
 Calls Try.prog 161 #[.agg #[.int .i64 a0_0, .int .i64 a0_1, .string a0_2, .string a0_3, .string a0_4], .agg #[.int .i64 a1_0, .int .i64 a1_1, .string a1_2, .string a1_3, .string a1_4]] w fun e w' => e = .returned (.bool r) ∧ Below w.heap.size w w' := by
 have hu156 := Try.underlying156; have HB := Zm (Below.refl w.heap.size w); have H : (if a0_0 = a1_0 then (if a0_1 = a1_1 then (if a0_2.toList = a1_2.toList then (if a0_3.toList = a1_3.toList then (if a0_4.toList = a1_4.toList then (some true) else (some false)) else (some false)) else (some false)) else (some false)) else (some false)) = some r := h; clear h; have HC3 := Zm H; clear H; go_enter Try.func161, Try.ntmps161; go_upto_if 9 with (first | ((with_reducible refine gate_dst (N := 2) rfl ?_); refine box_event ?hg (N := 2) ?hd (cs := #[.int .i64 a0_0, .int .i64 a0_1, .string a0_2, .string a0_3, .string a0_4]) (t := 156) ?hr ?_; (case hd => rfl); (case hg => rfl); (case hr => first | (go_simp; done) | (go_simp; rfl)); intro gb195 hg w4 hbox hb; have n0_ := (⟨Zm (Zbt (bk HB.out) hb), Zm (hbox), Zm ((by rw [hg]; exact (Zbz (bk HB.out)) : w.heap.size ≤ gb195)), Zm ((by rw [hg]; exact (Zbz (bk HB.out)) : w.heap.size ≤ gb195))⟩ : _ ∧ _ ∧ _ ∧ _); clear HB; obtain ⟨HB, BK195, GW195, GE195⟩ := n0_; clear hb hbox hg) | ((with_reducible refine gate_dst (N := 3) rfl ?_); refine box_event ?hg (N := 3) ?hd (cs := #[.int .i64 a1_0, .int .i64 a1_1, .string a1_2, .string a1_3, .string a1_4]) (t := 156) ?hr ?_; (case hd => rfl); (case hg => rfl); (case hr => first | (go_simp; done) | (go_simp; rfl)); intro gb196 hg w5 hbox hb; have n0_ := (⟨Zm (Zkb (pk BK195.out) hb), Zm (Zbt (bk HB.out) hb), Zm (hbox), Zm ((by rw [hg]; exact (Zbz (bk HB.out)) : w.heap.size ≤ gb196)), Zm ((by rw [hg]; exact (Zbz (bk HB.out)) : w.heap.size ≤ gb196)), Zm ((by rw [hg]; exact Nat.ne_of_lt (blk_lt (pk BK195.out)) : gb195 ≠ gb196)), Zm ((by rw [hg]; exact Nat.ne_of_gt (blk_lt (pk BK195.out)) : gb196 ≠ gb195))⟩ : _ ∧ _ ∧ _ ∧ _ ∧ _ ∧ _ ∧ _); clear BK195 HB; obtain ⟨BK195, HB, BK196, GW196, GE196, NB195_196, NB196_195⟩ := n0_; clear hb hbox hg; have hnb6 := NB195_196.out; have hnc6 := NB196_195.out; obtain ⟨hcz7_0, hcz7_1, hcz7_2, hcz7_3, hcz7_4⟩ := cz5 BK195.out; obtain ⟨hcz8_0, hcz8_1, hcz8_2, hcz8_3, hcz8_4⟩ := cz5 BK196.out; have hfz8_4 := Zkf BK196.out 4)); have H := HC3.out; clear HC3; by_cases c9 : a0_0 = a1_0; rotate_left
 · rw [if_neg c9] at H; have c9b0 : (a0_0 == a1_0) = false := beq_eq_false_iff_ne.mpr c9; have c9b1 : (a0_0 != a1_0) = true := bne_iff_ne.mpr c9; (first | rw [c9b0] | (simp only [i64_w, i32_w]; rw [c9b0]) | skip); obtain rfl := Option.some.inj H; go_wp2; go_ret; exact fin_ HB

 rw [if_pos c9] at H
 have c9b0 : (a0_0 == a1_0) = true := beq_iff_eq.mpr c9
 have c9b1 : (a0_0 != a1_0) = false := bne_eq_false_iff_eq.mpr c9
 clear c9
 (first | rw [c9b0] | (simp only [i64_w, i32_w]; rw [c9b0]) | skip)
 by_cases c10 : a0_1 = a1_1
 rotate_left
 · rw [if_neg c10] at H
   have c10b0 : (a0_1 == a1_1) = false := beq_eq_false_iff_ne.mpr c10
   have c10b1 : (a0_1 != a1_1) = true := bne_iff_ne.mpr c10
   obtain rfl := Option.some.inj H
   have hnb25 := NB195_196.out
   have hnc25 := NB196_195.out
   obtain ⟨hcz26_0, hcz26_1, hcz26_2, hcz26_3, hcz26_4⟩ := cz5 BK195.out
   obtain ⟨hcz27_0, hcz27_1, hcz27_2, hcz27_3, hcz27_4⟩ := cz5 BK196.out
   go_wp2
   go_ret
   exact fin_ HB
 rw [if_pos c10] at H
 have c10b0 : (a0_1 == a1_1) = true := beq_iff_eq.mpr c10
 have c10b1 : (a0_1 != a1_1) = false := bne_eq_false_iff_eq.mpr c10
 clear c10
 have HC11 := Zm H
 clear H
 have hnb12 := NB195_196.out
 have hnc12 := NB196_195.out
 obtain ⟨hcz13_0, hcz13_1, hcz13_2, hcz13_3, hcz13_4⟩ := cz5 BK195.out
 obtain ⟨hcz14_0, hcz14_1, hcz14_2, hcz14_3, hcz14_4⟩ := cz5 BK196.out
 go_upto_if 19 with (fail)
 have H := HC11.out
 clear HC11
 by_cases c15 : a0_2.toList = a1_2.toList
 rotate_left
 · rw [if_neg c15] at H
   have c15b0 : (a0_2.toList == a1_2.toList) = false := beq_eq_false_iff_ne.mpr c15
   have c15b1 : (a0_2.toList != a1_2.toList) = true := bne_iff_ne.mpr c15
   (first | rw [c15b0] | (simp only [i64_w, i32_w]; rw [c15b0]) | skip)
   obtain rfl := Option.some.inj H
   go_wp2
   go_ret
   exact fin_ HB
 rw [if_pos c15] at H
 have c15b0 : (a0_2.toList == a1_2.toList) = true := beq_iff_eq.mpr c15
 have c15b1 : (a0_2.toList != a1_2.toList) = false := bne_eq_false_iff_eq.mpr c15
 clear c15
 (first | rw [c15b0] | (simp only [i64_w, i32_w]; rw [c15b0]) | skip)
 by_cases c16 : a0_3.toList = a1_3.toList
 rotate_left
 · rw [if_neg c16] at H
   have c16b0 : (a0_3.toList == a1_3.toList) = false := beq_eq_false_iff_ne.mpr c16
   have c16b1 : (a0_3.toList != a1_3.toList) = true := bne_iff_ne.mpr c16
   obtain rfl := Option.some.inj H
   have hnb22 := NB195_196.out
   have hnc22 := NB196_195.out
   obtain ⟨hcz23_0, hcz23_1, hcz23_2, hcz23_3, hcz23_4⟩ := cz5 BK195.out
   obtain ⟨hcz24_0, hcz24_1, hcz24_2, hcz24_3, hcz24_4⟩ := cz5 BK196.out
   go_wp2
   go_ret
   exact fin_ HB
 rw [if_pos c16] at H
 have c16b0 : (a0_3.toList == a1_3.toList) = true := beq_iff_eq.mpr c16
 have c16b1 : (a0_3.toList != a1_3.toList) = false := bne_eq_false_iff_eq.mpr c16
 clear c16
 have HC17 := Zm H
 clear H
 have hnb18 := NB195_196.out
 have hnc18 := NB196_195.out
 obtain ⟨hcz19_0, hcz19_1, hcz19_2, hcz19_3, hcz19_4⟩ := cz5 BK195.out
 obtain ⟨hcz20_0, hcz20_1, hcz20_2, hcz20_3, hcz20_4⟩ := cz5 BK196.out
 go_upto_if 29 with (fail)
 have H := HC17.out
 clear HC17
 by_cases c21 : a0_4.toList = a1_4.toList
 rotate_left
 · rw [if_neg c21] at H
   have c21b0 : (a0_4.toList == a1_4.toList) = false := beq_eq_false_iff_ne.mpr c21
   have c21b1 : (a0_4.toList != a1_4.toList) = true := bne_iff_ne.mpr c21
   (first | rw [c21b0] | (simp only [i64_w, i32_w]; rw [c21b0]) | skip)
   obtain rfl := Option.some.inj H
   go_wp2
   go_ret
   exact fin_ HB
 rw [if_pos c21] at H
 have c21b0 : (a0_4.toList == a1_4.toList) = true := beq_iff_eq.mpr c21
 have c21b1 : (a0_4.toList != a1_4.toList) = false := bne_eq_false_iff_eq.mpr c21
 clear c21
 (first | rw [c21b0] | (simp only [i64_w, i32_w]; rw [c21b0]) | skip)
 obtain rfl := Option.some.inj H
 go_wp2
 go_ret
 exact fin_ HB
/-! ### laws_eqInsS: function 108 -/
def laws_eqInsS.l0 : Nat → List (S156) → List (S156) → Int → Option (Bool)
 | 0, _, _, _ => none
 | k + 1, x0, x1, x5 => if x5 < (x0.length : Int) then (if 0 ≤ x5 then (if x5 < (x1.length : Int) then ((laws_eqIns.f ((rd_T156 x0 x5).f0) ((rd_T156 x0 x5).f1) ((rd_T156 x0 x5).f2) ((rd_T156 x0 x5).f3) ((rd_T156 x0 x5).f4) ((rd_T156 x1 x5).f0) ((rd_T156 x1 x5).f1) ((rd_T156 x1 x5).f2) ((rd_T156 x1 x5).f3) ((rd_T156 x1 x5).f4)).bind fun t199 => (if t199 = true then (laws_eqInsS.l0 k x0 x1 (wrap64 (x5 + 1))) else (some false))) else (none)) else (none)) else (some true)
def laws_eqInsS.f (k : Nat) (l0 : List (S156)) (l1 : List (S156)) : Option (Bool) := if (l0.length : Int) = (l1.length : Int) then (laws_eqInsS.l0 k l0 l1 0) else (some false)
def laws_eqInsS.T6 : Bool × List (List Nat × List Nat) := (true, [([], []), ([], []), ([0, 1], [0, 1]), ([2], [2]), ([], []), ([], []), ([4, 5], [4, 5]), ([6], [6]), ([3, 7], [3, 7]), ([8], [8])])
def laws_eqInsS.B6 : List Nat := [0, 0, 3, 7, 0, 0, 48, 112, 255, 511]
theorem laws_eqInsS.tab6 : rtab .any (opsOf Try.f108 6) = laws_eqInsS.T6 := by kernel_rfl
theorem laws_eqInsS.bits6 : waitsOk laws_eqInsS.T6.2 laws_eqInsS.B6 = true := by kernel_rfl
set_option maxHeartbeats 8000000 in
set_option maxRecDepth 100000 in
theorem laws_eqInsS.calls (k : Nat) (A0 : Option Addr) (c0 : Nat) (l0 : List (S156)) (A1 : Option Addr) (c1 : Nat) (l1 : List (S156)) (r : Bool) (w : World) (hr0 : Kd.C k156 w A0 l0.length l0) (hc0 : l0.length ≤ c0) (hr1 : Kd.C k156 w A1 l1.length l1) (hc1 : l1.length ≤ c1) (h : laws_eqInsS.f k l0 l1 = some r) :
 Calls Try.prog 108 #[.slice A0 l0.length c0, .slice A1 l1.length c1] w fun e w' => e = .returned (.bool r) ∧ Below w.heap.size w w' := by
 have hu156 := Try.underlying156; have HR0 := Zm hr0; have HC0 := Zm hc0; clear hr0 hc0; have HR1 := Zm hr1; have HC1 := Zm hc1; clear hr1 hc1; have HB := Zm (Below.refl w.heap.size w); have H : (if (l0.length : Int) = (l1.length : Int) then (laws_eqInsS.l0 k l0 l1 0) else (some false)) = some r := h; clear h; by_cases c3 : (l0.length : Int) = (l1.length : Int); rotate_left
 · rw [if_neg c3] at H; have c3b0 : ((l0.length : Int) == (l1.length : Int)) = false := beq_eq_false_iff_ne.mpr c3; have c3b1 : ((l0.length : Int) != (l1.length : Int)) = true := bne_iff_ne.mpr c3; have c3b2 : (l0.length == l1.length) = false := by first | simpa using c3 | (simp at c3 ⊢; omega)
   obtain rfl := Option.some.inj H; go_enter Try.func108, Try.ntmps108; go_wp2; go_ret; exact fin_ HB

 rw [if_pos c3] at H
 have c3b0 : ((l0.length : Int) == (l1.length : Int)) = true := beq_iff_eq.mpr c3
 have c3b1 : ((l0.length : Int) != (l1.length : Int)) = false := bne_eq_false_iff_eq.mpr c3
 have c3b2 : (l0.length == l1.length) = true := by first | simpa using c3 | (simp at c3 ⊢; omega)
 clear c3
 have H' := Zm H
 clear H
 go_enter Try.func108, Try.ntmps108
 go_wp2
 go_loopg [5] k (fun kq v5 w' => ∃ (x5_1 : Int), v5 = .int .i64 x5_1 ∧ Aside0 (laws_eqInsS.l0 kq l0 l1 x5_1 = some r) ∧ Aside0 (kq ≤ k) ∧ Aside0 (Below w.heap.size w w'))
 case atStart => exact ⟨(0), (by first | rfl | (simp; done) | (simp [*]; done)), H', ⟨Nat.le_refl _⟩, ⟨bk HB.out⟩⟩
 case round =>
  clear H'
  (try clear c3); (try clear c3b0); (try clear c3b1); (try clear c3b2)
  obtain ⟨x5_1, rfl, HA, HK1, HB⟩ := hrel
  cases gk with
  | zero => exact absurd HA.out (by simp [laws_eqInsS.l0])
  | succ k1 =>
   have H := HA.out
   clear HA
   simp only [laws_eqInsS.l0] at H
   by_cases c4 : x5_1 < (l0.length : Int)
   rotate_left
   · rw [if_neg c4] at H
     have c4b0 := decide_eq_false c4
     clear c4
     obtain rfl := Option.some.inj H
     go_wp2
     go_ret
     exact fin_ HB
   rw [if_pos c4] at H
   have c4b0 := decide_eq_true c4
   clear c4
   by_cases c5 : 0 ≤ x5_1
   rotate_left
   · rw [if_neg c5] at H
     exact absurd H (by simp)
   rw [if_pos c5] at H
   have c5b0 := decide_eq_true c5
   clear c5
   by_cases c6 : x5_1 < (l1.length : Int)
   rotate_left
   · rw [if_neg c6] at H
     exact absurd H (by simp)
   rw [if_pos c6] at H
   have c6b0 := decide_eq_true c6
   clear c6
   replace H := Option.bind_eq_some_iff.mp H
   obtain ⟨t199, A70, H⟩ := H
   (try dsimp only at H)
   have A7 := Zm A70
   clear A70
   have HC8 := Zm H
   clear H
   try go_wp2
   have n0_ := Zm (Zbd HB.out)
   clear HB
   have HB := n0_
   clear n0_
   have p197 : 0 ≤ (x5_1 : Int) := of_decide_eq_true (by first | (with_reducible assumption) | assumption)
   have q197 : x5_1 < (l0.length : Int) := of_decide_eq_true (by first | (with_reducible assumption) | assumption)
   obtain ⟨ad197, e197, hx197_0, hx197_1, hx197_2, hx197_3, hx197_4⟩ := at_T156 HR0.out x5_1 p197 q197
   have hw197_4 := hx197_4
   have hw197_3 := hx197_3
   have hw197_2 := hx197_2
   have hw197_1 := hx197_1
   have hw197_0 := hx197_0
   cases e197
   replace hx197_0 := hx_ HB hx197_0 (Zlt _ _ hx197_0)
   replace hx197_1 := hx_ HB hx197_1 (Zlt _ _ hx197_1)
   replace hx197_2 := hx_ HB hx197_2 (Zlt _ _ hx197_2)
   replace hx197_3 := hx_ HB hx197_3 (Zlt _ _ hx197_3)
   replace hx197_4 := hx_ HB hx197_4 (Zlt _ _ hx197_4)
   replace p197 := eq_true p197
   replace q197 := eq_true q197
   have p198 : 0 ≤ (x5_1 : Int) := of_decide_eq_true (by first | (with_reducible assumption) | assumption)
   have q198 : x5_1 < (l1.length : Int) := of_decide_eq_true (by first | (with_reducible assumption) | assumption)
   obtain ⟨ad198, e198, hx198_0, hx198_1, hx198_2, hx198_3, hx198_4⟩ := at_T156 HR1.out x5_1 p198 q198
   have hw198_4 := hx198_4
   have hw198_3 := hx198_3
   have hw198_2 := hx198_2
   have hw198_1 := hx198_1
   have hw198_0 := hx198_0
   cases e198
   replace hx198_0 := hx_ HB hx198_0 (Zlt _ _ hx198_0)
   replace hx198_1 := hx_ HB hx198_1 (Zlt _ _ hx198_1)
   replace hx198_2 := hx_ HB hx198_2 (Zlt _ _ hx198_2)
   replace hx198_3 := hx_ HB hx198_3 (Zlt _ _ hx198_3)
   replace hx198_4 := hx_ HB hx198_4 (Zlt _ _ hx198_4)
   replace p198 := eq_true p198
   replace q198 := eq_true q198
   refine start_ (n := 10) (S := fun w' => w'.cell? (ad197.add ((x5_1).toNat * 5)) = some (.int .i64 ((rd_T156 l0 x5_1).f0)) ∧ w'.cell? ⟨(ad197.add ((x5_1).toNat * 5)).block, (ad197.add ((x5_1).toNat * 5)).off + 1, none⟩ = some (.int .i64 ((rd_T156 l0 x5_1).f1)) ∧ w'.cell? ⟨(ad197.add ((x5_1).toNat * 5)).block, (ad197.add ((x5_1).toNat * 5)).off + 2, none⟩ = some (.string ((rd_T156 l0 x5_1).f2)) ∧ w'.cell? ⟨(ad197.add ((x5_1).toNat * 5)).block, (ad197.add ((x5_1).toNat * 5)).off + 3, none⟩ = some (.string ((rd_T156 l0 x5_1).f3)) ∧ w'.cell? ⟨(ad197.add ((x5_1).toNat * 5)).block, (ad197.add ((x5_1).toNat * 5)).off + 4, none⟩ = some (.string ((rd_T156 l0 x5_1).f4)) ∧ w'.cell? (ad198.add ((x5_1).toNat * 5)) = some (.int .i64 ((rd_T156 l1 x5_1).f0)) ∧ w'.cell? ⟨(ad198.add ((x5_1).toNat * 5)).block, (ad198.add ((x5_1).toNat * 5)).off + 1, none⟩ = some (.int .i64 ((rd_T156 l1 x5_1).f1)) ∧ w'.cell? ⟨(ad198.add ((x5_1).toNat * 5)).block, (ad198.add ((x5_1).toNat * 5)).off + 2, none⟩ = some (.string ((rd_T156 l1 x5_1).f2)) ∧ w'.cell? ⟨(ad198.add ((x5_1).toNat * 5)).block, (ad198.add ((x5_1).toNat * 5)).off + 3, none⟩ = some (.string ((rd_T156 l1 x5_1).f3)) ∧ w'.cell? ⟨(ad198.add ((x5_1).toNat * 5)).block, (ad198.add ((x5_1).toNat * 5)).off + 4, none⟩ = some (.string ((rd_T156 l1 x5_1).f4))) (ds := []) #[false, false, false, false, false, false, false, false, false, false] (by kernel_rfl) rfl rfl ⟨((HB.out.cell (Zlt _ _ hw197_0)).trans hw197_0), ((HB.out.cell (Zlt _ _ hw197_1)).trans hw197_1), ((HB.out.cell (Zlt _ _ hw197_2)).trans hw197_2), ((HB.out.cell (Zlt _ _ hw197_3)).trans hw197_3), ((HB.out.cell (Zlt _ _ hw197_4)).trans hw197_4), ((HB.out.cell (Zlt _ _ hw198_0)).trans hw198_0), ((HB.out.cell (Zlt _ _ hw198_1)).trans hw198_1), ((HB.out.cell (Zlt _ _ hw198_2)).trans hw198_2), ((HB.out.cell (Zlt _ _ hw198_3)).trans hw198_3), ((HB.out.cell (Zlt _ _ hw198_4)).trans hw198_4)⟩ (fun hHeld => ?_); refine with_tabW laws_eqInsS.tab6 laws_eqInsS.bits6 (fun HT_ HW_ => ?_)
   generalize wr.drew = w9 at HB hx197_0 hx197_1 hx197_2 hx197_3 hx197_4 hx198_0 hx198_1 hx198_2 hx198_3 hx198_4 hHeld ⊢
   refine pure_ (i := 0) (N := some 17) (v := ?_) (a' := ?_) #[true, false, false, false, false, false, false, false, false, false] rfl rfl (any_of HT_.out (by kernel_rfl)) (fun _ _ _ h => h) (Or.inl ⟨by rfl, ?_⟩) ?_ ?_
   rotate_left
   · intro w'
     go_simp
     with_reducible rfl
   rotate_left
   · simp only [Act.put, List.setIfInBounds_toArray, List.set_cons_zero, List.set_cons_succ, i64_w, i32_w]
     rfl
   refine pure_ (i := 1) (N := some 18) (v := ?_) (a' := ?_) #[true, true, false, false, false, false, false, false, false, false] rfl rfl (any_of HT_.out (by kernel_rfl)) (fun _ _ _ h => h) (Or.inl ⟨by rfl, ?_⟩) ?_ ?_
   rotate_left
   · intro w'
     go_simp
     with_reducible rfl
   rotate_left
   · simp only [Act.put, List.setIfInBounds_toArray, List.set_cons_zero, List.set_cons_succ, i64_w, i32_w]
     rfl
   refine pure_ (i := 2) (N := some 19) (v := ?_) (a' := ?_) #[true, true, true, false, false, false, false, false, false, false] rfl rfl (any_of HT_.out (by kernel_rfl)) (fun _ _ _ h => h) (Or.inl ⟨by rfl, ?_⟩) ?_ ?_
   rotate_left
   · intro w'
     go_simp
     with_reducible rfl
   rotate_left
   · simp only [Act.put, List.setIfInBounds_toArray, List.set_cons_zero, List.set_cons_succ, i64_w, i32_w]
     rfl
   refine pure_ (i := 4) (N := some 21) (v := ?_) (a' := ?_) #[true, true, true, false, true, false, false, false, false, false] rfl rfl (any_of HT_.out (by kernel_rfl)) (fun _ _ _ h => h) (Or.inl ⟨by rfl, ?_⟩) ?_ ?_
   rotate_left
   · intro w'
     go_simp
     with_reducible rfl
   rotate_left
   · simp only [Act.put, List.setIfInBounds_toArray, List.set_cons_zero, List.set_cons_succ, i64_w, i32_w]
     rfl
   refine pure_ (i := 5) (N := some 22) (v := ?_) (a' := ?_) #[true, true, true, false, true, true, false, false, false, false] rfl rfl (any_of HT_.out (by kernel_rfl)) (fun _ _ _ h => h) (Or.inl ⟨by rfl, ?_⟩) ?_ ?_
   rotate_left
   · intro w'
     go_simp
     with_reducible rfl
   rotate_left
   · simp only [Act.put, List.setIfInBounds_toArray, List.set_cons_zero, List.set_cons_succ, i64_w, i32_w]
     rfl
   refine pure_ (i := 6) (N := some 23) (v := ?_) (a' := ?_) #[true, true, true, false, true, true, true, false, false, false] rfl rfl (any_of HT_.out (by kernel_rfl)) (fun _ _ _ h => h) (Or.inl ⟨by rfl, ?_⟩) ?_ ?_
   rotate_left
   · intro w'
     go_simp
     with_reducible rfl
   rotate_left
   · simp only [Act.put, List.setIfInBounds_toArray, List.set_cons_zero, List.set_cons_succ, i64_w, i32_w]
     rfl
   refine take_ (i := 3) (N := some 20) (v := ?_) (a' := ?_) #[true, true, true, true, true, true, true, false, false, false] rfl rfl (take_ofW HT_.out HW_.out (by kernel_rfl)) (fun _ _ _ h => h) (Or.inl ⟨by rfl, ?_⟩) hHeld ?_ ?_
   rotate_left
   · rintro w' ⟨s0, s1, s2, s3, s4, s5, s6, s7, s8, s9⟩
     go_simp
     with_reducible rfl
   rotate_left
   · simp only [Act.put, List.setIfInBounds_toArray, List.set_cons_zero, List.set_cons_succ, i64_w, i32_w]
     rfl
   refine take_ (i := 7) (N := some 24) (v := ?_) (a' := ?_) #[true, true, true, true, true, true, true, true, false, false] rfl rfl (take_ofW HT_.out HW_.out (by kernel_rfl)) (fun _ _ _ h => h) (Or.inl ⟨by rfl, ?_⟩) hHeld ?_ ?_
   rotate_left
   · rintro w' ⟨s0, s1, s2, s3, s4, s5, s6, s7, s8, s9⟩
     go_simp
     with_reducible rfl
   rotate_left
   · simp only [Act.put, List.setIfInBounds_toArray, List.set_cons_zero, List.set_cons_succ, i64_w, i32_w]
     rfl
   refine one_ (i := 8) (N := some 25) #[true, true, true, true, true, true, true, true, true, false] rfl rfl (one_of HT_.out (by kernel_rfl)) (by decide) (fun K hK => ?_)
   refine goes_ Try.func161 (by kernel_rfl) rfl #[.agg #[.int .i64 ((rd_T156 l0 x5_1).f0), .int .i64 ((rd_T156 l0 x5_1).f1), .string ((rd_T156 l0 x5_1).f2), .string ((rd_T156 l0 x5_1).f3), .string ((rd_T156 l0 x5_1).f4)], .agg #[.int .i64 ((rd_T156 l1 x5_1).f0), .int .i64 ((rd_T156 l1 x5_1).f1), .string ((rd_T156 l1 x5_1).f2), .string ((rd_T156 l1 x5_1).f3), .string ((rd_T156 l1 x5_1).f4)]] (by rfl) rfl rfl (by (try simp only [List.map_toArray, List.map_cons, List.map_nil]); first | done | rfl | (simp only [List.length_drop, List.length_take]; rfl)) ?_
   with_reducible refine (laws_eqIns.calls ((rd_T156 l0 x5_1).f0) ((rd_T156 l0 x5_1).f1) ((rd_T156 l0 x5_1).f2) ((rd_T156 l0 x5_1).f3) ((rd_T156 l0 x5_1).f4) ((rd_T156 l1 x5_1).f0) ((rd_T156 l1 x5_1).f1) ((rd_T156 l1 x5_1).f2) ((rd_T156 l1 x5_1).f3) ((rd_T156 l1 x5_1).f4) t199 _ A7.out).mono ?_
   rintro e w10 ⟨rfl, hb⟩
   refine ⟨_, rfl, ?_⟩
   have n0_ := Zm (Zbt (bk HB.out) hb)
   clear HB
   have HB := n0_
   clear n0_
   refine hK.out _ _ ⟨((HB.out.cell (Zlt _ _ hw197_0)).trans hw197_0), ((HB.out.cell (Zlt _ _ hw197_1)).trans hw197_1), ((HB.out.cell (Zlt _ _ hw197_2)).trans hw197_2), ((HB.out.cell (Zlt _ _ hw197_3)).trans hw197_3), ((HB.out.cell (Zlt _ _ hw197_4)).trans hw197_4), ((HB.out.cell (Zlt _ _ hw198_0)).trans hw198_0), ((HB.out.cell (Zlt _ _ hw198_1)).trans hw198_1), ((HB.out.cell (Zlt _ _ hw198_2)).trans hw198_2), ((HB.out.cell (Zlt _ _ hw198_3)).trans hw198_3), ((HB.out.cell (Zlt _ _ hw198_4)).trans hw198_4)⟩ (fun hHeld => ?_)
   clear hK K
   refine norm_ (a' := ?_) ?_ ?_
   rotate_left
   · show Act.put _ (some 25) _ = _
     simp only [Act.put, List.setIfInBounds_toArray, List.set_cons_zero, List.set_cons_succ, i64_w, i32_w]
     rfl
   refine pure_ (i := 9) (N := some 26) (v := ?_) (a' := ?_) #[true, true, true, true, true, true, true, true, true, true] rfl rfl (any_of HT_.out (by kernel_rfl)) (fun _ _ _ h => h) (Or.inl ⟨by rfl, ?_⟩) ?_ ?_
   rotate_left
   · intro w'
     go_simp
     with_reducible rfl
   rotate_left
   · simp only [Act.put, List.setIfInBounds_toArray, List.set_cons_zero, List.set_cons_succ, i64_w, i32_w]
     rfl
   refine done_ (done_of HT_.out (by kernel_rfl)) ?_
   go_upto_if 26 with (fail)
   have H := HC8.out
   clear HC8
   by_cases c11 : t199 = true
   rotate_left
   · replace c11 := Bool.eq_false_iff.mpr c11
     subst c11
     rw [if_neg (show ¬ (false = true) by decide)] at H
     obtain rfl := Option.some.inj H
     go_wp2
     go_ret
     exact fin_ HB
   subst c11
   rw [if_pos rfl] at H
   have H' := Zm H
   clear H
   go_wp2
   go_roundg k1
   case measure => have := HK1.out; omega
   case rel => exact ⟨(wrap64 (x5_1 + 1)), (by first | rfl | (simp; done) | (simp [*]; done)), H', ⟨by have := HK1.out; omega⟩, ⟨bk HB.out⟩⟩
/-! ### laws_eqHandler: function 162 -/
def laws_eqHandler.f (a0_0 : Int) (a0_1 : Int) (a0_2 : Int) (a0_3 : ByteArray) (a1_0 : Int) (a1_1 : Int) (a1_2 : Int) (a1_3 : ByteArray) : Option (Bool) := if a0_0 = a1_0 then (if a0_1 = a1_1 then (if a0_2 = a1_2 then (if a0_3.toList = a1_3.toList then (some true) else (some false)) else (some false)) else (some false)) else (some false)
set_option maxHeartbeats 8000000 in
set_option maxRecDepth 100000 in
theorem laws_eqHandler.calls (a0_0 : Int) (a0_1 : Int) (a0_2 : Int) (a0_3 : ByteArray) (a1_0 : Int) (a1_1 : Int) (a1_2 : Int) (a1_3 : ByteArray) (r : Bool) (w : World) (h : laws_eqHandler.f a0_0 a0_1 a0_2 a0_3 a1_0 a1_1 a1_2 a1_3 = some r) :
 Calls Try.prog 162 #[.agg #[.int .i64 a0_0, .int .i64 a0_1, .int .i64 a0_2, .string a0_3], .agg #[.int .i64 a1_0, .int .i64 a1_1, .int .i64 a1_2, .string a1_3]] w fun e w' => e = .returned (.bool r) ∧ Below w.heap.size w w' := by
 have hu160 := Try.underlying160; have HB := Zm (Below.refl w.heap.size w); have H : (if a0_0 = a1_0 then (if a0_1 = a1_1 then (if a0_2 = a1_2 then (if a0_3.toList = a1_3.toList then (some true) else (some false)) else (some false)) else (some false)) else (some false)) = some r := h; clear h; have HC3 := Zm H; clear H; go_enter Try.func162, Try.ntmps162; go_upto_if 9 with (first | ((with_reducible refine gate_dst (N := 2) rfl ?_); refine box_event ?hg (N := 2) ?hd (cs := #[.int .i64 a0_0, .int .i64 a0_1, .int .i64 a0_2, .string a0_3]) (t := 160) ?hr ?_; (case hd => rfl); (case hg => rfl); (case hr => first | (go_simp; done) | (go_simp; rfl)); intro gb200 hg w4 hbox hb; have n0_ := (⟨Zm (Zbt (bk HB.out) hb), Zm (hbox), Zm ((by rw [hg]; exact (Zbz (bk HB.out)) : w.heap.size ≤ gb200)), Zm ((by rw [hg]; exact (Zbz (bk HB.out)) : w.heap.size ≤ gb200))⟩ : _ ∧ _ ∧ _ ∧ _); clear HB; obtain ⟨HB, BK200, GW200, GE200⟩ := n0_; clear hb hbox hg) | ((with_reducible refine gate_dst (N := 3) rfl ?_); refine box_event ?hg (N := 3) ?hd (cs := #[.int .i64 a1_0, .int .i64 a1_1, .int .i64 a1_2, .string a1_3]) (t := 160) ?hr ?_; (case hd => rfl); (case hg => rfl); (case hr => first | (go_simp; done) | (go_simp; rfl)); intro gb201 hg w5 hbox hb; have n0_ := (⟨Zm (Zkb (pk BK200.out) hb), Zm (Zbt (bk HB.out) hb), Zm (hbox), Zm ((by rw [hg]; exact (Zbz (bk HB.out)) : w.heap.size ≤ gb201)), Zm ((by rw [hg]; exact (Zbz (bk HB.out)) : w.heap.size ≤ gb201)), Zm ((by rw [hg]; exact Nat.ne_of_lt (blk_lt (pk BK200.out)) : gb200 ≠ gb201)), Zm ((by rw [hg]; exact Nat.ne_of_gt (blk_lt (pk BK200.out)) : gb201 ≠ gb200))⟩ : _ ∧ _ ∧ _ ∧ _ ∧ _ ∧ _ ∧ _); clear BK200 HB; obtain ⟨BK200, HB, BK201, GW201, GE201, NB200_201, NB201_200⟩ := n0_; clear hb hbox hg; have hnb6 := NB200_201.out; have hnc6 := NB201_200.out; obtain ⟨hcz7_0, hcz7_1, hcz7_2, hcz7_3⟩ := cz4 BK200.out; obtain ⟨hcz8_0, hcz8_1, hcz8_2, hcz8_3⟩ := cz4 BK201.out; have hfz8_3 := Zkf BK201.out 3)); have H := HC3.out; clear HC3; by_cases c9 : a0_0 = a1_0; rotate_left
 · rw [if_neg c9] at H; have c9b0 : (a0_0 == a1_0) = false := beq_eq_false_iff_ne.mpr c9; have c9b1 : (a0_0 != a1_0) = true := bne_iff_ne.mpr c9; (first | rw [c9b0] | (simp only [i64_w, i32_w]; rw [c9b0]) | skip); obtain rfl := Option.some.inj H; go_wp2; go_ret; exact fin_ HB

 rw [if_pos c9] at H
 have c9b0 : (a0_0 == a1_0) = true := beq_iff_eq.mpr c9
 have c9b1 : (a0_0 != a1_0) = false := bne_eq_false_iff_eq.mpr c9
 clear c9
 (first | rw [c9b0] | (simp only [i64_w, i32_w]; rw [c9b0]) | skip)
 by_cases c10 : a0_1 = a1_1
 rotate_left
 · rw [if_neg c10] at H
   have c10b0 : (a0_1 == a1_1) = false := beq_eq_false_iff_ne.mpr c10
   have c10b1 : (a0_1 != a1_1) = true := bne_iff_ne.mpr c10
   obtain rfl := Option.some.inj H
   have hnb23 := NB200_201.out
   have hnc23 := NB201_200.out
   obtain ⟨hcz24_0, hcz24_1, hcz24_2, hcz24_3⟩ := cz4 BK200.out
   obtain ⟨hcz25_0, hcz25_1, hcz25_2, hcz25_3⟩ := cz4 BK201.out
   go_wp2
   go_ret
   exact fin_ HB
 rw [if_pos c10] at H
 have c10b0 : (a0_1 == a1_1) = true := beq_iff_eq.mpr c10
 have c10b1 : (a0_1 != a1_1) = false := bne_eq_false_iff_eq.mpr c10
 clear c10
 have HC11 := Zm H
 clear H
 have hnb12 := NB200_201.out
 have hnc12 := NB201_200.out
 obtain ⟨hcz13_0, hcz13_1, hcz13_2, hcz13_3⟩ := cz4 BK200.out
 obtain ⟨hcz14_0, hcz14_1, hcz14_2, hcz14_3⟩ := cz4 BK201.out
 go_upto_if 19 with (fail)
 have H := HC11.out
 clear HC11
 by_cases c15 : a0_2 = a1_2
 rotate_left
 · rw [if_neg c15] at H
   have c15b0 : (a0_2 == a1_2) = false := beq_eq_false_iff_ne.mpr c15
   have c15b1 : (a0_2 != a1_2) = true := bne_iff_ne.mpr c15
   (first | rw [c15b0] | (simp only [i64_w, i32_w]; rw [c15b0]) | skip)
   obtain rfl := Option.some.inj H
   go_wp2
   go_ret
   exact fin_ HB
 rw [if_pos c15] at H
 have c15b0 : (a0_2 == a1_2) = true := beq_iff_eq.mpr c15
 have c15b1 : (a0_2 != a1_2) = false := bne_eq_false_iff_eq.mpr c15
 clear c15
 (first | rw [c15b0] | (simp only [i64_w, i32_w]; rw [c15b0]) | skip)
 by_cases c16 : a0_3.toList = a1_3.toList
 rotate_left
 · rw [if_neg c16] at H
   have c16b0 : (a0_3.toList == a1_3.toList) = false := beq_eq_false_iff_ne.mpr c16
   have c16b1 : (a0_3.toList != a1_3.toList) = true := bne_iff_ne.mpr c16
   obtain rfl := Option.some.inj H
   have hnb20 := NB200_201.out
   have hnc20 := NB201_200.out
   obtain ⟨hcz21_0, hcz21_1, hcz21_2, hcz21_3⟩ := cz4 BK200.out
   obtain ⟨hcz22_0, hcz22_1, hcz22_2, hcz22_3⟩ := cz4 BK201.out
   go_wp2
   go_ret
   exact fin_ HB
 rw [if_pos c16] at H
 have c16b0 : (a0_3.toList == a1_3.toList) = true := beq_iff_eq.mpr c16
 have c16b1 : (a0_3.toList != a1_3.toList) = false := bne_eq_false_iff_eq.mpr c16
 clear c16
 obtain rfl := Option.some.inj H
 have hnb17 := NB200_201.out
 have hnc17 := NB201_200.out
 obtain ⟨hcz18_0, hcz18_1, hcz18_2, hcz18_3⟩ := cz4 BK200.out
 obtain ⟨hcz19_0, hcz19_1, hcz19_2, hcz19_3⟩ := cz4 BK201.out
 go_wp2
 go_ret
 exact fin_ HB
end Go.Proofs.Ytlflbmbcjjegaaa.PFnExactClassRight
