/- Functions of the program as plain Lean functions, each with a proof that the program's call comes to the same; no condition. Written by a program of this session. -/
import Derived.Test.YtlflbmbcjjegaaaPFnExactHeapNewx0
import Derived.Test.YtlflbmbcjjegaaaPFnExactHeapNewx1
import Derived.Test.YtlflbmbcjjegaaaPFnExactHeapNewx2
namespace Go.Proofs.Ytlflbmbcjjegaaa.PFnExactHeapNew
open Go.RowKit Go.Proofs.YtlflbmbcjjegaaaW.PrintWords Go.Proofs.YtlflbmbcjjegaaaW.PrintLast Go.Proofs.YtlflbmbcjjegaaaW.PrintMore
open Go.Proofs.YtlflbmbcjjegaaaW.PrintWords renaming below_alloc → Zba, pw_below_drewN → Zbn, below_drew1 → Zbd, below_set → Zbs, below_size → Zbz, below_step → Zbt, blk_drewN → Zkn, blk_drew → Zkd, blk_alloc → Zka, blk_frozen → Zkf, blk_far → Zkr, blk_put → Zkp, blk_below → Zkb
open Go.World renaming block_lt_of_cell? → Zlt
open Go.Proofs.YtlflbmbcjjegaaaW.PrintWords.Aside0 renaming mk → Zm
attribute [local go_sem] max2_int min2_int max_two min_two max_three min_three max_four min_four   -- for this text's walks alone
set_option linter.unusedVariables false
set_option linter.unusedSimpArgs false

/-! ### laws_markHeap: function 13 -/
def laws_markHeap.f (k : Nat) (l0_0 : List (S97)) (a0_1 : Int) (a1 : Int) : Option (Int × (List (S97))) := (laws_markObjS.f k l0_0 a1).bind fun bt160 => (some (bt160.1, bt160.2))
set_option maxHeartbeats 8000000 in
set_option maxRecDepth 100000 in
theorem laws_markHeap.calls (k : Nat) (P0_0_ : Nat → Prop) (u9000_ : Value) (l0_0 : List (S97)) (a0_1 : Int) (a1 : Int) (r1 : Int) (r2 : List (S97)) (w0 w : World) (hB : Below w0.heap.size w0 w) (ho0_0 : Kd.S k97 97 w w0.heap.size P0_0_ u9000_ l0_0) (h : laws_markHeap.f k l0_0 a0_1 a1 = some (r1, r2)) :
 Calls Try.prog 13 #[.agg #[u9000_, .int .i64 a0_1], .int .i64 a1] w fun e w' => e = .returned (.int .i64 r1) ∧ Kd.S k97 97 w' w0.heap.size (fun k_ => (P0_0_ k_ ∨ w.heap.size ≤ k_)) u9000_ r2 ∧ Below w0.heap.size w0 w' ∧ Kept w w' (fun k_ => P0_0_ k_) := by
 have hu24 := Try.underlying24; have HO0_0 := Zm (show Kd.S k97 97 w w0.heap.size (fun k_ => (P0_0_ k_ ∨ w.heap.size ≤ k_)) u9000_ l0_0 from Kd.S_mono ho0_0 (fun k_ hk => (.inl hk))); have HK := Zm (Kept.refl w (fun k_ => P0_0_ k_)); have HW0 := Zm hB.size; have HB := Zm hB; clear hB; have H : ((laws_markObjS.f k l0_0 a1).bind fun bt160 => (some (bt160.1, bt160.2))) = some (r1, r2) := h; clear h; replace H := Option.bind_eq_some_iff.mp H; obtain ⟨⟨t160, t161⟩, A30, H⟩ := H; replace H : (some (t160, t161)) = some (r1, r2) := H; have A3 := Zm A30; clear A30; simp only [Option.some.injEq, Prod.mk.injEq] at H; obtain ⟨rfl, rfl⟩ := H; obtain ⟨Ao4, co4, eo4⟩ := Kd.S_slice HO0_0.out; subst eo4; go_enter Try.func13, Try.ntmps13; go_wp2_with (first | ((with_reducible refine gate_dst (N := 2) rfl ?_); refine box_event ?hg (N := 2) ?hd (cs := #[.slice Ao4 l0_0.length co4, .int .i64 a0_1]) (t := 24) ?hr ?_; (case hd => rfl); (case hg => rfl); (case hr => first | (go_simp; done) | (go_simp; rfl)); intro gb159 hg w5 hbox hb; have n0_ := (⟨Zm (Kd.S_below (by (with_reducible repeat (first | apply Kd.S_alloc | apply Kd.S_drewN | apply Kd.S_drew)); exact HO0_0.out) hb), Zm (Kept.below (S := (fun k_ => P0_0_ k_)) (by repeat (first | (with_reducible first | exact HK.out | apply Kept.alloc | apply Kept.drewN | apply Kept.drew) | exact HK.out)) hb), Zm (Zbt (bk HB.out) hb), Zm (hbox), Zm ((by rw [hg]; exact (by first | exact HK.out.1 | exact (show Kept w _ (fun k_ => P0_0_ k_) from by repeat (first | (with_reducible first | exact HK.out | apply Kept.alloc | apply Kept.drewN | apply Kept.drew) | exact HK.out)).1) : w.heap.size ≤ gb159)), Zm ((by rw [hg]; exact (Zbz (bk HB.out)) : w0.heap.size ≤ gb159))⟩ : _ ∧ _ ∧ _ ∧ _ ∧ _ ∧ _); clear HO0_0 HK HB; obtain ⟨HO0_0, HK, HB, BK159, GW159, GE159⟩ := n0_; clear hb hbox hg; obtain ⟨hcz6_0, hcz6_1⟩ := cz2 BK159.out; have hfz6_1 := Zkf BK159.out 1) | ((with_reducible refine gate_callee (f := 47) rfl ?_); refine ge_ (some 8) Try.func47 #[.slice Ao4 l0_0.length co4, .int .i64 a1] ?_; (with_reducible refine (laws_markObjS.calls _ (fun k_ => (((P0_0_ k_ ∨ w.heap.size ≤ k_))) ∧ k_ ≠ gb159) _ _ _ _ _ w0 _ ?side1 ?side2 A3.out).mono ?_); (case side1 => exact bk HB.out); (case side2 => exact Kd.S_types (HO0_0.out) BK159.out (by decide)); rintro e w7 ⟨rfl, hy0, hb, hkp⟩; refine ⟨_, rfl, ?_⟩; have n0_ := (⟨Zm (Kd.S_mono hy0 (fun k_ hk_ => Or.elim hk_ (fun h_ => h_.1) (fun h_ => Or.inr (Nat.le_trans (show Kept w _ (fun k_ => P0_0_ k_) from by repeat (first | (with_reducible first | exact HK.out | apply Kept.alloc | apply Kept.drewN | apply Kept.drew | refine Kept.setCell ?_ (.inr GW159.out) _) | exact HK.out)).1 h_)))), Zm (blk_kept (pk BK159.out) hkp (fun hs_ => (fun e_ => e_.2 rfl) hs_)), Zm (Kept.then_ (S := (fun k_ => P0_0_ k_)) (by repeat (first | (with_reducible first | exact HK.out | apply Kept.alloc | apply Kept.drewN | apply Kept.drew | refine Kept.setCell ?_ (.inr GW159.out) _) | exact HK.out)) hkp (fun k_ hs_ => (fun e_ => e_.1) hs_)), Zm (hb)⟩ : _ ∧ _ ∧ _ ∧ _); clear HO0_0 BK159 HK HB; obtain ⟨HO0_0, BK159, HK, HB⟩ := n0_; (try clear hb); (try clear hkp); (try clear hy0))); go_ret; exact ⟨by first | rfl | (simp [*] <;> rfl), by (with_reducible repeat (first | apply Kd.S_alloc | apply Kd.S_drewN | apply Kd.S_drew)); exact HO0_0.out, by exact bk HB.out, by repeat (first | (with_reducible first | exact HK.out | apply Kept.alloc | apply Kept.drewN | apply Kept.drew | refine Kept.setCell ?_ (.inr GW159.out) _) | exact HK.out)⟩

/-! ### laws_heldValS: function 122 -/
def laws_heldValS.l0 : Nat → List (S67) → Int → Int → Option (Int)
 | 0, _, _, _ => none
 | k + 1, x0, x1, x5 => if x5 < (x0.length : Int) then (if 0 ≤ x5 then (if ((rd_T67 x0 x5).f0) = x1 then (if ((rd_T67 x0 x5).f1) = (wrap64 (x1 + 1)) then (laws_heldValS.l0 k x0 (wrap64 ((wrap64 (x1 + 1)) + 1)) (wrap64 (x5 + 1))) else (some (-1))) else (some (-1))) else (none)) else (some x1)
def laws_heldValS.f (k : Nat) (l0 : List (S67)) (a1 : Int) : Option (Int) := laws_heldValS.l0 k l0 a1 0
set_option maxHeartbeats 8000000 in
set_option maxRecDepth 100000 in
theorem laws_heldValS.calls (k : Nat) (A0 : Option Addr) (c0 : Nat) (l0 : List (S67)) (a1 : Int) (r : Int) (w : World) (hr0 : Kd.C k67 w A0 l0.length l0) (hc0 : l0.length ≤ c0) (h : laws_heldValS.f k l0 a1 = some r) :
 Calls Try.prog 122 #[.slice A0 l0.length c0, .int .i64 a1] w fun e w' => e = .returned (.int .i64 r) ∧ Drawn0 w w' := by
 have HR0 := Zm hr0; have HC0 := Zm hc0; clear hr0 hc0; have H : (laws_heldValS.l0 k l0 a1 0) = some r := h; clear h; have H' := Zm H; clear H; go_enter Try.func122, Try.ntmps122; go_wp2; go_loopg [1, 5] k (fun kq v1 v5 w' => ∃ (x1_1 : Int) (x5_1 : Int), v1 = .int .i64 x1_1 ∧ v5 = .int .i64 x5_1 ∧ Aside0 (laws_heldValS.l0 kq l0 x1_1 x5_1 = some r) ∧ Aside0 (kq ≤ k) ∧ Drawn0 w w')
 case atStart => exact ⟨(a1), (0), (by first | rfl | (simp; done) | (simp [*]; done)), (by first | rfl | (simp; done) | (simp [*]; done)), H', ⟨Nat.le_refl _⟩, by repeat (first | exact Drawn0.refl _ | apply Drawn0.step)⟩
 case round =>
  clear H'; obtain ⟨x1_1, x5_1, rfl, rfl, HA, HK1, ⟨m1, rfl⟩⟩ := hrel
  cases gk with
  | zero => exact absurd HA.out (by simp [laws_heldValS.l0])
  | succ k1 =>
   have H := HA.out; clear HA; simp only [laws_heldValS.l0] at H; by_cases c3 : x5_1 < (l0.length : Int); rotate_left
   · rw [if_neg c3] at H; have c3b0 := decide_eq_false c3; clear c3; obtain rfl := Option.some.inj H; go_wp2; go_ret; exact ⟨by first | rfl | (simp; done) | (simp [*]; done), by repeat (first | exact Drawn0.refl _ | apply Drawn0.step)⟩

   rw [if_pos c3] at H
   have c3b0 := decide_eq_true c3
   clear c3
   by_cases c4 : 0 ≤ x5_1
   rotate_left
   · rw [if_neg c4] at H
     exact absurd H (by simp)
   rw [if_pos c4] at H
   have c4b0 := decide_eq_true c4
   clear c4
   by_cases c5 : ((rd_T67 l0 x5_1).f0) = x1_1
   rotate_left
   · rw [if_neg c5] at H
     have c5b0 : (((rd_T67 l0 x5_1).f0) == x1_1) = false := beq_eq_false_iff_ne.mpr c5
     have c5b1 : (((rd_T67 l0 x5_1).f0) != x1_1) = true := bne_iff_ne.mpr c5
     obtain rfl := Option.some.inj H
     have p162 : 0 ≤ (x5_1 : Int) := of_decide_eq_true (by first | (with_reducible assumption) | assumption)
     have q162 : x5_1 < (l0.length : Int) := of_decide_eq_true (by first | (with_reducible assumption) | assumption)
     obtain ⟨ad162, e162, hx162_0, hx162_1⟩ := at_T67 HR0.out x5_1 p162 q162
     cases e162
     replace p162 := eq_true p162
     replace q162 := eq_true q162
     go_wp2
     go_ret
     exact ⟨by first | rfl | (simp; done) | (simp [*]; done), by repeat (first | exact Drawn0.refl _ | apply Drawn0.step)⟩
   rw [if_pos c5] at H
   have c5b0 : (((rd_T67 l0 x5_1).f0) == x1_1) = true := beq_iff_eq.mpr c5
   have c5b1 : (((rd_T67 l0 x5_1).f0) != x1_1) = false := bne_eq_false_iff_eq.mpr c5
   clear c5
   have HC6 := Zm H
   clear H
   have p162 : 0 ≤ (x5_1 : Int) := of_decide_eq_true (by first | (with_reducible assumption) | assumption)
   have q162 : x5_1 < (l0.length : Int) := of_decide_eq_true (by first | (with_reducible assumption) | assumption)
   obtain ⟨ad162, e162, hx162_0, hx162_1⟩ := at_T67 HR0.out x5_1 p162 q162
   cases e162
   replace p162 := eq_true p162
   replace q162 := eq_true q162
   have p163 : 0 ≤ (x5_1 : Int) := of_decide_eq_true (by first | (with_reducible assumption) | assumption)
   have q163 : x5_1 < (l0.length : Int) := of_decide_eq_true (by first | (with_reducible assumption) | assumption)
   obtain ⟨ad163, e163, hx163_0, hx163_1⟩ := at_T67 HR0.out x5_1 p163 q163
   obtain rfl : ad162 = ad163 := (by injection e163)
   replace p163 := eq_true p163
   replace q163 := eq_true q163
   go_upto_if 27 with (fail)
   have H := HC6.out
   clear HC6
   by_cases c7 : ((rd_T67 l0 x5_1).f1) = (wrap64 (x1_1 + 1))
   rotate_left
   · rw [if_neg c7] at H
     have c7b0 : (((rd_T67 l0 x5_1).f1) == (wrap64 (x1_1 + 1))) = false := beq_eq_false_iff_ne.mpr c7
     have c7b1 : (((rd_T67 l0 x5_1).f1) != (wrap64 (x1_1 + 1))) = true := bne_iff_ne.mpr c7
     (try (have c7b2 : (((rd_T67 l0 x5_1).f1) == (IntKind.i64.wrap (x1_1 + 1))) = false := by simp only [i64_w]; exact (beq_eq_false_iff_ne.mpr c7)))
     (try (have c7b3 : (((rd_T67 l0 x5_1).f1) != (IntKind.i64.wrap (x1_1 + 1))) = true := by simp only [i64_w]; exact (bne_iff_ne.mpr c7)))
     (first | rw [c7b0] | (simp only [i64_w, i32_w]; rw [c7b0]) | skip)
     obtain rfl := Option.some.inj H
     go_wp2
     go_ret
     exact ⟨by first | rfl | (simp; done) | (simp [*]; done), by repeat (first | exact Drawn0.refl _ | apply Drawn0.step)⟩
   rw [if_pos c7] at H
   have c7b0 : (((rd_T67 l0 x5_1).f1) == (wrap64 (x1_1 + 1))) = true := beq_iff_eq.mpr c7
   have c7b1 : (((rd_T67 l0 x5_1).f1) != (wrap64 (x1_1 + 1))) = false := bne_eq_false_iff_eq.mpr c7
   (try (have c7b2 : (((rd_T67 l0 x5_1).f1) == (IntKind.i64.wrap (x1_1 + 1))) = true := by simp only [i64_w]; exact (beq_iff_eq.mpr c7)))
   (try (have c7b3 : (((rd_T67 l0 x5_1).f1) != (IntKind.i64.wrap (x1_1 + 1))) = false := by simp only [i64_w]; exact (bne_eq_false_iff_eq.mpr c7)))
   clear c7
   (first | rw [c7b0] | (simp only [i64_w, i32_w]; rw [c7b0]) | skip)
   have H' := Zm H
   clear H
   go_wp2
   go_roundg k1
   case measure => have := HK1.out; omega
   case rel => exact ⟨(wrap64 ((wrap64 (x1_1 + 1)) + 1)), (wrap64 (x5_1 + 1)), (by first | rfl | (simp; done) | (simp [*]; done)), (by first | rfl | (simp; done) | (simp [*]; done)), H', ⟨by have := HK1.out; omega⟩, by repeat (first | exact Drawn0.refl _ | apply Drawn0.step)⟩
/-! ### laws_heldObjS: function 48 -/
def laws_heldObjS.l0 : Nat → List (S97) → Int → Int → Option (Int)
 | 0, _, _, _ => none
 | k + 1, x0, x1, x5 => if x5 < (x0.length : Int) then (if 0 ≤ x5 then (if ((rd_T97 x0 x5).f0) = x1 then ((laws_markText.f k (wrap64 (x1 + 1))).bind fun t166 => (if ((rd_T97 x0 x5).f1).toList = t166.toList then (if (((rd_T97 x0 x5).f2) != ((Int.tmod (wrap64 ((wrap64 (x1 + 1)) + 1)) 3) == 0)) = true then (some (-1)) else ((laws_heldValS.f k ((rd_T97 x0 x5).f3) (wrap64 ((wrap64 ((wrap64 (x1 + 1)) + 1)) + 1))).bind fun t169 => (if t169 < 0 then (some (-1)) else (laws_heldObjS.l0 k x0 t169 (wrap64 (x5 + 1)))))) else (some (-1)))) else (some (-1))) else (none)) else (some x1)
def laws_heldObjS.f (k : Nat) (l0 : List (S97)) (a1 : Int) : Option (Int) := laws_heldObjS.l0 k l0 a1 0
def laws_heldObjS.T7 : Bool × List (List Nat × List Nat) := (true, [([], []), ([], []), ([0, 1], [0, 1]), ([2], [2]), ([3], [3]), ([], []), ([5], [5]), ([4, 6], [4, 6])])
def laws_heldObjS.B7 : List Nat := [0, 0, 3, 7, 15, 0, 32, 127]
theorem laws_heldObjS.tab7 : rtab .any (opsOf Try.f48 7) = laws_heldObjS.T7 := by kernel_rfl
theorem laws_heldObjS.bits7 : waitsOk laws_heldObjS.T7.2 laws_heldObjS.B7 = true := by kernel_rfl
set_option maxHeartbeats 8000000 in
set_option maxRecDepth 100000 in
theorem laws_heldObjS.calls (k : Nat) (A0 : Option Addr) (c0 : Nat) (l0 : List (S97)) (a1 : Int) (r : Int) (w : World) (hr0 : Kd.C k97 w A0 l0.length l0) (hc0 : l0.length ≤ c0) (h : laws_heldObjS.f k l0 a1 = some r) :
 Calls Try.prog 48 #[.slice A0 l0.length c0, .int .i64 a1] w fun e w' => e = .returned (.int .i64 r) ∧ Below w.heap.size w w' := by
 have HR0 := Zm hr0; have HC0 := Zm hc0; clear hr0 hc0; have HB := Zm (Below.refl w.heap.size w); have H : (laws_heldObjS.l0 k l0 a1 0) = some r := h; clear h; have H' := Zm H; clear H; go_enter Try.func48, Try.ntmps48; go_wp2; go_loopg [1, 5] k (fun kq v1 v5 w' => ∃ (x1_1 : Int) (x5_1 : Int), v1 = .int .i64 x1_1 ∧ v5 = .int .i64 x5_1 ∧ Aside0 (laws_heldObjS.l0 kq l0 x1_1 x5_1 = some r) ∧ Aside0 (kq ≤ k) ∧ Aside0 (Below w.heap.size w w'))
 case atStart => exact ⟨(a1), (0), (by first | rfl | (simp; done) | (simp [*]; done)), (by first | rfl | (simp; done) | (simp [*]; done)), H', ⟨Nat.le_refl _⟩, ⟨bk HB.out⟩⟩
 case round =>
  clear H'; obtain ⟨x1_1, x5_1, rfl, rfl, HA, HK1, HB⟩ := hrel
  cases gk with
  | zero => exact absurd HA.out (by simp [laws_heldObjS.l0])
  | succ k1 =>
   have H := HA.out; clear HA; simp only [laws_heldObjS.l0] at H; by_cases c3 : x5_1 < (l0.length : Int); rotate_left
   · rw [if_neg c3] at H; have c3b0 := decide_eq_false c3; clear c3; obtain rfl := Option.some.inj H; go_wp2; go_ret; exact fin_ HB

   rw [if_pos c3] at H
   have c3b0 := decide_eq_true c3
   clear c3
   by_cases c4 : 0 ≤ x5_1
   rotate_left
   · rw [if_neg c4] at H
     exact absurd H (by simp)
   rw [if_pos c4] at H
   have c4b0 := decide_eq_true c4
   clear c4
   by_cases c5 : ((rd_T97 l0 x5_1).f0) = x1_1
   rotate_left
   · rw [if_neg c5] at H
     have c5b0 : (((rd_T97 l0 x5_1).f0) == x1_1) = false := beq_eq_false_iff_ne.mpr c5
     have c5b1 : (((rd_T97 l0 x5_1).f0) != x1_1) = true := bne_iff_ne.mpr c5
     obtain rfl := Option.some.inj H
     have p164 : 0 ≤ (x5_1 : Int) := of_decide_eq_true (by first | (with_reducible assumption) | assumption)
     have q164 : x5_1 < (l0.length : Int) := of_decide_eq_true (by first | (with_reducible assumption) | assumption)
     obtain ⟨ad164, A164_3, c164_3, e164, hx164_0, hx164_1, hx164_2, hx164_3, hl164_3, hi164_3⟩ := at_T97 HR0.out x5_1 p164 q164
     cases e164
     replace hx164_0 := hx_ HB hx164_0 (Zlt _ _ hx164_0)
     replace hx164_1 := hx_ HB hx164_1 (Zlt _ _ hx164_1)
     replace hx164_2 := hx_ HB hx164_2 (Zlt _ _ hx164_2)
     replace hx164_3 := hx_ HB hx164_3 (Zlt _ _ hx164_3)
     have HR164_3 := Zm hi164_3
     have HC164_3 := Zm hl164_3
     clear hi164_3 hl164_3
     replace p164 := eq_true p164
     replace q164 := eq_true q164
     go_wp2
     go_ret
     exact fin_ HB
   rw [if_pos c5] at H
   have c5b0 : (((rd_T97 l0 x5_1).f0) == x1_1) = true := beq_iff_eq.mpr c5
   have c5b1 : (((rd_T97 l0 x5_1).f0) != x1_1) = false := bne_eq_false_iff_eq.mpr c5
   clear c5
   replace H := Option.bind_eq_some_iff.mp H
   obtain ⟨t166, A60, H⟩ := H
   (try dsimp only at H)
   have A6 := Zm A60
   clear A60
   have HC7 := Zm H
   clear H
   have p164 : 0 ≤ (x5_1 : Int) := of_decide_eq_true (by first | (with_reducible assumption) | assumption)
   have q164 : x5_1 < (l0.length : Int) := of_decide_eq_true (by first | (with_reducible assumption) | assumption)
   obtain ⟨ad164, A164_3, c164_3, e164, hx164_0, hx164_1, hx164_2, hx164_3, hl164_3, hi164_3⟩ := at_T97 HR0.out x5_1 p164 q164
   cases e164
   replace hx164_0 := hx_ HB hx164_0 (Zlt _ _ hx164_0)
   replace hx164_1 := hx_ HB hx164_1 (Zlt _ _ hx164_1)
   replace hx164_2 := hx_ HB hx164_2 (Zlt _ _ hx164_2)
   replace hx164_3 := hx_ HB hx164_3 (Zlt _ _ hx164_3)
   have HR164_3 := Zm hi164_3
   have HC164_3 := Zm hl164_3
   clear hi164_3 hl164_3
   replace p164 := eq_true p164
   replace q164 := eq_true q164
   try go_wp2
   have n0_ := Zm (Zbd HB.out)
   clear HB
   have HB := n0_
   clear n0_
   have p165 : 0 ≤ (x5_1 : Int) := of_decide_eq_true (by first | (with_reducible assumption) | assumption)
   have q165 : x5_1 < (l0.length : Int) := of_decide_eq_true (by first | (with_reducible assumption) | assumption)
   obtain ⟨ad165, A165_3, c165_3, e165, hx165_0, hx165_1, hx165_2, hx165_3, hl165_3, hi165_3⟩ := at_T97 HR0.out x5_1 p165 q165
   have hw165_3 := hx165_3
   have hw165_2 := hx165_2
   have hw165_1 := hx165_1
   have hw165_0 := hx165_0
   obtain rfl : ad164 = ad165 := (by injection e165)
   replace hx165_0 := hx_ HB hx165_0 (Zlt _ _ hx165_0)
   replace hx165_1 := hx_ HB hx165_1 (Zlt _ _ hx165_1)
   replace hx165_2 := hx_ HB hx165_2 (Zlt _ _ hx165_2)
   replace hx165_3 := hx_ HB hx165_3 (Zlt _ _ hx165_3)
   have HR165_3 := Zm hi165_3
   have HC165_3 := Zm hl165_3
   clear hi165_3 hl165_3
   replace p165 := eq_true p165
   replace q165 := eq_true q165
   refine start_ (n := 8) (S := fun w' => w'.cell? (ad164.add ((x5_1).toNat * 4)) = some (.int .i64 ((rd_T97 l0 x5_1).f0)) ∧ w'.cell? ⟨(ad164.add ((x5_1).toNat * 4)).block, (ad164.add ((x5_1).toNat * 4)).off + 1, none⟩ = some (.string ((rd_T97 l0 x5_1).f1)) ∧ w'.cell? ⟨(ad164.add ((x5_1).toNat * 4)).block, (ad164.add ((x5_1).toNat * 4)).off + 2, none⟩ = some (.bool ((rd_T97 l0 x5_1).f2)) ∧ w'.cell? ⟨(ad164.add ((x5_1).toNat * 4)).block, (ad164.add ((x5_1).toNat * 4)).off + 3, none⟩ = some (.slice A165_3 ((rd_T97 l0 x5_1).f3).length c165_3)) (ds := []) #[false, false, false, false, false, false, false, false] (by kernel_rfl) rfl rfl ⟨((HB.out.cell (Zlt _ _ hw165_0)).trans hw165_0), ((HB.out.cell (Zlt _ _ hw165_1)).trans hw165_1), ((HB.out.cell (Zlt _ _ hw165_2)).trans hw165_2), ((HB.out.cell (Zlt _ _ hw165_3)).trans hw165_3)⟩ (fun hHeld => ?_); refine with_tabW laws_heldObjS.tab7 laws_heldObjS.bits7 (fun HT_ HW_ => ?_)
   generalize wr.drew = w8 at HB HR165_3 hx165_0 hx165_1 hx165_2 hx165_3 hHeld ⊢
   refine pure_ (i := 0) (N := some 21) (v := ?_) (a' := ?_) #[true, false, false, false, false, false, false, false] rfl rfl (any_of HT_.out (by kernel_rfl)) (fun _ _ _ h => h) (Or.inl ⟨by rfl, ?_⟩) ?_ ?_
   rotate_left
   · intro w'
     go_simp
     with_reducible rfl
   rotate_left
   · simp only [Act.put, List.setIfInBounds_toArray, List.set_cons_zero, List.set_cons_succ, i64_w, i32_w]
     rfl
   refine pure_ (i := 1) (N := some 22) (v := ?_) (a' := ?_) #[true, true, false, false, false, false, false, false] rfl rfl (any_of HT_.out (by kernel_rfl)) (fun _ _ _ h => h) (Or.inl ⟨by rfl, ?_⟩) ?_ ?_
   rotate_left
   · intro w'
     go_simp
     with_reducible rfl
   rotate_left
   · simp only [Act.put, List.setIfInBounds_toArray, List.set_cons_zero, List.set_cons_succ, i64_w, i32_w]
     rfl
   refine pure_ (i := 2) (N := some 23) (v := ?_) (a' := ?_) #[true, true, true, false, false, false, false, false] rfl rfl (any_of HT_.out (by kernel_rfl)) (fun _ _ _ h => h) (Or.inl ⟨by rfl, ?_⟩) ?_ ?_
   rotate_left
   · intro w'
     go_simp
     with_reducible rfl
   rotate_left
   · simp only [Act.put, List.setIfInBounds_toArray, List.set_cons_zero, List.set_cons_succ, i64_w, i32_w]
     rfl
   refine pure_ (i := 3) (N := some 24) (v := ?_) (a' := ?_) #[true, true, true, true, false, false, false, false] rfl rfl (any_of HT_.out (by kernel_rfl)) (fun _ _ _ h => h) (Or.inl ⟨by rfl, ?_⟩) ?_ ?_
   rotate_left
   · intro w'
     go_simp
     with_reducible rfl
   rotate_left
   · simp only [Act.put, List.setIfInBounds_toArray, List.set_cons_zero, List.set_cons_succ, i64_w, i32_w]
     rfl
   refine pure_ (i := 5) (N := some 26) (v := ?_) (a' := ?_) #[true, true, true, true, false, true, false, false] rfl rfl (any_of HT_.out (by kernel_rfl)) (fun _ _ _ h => h) (Or.inl ⟨by rfl, ?_⟩) ?_ ?_
   rotate_left
   · intro w'
     go_simp
     with_reducible rfl
   rotate_left
   · simp only [Act.put, List.setIfInBounds_toArray, List.set_cons_zero, List.set_cons_succ, i64_w, i32_w]
     rfl
   refine take_ (i := 4) (N := some 25) (v := ?_) (a' := ?_) #[true, true, true, true, true, true, false, false] rfl rfl (take_ofW HT_.out HW_.out (by kernel_rfl)) (fun _ _ _ h => h) (Or.inl ⟨by rfl, ?_⟩) hHeld ?_ ?_
   rotate_left
   · rintro w' ⟨s0, s1, s2, s3⟩
     go_simp
     with_reducible rfl
   rotate_left
   · simp only [Act.put, List.setIfInBounds_toArray, List.set_cons_zero, List.set_cons_succ, i64_w, i32_w]
     rfl
   refine one_ (i := 6) (N := some 27) #[true, true, true, true, true, true, true, false] rfl rfl (one_of HT_.out (by kernel_rfl)) (by decide) (fun K hK => ?_)
   refine goes_ Try.func121 (by kernel_rfl) rfl #[.int .i64 (wrap64 (x1_1 + 1))] (by rfl) rfl rfl (by (try simp only [List.map_toArray, List.map_cons, List.map_nil]); first | done | rfl | (simp only [List.length_drop, List.length_take]; rfl)) ?_
   with_reducible refine (laws_markText.calls k1 (wrap64 (x1_1 + 1)) t166 _ A6.out).mono ?_
   rintro e w9 ⟨rfl, hb⟩
   refine ⟨_, rfl, ?_⟩
   have n0_ := Zm (Zbt (bk HB.out) hb)
   clear HB
   have HB := n0_
   clear n0_
   refine hK.out _ _ ⟨((HB.out.cell (Zlt _ _ hw165_0)).trans hw165_0), ((HB.out.cell (Zlt _ _ hw165_1)).trans hw165_1), ((HB.out.cell (Zlt _ _ hw165_2)).trans hw165_2), ((HB.out.cell (Zlt _ _ hw165_3)).trans hw165_3)⟩ (fun hHeld => ?_)
   clear hK K
   refine norm_ (a' := ?_) ?_ ?_
   rotate_left
   · show Act.put _ (some 27) _ = _
     simp only [Act.put, List.setIfInBounds_toArray, List.set_cons_zero, List.set_cons_succ, i64_w, i32_w]
     rfl
   refine pure_ (i := 7) (N := some 28) (v := ?_) (a' := ?_) #[true, true, true, true, true, true, true, true] rfl rfl (any_of HT_.out (by kernel_rfl)) (fun _ _ _ h => h) (Or.inl ⟨by rfl, ?_⟩) ?_ ?_
   rotate_left
   · intro w'
     go_simp
     with_reducible rfl
   rotate_left
   · simp only [Act.put, List.setIfInBounds_toArray, List.set_cons_zero, List.set_cons_succ, i64_w, i32_w]
     rfl
   refine done_ (done_of HT_.out (by kernel_rfl)) ?_
   go_upto_if 28 with (fail)
   have H := HC7.out
   clear HC7
   by_cases c10 : ((rd_T97 l0 x5_1).f1).toList = t166.toList
   rotate_left
   · rw [if_neg c10] at H
     have c10b0 : (((rd_T97 l0 x5_1).f1).toList == t166.toList) = false := beq_eq_false_iff_ne.mpr c10
     have c10b1 : (((rd_T97 l0 x5_1).f1).toList != t166.toList) = true := bne_iff_ne.mpr c10
     (first | rw [c10b0] | (simp only [i64_w, i32_w]; rw [c10b0]) | skip)
     obtain rfl := Option.some.inj H
     go_wp2
     go_ret
     exact fin_ HB
   rw [if_pos c10] at H
   have c10b0 : (((rd_T97 l0 x5_1).f1).toList == t166.toList) = true := beq_iff_eq.mpr c10
   have c10b1 : (((rd_T97 l0 x5_1).f1).toList != t166.toList) = false := bne_eq_false_iff_eq.mpr c10
   clear c10
   (first | rw [c10b0] | (simp only [i64_w, i32_w]; rw [c10b0]) | skip)
   by_cases c11 : (((rd_T97 l0 x5_1).f2) != ((Int.tmod (wrap64 ((wrap64 (x1_1 + 1)) + 1)) 3) == 0)) = true
   rotate_left
   · rw [if_neg c11] at H
     have c11b0 : (((rd_T97 l0 x5_1).f2) != ((Int.tmod (wrap64 ((wrap64 (x1_1 + 1)) + 1)) 3) == 0)) = false := by simpa using c11
     (try (have c11b1 : decide (((rd_T97 l0 x5_1).f2) = ((Int.tmod (wrap64 ((wrap64 (x1_1 + 1)) + 1)) 3) == 0)) = true := by simpa using c11))
     (try (have c11b2 : (((rd_T97 l0 x5_1).f2) == ((Int.tmod (wrap64 ((wrap64 (x1_1 + 1)) + 1)) 3) == 0)) = true := by simpa using c11))
     (try (have c11b3 : (((rd_T97 l0 x5_1).f2) != ((Int.tmod (IntKind.i64.wrap ((IntKind.i64.wrap (x1_1 + 1)) + 1)) 3) == 0)) = false := by simp only [i64_w]; exact (by simpa using c11)))
     (try (have c11b4 : decide (((rd_T97 l0 x5_1).f2) = ((Int.tmod (IntKind.i64.wrap ((IntKind.i64.wrap (x1_1 + 1)) + 1)) 3) == 0)) = true := by simp only [i64_w]; exact (by simpa using c11)))
     (try (have c11b5 : (((rd_T97 l0 x5_1).f2) == ((Int.tmod (IntKind.i64.wrap ((IntKind.i64.wrap (x1_1 + 1)) + 1)) 3) == 0)) = true := by simp only [i64_w]; exact (by simpa using c11)))
     clear c11
     replace H := Option.bind_eq_some_iff.mp H
     obtain ⟨t169, A120, H⟩ := H
     (try dsimp only at H)
     have A12 := Zm A120
     clear A120
     have HC13 := Zm H
     clear H
     have p167 : 0 ≤ (x5_1 : Int) := of_decide_eq_true (by first | (with_reducible assumption) | assumption)
     have q167 : x5_1 < (l0.length : Int) := of_decide_eq_true (by first | (with_reducible assumption) | assumption)
     (try clear hHeld)
     obtain ⟨ad167, A167_3, c167_3, e167, hx167_0, hx167_1, hx167_2, hx167_3, hl167_3, hi167_3⟩ := at_T97 HR0.out x5_1 p167 q167
     obtain rfl : ad164 = ad167 := (by injection e167)
     replace hx167_0 := hx_ HB hx167_0 (Zlt _ _ hx167_0)
     replace hx167_1 := hx_ HB hx167_1 (Zlt _ _ hx167_1)
     replace hx167_2 := hx_ HB hx167_2 (Zlt _ _ hx167_2)
     replace hx167_3 := hx_ HB hx167_3 (Zlt _ _ hx167_3)
     have HR167_3 := Zm hi167_3
     have HC167_3 := Zm hl167_3
     clear hi167_3 hl167_3
     replace p167 := eq_true p167
     replace q167 := eq_true q167
     have p168 : 0 ≤ (x5_1 : Int) := of_decide_eq_true (by first | (with_reducible assumption) | assumption)
     have q168 : x5_1 < (l0.length : Int) := of_decide_eq_true (by first | (with_reducible assumption) | assumption)
     obtain ⟨ad168, A168_3, c168_3, e168, hx168_0, hx168_1, hx168_2, hx168_3, hl168_3, hi168_3⟩ := at_T97 HR0.out x5_1 p168 q168
     obtain rfl : ad164 = ad168 := (by injection e168)
     replace hx168_0 := hx_ HB hx168_0 (Zlt _ _ hx168_0)
     replace hx168_1 := hx_ HB hx168_1 (Zlt _ _ hx168_1)
     replace hx168_2 := hx_ HB hx168_2 (Zlt _ _ hx168_2)
     replace hx168_3 := hx_ HB hx168_3 (Zlt _ _ hx168_3)
     have HR168_3 := Zm hi168_3
     have HC168_3 := Zm hl168_3
     clear hi168_3 hl168_3
     replace p168 := eq_true p168
     replace q168 := eq_true q168
     have ea_ := Option.some.inj (hx167_3.symm.trans hx168_3)
     injection ea_ with ea_ en_ ec_
     subst ea_
     subst ec_
     clear en_
     go_upto_if 50 with (first | ((with_reducible refine gate_callee (f := 122) rfl ?_); refine ge_ (some 48) Try.func122 #[.slice A167_3 ((rd_T97 l0 x5_1).f3).length c167_3, .int .i64 (wrap64 ((wrap64 ((wrap64 (x1_1 + 1)) + 1)) + 1))] ?_; (with_reducible refine (laws_heldValS.calls _ _ _ _ _ _ _ ?side1 ?side2 A12.out).mono ?_); (case side1 => exact pc (Kd.C_below HR168_3.out HB.out)); (case side2 => exact HC168_3.out); rintro e w' ⟨rfl, ⟨nd, rfl⟩⟩; refine ⟨_, rfl, ?_⟩))
     have H := HC13.out
     clear HC13
     by_cases c14 : t169 < 0
     rotate_left
     · rw [if_neg c14] at H
       have c14b0 := decide_eq_false c14
       clear c14
       (first | rw [c14b0] | (simp only [i64_w, i32_w]; rw [c14b0]) | skip)
       have H' := Zm H
       clear H
       go_wp2
       go_roundg k1
       case measure => have := HK1.out; omega
       case rel => exact ⟨(t169), (wrap64 (x5_1 + 1)), (by first | rfl | (simp; done) | (simp [*]; done)), (by first | rfl | (simp; done) | (simp [*]; done)), H', ⟨by have := HK1.out; omega⟩, ⟨bk HB.out⟩⟩
     rw [if_pos c14] at H
     have c14b0 := decide_eq_true c14
     clear c14
     (first | rw [c14b0] | (simp only [i64_w, i32_w]; rw [c14b0]) | skip)
     obtain rfl := Option.some.inj H
     go_wp2
     go_ret
     exact fin_ HB
   rw [if_pos c11] at H
   have c11b0 : (((rd_T97 l0 x5_1).f2) != ((Int.tmod (wrap64 ((wrap64 (x1_1 + 1)) + 1)) 3) == 0)) = true := c11
   (try (have c11b1 : decide (((rd_T97 l0 x5_1).f2) = ((Int.tmod (wrap64 ((wrap64 (x1_1 + 1)) + 1)) 3) == 0)) = false := by simpa using c11))
   (try (have c11b2 : (((rd_T97 l0 x5_1).f2) == ((Int.tmod (wrap64 ((wrap64 (x1_1 + 1)) + 1)) 3) == 0)) = false := by simpa using c11))
   (try (have c11b3 : ¬ (((rd_T97 l0 x5_1).f2) = ((Int.tmod (wrap64 ((wrap64 (x1_1 + 1)) + 1)) 3) == 0)) := by simpa using c11))
   (try (have c11b4 : (((rd_T97 l0 x5_1).f2) != ((Int.tmod (IntKind.i64.wrap ((IntKind.i64.wrap (x1_1 + 1)) + 1)) 3) == 0)) = true := by simp only [i64_w]; exact (c11)))
   (try (have c11b5 : decide (((rd_T97 l0 x5_1).f2) = ((Int.tmod (IntKind.i64.wrap ((IntKind.i64.wrap (x1_1 + 1)) + 1)) 3) == 0)) = false := by simp only [i64_w]; exact (by simpa using c11)))
   (try (have c11b6 : (((rd_T97 l0 x5_1).f2) == ((Int.tmod (IntKind.i64.wrap ((IntKind.i64.wrap (x1_1 + 1)) + 1)) 3) == 0)) = false := by simp only [i64_w]; exact (by simpa using c11)))
   (try (have c11b7 : ¬ (((rd_T97 l0 x5_1).f2) = ((Int.tmod (IntKind.i64.wrap ((IntKind.i64.wrap (x1_1 + 1)) + 1)) 3) == 0)) := by simp only [i64_w]; exact (by simpa using c11)))
   clear c11
   obtain rfl := Option.some.inj H
   have p167 : 0 ≤ (x5_1 : Int) := of_decide_eq_true (by first | (with_reducible assumption) | assumption)
   have q167 : x5_1 < (l0.length : Int) := of_decide_eq_true (by first | (with_reducible assumption) | assumption)
   obtain ⟨ad167, A167_3, c167_3, e167, hx167_0, hx167_1, hx167_2, hx167_3, hl167_3, hi167_3⟩ := at_T97 HR0.out x5_1 p167 q167
   obtain rfl : ad164 = ad167 := (by injection e167)
   replace hx167_0 := hx_ HB hx167_0 (Zlt _ _ hx167_0)
   replace hx167_1 := hx_ HB hx167_1 (Zlt _ _ hx167_1)
   replace hx167_2 := hx_ HB hx167_2 (Zlt _ _ hx167_2)
   replace hx167_3 := hx_ HB hx167_3 (Zlt _ _ hx167_3)
   have HR167_3 := Zm hi167_3
   have HC167_3 := Zm hl167_3
   clear hi167_3 hl167_3
   replace p167 := eq_true p167
   replace q167 := eq_true q167
   go_wp2
   go_ret
   exact fin_ HB
/-! ### laws_heldHeap: function 14 -/
def laws_heldHeap.f (k : Nat) (l0_0 : List (S97)) (a0_1 : Int) (a1 : Int) : Option (Int) := (laws_heldObjS.f k l0_0 a1).bind fun t171 => (if t171 < 0 then (some (-1)) else (some t171))
set_option maxHeartbeats 8000000 in
set_option maxRecDepth 100000 in
theorem laws_heldHeap.calls (k : Nat) (A0_0 : Option Addr) (c0_0 : Nat) (l0_0 : List (S97)) (a0_1 : Int) (a1 : Int) (r : Int) (w : World) (hr0_0 : Kd.C k97 w A0_0 l0_0.length l0_0) (hc0_0 : l0_0.length ≤ c0_0) (h : laws_heldHeap.f k l0_0 a0_1 a1 = some r) :
 Calls Try.prog 14 #[.agg #[.slice A0_0 l0_0.length c0_0, .int .i64 a0_1], .int .i64 a1] w fun e w' => e = .returned (.int .i64 r) ∧ Below w.heap.size w w' := by
 have hu24 := Try.underlying24; have HR0_0 := Zm hr0_0; have HC0_0 := Zm hc0_0; clear hr0_0 hc0_0; have HB := Zm (Below.refl w.heap.size w); have H : ((laws_heldObjS.f k l0_0 a1).bind fun t171 => (if t171 < 0 then (some (-1)) else (some t171))) = some r := h; clear h; replace H := Option.bind_eq_some_iff.mp H; obtain ⟨t171, A30, H⟩ := H; (try dsimp only at H); have A3 := Zm A30; clear A30; have HC4 := Zm H; clear H; go_enter Try.func14, Try.ntmps14; go_upto_if 10 with (first | ((with_reducible refine gate_dst (N := 2) rfl ?_); refine box_event ?hg (N := 2) ?hd (cs := #[.slice A0_0 l0_0.length c0_0, .int .i64 a0_1]) (t := 24) ?hr ?_; (case hd => rfl); (case hg => rfl); (case hr => first | (go_simp; done) | (go_simp; rfl)); intro gb170 hg w5 hbox hb; have n0_ := (⟨Zm (Zbt (bk HB.out) hb), Zm (hbox), Zm ((by rw [hg]; exact (Zbz (bk HB.out)) : w.heap.size ≤ gb170)), Zm ((by rw [hg]; exact (Zbz (bk HB.out)) : w.heap.size ≤ gb170))⟩ : _ ∧ _ ∧ _ ∧ _); clear HB; obtain ⟨HB, BK170, GW170, GE170⟩ := n0_; clear hb hbox hg; obtain ⟨hcz6_0, hcz6_1⟩ := cz2 BK170.out; (try clear BK170)) | ((with_reducible refine gate_callee (f := 48) rfl ?_); refine ge_ (some 8) Try.func48 #[.slice A0_0 l0_0.length c0_0, .int .i64 a1] ?_; (with_reducible refine (laws_heldObjS.calls _ _ _ _ _ _ _ ?side1 ?side2 A3.out).mono ?_); (case side1 => exact pc (Kd.C_below HR0_0.out HB.out)); (case side2 => exact HC0_0.out); rintro e w7 ⟨rfl, hb⟩; refine ⟨_, rfl, ?_⟩; have n0_ := Zm (Zbt (bk HB.out) hb); clear HB; have HB := n0_; clear n0_; (try clear hb); (try clear hb2); (try clear hk); (try clear hi))); have H := HC4.out; clear HC4; by_cases c8 : t171 < 0; rotate_left
 · rw [if_neg c8] at H; have c8b0 := decide_eq_false c8; clear c8; (first | rw [c8b0] | (simp only [i64_w, i32_w]; rw [c8b0]) | skip); obtain rfl := Option.some.inj H; go_wp2; go_ret; exact fin_ HB

 rw [if_pos c8] at H
 have c8b0 := decide_eq_true c8
 clear c8
 (first | rw [c8b0] | (simp only [i64_w, i32_w]; rw [c8b0]) | skip)
 obtain rfl := Option.some.inj H
 go_wp2
 go_ret
 exact fin_ HB
/-! ### laws_FnExactHeapNew: function 3 -/
def laws_FnExactHeapNew.f (k : Nat) (a0 : Int) : Option (Bool) := (spec_HeapNew.f k a0).bind fun bt172 => ((impl_HeapNew.f k a0).bind fun bt177 => ((laws_eqHeap.f k bt177.1 bt177.2 bt172.1 bt172.2).bind fun t182 => (if t182 = true then ((laws_markHeap.f k bt177.1 bt177.2 1).bind fun bt183 => ((laws_heldHeap.f k bt183.2 bt177.2 1).bind fun t185 => (if t185 < 0 then (some false) else (if t185 = bt183.1 then ((impl_HeapNew.f k a0).bind fun bt186 => ((laws_eqHeap.f k bt186.1 bt186.2 bt172.1 bt172.2).bind fun t191 => (if t191 = true then ((laws_heldHeap.f k bt183.2 bt177.2 1).bind fun t192 => (if t192 < 0 then (some false) else (if t192 = bt183.1 then (some true) else (some false)))) else (some false)))) else (some false))))) else (some false))))
set_option maxHeartbeats 8000000 in
set_option maxRecDepth 100000 in
theorem laws_FnExactHeapNew.calls (k : Nat) (a0 : Int) (r : Bool) (w : World) (hT_ : r = true) (h : laws_FnExactHeapNew.f k a0 = some r) :
 Calls Try.prog 3 #[.int .i64 a0] w fun e w' => e = .returned (.bool r) ∧ Below w.heap.size w w' := by
 have hu24 := Try.underlying24; have HB := Zm (Below.refl w.heap.size w); have H : ((spec_HeapNew.f k a0).bind fun bt172 => ((impl_HeapNew.f k a0).bind fun bt177 => ((laws_eqHeap.f k bt177.1 bt177.2 bt172.1 bt172.2).bind fun t182 => (if t182 = true then ((laws_markHeap.f k bt177.1 bt177.2 1).bind fun bt183 => ((laws_heldHeap.f k bt183.2 bt177.2 1).bind fun t185 => (if t185 < 0 then (some false) else (if t185 = bt183.1 then ((impl_HeapNew.f k a0).bind fun bt186 => ((laws_eqHeap.f k bt186.1 bt186.2 bt172.1 bt172.2).bind fun t191 => (if t191 = true then ((laws_heldHeap.f k bt183.2 bt177.2 1).bind fun t192 => (if t192 < 0 then (some false) else (if t192 = bt183.1 then (some true) else (some false)))) else (some false)))) else (some false))))) else (some false))))) = some r := h; clear h; replace H := Option.bind_eq_some_iff.mp H; obtain ⟨⟨t172, t175⟩, A20, H⟩ := H; (try dsimp only at H); have A2 := Zm A20; clear A20; replace H := Option.bind_eq_some_iff.mp H; obtain ⟨⟨t177, t180⟩, A30, H⟩ := H; (try dsimp only at H); have A3 := Zm A30; clear A30; replace H := Option.bind_eq_some_iff.mp H; obtain ⟨t182, A40, H⟩ := H; (try dsimp only at H); have A4 := Zm A40; clear A40; by_cases c5 : t182 = true; rotate_left
 · replace c5 := Bool.eq_false_iff.mpr c5; subst c5; rw [if_neg (show ¬ (false = true) by decide)] at H; exact absurd (H.trans (congrArg some hT_)) (by simp)

 subst c5
 rw [if_pos rfl] at H
 replace H := Option.bind_eq_some_iff.mp H
 obtain ⟨⟨t183, t184⟩, A60, H⟩ := H
 (try dsimp only at H)
 have A6 := Zm A60
 clear A60
 replace H := Option.bind_eq_some_iff.mp H
 obtain ⟨t185, A70, H⟩ := H
 (try dsimp only at H)
 have A7 := Zm A70
 clear A70
 by_cases c8 : t185 < 0
 rotate_left
 · rw [if_neg c8] at H
   have c8b0 := decide_eq_false c8
   clear c8
   by_cases c9 : t185 = t183
   rotate_left
   · rw [if_neg c9] at H
     have c9b0 : (t185 == t183) = false := beq_eq_false_iff_ne.mpr c9
     have c9b1 : (t185 != t183) = true := bne_iff_ne.mpr c9
     exact absurd (H.trans (congrArg some hT_)) (by simp)
   rw [if_pos c9] at H
   have c9b0 : (t185 == t183) = true := beq_iff_eq.mpr c9
   have c9b1 : (t185 != t183) = false := bne_eq_false_iff_eq.mpr c9
   clear c9
   replace H := Option.bind_eq_some_iff.mp H
   obtain ⟨⟨t186, t189⟩, A100, H⟩ := H
   (try dsimp only at H)
   have A10 := Zm A100
   clear A100
   replace H := Option.bind_eq_some_iff.mp H
   obtain ⟨t191, A110, H⟩ := H
   (try dsimp only at H)
   have A11 := Zm A110
   clear A110
   by_cases c12 : t191 = true
   rotate_left
   · replace c12 := Bool.eq_false_iff.mpr c12
     subst c12
     rw [if_neg (show ¬ (false = true) by decide)] at H
     exact absurd (H.trans (congrArg some hT_)) (by simp)
   subst c12
   rw [if_pos rfl] at H
   replace H := Option.bind_eq_some_iff.mp H
   obtain ⟨t192, A130, H⟩ := H
   (try dsimp only at H)
   have A13 := Zm A130
   clear A130
   by_cases c14 : t192 < 0
   rotate_left
   · rw [if_neg c14] at H
     have c14b0 := decide_eq_false c14
     clear c14
     by_cases c15 : t192 = t183
     rotate_left
     · rw [if_neg c15] at H
       have c15b0 : (t192 == t183) = false := beq_eq_false_iff_ne.mpr c15
       have c15b1 : (t192 != t183) = true := bne_iff_ne.mpr c15
       exact absurd (H.trans (congrArg some hT_)) (by simp)
     rw [if_pos c15] at H
     have c15b0 : (t192 == t183) = true := beq_iff_eq.mpr c15
     have c15b1 : (t192 != t183) = false := bne_eq_false_iff_eq.mpr c15
     clear c15
     clear hT_
     obtain rfl := Option.some.inj H
     go_enter Try.func3, Try.ntmps3
     go_wp2_with (first | ((with_reducible refine gate_callee (f := 10) rfl ?_); refine ge_ (some 9) Try.func10 #[.int .i64 a0] ?_; (with_reducible refine (spec_HeapNew.calls _ _ _ _ _ A2.out).mono ?_); rintro e w16 ⟨v173, rfl, ho0, hb⟩; refine ⟨_, rfl, ?_⟩; have n0_ := (⟨Zm (Kd.S_lower ho0 (Zbz (bk HB.out))), Zm (Zbt (bk HB.out) hb)⟩ : _ ∧ _); clear HB; obtain ⟨HO174, HB⟩ := n0_; (try clear hb); (try clear hb2); (try clear hk); (try clear hi); (try clear ho0)) | ((with_reducible refine gate_dst (N := 3) rfl ?_); refine box_event ?hg (N := 3) ?hd (cs := #[.slice none 0 0, .int .i64 0]) (t := 24) ?hr ?_; (case hd => rfl); (case hg => rfl); (case hr => first | (go_simp; done) | (go_simp; rfl)); intro gb176 hg w17 hbox hb; have n0_ := (⟨Zm (Kd.S_below (by (with_reducible repeat (first | apply Kd.S_alloc | apply Kd.S_drewN | apply Kd.S_drew)); exact HO174.out) hb), Zm (Zbt (bk HB.out) hb), Zm (hbox), Zm ((by rw [hg]; exact (Zbz (bk HB.out)) : w.heap.size ≤ gb176)), Zm ((by rw [hg]; exact (Zbz (bk HB.out)) : w.heap.size ≤ gb176))⟩ : _ ∧ _ ∧ _ ∧ _ ∧ _); clear HO174 HB; obtain ⟨HO174, HB, BK176, GW176, GE176⟩ := n0_; clear hb hbox hg; obtain ⟨Ao18, co18, eo18⟩ := Kd.S_slice HO174.out; subst eo18; obtain ⟨hcz19_0, hcz19_1, hfz19_0, hfz19_1⟩ := cf2 BK176.out) | ((with_reducible refine gate_callee (f := 11) rfl ?_); refine ge_ (some 11) Try.func11 #[.int .i64 a0] ?_; (with_reducible refine (impl_HeapNew.calls _ _ _ _ _ A3.out).mono ?_); rintro e w20 ⟨v178, rfl, ho0, hb⟩; refine ⟨_, rfl, ?_⟩; obtain ⟨N_, F1_, F2_⟩ : ∃ N_ : Nat, Kd.S k97 97 _ w.heap.size (fun k_ => True ∧ k_ < N_) (.slice Ao18 t172.length co18) t172 ∧ Kd.S k97 97 w20 _ (fun k_ => True ∧ N_ ≤ k_) v178 t177 := ⟨_, Kd.S_mono (Kd.S_bound (by (with_reducible repeat (first | apply Kd.S_alloc | apply Kd.S_drewN | apply Kd.S_drew)); exact (Kd.S_mono (Kd.S_far (p := ⟨gb176, 1, none⟩) (Kd.S_far (p := ⟨gb176, 0, none⟩) (Kd.S_types HO174.out BK176.out (by decide)) (fun _ hk => hk.2) (.slice Ao18 t172.length co18)) (fun _ hk => hk.2) (.int .i64 t175)) (fun _ h_ => h_.1)))) (fun _ h_ => ⟨trivial, h_.2.2.1⟩), Kd.S_mono (Kd.S_bound ho0) (fun _ h_ => ⟨trivial, h_.2.1⟩)⟩; have n0_ := (⟨Zm (Kd.S_mono (ok' := fun k_ => (True ∧ some k_ ≠ (v178 : Value).ownBlock) ∧ k_ < N_) (Kd.S_elder' F1_ (Kd.S_base ho0) hb) (fun _ h_ => ⟨⟨trivial, h_.2⟩, h_.1.2⟩)), Zm (Kd.S_lower (Kd.S_mono (ok' := fun k_ => (True ∧ some k_ ≠ (.slice Ao18 t172.length co18 : Value).ownBlock) ∧ N_ ≤ k_) (Kd.S_new' F2_ (Kd.S_lt F1_)) (fun _ h_ => ⟨⟨trivial, h_.2⟩, h_.1.2⟩)) (Zbz hb_)), Zm (Zkb (g := gb176) (o := .cells #[.slice Ao18 t172.length co18, .int .i64 t175] 24 (0, 0)) zc_ hb), Zm (Zbt hb_ hb)⟩ : _ ∧ _ ∧ _ ∧ _); clear HO174 BK176 HB; obtain ⟨HO174, HO179, BK176, HB⟩ := n0_; (try clear hb); (try clear hb2); (try clear hk); (try clear hi); (try clear ho0)) | ((with_reducible refine gate_dst (N := 4) rfl ?_); refine box_event ?hg (N := 4) ?hd (cs := #[.slice none 0 0, .int .i64 0]) (t := 24) ?hr ?_; (case hd => rfl); (case hg => rfl); (case hr => first | (go_simp; done) | (go_simp; rfl)); intro gb181 hg w21 hbox hb; have n0_ := (⟨Zm (Kd.S_below (by (with_reducible repeat (first | apply Kd.S_alloc | apply Kd.S_drewN | apply Kd.S_drew)); exact HO174.out) hb), Zm (Kd.S_below (by (with_reducible repeat (first | apply Kd.S_alloc | apply Kd.S_drewN | apply Kd.S_drew)); exact HO179.out) hb), Zm (Zkb (pk BK176.out) hb), Zm (Zbt (bk HB.out) hb), Zm (hbox), Zm ((by rw [hg]; exact (Zbz (bk HB.out)) : w.heap.size ≤ gb181)), Zm ((by rw [hg]; exact (Zbz (bk HB.out)) : w.heap.size ≤ gb181)), Zm ((by rw [hg]; exact Nat.ne_of_lt (blk_lt (pk BK176.out)) : gb176 ≠ gb181)), Zm ((by rw [hg]; exact Nat.ne_of_gt (blk_lt (pk BK176.out)) : gb181 ≠ gb176))⟩ : _ ∧ _ ∧ _ ∧ _ ∧ _ ∧ _ ∧ _ ∧ _ ∧ _); clear HO174 HO179 BK176 HB; obtain ⟨HO174, HO179, BK176, HB, BK181, GW181, GE181, NB176_181, NB181_176⟩ := n0_; clear hb hbox hg; obtain ⟨Ao22, co22, eo22⟩ := Kd.S_slice HO179.out; subst eo22; have hnb23 := NB181_176.out; have hnc23 := NB176_181.out; obtain ⟨hcz24_0, hcz24_1, hfz24_0, hfz24_1⟩ := cf2 BK181.out; obtain ⟨hcz25_0, hcz25_1, hfz25_0, hfz25_1⟩ := cf2 BK176.out) | ((with_reducible refine gate_callee (f := 12) rfl ?_); refine ge_ (some 14) Try.func12 #[.agg #[.slice Ao22 t177.length co22, .int .i64 t180], .agg #[.slice Ao18 t172.length co18, .int .i64 t175]] ?_; (with_reducible refine (laws_eqHeap.calls _ _ _ _ _ _ _ _ _ _ _ ?side1 ?side2 ?side3 ?side4 A4.out).mono ?_); (case side1 => refine (Kd.S_reads' (e := 97) (base := w.heap.size) (ok := fun k_ => ((True ∧ some k_ ≠ (.slice Ao18 t172.length co18 : Value).ownBlock) ∧ N_ ≤ k_)) (n := t177.length) (c := co22) ?_).2.2; exact (by (with_reducible repeat (first | apply Kd.S_alloc | apply Kd.S_drewN | apply Kd.S_drew)); exact (Kd.S_mono (Kd.S_far (p := ⟨gb181, 1, none⟩) (Kd.S_far (p := ⟨gb181, 0, none⟩) (Kd.S_types HO179.out BK181.out (by decide)) (fun _ hk => hk.2) (.slice Ao22 t177.length co22)) (fun _ hk => hk.2) (.int .i64 t180)) (fun _ h_ => h_.1)))); (case side2 => exact (Kd.S_reads' HO179.out).2.1); (case side3 => refine (Kd.S_reads' (e := 97) (base := w.heap.size) (ok := fun k_ => ((True ∧ some k_ ≠ (.slice Ao22 t177.length co22 : Value).ownBlock) ∧ k_ < N_)) (n := t172.length) (c := co18) ?_).2.2; exact (by (with_reducible repeat (first | apply Kd.S_alloc | apply Kd.S_drewN | apply Kd.S_drew)); exact (Kd.S_mono (Kd.S_far (p := ⟨gb181, 1, none⟩) (Kd.S_far (p := ⟨gb181, 0, none⟩) (Kd.S_types HO174.out BK181.out (by decide)) (fun _ hk => hk.2) (.slice Ao22 t177.length co22)) (fun _ hk => hk.2) (.int .i64 t180)) (fun _ h_ => h_.1)))); (case side4 => exact (Kd.S_reads' HO174.out).2.1); rintro e w26 ⟨rfl, hb⟩; refine ⟨_, rfl, ?_⟩; have n0_ := (⟨Zm (Kd.S_below (by (with_reducible repeat (first | apply Kd.S_alloc | apply Kd.S_drewN | apply Kd.S_drew)); exact (Kd.S_mono (Kd.S_far (p := ⟨gb181, 1, none⟩) (Kd.S_far (p := ⟨gb181, 0, none⟩) (Kd.S_types HO174.out BK181.out (by decide)) (fun _ hk => hk.2) (.slice Ao22 t177.length co22)) (fun _ hk => hk.2) (.int .i64 t180)) (fun _ h_ => h_.1))) hb), Zm (Kd.S_below (by (with_reducible repeat (first | apply Kd.S_alloc | apply Kd.S_drewN | apply Kd.S_drew)); exact (Kd.S_mono (Kd.S_far (p := ⟨gb181, 1, none⟩) (Kd.S_far (p := ⟨gb181, 0, none⟩) (Kd.S_types HO179.out BK181.out (by decide)) (fun _ hk => hk.2) (.slice Ao22 t177.length co22)) (fun _ hk => hk.2) (.int .i64 t180)) (fun _ h_ => h_.1))) hb), Zm (Zkb (g := gb176) (o := .cells #[.slice Ao18 t172.length co18, .int .i64 t175] 24 (0, 0)) zc_ hb), Zm (Zkb (g := gb181) (o := .cells #[.slice Ao22 t177.length co22, .int .i64 t180] 24 (0, 0)) zc_ hb), Zm (Zbt hb_ hb)⟩ : _ ∧ _ ∧ _ ∧ _ ∧ _); clear HO174 HO179 BK176 BK181 HB; obtain ⟨HO174, HO179, BK176, BK181, HB⟩ := n0_; (try clear hb); (try clear hb2); (try clear hk); (try clear hi); obtain ⟨hcz27_0, hcz27_1, hfz27_0, hfz27_1⟩ := cf2 BK181.out) | ((with_reducible refine gate_callee (f := 13) rfl ?_); refine ge_ (some 18) Try.func13 #[.agg #[.slice Ao22 t177.length co22, .int .i64 t180], .int .i64 1] ?_; (with_reducible refine (laws_markHeap.calls _ (fun k_ => (((True ∧ some k_ ≠ (.slice Ao18 t172.length co18 : Value).ownBlock) ∧ N_ ≤ k_) ∧ k_ ≠ gb176) ∧ k_ ≠ gb181) _ _ _ _ _ _ w _ ?side1 ?side2 A6.out).mono ?_); (case side1 => exact bk HB.out); (case side2 => exact Kd.S_types (Kd.S_types (HO179.out) BK176.out (by decide)) BK181.out (by decide)); rintro e w28 ⟨rfl, hy0, hb, hkp⟩; refine ⟨_, rfl, ?_⟩; have n0_ := (⟨Zm (Kd.S_mono (ok' := fun k_ => some k_ ≠ (.slice Ao22 t177.length co22 : Value).ownBlock) (Kd.S_keptB (HO174.out) hkp (fun k_ hk_ hs_ => Nat.not_le.2 hk_.2 hs_.1.1.2)) (fun k_ hk_ => hk_.1.1.2)), Zm (blk_kept (pk BK176.out) hkp (fun hs_ => (fun e_ => e_.1.2 rfl) hs_)), Zm (Kd.S_mono (ok' := fun k_ => True ∧ some k_ ≠ (.slice Ao18 t172.length co18 : Value).ownBlock) hy0 (fun k_ hk_ => Or.elim hk_ (fun h_ => h_.1.1.1) (fun h_ => ⟨trivial, fun e_ => Nat.not_lt.2 h_ (Kd.S_lt HO174.out k_ e_.symm)⟩))), Zm (blk_kept (pk BK181.out) hkp (fun hs_ => (fun e_ => e_.2 rfl) hs_)), Zm (hb)⟩ : _ ∧ _ ∧ _ ∧ _ ∧ _); clear HO174 BK176 HO179 BK181 HB; obtain ⟨HO174, BK176, HO179, BK181, HB⟩ := n0_; (try clear hb); (try clear hkp); (try clear hy0); obtain ⟨hcz29_0, hcz29_1, hfz29_0, hfz29_1⟩ := cf2 BK181.out) | ((with_reducible refine gate_callee (f := 14) rfl ?_); refine goesL_ (some 21) rfl rfl Try.func14 (by kernel_rfl) rfl #[.agg #[.slice Ao22 t184.length co22, .int .i64 t180], .int .i64 1] rfl (by (try simp only [List.map_toArray, List.map_cons, List.map_nil]); first | done | (rw [show t184.length = t177.length from (Kd.S_reads' HO179.out).1.symm] <;> rfl) | rfl | (simp only [List.length_drop, List.length_take]; rfl)) ?_; (with_reducible refine (laws_heldHeap.calls _ _ _ _ _ _ _ _ ?side1 ?side2 A7.out).mono ?_); (case side1 => exact pc (Kd.S_reads' HO179.out).2.2); (case side2 => rw [show t184.length = t177.length from (Kd.S_reads' HO179.out).1.symm]; exact (Kd.S_reads' HO179.out).2.1); rintro e w30 ⟨rfl, hb⟩; refine ⟨_, rfl, ?_⟩; have n0_ := (⟨Zm (Kd.S_below (by (with_reducible repeat (first | apply Kd.S_alloc | apply Kd.S_drewN | apply Kd.S_drew)); exact HO174.out) hb), Zm (Kd.S_below (by (with_reducible repeat (first | apply Kd.S_alloc | apply Kd.S_drewN | apply Kd.S_drew)); exact HO179.out) hb), Zm (Zkb (pk BK176.out) hb), Zm (Zkb (pk BK181.out) hb), Zm (Zbt (bk HB.out) hb)⟩ : _ ∧ _ ∧ _ ∧ _ ∧ _); clear HO174 HO179 BK176 BK181 HB; obtain ⟨HO174, HO179, BK176, BK181, HB⟩ := n0_; (try clear hb); (try clear hb2); (try clear hk); (try clear hi)) | ((with_reducible refine gate_callee (f := 11) rfl ?_); refine ge_ (some 28) Try.func11 #[.int .i64 a0] ?_; (with_reducible refine (impl_HeapNew.calls _ _ _ _ _ A10.out).mono ?_); rintro e w31 ⟨v187, rfl, ho0, hb⟩; refine ⟨_, rfl, ?_⟩; have n0_ := (⟨Zm (Kd.S_elder' (by (with_reducible repeat (first | apply Kd.S_alloc | apply Kd.S_drewN | apply Kd.S_drew)); exact HO174.out) (Kd.S_base ho0) hb), Zm (Kd.S_elder' (by (with_reducible repeat (first | apply Kd.S_alloc | apply Kd.S_drewN | apply Kd.S_drew)); exact HO179.out) (Kd.S_base ho0) hb), Zm (Kd.S_lower (Kd.S_new' (Kd.S_new' ho0 (Kd.S_lt (by (with_reducible repeat (first | apply Kd.S_alloc | apply Kd.S_drewN | apply Kd.S_drew)); exact HO174.out))) (Kd.S_lt (by (with_reducible repeat (first | apply Kd.S_alloc | apply Kd.S_drewN | apply Kd.S_drew)); exact HO179.out))) (Zbz (bk HB.out))), Zm (Zkb (pk BK176.out) hb), Zm (Zkb (pk BK181.out) hb), Zm (Zbt (bk HB.out) hb)⟩ : _ ∧ _ ∧ _ ∧ _ ∧ _ ∧ _); clear HO174 HO179 BK176 BK181 HB; obtain ⟨HO174, HO179, HO188, BK176, BK181, HB⟩ := n0_; (try clear hb); (try clear hb2); (try clear hk); (try clear hi); (try clear ho0)) | ((with_reducible refine gate_dst (N := 7) rfl ?_); refine box_event ?hg (N := 7) ?hd (cs := #[.slice none 0 0, .int .i64 0]) (t := 24) ?hr ?_; (case hd => rfl); (case hg => rfl); (case hr => first | (go_simp; done) | (go_simp; rfl)); intro gb190 hg w32 hbox hb; have n0_ := (⟨Zm (Kd.S_below (by (with_reducible repeat (first | apply Kd.S_alloc | apply Kd.S_drewN | apply Kd.S_drew)); exact HO174.out) hb), Zm (Kd.S_below (by (with_reducible repeat (first | apply Kd.S_alloc | apply Kd.S_drewN | apply Kd.S_drew)); exact HO179.out) hb), Zm (Kd.S_below (by (with_reducible repeat (first | apply Kd.S_alloc | apply Kd.S_drewN | apply Kd.S_drew)); exact HO188.out) hb), Zm (Zkb (pk BK176.out) hb), Zm (Zkb (pk BK181.out) hb), Zm (Zbt (bk HB.out) hb), Zm (hbox), Zm ((by rw [hg]; exact (Zbz (bk HB.out)) : w.heap.size ≤ gb190)), Zm ((by rw [hg]; exact (Zbz (bk HB.out)) : w.heap.size ≤ gb190)), Zm ((by rw [hg]; exact Nat.ne_of_lt (blk_lt (pk BK176.out)) : gb176 ≠ gb190)), Zm ((by rw [hg]; exact Nat.ne_of_gt (blk_lt (pk BK176.out)) : gb190 ≠ gb176)), Zm ((by rw [hg]; exact Nat.ne_of_lt (blk_lt (pk BK181.out)) : gb181 ≠ gb190)), Zm ((by rw [hg]; exact Nat.ne_of_gt (blk_lt (pk BK181.out)) : gb190 ≠ gb181))⟩ : _ ∧ _ ∧ _ ∧ _ ∧ _ ∧ _ ∧ _ ∧ _ ∧ _ ∧ _ ∧ _ ∧ _ ∧ _); clear HO174 HO179 HO188 BK176 BK181 HB; obtain ⟨HO174, HO179, HO188, BK176, BK181, HB, BK190, GW190, GE190, NB176_190, NB190_176, NB181_190, NB190_181⟩ := n0_; clear hb hbox hg; obtain ⟨Ao33, co33, eo33⟩ := Kd.S_slice HO188.out; subst eo33; have hnb34 := NB190_176.out; have hnc34 := NB176_190.out; have hnb35 := NB190_181.out; have hnc35 := NB181_190.out; obtain ⟨hcz36_0, hcz36_1, hfz36_0, hfz36_1⟩ := cf2 BK190.out; obtain ⟨hcz37_0, hcz37_1, hfz37_0, hfz37_1⟩ := cf2 BK176.out) | ((with_reducible refine gate_callee (f := 12) rfl ?_); refine ge_ (some 31) Try.func12 #[.agg #[.slice Ao33 t186.length co33, .int .i64 t189], .agg #[.slice Ao18 t172.length co18, .int .i64 t175]] ?_; (with_reducible refine (laws_eqHeap.calls _ _ _ _ _ _ _ _ _ _ _ ?side1 ?side2 ?side3 ?side4 A11.out).mono ?_); (case side1 => refine (Kd.S_reads' (e := 97) (base := w.heap.size) (ok := fun k_ => ((True ∧ some k_ ≠ (.slice Ao18 t172.length co18 : Value).ownBlock) ∧ some k_ ≠ (.slice Ao22 t177.length co22 : Value).ownBlock)) (n := t186.length) (c := co33) ?_).2.2; exact (by (with_reducible repeat (first | apply Kd.S_alloc | apply Kd.S_drewN | apply Kd.S_drew)); exact (Kd.S_mono (Kd.S_far (p := ⟨gb190, 1, none⟩) (Kd.S_far (p := ⟨gb190, 0, none⟩) (Kd.S_types HO188.out BK190.out (by decide)) (fun _ hk => hk.2) (.slice Ao33 t186.length co33)) (fun _ hk => hk.2) (.int .i64 t189)) (fun _ h_ => h_.1)))); (case side2 => exact (Kd.S_reads' HO188.out).2.1); (case side3 => refine (Kd.S_reads' (e := 97) (base := w.heap.size) (ok := fun k_ => (some k_ ≠ (.slice Ao22 t177.length co22 : Value).ownBlock ∧ some k_ ≠ (.slice Ao33 t186.length co33 : Value).ownBlock)) (n := t172.length) (c := co18) ?_).2.2; exact (by (with_reducible repeat (first | apply Kd.S_alloc | apply Kd.S_drewN | apply Kd.S_drew)); exact (Kd.S_mono (Kd.S_far (p := ⟨gb190, 1, none⟩) (Kd.S_far (p := ⟨gb190, 0, none⟩) (Kd.S_types HO174.out BK190.out (by decide)) (fun _ hk => hk.2) (.slice Ao33 t186.length co33)) (fun _ hk => hk.2) (.int .i64 t189)) (fun _ h_ => h_.1)))); (case side4 => exact (Kd.S_reads' HO174.out).2.1); rintro e w38 ⟨rfl, hb⟩; refine ⟨_, rfl, ?_⟩; have n0_ := (⟨Zm (Kd.S_below (by (with_reducible repeat (first | apply Kd.S_alloc | apply Kd.S_drewN | apply Kd.S_drew)); exact (Kd.S_mono (Kd.S_far (p := ⟨gb190, 1, none⟩) (Kd.S_far (p := ⟨gb190, 0, none⟩) (Kd.S_types HO174.out BK190.out (by decide)) (fun _ hk => hk.2) (.slice Ao33 t186.length co33)) (fun _ hk => hk.2) (.int .i64 t189)) (fun _ h_ => h_.1))) hb), Zm (Kd.S_below (by (with_reducible repeat (first | apply Kd.S_alloc | apply Kd.S_drewN | apply Kd.S_drew)); exact (Kd.S_mono (Kd.S_far (p := ⟨gb190, 1, none⟩) (Kd.S_far (p := ⟨gb190, 0, none⟩) (Kd.S_types HO179.out BK190.out (by decide)) (fun _ hk => hk.2) (.slice Ao33 t186.length co33)) (fun _ hk => hk.2) (.int .i64 t189)) (fun _ h_ => h_.1))) hb), Zm (Kd.S_below (by (with_reducible repeat (first | apply Kd.S_alloc | apply Kd.S_drewN | apply Kd.S_drew)); exact (Kd.S_mono (Kd.S_far (p := ⟨gb190, 1, none⟩) (Kd.S_far (p := ⟨gb190, 0, none⟩) (Kd.S_types HO188.out BK190.out (by decide)) (fun _ hk => hk.2) (.slice Ao33 t186.length co33)) (fun _ hk => hk.2) (.int .i64 t189)) (fun _ h_ => h_.1))) hb), Zm (Zkb (g := gb176) (o := .cells #[.slice Ao18 t172.length co18, .int .i64 t175] 24 (0, 0)) zc_ hb), Zm (Zkb (g := gb181) (o := .cells #[.slice Ao22 t177.length co22, .int .i64 t180] 24 (0, 0)) zc_ hb), Zm (Zkb (g := gb190) (o := .cells #[.slice Ao33 t186.length co33, .int .i64 t189] 24 (0, 0)) zc_ hb), Zm (Zbt hb_ hb)⟩ : _ ∧ _ ∧ _ ∧ _ ∧ _ ∧ _ ∧ _); clear HO174 HO179 HO188 BK176 BK181 BK190 HB; obtain ⟨HO174, HO179, HO188, BK176, BK181, BK190, HB⟩ := n0_; (try clear hb); (try clear hb2); (try clear hk); (try clear hi); obtain ⟨hcz39_0, hcz39_1, hfz39_0, hfz39_1⟩ := cf2 BK181.out; (try clear HO174); (try clear BK176); (try clear BK181); (try clear HO188); (try clear BK190)) | ((with_reducible refine gate_callee (f := 14) rfl ?_); refine goesL_ (some 35) rfl rfl Try.func14 (by kernel_rfl) rfl #[.agg #[.slice Ao22 t184.length co22, .int .i64 t180], .int .i64 1] rfl (by (try simp only [List.map_toArray, List.map_cons, List.map_nil]); first | done | (rw [show t184.length = t177.length from (Kd.S_reads' HO179.out).1.symm] <;> rfl) | rfl | (simp only [List.length_drop, List.length_take]; rfl)) ?_; (with_reducible refine (laws_heldHeap.calls _ _ _ _ _ _ _ _ ?side1 ?side2 A13.out).mono ?_); (case side1 => exact pc (Kd.S_reads' HO179.out).2.2); (case side2 => rw [show t184.length = t177.length from (Kd.S_reads' HO179.out).1.symm]; exact (Kd.S_reads' HO179.out).2.1); rintro e w40 ⟨rfl, hb⟩; refine ⟨_, rfl, ?_⟩; have n0_ := (⟨Zm (Kd.S_below (by (with_reducible repeat (first | apply Kd.S_alloc | apply Kd.S_drewN | apply Kd.S_drew)); exact HO179.out) hb), Zm (Zbt (bk HB.out) hb)⟩ : _ ∧ _); clear HO179 HB; obtain ⟨HO179, HB⟩ := n0_; (try clear hb); (try clear hb2); (try clear hk); (try clear hi)))
     go_ret
     exact fin_ HB
   rw [if_pos c14] at H
   have c14b0 := decide_eq_true c14
   clear c14
   exact absurd (H.trans (congrArg some hT_)) (by simp)
 rw [if_pos c8] at H
 have c8b0 := decide_eq_true c8
 clear c8
 exact absurd (H.trans (congrArg some hT_)) (by simp)
/-- THE ONE PURE STATEMENT of laws_FnExactHeapNew: yours. -/
def laws_FnExactHeapNew.Pure : Prop := ∀ (a0 : Int), (Lit.int .i64 a0).wf = true → ∃ k, laws_FnExactHeapNew.f k a0 = some true
theorem laws_FnExactHeapNew.walk (P : laws_FnExactHeapNew.Pure) (a0 : Int) (w : World) (w0 : (Lit.int .i64 a0).wf = true) :
 Calls Try.prog 3 #[.int .i64 a0] w fun e w' => e = .returned (.bool true) ∧ Below w.heap.size w w' := by
 obtain ⟨k, h⟩ := P a0 w0; refine (laws_FnExactHeapNew.calls k a0 true w rfl h).mono ?_; rintro e w' ⟨rfl, hd⟩; exact ⟨rfl, hd⟩

end Go.Proofs.Ytlflbmbcjjegaaa.PFnExactHeapNew
