/- Functions of the program as plain Lean functions, each with a proof that the program's call comes to the same; no condition. Written by a program of this session. -/
import Derived.Test.YtlflbmbcjjegaaaPFnExactClassRightx0
import Derived.Test.YtlflbmbcjjegaaaPFnExactClassRightx12
import Derived.Test.YtlflbmbcjjegaaaPFnExactClassRightx14
import Derived.Test.YtlflbmbcjjegaaaPFnExactClassRightx15
namespace Go.Proofs.Ytlflbmbcjjegaaa.PFnExactClassRight
open Go.RowKit Go.Proofs.YtlflbmbcjjegaaaW.PrintWords Go.Proofs.YtlflbmbcjjegaaaW.PrintLast Go.Proofs.YtlflbmbcjjegaaaW.PrintMore
open Go.Proofs.YtlflbmbcjjegaaaW.PrintWords renaming below_alloc → Zba, pw_below_drewN → Zbn, below_drew1 → Zbd, below_set → Zbs, below_size → Zbz, below_step → Zbt, blk_drewN → Zkn, blk_drew → Zkd, blk_alloc → Zka, blk_cell → Zkc, blk_frozen → Zkf, blk_far → Zkr, blk_put → Zkp, blk_below → Zkb
open Go.World renaming block_lt_of_cell? → Zlt
open Go.Proofs.YtlflbmbcjjegaaaW.PrintWords.Aside0 renaming mk → Zm
attribute [local go_sem] max2_int min2_int max_two min_two max_three min_three max_four min_four   -- for this text's walks alone
set_option linter.unusedVariables false
set_option linter.unusedSimpArgs false

/-! ### impl_codeRight_1: function 155 -/
def impl_codeRight_1.f (k : Nat) (a0_0 : Int) (a0_1 : Int) (a0_2 : Int) (a0_3 : ByteArray) (s1_0 : Int) : Option (Bool) := if a0_0 < 0 then (some true) else (if a0_0 ≥ a0_1 then (some true) else (if a0_1 > s1_0 then (some true) else ((impl_within.f a0_2 0 (wrap64 (s1_0 - 1))).bind fun t476 => (if t476 = true then ((impl_NameRight.f k a0_3).bind fun t477 => (some (!t477))) else (some true)))))
set_option maxHeartbeats 8000000 in
set_option maxRecDepth 100000 in
theorem impl_codeRight_1.calls (k : Nat) (a0_0 : Int) (a0_1 : Int) (a0_2 : Int) (a0_3 : ByteArray) (gb36 : Nat) (s1_0 : Int) (r : Bool) (w : World) (hb36 : w.heap[gb36]? = some (.cells #[.int .i64 s1_0] 2 (0, 0))) (h : impl_codeRight_1.f k a0_0 a0_1 a0_2 a0_3 s1_0 = some r) :
 Calls Try.prog 155 #[.agg #[.int .i64 a0_0, .int .i64 a0_1, .int .i64 a0_2, .string a0_3], .pointer (some ⟨gb36, 0, none⟩)] w fun e w' => e = .returned (.bool r) ∧ Below w.heap.size w w' := by
 have hu160 := Try.underlying160; have BK36 := Zm hb36; clear hb36; have HB := Zm (Below.refl w.heap.size w); have H : (if a0_0 < 0 then (some true) else (if a0_0 ≥ a0_1 then (some true) else (if a0_1 > s1_0 then (some true) else ((impl_within.f a0_2 0 (wrap64 (s1_0 - 1))).bind fun t476 => (if t476 = true then ((impl_NameRight.f k a0_3).bind fun t477 => (some (!t477))) else (some true)))))) = some r := h; clear h; by_cases c3 : a0_0 < 0; rotate_left
 · rw [if_neg c3] at H; have c3b0 := decide_eq_false c3; clear c3; by_cases c6 : a0_0 ≥ a0_1; rotate_left
   · rw [if_neg c6] at H; have c6b0 : decide (a0_1 ≤ a0_0) = false := decide_eq_false c6; clear c6; by_cases c9 : a0_1 > s1_0; rotate_left
     · rw [if_neg c9] at H; have c9b0 : decide (s1_0 < a0_1) = false := decide_eq_false c9; clear c9; replace H := Option.bind_eq_some_iff.mp H; obtain ⟨t476, A140, H⟩ := H; (try dsimp only at H); have A14 := Zm A140; clear A140; by_cases c15 : t476 = true; rotate_left
       · replace c15 := Bool.eq_false_iff.mpr c15; subst c15; rw [if_neg (show ¬ (false = true) by decide)] at H; obtain rfl := Option.some.inj H; go_enter Try.func155, Try.ntmps155; go_wp2_with (first | ((with_reducible refine gate_dst (N := 2) rfl ?_); refine box_event ?hg (N := 2) ?hd (cs := #[.int .i64 a0_0, .int .i64 a0_1, .int .i64 a0_2, .string a0_3]) (t := 160) ?hr ?_; (case hd => rfl); (case hg => rfl); (case hr => first | (go_simp; done) | (go_simp; rfl)); intro gb475 hg w21 hbox hb; have n0_ := (⟨Zm (Zkb (pk BK36.out) hb), Zm (Zbt (bk HB.out) hb), Zm (hbox), Zm ((by rw [hg]; exact (Zbz (bk HB.out)) : w.heap.size ≤ gb475)), Zm ((by rw [hg]; exact (Zbz (bk HB.out)) : w.heap.size ≤ gb475)), Zm ((by rw [hg]; exact Nat.ne_of_lt (blk_lt (pk BK36.out)) : gb36 ≠ gb475)), Zm ((by rw [hg]; exact Nat.ne_of_gt (blk_lt (pk BK36.out)) : gb475 ≠ gb36))⟩ : _ ∧ _ ∧ _ ∧ _ ∧ _ ∧ _ ∧ _); clear BK36 HB; obtain ⟨BK36, HB, BK475, GW475, GE475, NB36_475, NB475_36⟩ := n0_; clear hb hbox hg; have hnb22 := NB475_36.out; have hnc22 := NB36_475.out; obtain ⟨hcz23_0, hcz23_1, hcz23_2, hcz23_3⟩ := cz4 BK475.out; have hcz24_0 : w21.cell? ⟨gb36, 0, none⟩ = some (.int .i64 s1_0) := (Zkc BK36.out 0).trans rfl; (try clear BK36); (try clear BK475)) | (go_at_call 44; (first | (with_reducible refine (impl_within.calls _ _ _ _ _ A14.out).mono ?_) | (with_reducible refine (calls_of_args ?_ (impl_within.calls _ _ _ _ _ A14.out)).mono ?_; focus (simp [*]; done))); rintro e w' ⟨rfl, ⟨nd, rfl⟩⟩)); go_ret; exact fin_ HB

       subst c15
       rw [if_pos rfl] at H
       replace H := Option.bind_eq_some_iff.mp H
       obtain ⟨t477, A160, H⟩ := H
       (try dsimp only at H)
       have A16 := Zm A160
       clear A160
       obtain rfl := Option.some.inj H
       go_enter Try.func155, Try.ntmps155
       go_wp2_with (first | ((with_reducible refine gate_dst (N := 2) rfl ?_); refine box_event ?hg (N := 2) ?hd (cs := #[.int .i64 a0_0, .int .i64 a0_1, .int .i64 a0_2, .string a0_3]) (t := 160) ?hr ?_; (case hd => rfl); (case hg => rfl); (case hr => first | (go_simp; done) | (go_simp; rfl)); intro gb475 hg w17 hbox hb; have n0_ := (⟨Zm (Zkb (pk BK36.out) hb), Zm (Zbt (bk HB.out) hb), Zm (hbox), Zm ((by rw [hg]; exact (Zbz (bk HB.out)) : w.heap.size ≤ gb475)), Zm ((by rw [hg]; exact (Zbz (bk HB.out)) : w.heap.size ≤ gb475)), Zm ((by rw [hg]; exact Nat.ne_of_lt (blk_lt (pk BK36.out)) : gb36 ≠ gb475)), Zm ((by rw [hg]; exact Nat.ne_of_gt (blk_lt (pk BK36.out)) : gb475 ≠ gb36))⟩ : _ ∧ _ ∧ _ ∧ _ ∧ _ ∧ _ ∧ _); clear BK36 HB; obtain ⟨BK36, HB, BK475, GW475, GE475, NB36_475, NB475_36⟩ := n0_; clear hb hbox hg; have hnb18 := NB475_36.out; have hnc18 := NB36_475.out; obtain ⟨hcz19_0, hcz19_1, hcz19_2, hcz19_3⟩ := cz4 BK475.out; have hcz20_0 : w17.cell? ⟨gb36, 0, none⟩ = some (.int .i64 s1_0) := (Zkc BK36.out 0).trans rfl; (try clear BK36)) | (go_at_call 44; (first | (with_reducible refine (impl_within.calls _ _ _ _ _ A14.out).mono ?_) | (with_reducible refine (calls_of_args ?_ (impl_within.calls _ _ _ _ _ A14.out)).mono ?_; focus (simp [*]; done))); rintro e w' ⟨rfl, ⟨nd, rfl⟩⟩; (try clear BK475)) | (go_at_call 111; (first | (with_reducible refine (impl_NameRight.calls _ _ _ _ A16.out).mono ?_) | (with_reducible refine (calls_of_args ?_ (impl_NameRight.calls _ _ _ _ A16.out)).mono ?_; focus (simp [*]; done))); rintro e w' ⟨rfl, ⟨nd, rfl⟩⟩))
       go_ret
       exact fin_ HB
     rw [if_pos c9] at H
     have c9b0 : decide (s1_0 < a0_1) = true := decide_eq_true c9
     clear c9
     obtain rfl := Option.some.inj H
     go_enter Try.func155, Try.ntmps155
     go_wp2_with (first | ((with_reducible refine gate_dst (N := 2) rfl ?_); refine box_event ?hg (N := 2) ?hd (cs := #[.int .i64 a0_0, .int .i64 a0_1, .int .i64 a0_2, .string a0_3]) (t := 160) ?hr ?_; (case hd => rfl); (case hg => rfl); (case hr => first | (go_simp; done) | (go_simp; rfl)); intro gb475 hg w10 hbox hb; have n0_ := (⟨Zm (Zkb (pk BK36.out) hb), Zm (Zbt (bk HB.out) hb), Zm (hbox), Zm ((by rw [hg]; exact (Zbz (bk HB.out)) : w.heap.size ≤ gb475)), Zm ((by rw [hg]; exact (Zbz (bk HB.out)) : w.heap.size ≤ gb475)), Zm ((by rw [hg]; exact Nat.ne_of_lt (blk_lt (pk BK36.out)) : gb36 ≠ gb475)), Zm ((by rw [hg]; exact Nat.ne_of_gt (blk_lt (pk BK36.out)) : gb475 ≠ gb36))⟩ : _ ∧ _ ∧ _ ∧ _ ∧ _ ∧ _ ∧ _); clear BK36 HB; obtain ⟨BK36, HB, BK475, GW475, GE475, NB36_475, NB475_36⟩ := n0_; clear hb hbox hg; have hnb11 := NB475_36.out; have hnc11 := NB36_475.out; obtain ⟨hcz12_0, hcz12_1, hcz12_2, hcz12_3⟩ := cz4 BK475.out; have hcz13_0 : w10.cell? ⟨gb36, 0, none⟩ = some (.int .i64 s1_0) := (Zkc BK36.out 0).trans rfl; have hfz13_0 := Zkf BK36.out 0))
     go_ret
     exact fin_ HB
   rw [if_pos c6] at H
   have c6b0 : decide (a0_1 ≤ a0_0) = true := decide_eq_true c6
   clear c6
   obtain rfl := Option.some.inj H
   (try clear BK36)
   go_enter Try.func155, Try.ntmps155
   go_wp2_with (first | ((with_reducible refine gate_dst (N := 2) rfl ?_); refine box_event ?hg (N := 2) ?hd (cs := #[.int .i64 a0_0, .int .i64 a0_1, .int .i64 a0_2, .string a0_3]) (t := 160) ?hr ?_; (case hd => rfl); (case hg => rfl); (case hr => first | (go_simp; done) | (go_simp; rfl)); intro gb475 hg w7 hbox hb; have n0_ := (⟨Zm (Zbt (bk HB.out) hb), Zm (hbox), Zm ((by rw [hg]; exact (Zbz (bk HB.out)) : w.heap.size ≤ gb475)), Zm ((by rw [hg]; exact (Zbz (bk HB.out)) : w.heap.size ≤ gb475))⟩ : _ ∧ _ ∧ _ ∧ _); clear HB; obtain ⟨HB, BK475, GW475, GE475⟩ := n0_; clear hb hbox hg; obtain ⟨hcz8_0, hcz8_1, hcz8_2, hcz8_3⟩ := cz4 BK475.out; have hfz8_3 := Zkf BK475.out 3))
   go_ret
   exact fin_ HB
 rw [if_pos c3] at H
 have c3b0 := decide_eq_true c3
 clear c3
 obtain rfl := Option.some.inj H
 (try clear BK36)
 go_enter Try.func155, Try.ntmps155
 go_wp2_with (first | ((with_reducible refine gate_dst (N := 2) rfl ?_); refine box_event ?hg (N := 2) ?hd (cs := #[.int .i64 a0_0, .int .i64 a0_1, .int .i64 a0_2, .string a0_3]) (t := 160) ?hr ?_; (case hd => rfl); (case hg => rfl); (case hr => first | (go_simp; done) | (go_simp; rfl)); intro gb475 hg w4 hbox hb; have n0_ := (⟨Zm (Zbt (bk HB.out) hb), Zm (hbox), Zm ((by rw [hg]; exact (Zbz (bk HB.out)) : w.heap.size ≤ gb475)), Zm ((by rw [hg]; exact (Zbz (bk HB.out)) : w.heap.size ≤ gb475))⟩ : _ ∧ _ ∧ _ ∧ _); clear HB; obtain ⟨HB, BK475, GW475, GE475⟩ := n0_; clear hb hbox hg; obtain ⟨hcz5_0, hcz5_1, hcz5_2, hcz5_3⟩ := cz4 BK475.out; have hfz5_3 := Zkf BK475.out 3))
 go_ret
 exact fin_ HB
/-! ### impl_Handler_186: function 186 -/
def impl_Handler_186.l0 : Nat → List (S160) → Int → Int → Int → Option (Int)
 | 0, _, _, _, _ => none
 | k + 1, x0, x7, x8, x37000 => if x8 < x7 then (if 0 ≤ x8 then (if x8 < (x0.length : Int) then ((impl_codeRight_1.f k ((rd_T160 x0 x8).f0) ((rd_T160 x0 x8).f1) ((rd_T160 x0 x8).f2) ((rd_T160 x0 x8).f3) x37000).bind fun t479 => (if t479 = true then (some x8) else (impl_Handler_186.l0 k x0 x7 (wrap64 (x8 + 1)) x37000))) else (none)) else (none)) else (some (-1))
def impl_Handler_186.f (k : Nat) (l0 : List (S160)) (s1_0 : Int) : Option (Int) := impl_Handler_186.l0 k l0 (l0.length : Int) 0 s1_0
set_option maxHeartbeats 8000000 in
set_option maxRecDepth 100000 in
theorem impl_Handler_186.calls (k : Nat) (A0 : Option Addr) (c0 : Nat) (l0 : List (S160)) (gb36 : Nat) (s1_0 : Int) (r : Int) (w : World) (hr0 : Kd.C k160 w A0 l0.length l0) (hc0 : l0.length ≤ c0) (hb36 : w.heap[gb36]? = some (.cells #[.int .i64 s1_0] 2 (0, 0))) (h : impl_Handler_186.f k l0 s1_0 = some r) :
 Calls Try.prog 186 #[.slice A0 l0.length c0, .func (.func 155) #[] #[.pointer (some ⟨gb36, 0, none⟩)]] w fun e w' => e = .returned (.int .i64 r) ∧ Below w.heap.size w w' := by
 have hu160 := Try.underlying160; have HR0 := Zm hr0; have HC0 := Zm hc0; clear hr0 hc0; have BK36 := Zm hb36; clear hb36; have HB := Zm (Below.refl w.heap.size w); have H : (impl_Handler_186.l0 k l0 (l0.length : Int) 0 s1_0) = some r := h; clear h; have H' := Zm H; clear H; go_enter Try.func186, Try.ntmps186; go_wp2; go_loopg [8] k (fun kq v8 w' => ∃ (x8_1 : Int), v8 = .int .i64 x8_1 ∧ Aside0 (impl_Handler_186.l0 kq l0 (l0.length : Int) x8_1 s1_0 = some r) ∧ Aside0 (kq ≤ k) ∧ Aside0 (w'.heap[gb36]? = some (.cells #[.int .i64 s1_0] 2 (0, 0))) ∧ Aside0 (Below w.heap.size w w'))
 case atStart => exact ⟨(0), (by first | rfl | (simp; done) | (simp [*]; done)), H', ⟨Nat.le_refl _⟩, ⟨pk BK36.out⟩, ⟨bk HB.out⟩⟩
 case round =>
  clear H'; obtain ⟨x8_1, rfl, HA, HK1, BK36, HB⟩ := hrel
  cases gk with
  | zero => exact absurd HA.out (by simp [impl_Handler_186.l0])
  | succ k1 =>
   have H := HA.out; clear HA; simp only [impl_Handler_186.l0] at H; by_cases c3 : x8_1 < (l0.length : Int); rotate_left
   · rw [if_neg c3] at H; have c3b0 := decide_eq_false c3; clear c3; obtain rfl := Option.some.inj H; go_wp2; go_ret; exact fin_ HB

   rw [if_pos c3] at H
   have c3b0 := decide_eq_true c3
   clear c3
   by_cases c4 : 0 ≤ x8_1
   rotate_left
   · rw [if_neg c4] at H
     exact absurd H (by simp)
   rw [if_pos c4] at H
   have c4b0 := decide_eq_true c4
   clear c4
   by_cases c5 : x8_1 < (l0.length : Int)
   rotate_left
   · rw [if_neg c5] at H
     exact absurd H (by simp)
   rw [if_pos c5] at H
   have c5b0 := decide_eq_true c5
   clear c5
   replace H := Option.bind_eq_some_iff.mp H
   obtain ⟨t479, A60, H⟩ := H
   (try dsimp only at H)
   have A6 := Zm A60
   clear A60
   have HC7 := Zm H
   clear H
   have p478 : 0 ≤ (x8_1 : Int) := of_decide_eq_true (by first | (with_reducible assumption) | assumption)
   have q478 : x8_1 < (l0.length : Int) := of_decide_eq_true (by first | (with_reducible assumption) | assumption)
   obtain ⟨ad478, e478, hx478_0, hx478_1, hx478_2, hx478_3⟩ := at_T160 HR0.out x8_1 p478 q478
   cases e478
   replace hx478_0 := hx_ HB hx478_0 (Zlt _ _ hx478_0)
   replace hx478_1 := hx_ HB hx478_1 (Zlt _ _ hx478_1)
   replace hx478_2 := hx_ HB hx478_2 (Zlt _ _ hx478_2)
   replace hx478_3 := hx_ HB hx478_3 (Zlt _ _ hx478_3)
   replace p478 := eq_true p478
   replace q478 := eq_true q478
   go_upto_if 16 with (first | (go_at_call 155; (first | (with_reducible refine (impl_codeRight_1.calls _ _ _ _ _ gb36 _ _ _ ?side1 A6.out).mono ?_) | (with_reducible refine (calls_of_args ?_ (impl_codeRight_1.calls _ _ _ _ _ gb36 _ _ _ ?side1 A6.out)).mono ?_; focus (simp [*]; done))); (case side1 => (with_reducible repeat (first | refine Zkn ?_ _ | refine Zkd ?_ | refine Zka ?_ _)); exact BK36.out); rintro e w8 ⟨rfl, hb⟩; have n0_ := (⟨Zm (Zkb (pk BK36.out) hb), Zm (Zbt (bk HB.out) hb)⟩ : _ ∧ _); clear BK36 HB; obtain ⟨BK36, HB⟩ := n0_; (try clear hb); (try clear hb2); (try clear hk); (try clear hi)))
   have H := HC7.out
   clear HC7
   by_cases c9 : t479 = true
   rotate_left
   · replace c9 := Bool.eq_false_iff.mpr c9
     subst c9
     rw [if_neg (show ¬ (false = true) by decide)] at H
     have H' := Zm H
     clear H
     go_wp2
     go_roundg k1
     case measure => have := HK1.out; omega
     case rel => exact ⟨(wrap64 (x8_1 + 1)), (by first | rfl | (simp; done) | (simp [*]; done)), H', ⟨by have := HK1.out; omega⟩, ⟨pk BK36.out⟩, ⟨bk HB.out⟩⟩
   subst c9
   rw [if_pos rfl] at H
   obtain rfl := Option.some.inj H
   go_wp2
   go_ret
   exact fin_ HB
/-! ### impl_Handler_154: function 154 -/
def impl_Handler_154.f (k : Nat) (l0 : List (S160)) (s1_0 : Int) : Option (Bool) := (impl_Handler_186.f k l0 s1_0).bind fun t480 => (some (decide (t480 ≥ 0)))
set_option maxHeartbeats 8000000 in
set_option maxRecDepth 100000 in
theorem impl_Handler_154.calls (k : Nat) (A0 : Option Addr) (c0 : Nat) (l0 : List (S160)) (gb36 : Nat) (s1_0 : Int) (r : Bool) (w : World) (hr0 : Kd.C k160 w A0 l0.length l0) (hc0 : l0.length ≤ c0) (hb36 : w.heap[gb36]? = some (.cells #[.int .i64 s1_0] 2 (0, 0))) (h : impl_Handler_154.f k l0 s1_0 = some r) :
 Calls Try.prog 154 #[.slice A0 l0.length c0, .func (.func 155) #[] #[.pointer (some ⟨gb36, 0, none⟩)]] w fun e w' => e = .returned (.bool r) ∧ Below w.heap.size w w' := by
 have HR0 := Zm hr0; have HC0 := Zm hc0; clear hr0 hc0; have BK36 := Zm hb36; clear hb36; have HB := Zm (Below.refl w.heap.size w); have H : ((impl_Handler_186.f k l0 s1_0).bind fun t480 => (some (decide (t480 ≥ 0)))) = some r := h; clear h; replace H := Option.bind_eq_some_iff.mp H; obtain ⟨t480, A30, H⟩ := H; (try dsimp only at H); have A3 := Zm A30; clear A30; obtain rfl := Option.some.inj H; go_enter Try.func154, Try.ntmps154; go_wp2_with (first | (go_at_call 186; (first | (with_reducible refine (impl_Handler_186.calls _ _ _ _ gb36 _ _ _ ?side1 ?side2 ?side3 A3.out).mono ?_) | (with_reducible refine (calls_of_args ?_ (impl_Handler_186.calls _ _ _ _ gb36 _ _ _ ?side1 ?side2 ?side3 A3.out)).mono ?_; focus (simp [*]; done))); (case side1 => exact pc HR0.out); (case side2 => exact HC0.out); (case side3 => (with_reducible repeat (first | refine Zkn ?_ _ | refine Zkd ?_ | refine Zka ?_ _)); exact BK36.out); rintro e w4 ⟨rfl, hb⟩; have n0_ := (⟨Zm (Zkb (pk BK36.out) hb), Zm (Zbt (bk HB.out) hb)⟩ : _ ∧ _); clear BK36 HB; obtain ⟨BK36, HB⟩ := n0_; (try clear hb); (try clear hb2); (try clear hk); (try clear hi))); go_ret; exact fin_ HB

/-! ### impl_codeRight: function 105 -/
mutual
def impl_codeRight.j0 : Nat → Bool → ByteArray → ByteArray → Bool → Bool → Bool → Int → Int → List (S156) → List (S160) → Int → Option (Bool)
 | 0, _, _, _, _, _, _, _, _, _, _, _ => none
 | k + 1, x17, x482000, x482001, x482002, x482003, x482004, x482005, x482006, x482007, x482008, x484000 => if x17 = true then (some false) else (impl_codeRight.l0 k x482007 (x482007.length : Int) 0 x482000 x482001 x482002 x482003 x482004 x482005 x482006 x482007 x482008 x484000)
def impl_codeRight.l0 : Nat → List (S156) → Int → Int → ByteArray → ByteArray → Bool → Bool → Bool → Int → Int → List (S156) → List (S160) → Int → Option (Bool)
 | 0, _, _, _, _, _, _, _, _, _, _, _, _, _ => none
 | k + 1, x19, x20, x21, x482000, x482001, x482002, x482003, x482004, x482005, x482006, x482007, x482008, x484000 => if x21 < x20 then (if 0 ≤ x21 then (if x21 < (x19.length : Int) then ((impl_InsRight.f k ((rd_T156 x19 x21).f0) ((rd_T156 x19 x21).f1) ((rd_T156 x19 x21).f2) ((rd_T156 x19 x21).f3) ((rd_T156 x19 x21).f4)).bind fun t488 => (if t488 = true then ((impl_OpForm.f ((rd_T156 x19 x21).f0)).bind fun t489 => (if t489.toList = ([116] : List UInt8) then (if ((rd_T156 x19 x21).f1) ≥ x484000 then (some false) else (impl_codeRight.l0 k x19 x20 (wrap64 (x21 + 1)) x482000 x482001 x482002 x482003 x482004 x482005 x482006 x482007 x482008 x484000)) else (impl_codeRight.l0 k x19 x20 (wrap64 (x21 + 1)) x482000 x482001 x482002 x482003 x482004 x482005 x482006 x482007 x482008 x484000))) else (some false))) else (none)) else (none)) else ((impl_Handler_154.f k x482008 x484000).bind fun t485 => (some (!t485)))
end
def impl_codeRight.f (k : Nat) (a0_0 : ByteArray) (a0_1 : ByteArray) (a0_2 : Bool) (a0_3 : Bool) (a0_4 : Bool) (a0_5 : Int) (a0_6 : Int) (l0_7 : List (S156)) (l0_8 : List (S160)) : Option (Bool) := (impl_Ins.f l0_7).bind fun t482 => ((impl_within.f t482 1 60).bind fun t484 => (if t484 = true then (impl_codeRight.j0 k (decide ((l0_8.length : Int) > 6)) a0_0 a0_1 a0_2 a0_3 a0_4 a0_5 a0_6 l0_7 l0_8 t482) else (impl_codeRight.j0 k true a0_0 a0_1 a0_2 a0_3 a0_4 a0_5 a0_6 l0_7 l0_8 t482)))
set_option maxHeartbeats 8000000 in
set_option maxRecDepth 100000 in
theorem impl_codeRight.calls (k : Nat) (a0_0 : ByteArray) (a0_1 : ByteArray) (a0_2 : Bool) (a0_3 : Bool) (a0_4 : Bool) (a0_5 : Int) (a0_6 : Int) (A0_7 : Option Addr) (c0_7 : Nat) (l0_7 : List (S156)) (A0_8 : Option Addr) (c0_8 : Nat) (l0_8 : List (S160)) (r : Bool) (w : World) (hr0_7 : Kd.C k156 w A0_7 l0_7.length l0_7) (hc0_7 : l0_7.length ≤ c0_7) (hr0_8 : Kd.C k160 w A0_8 l0_8.length l0_8) (hc0_8 : l0_8.length ≤ c0_8) (h : impl_codeRight.f k a0_0 a0_1 a0_2 a0_3 a0_4 a0_5 a0_6 l0_7 l0_8 = some r) :
 Calls Try.prog 105 #[.agg #[.string a0_0, .string a0_1, .bool a0_2, .bool a0_3, .bool a0_4, .int .i64 a0_5, .int .i64 a0_6, .slice A0_7 l0_7.length c0_7, .slice A0_8 l0_8.length c0_8]] w fun e w' => e = .returned (.bool r) ∧ Below w.heap.size w w' := by
 have hu84 := Try.underlying84; have hu156 := Try.underlying156; have HR0_7 := Zm hr0_7; have HC0_7 := Zm hc0_7; clear hr0_7 hc0_7; have HR0_8 := Zm hr0_8; have HC0_8 := Zm hc0_8; clear hr0_8 hc0_8; have HB := Zm (Below.refl w.heap.size w); have H : ((impl_Ins.f l0_7).bind fun t482 => ((impl_within.f t482 1 60).bind fun t484 => (if t484 = true then (impl_codeRight.j0 k (decide ((l0_8.length : Int) > 6)) a0_0 a0_1 a0_2 a0_3 a0_4 a0_5 a0_6 l0_7 l0_8 t482) else (impl_codeRight.j0 k true a0_0 a0_1 a0_2 a0_3 a0_4 a0_5 a0_6 l0_7 l0_8 t482)))) = some r := h; clear h; replace H := Option.bind_eq_some_iff.mp H; obtain ⟨t482, A20, H⟩ := H; (try dsimp only at H); have A2 := Zm A20; clear A20; have HC3 := Zm H; clear H; go_enter Try.func105, Try.ntmps105; go_upto_region 2 with (first | ((with_reducible refine gate_dst (N := 1) rfl ?_); (try (refine gate_guard (by rfl) ?_; dsimp only)); refine box_event ?hg (N := 1) ?hd (cs := #[.string a0_0, .string a0_1, .bool a0_2, .bool a0_3, .bool a0_4, .int .i64 a0_5, .int .i64 a0_6, .slice A0_7 l0_7.length c0_7, .slice A0_8 l0_8.length c0_8]) (t := 84) ?hr ?_; (case hd => rfl); (case hg => rfl); (case hr => first | (go_simp; done) | (go_simp; rfl)); intro gb481 hg w4 hbox hb; have n0_ := (⟨Zm (Zbt (bk HB.out) hb), Zm (hbox), Zm ((by rw [hg]; exact (Zbz (bk HB.out)) : w.heap.size ≤ gb481)), Zm ((by rw [hg]; exact (Zbz (bk HB.out)) : w.heap.size ≤ gb481))⟩ : _ ∧ _ ∧ _ ∧ _); clear HB; obtain ⟨HB, BK481, GW481, GE481⟩ := n0_; clear hb hbox hg; obtain ⟨hcz5_0, hcz5_1, hcz5_2, hcz5_3, hcz5_4, hcz5_5, hcz5_6, hcz5_7, hcz5_8⟩ := cz9 BK481.out; have hfz5_8 := Zkf BK481.out 8) | ((with_reducible refine gate_callee (f := 151) rfl ?_); refine ge_ (some 8) Try.func151 #[.slice A0_7 l0_7.length c0_7] ?_; (with_reducible refine (impl_Ins.calls _ _ _ _ _ ?side1 ?side2 A2.out).mono ?_); (case side1 => exact pc (Kd.C_below HR0_7.out HB.out)); (case side2 => exact HC0_7.out); rintro e w' ⟨rfl, ⟨nd, rfl⟩⟩; refine ⟨_, rfl, ?_⟩; (try (rw [drewN_self w4]; generalize hq_ : World.drewN w4 _ = w4; have n0_ : Aside0 (w4.heap[gb481]? = some (.cells #[.string a0_0, .string a0_1, .bool a0_2, .bool a0_3, .bool a0_4, .int .i64 a0_5, .int .i64 a0_6, .slice A0_7 l0_7.length c0_7, .slice A0_8 l0_8.length c0_8] 84 (0, 0))) := ⟨by rw [← hq_]; exact (pk BK481.out)⟩; have n1_ : Aside0 (Below w.heap.size w w4) := ⟨by rw [← hq_]; exact (bk HB.out)⟩; clear BK481 HB hq_; have BK481 := n0_; have HB := n1_; clear n0_ n1_))) | ((with_reducible refine gate_dst (N := 3) rfl ?_); (try (refine gate_guard (by rfl) ?_; dsimp only)); refine box_event ?hg (N := 3) ?hd (cs := #[.int .i64 0]) (t := 2) ?hr ?_; (case hd => rfl); (case hg => rfl); (case hr => first | (go_simp; done) | (go_simp; rfl)); intro gb483 hg w6 hbox hb; have n0_ := (⟨Zm (Zkb (pk BK481.out) hb), Zm (Zbt (bk HB.out) hb), Zm (hbox), Zm ((by rw [hg]; exact (Zbz (bk HB.out)) : w.heap.size ≤ gb483)), Zm ((by rw [hg]; exact (Zbz (bk HB.out)) : w.heap.size ≤ gb483)), Zm ((by rw [hg]; exact Nat.ne_of_lt (blk_lt (pk BK481.out)) : gb481 ≠ gb483)), Zm ((by rw [hg]; exact Nat.ne_of_gt (blk_lt (pk BK481.out)) : gb483 ≠ gb481))⟩ : _ ∧ _ ∧ _ ∧ _ ∧ _ ∧ _ ∧ _); clear BK481 HB; obtain ⟨BK481, HB, BK483, GW483, GE483, NB481_483, NB483_481⟩ := n0_; clear hb hbox hg; have hnb7 := NB483_481.out; have hnc7 := NB481_483.out; have hcz8_0 : w6.cell? ⟨gb483, 0, none⟩ = some (.int .i64 0) := (Zkc BK483.out 0).trans rfl; have hfz8_0 := Zkf BK483.out 0)); (try simp only [Act.put, List.setIfInBounds_toArray, List.set_cons_zero, List.set_cons_succ]); go_cut [17] (fun v17 wc => ∃ (kq : Nat) (x17_2 : Bool), v17 = .bool x17_2 ∧ Aside0 (impl_codeRight.j0 kq x17_2 a0_0 a0_1 a0_2 a0_3 a0_4 a0_5 a0_6 l0_7 l0_8 t482 = some r) ∧ Aside0 (kq ≤ k) ∧ Aside0 (wc.heap[gb481]? = some (.cells #[.string a0_0, .string a0_1, .bool a0_2, .bool a0_3, .bool a0_4, .int .i64 a0_5, .int .i64 a0_6, (.slice A0_7 l0_7.length c0_7), (.slice A0_8 l0_8.length c0_8)] 84 (0, 0))) ∧ Aside0 (wc.heap[gb483]? = some (.cells #[.int .i64 t482] 2 (0, 0))) ∧ Aside0 (Below w.heap.size w wc))
 case first =>
  have H := HC3.out; clear HC3; replace H := Option.bind_eq_some_iff.mp H; obtain ⟨t484, A90, H⟩ := H; (try dsimp only at H); have A9 := Zm A90; clear A90; by_cases c10 : t484 = true; rotate_left
  · replace c10 := Bool.eq_false_iff.mpr c10; subst c10; rw [if_neg (show ¬ (false = true) by decide)] at H; have H' := Zm H; clear H; have hnb14 := NB483_481.out; have hnc14 := NB481_483.out; have hcz15_0 : w6.cell? ⟨gb483, 0, none⟩ = some (.int .i64 0) := (Zkc BK483.out 0).trans rfl; have hfz15_0 := Zkf BK483.out 0; go_wp2_with (first | ((with_reducible refine gate_callee (f := 44) rfl ?_); refine ge_ (some 10) Try.func44 #[.int .i64 t482, .int .i64 1, .int .i64 60] ?_; (with_reducible refine (impl_within.calls _ _ _ _ _ A9.out).mono ?_); rintro e w' ⟨rfl, ⟨nd, rfl⟩⟩; refine ⟨_, rfl, ?_⟩)); go_meet
    case rel => exact ⟨_, (true), (by first | rfl | (simp; done) | (simp [*]; done)), H', ⟨by first | omega | exact Nat.le_refl _⟩, ⟨zc_⟩, ⟨zc_⟩, ⟨hb_⟩⟩
  subst c10; rw [if_pos rfl] at H; have H' := Zm H; clear H; have hnb11 := NB483_481.out; have hnc11 := NB481_483.out; have hcz12_0 : w6.cell? ⟨gb483, 0, none⟩ = some (.int .i64 0) := (Zkc BK483.out 0).trans rfl; have hfz12_0 := Zkf BK483.out 0; go_wp2_with (first | ((with_reducible refine gate_callee (f := 44) rfl ?_); refine ge_ (some 10) Try.func44 #[.int .i64 t482, .int .i64 1, .int .i64 60] ?_; (with_reducible refine (impl_within.calls _ _ _ _ _ A9.out).mono ?_); rintro e w' ⟨rfl, ⟨nd, rfl⟩⟩; refine ⟨_, rfl, ?_⟩; obtain ⟨hcz13_0, hcz13_1, hcz13_2, hcz13_3, hcz13_4, hcz13_5, hcz13_6, hcz13_7, hcz13_8⟩ := cz9 BK481.out; have hfz13_8 := Zkf BK481.out 8)); go_meet
  case rel => exact ⟨_, (decide ((l0_8.length : Int) > 6)), (by first | rfl | (simp; done) | (simp [*]; done)), H', ⟨by first | omega | exact Nat.le_refl _⟩, ⟨zc_⟩, ⟨zc_⟩, ⟨hb_⟩⟩
 case rest =>
  clear HC3; (try clear hcz5_0); (try clear hcz5_1); (try clear hcz5_2); (try clear hcz5_3); (try clear hcz5_4); (try clear hcz5_5); (try clear hcz5_6); (try clear hcz5_7); (try clear hcz5_8); (try clear hcz8_0); (try clear hfz5_8); (try clear hfz8_0); obtain ⟨kq, x17_2, rfl, HA, HJ2, BK481, BK483, HB⟩ := hcut
  cases kq with
  | zero => exact absurd HA.out (by simp [impl_codeRight.j0])
  | succ kj2 =>
   have H := HA.out; clear HA; simp only [impl_codeRight.j0] at H; by_cases c16 : x17_2 = true; rotate_left
   · replace c16 := Bool.eq_false_iff.mpr c16; subst c16; rw [if_neg (show ¬ (false = true) by decide)] at H; have H' := Zm H; clear H; have hnb17 := NB481_483.out; have hnc17 := NB483_481.out; obtain ⟨hcz18_0, hcz18_1, hcz18_2, hcz18_3, hcz18_4, hcz18_5, hcz18_6, hcz18_7, hcz18_8⟩ := cz9 BK481.out; go_wp2; go_loopg [21] kj2 (fun kq v21 w' => ∃ (x21_2 : Int), v21 = .int .i64 x21_2 ∧ Aside0 (impl_codeRight.l0 kq l0_7 (l0_7.length : Int) x21_2 a0_0 a0_1 a0_2 a0_3 a0_4 a0_5 a0_6 l0_7 l0_8 t482 = some r) ∧ Aside0 (kq ≤ kj2) ∧ Aside0 (w'.heap[gb481]? = some (.cells #[.string a0_0, .string a0_1, .bool a0_2, .bool a0_3, .bool a0_4, .int .i64 a0_5, .int .i64 a0_6, (.slice A0_7 l0_7.length c0_7), (.slice A0_8 l0_8.length c0_8)] 84 (0, 0))) ∧ Aside0 (w'.heap[gb483]? = some (.cells #[.int .i64 t482] 2 (0, 0))) ∧ Aside0 (Below w.heap.size w w'))
     case atStart => exact ⟨(0), (by first | rfl | (simp; done) | (simp [*]; done)), H', ⟨Nat.le_refl _⟩, ⟨pk BK481.out⟩, ⟨pk BK483.out⟩, ⟨bk HB.out⟩⟩
     case round =>
      clear H'; (try clear c16); (try clear hcz18_0); (try clear hcz18_1); (try clear hcz18_2); (try clear hcz18_3); (try clear hcz18_4); (try clear hcz18_5); (try clear hcz18_6); (try clear hcz18_7); (try clear hcz18_8); (try clear hcz5_0); (try clear hcz5_1); (try clear hcz5_2); (try clear hcz5_3); (try clear hcz5_4); (try clear hcz5_5); (try clear hcz5_6); (try clear hcz5_7); (try clear hcz5_8); (try clear hcz8_0); (try clear hfz5_8); (try clear hfz8_0); obtain ⟨x21_2, rfl, HA, HK2, BK481, BK483, HB⟩ := hrel
      cases gk with
      | zero => exact absurd HA.out (by simp [impl_codeRight.l0])
      | succ k2 =>
       have H := HA.out; clear HA; simp only [impl_codeRight.l0] at H; by_cases c19 : x21_2 < (l0_7.length : Int); rotate_left
       · rw [if_neg c19] at H; have c19b0 := decide_eq_false c19; clear c19; replace H := Option.bind_eq_some_iff.mp H; obtain ⟨t485, A480, H⟩ := H; (try dsimp only at H); have A48 := Zm A480; clear A480; obtain rfl := Option.some.inj H; have hnb49 := NB481_483.out; have hnc49 := NB483_481.out; obtain ⟨hcz50_0, hcz50_1, hcz50_2, hcz50_3, hcz50_4, hcz50_5, hcz50_6, hcz50_7, hcz50_8⟩ := cz9 BK481.out; (try clear BK481); go_wp2_with (first | (go_at_call 154; (first | (with_reducible refine (impl_Handler_154.calls _ _ _ _ gb483 _ _ _ ?side1 ?side2 ?side3 A48.out).mono ?_) | (with_reducible refine (calls_of_args ?_ (impl_Handler_154.calls _ _ _ _ gb483 _ _ _ ?side1 ?side2 ?side3 A48.out)).mono ?_; focus (simp [*]; done))); (case side1 => exact pc (Kd.C_below HR0_8.out HB.out)); (case side2 => exact HC0_8.out); (case side3 => (with_reducible repeat (first | refine Zkn ?_ _ | refine Zkd ?_ | refine Zka ?_ _)); exact BK483.out); rintro e w51 ⟨rfl, hb⟩; have n0_ := (⟨Zm (Zkb (pk BK483.out) hb), Zm (Zbt (bk HB.out) hb)⟩ : _ ∧ _); clear BK483 HB; obtain ⟨BK483, HB⟩ := n0_; (try clear hb); (try clear hb2); (try clear hk); (try clear hi))); go_ret; exact fin_ HB

       rw [if_pos c19] at H
       have c19b0 := decide_eq_true c19
       clear c19
       by_cases c20 : 0 ≤ x21_2
       rotate_left
       · rw [if_neg c20] at H
         exact absurd H (by simp)
       rw [if_pos c20] at H
       have c20b0 := decide_eq_true c20
       clear c20
       by_cases c21 : x21_2 < (l0_7.length : Int)
       rotate_left
       · rw [if_neg c21] at H
         exact absurd H (by simp)
       rw [if_pos c21] at H
       have c21b0 := decide_eq_true c21
       clear c21
       replace H := Option.bind_eq_some_iff.mp H
       obtain ⟨t488, A220, H⟩ := H
       (try dsimp only at H)
       have A22 := Zm A220
       clear A220
       by_cases c23 : t488 = true
       rotate_left
       · replace c23 := Bool.eq_false_iff.mpr c23
         subst c23
         rw [if_neg (show ¬ (false = true) by decide)] at H
         obtain rfl := Option.some.inj H
         have p486 : 0 ≤ (x21_2 : Int) := of_decide_eq_true (by first | (with_reducible assumption) | assumption)
         have q486 : x21_2 < (l0_7.length : Int) := of_decide_eq_true (by first | (with_reducible assumption) | assumption)
         obtain ⟨ad486, e486, hx486_0, hx486_1, hx486_2, hx486_3, hx486_4⟩ := at_T156 HR0_7.out x21_2 p486 q486
         cases e486
         replace hx486_0 := hx_ HB hx486_0 (Zlt _ _ hx486_0)
         replace hx486_1 := hx_ HB hx486_1 (Zlt _ _ hx486_1)
         replace hx486_2 := hx_ HB hx486_2 (Zlt _ _ hx486_2)
         replace hx486_3 := hx_ HB hx486_3 (Zlt _ _ hx486_3)
         replace hx486_4 := hx_ HB hx486_4 (Zlt _ _ hx486_4)
         replace p486 := eq_true p486
         replace q486 := eq_true q486
         (try clear BK481)
         (try clear BK483)
         go_wp2_with (first | ((with_reducible refine gate_dst (N := 5) rfl ?_); (try (refine gate_guard (by rfl) ?_; dsimp only)); refine box_event ?hg (N := 5) ?hd (cs := #[.int .i64 0, .int .i64 0, .string (⟨#[]⟩ : ByteArray), .string (⟨#[]⟩ : ByteArray), .string (⟨#[]⟩ : ByteArray)]) (t := 156) ?hr ?_; (case hd => rfl); (case hg => rfl); (case hr => first | (go_simp; done) | (go_simp; rfl)); intro gb487 hg w45 hbox hb; have n0_ := (⟨Zm (Zbt (bk HB.out) hb), Zm (hbox), Zm ((by rw [hg]; exact (Zbz (bk HB.out)) : w.heap.size ≤ gb487)), Zm ((by rw [hg]; exact (Zbz (bk HB.out)) : w.heap.size ≤ gb487))⟩ : _ ∧ _ ∧ _ ∧ _); clear HB; obtain ⟨HB, BK487, GW487, GE487⟩ := n0_; clear hb hbox hg; obtain ⟨hcz46_0, hcz46_1, hcz46_2, hcz46_3, hcz46_4⟩ := cz5 BK487.out; have hfz46_0 := Zkf BK487.out 0; have hfz46_1 := Zkf BK487.out 1; have hfz46_2 := Zkf BK487.out 2; have hfz46_3 := Zkf BK487.out 3; have hfz46_4 := Zkf BK487.out 4) | ((with_reducible refine gate_callee (f := 152) rfl ?_); refine ge_ (some 26) Try.func152 #[.agg #[.int .i64 ((rd_T156 l0_7 x21_2).f0), .int .i64 ((rd_T156 l0_7 x21_2).f1), .string ((rd_T156 l0_7 x21_2).f2), .string ((rd_T156 l0_7 x21_2).f3), .string ((rd_T156 l0_7 x21_2).f4)]] ?_; (with_reducible refine (impl_InsRight.calls _ _ _ _ _ _ _ _ A22.out).mono ?_); rintro e w47 ⟨rfl, hb⟩; refine ⟨_, rfl, ?_⟩; have n0_ := (⟨Zm (Zkb (g := gb487) (o := .cells #[.int .i64 ((rd_T156 l0_7 x21_2).f0), .int .i64 ((rd_T156 l0_7 x21_2).f1), .string ((rd_T156 l0_7 x21_2).f2), .string ((rd_T156 l0_7 x21_2).f3), .string ((rd_T156 l0_7 x21_2).f4)] 156 (0, 0)) zc_ hb), Zm (Zbt hb_ hb)⟩ : _ ∧ _); clear BK487 HB; obtain ⟨BK487, HB⟩ := n0_; (try clear hb); (try clear hb2); (try clear hk); (try clear hi)))
         go_ret
         exact fin_ HB
       subst c23
       rw [if_pos rfl] at H
       replace H := Option.bind_eq_some_iff.mp H
       obtain ⟨t489, A240, H⟩ := H
       (try dsimp only at H)
       have A24 := Zm A240
       clear A240
       by_cases c25 : t489.toList = ([116] : List UInt8)
       rotate_left
       · rw [if_neg c25] at H
         have c25b0 : (t489.toList == ([116] : List UInt8)) = false := beq_eq_false_iff_ne.mpr c25
         have c25b1 : (t489.toList != ([116] : List UInt8)) = true := bne_iff_ne.mpr c25
         have H' := Zm H
         clear H
         have p486 : 0 ≤ (x21_2 : Int) := of_decide_eq_true (by first | (with_reducible assumption) | assumption)
         have q486 : x21_2 < (l0_7.length : Int) := of_decide_eq_true (by first | (with_reducible assumption) | assumption)
         obtain ⟨ad486, e486, hx486_0, hx486_1, hx486_2, hx486_3, hx486_4⟩ := at_T156 HR0_7.out x21_2 p486 q486
         cases e486
         replace hx486_0 := hx_ HB hx486_0 (Zlt _ _ hx486_0)
         replace hx486_1 := hx_ HB hx486_1 (Zlt _ _ hx486_1)
         replace hx486_2 := hx_ HB hx486_2 (Zlt _ _ hx486_2)
         replace hx486_3 := hx_ HB hx486_3 (Zlt _ _ hx486_3)
         replace hx486_4 := hx_ HB hx486_4 (Zlt _ _ hx486_4)
         replace p486 := eq_true p486
         replace q486 := eq_true q486
         go_wp2_with (first | ((with_reducible refine gate_dst (N := 5) rfl ?_); (try (refine gate_guard (by rfl) ?_; dsimp only)); refine box_event ?hg (N := 5) ?hd (cs := #[.int .i64 0, .int .i64 0, .string (⟨#[]⟩ : ByteArray), .string (⟨#[]⟩ : ByteArray), .string (⟨#[]⟩ : ByteArray)]) (t := 156) ?hr ?_; (case hd => rfl); (case hg => rfl); (case hr => first | (go_simp; done) | (go_simp; rfl)); intro gb487 hg w38 hbox hb; have n0_ := (⟨Zm (Zkb (pk BK481.out) hb), Zm (Zkb (pk BK483.out) hb), Zm (Zbt (bk HB.out) hb), Zm (hbox), Zm ((by rw [hg]; exact (Zbz (bk HB.out)) : w.heap.size ≤ gb487)), Zm ((by rw [hg]; exact (Zbz (bk HB.out)) : w.heap.size ≤ gb487)), Zm ((by rw [hg]; exact Nat.ne_of_lt (blk_lt (pk BK481.out)) : gb481 ≠ gb487)), Zm ((by rw [hg]; exact Nat.ne_of_gt (blk_lt (pk BK481.out)) : gb487 ≠ gb481)), Zm ((by rw [hg]; exact Nat.ne_of_lt (blk_lt (pk BK483.out)) : gb483 ≠ gb487)), Zm ((by rw [hg]; exact Nat.ne_of_gt (blk_lt (pk BK483.out)) : gb487 ≠ gb483))⟩ : _ ∧ _ ∧ _ ∧ _ ∧ _ ∧ _ ∧ _ ∧ _ ∧ _ ∧ _); clear BK481 BK483 HB; obtain ⟨BK481, BK483, HB, BK487, GW487, GE487, NB481_487, NB487_481, NB483_487, NB487_483⟩ := n0_; clear hb hbox hg; have hnb39 := NB487_481.out; have hnc39 := NB481_487.out; have hnb40 := NB487_483.out; have hnc40 := NB483_487.out; obtain ⟨hcz41_0, hcz41_1, hcz41_2, hcz41_3, hcz41_4⟩ := cz5 BK487.out; have hfz41_0 := Zkf BK487.out 0; have hfz41_1 := Zkf BK487.out 1; have hfz41_2 := Zkf BK487.out 2; have hfz41_3 := Zkf BK487.out 3; have hfz41_4 := Zkf BK487.out 4) | ((with_reducible refine gate_callee (f := 152) rfl ?_); refine ge_ (some 26) Try.func152 #[.agg #[.int .i64 ((rd_T156 l0_7 x21_2).f0), .int .i64 ((rd_T156 l0_7 x21_2).f1), .string ((rd_T156 l0_7 x21_2).f2), .string ((rd_T156 l0_7 x21_2).f3), .string ((rd_T156 l0_7 x21_2).f4)]] ?_; (with_reducible refine (impl_InsRight.calls _ _ _ _ _ _ _ _ A22.out).mono ?_); rintro e w42 ⟨rfl, hb⟩; refine ⟨_, rfl, ?_⟩; have n0_ := (⟨Zm (Zkb (g := gb481) (o := .cells #[.string a0_0, .string a0_1, .bool a0_2, .bool a0_3, .bool a0_4, .int .i64 a0_5, .int .i64 a0_6, .slice (some ad486) l0_7.length c0_7, .slice A0_8 l0_8.length c0_8] 84 (0, 0)) zc_ hb), Zm (Zkb (g := gb483) (o := .cells #[.int .i64 t482] 2 (0, 0)) zc_ hb), Zm (Zkb (g := gb487) (o := .cells #[.int .i64 ((rd_T156 l0_7 x21_2).f0), .int .i64 ((rd_T156 l0_7 x21_2).f1), .string ((rd_T156 l0_7 x21_2).f2), .string ((rd_T156 l0_7 x21_2).f3), .string ((rd_T156 l0_7 x21_2).f4)] 156 (0, 0)) zc_ hb), Zm (Zbt hb_ hb)⟩ : _ ∧ _ ∧ _ ∧ _); clear BK481 BK483 BK487 HB; obtain ⟨BK481, BK483, BK487, HB⟩ := n0_; (try clear hb); (try clear hb2); (try clear hk); (try clear hi); obtain ⟨hcz43_0, hcz43_1, hcz43_2, hcz43_3, hcz43_4⟩ := cz5 BK487.out; have hfz43_0 := Zkf BK487.out 0; have hfz43_1 := Zkf BK487.out 1; have hfz43_2 := Zkf BK487.out 2; have hfz43_3 := Zkf BK487.out 3; have hfz43_4 := Zkf BK487.out 4) | (go_at_call 153; (first | (with_reducible refine (impl_OpForm.calls _ _ _ A24.out).mono ?_) | (with_reducible refine (calls_of_args ?_ (impl_OpForm.calls _ _ _ A24.out)).mono ?_; focus (simp [*]; done))); rintro e w44 ⟨rfl, hb⟩; have n0_ := (⟨Zm (Zkb (pk BK481.out) hb), Zm (Zkb (pk BK483.out) hb), Zm (Zkb (pk BK487.out) hb), Zm (Zbt (bk HB.out) hb)⟩ : _ ∧ _ ∧ _ ∧ _); clear BK481 BK483 BK487 HB; obtain ⟨BK481, BK483, BK487, HB⟩ := n0_; (try clear hb); (try clear hb2); (try clear hk); (try clear hi)))
         go_roundg k2
         case measure => have := HJ2.out; have := HK2.out; omega
         case rel => exact ⟨(wrap64 (x21_2 + 1)), (by first | rfl | (simp; done) | (simp [*]; done)), H', ⟨by have := HJ2.out; have := HK2.out; omega⟩, ⟨pk BK481.out⟩, ⟨pk BK483.out⟩, ⟨bk HB.out⟩⟩
       rw [if_pos c25] at H
       have c25b0 : (t489.toList == ([116] : List UInt8)) = true := beq_iff_eq.mpr c25
       have c25b1 : (t489.toList != ([116] : List UInt8)) = false := bne_eq_false_iff_eq.mpr c25
       clear c25
       have HC26 := Zm H
       clear H
       have p486 : 0 ≤ (x21_2 : Int) := of_decide_eq_true (by first | (with_reducible assumption) | assumption)
       have q486 : x21_2 < (l0_7.length : Int) := of_decide_eq_true (by first | (with_reducible assumption) | assumption)
       obtain ⟨ad486, e486, hx486_0, hx486_1, hx486_2, hx486_3, hx486_4⟩ := at_T156 HR0_7.out x21_2 p486 q486
       cases e486
       replace hx486_0 := hx_ HB hx486_0 (Zlt _ _ hx486_0)
       replace hx486_1 := hx_ HB hx486_1 (Zlt _ _ hx486_1)
       replace hx486_2 := hx_ HB hx486_2 (Zlt _ _ hx486_2)
       replace hx486_3 := hx_ HB hx486_3 (Zlt _ _ hx486_3)
       replace hx486_4 := hx_ HB hx486_4 (Zlt _ _ hx486_4)
       replace p486 := eq_true p486
       replace q486 := eq_true q486
       go_upto_if 39 with (first | ((with_reducible refine gate_dst (N := 5) rfl ?_); (try (refine gate_guard (by rfl) ?_; dsimp only)); refine box_event ?hg (N := 5) ?hd (cs := #[.int .i64 0, .int .i64 0, .string (⟨#[]⟩ : ByteArray), .string (⟨#[]⟩ : ByteArray), .string (⟨#[]⟩ : ByteArray)]) (t := 156) ?hr ?_; (case hd => rfl); (case hg => rfl); (case hr => first | (go_simp; done) | (go_simp; rfl)); intro gb487 hg w27 hbox hb; have n0_ := (⟨Zm (Zkb (pk BK481.out) hb), Zm (Zkb (pk BK483.out) hb), Zm (Zbt (bk HB.out) hb), Zm (hbox), Zm ((by rw [hg]; exact (Zbz (bk HB.out)) : w.heap.size ≤ gb487)), Zm ((by rw [hg]; exact (Zbz (bk HB.out)) : w.heap.size ≤ gb487)), Zm ((by rw [hg]; exact Nat.ne_of_lt (blk_lt (pk BK481.out)) : gb481 ≠ gb487)), Zm ((by rw [hg]; exact Nat.ne_of_gt (blk_lt (pk BK481.out)) : gb487 ≠ gb481)), Zm ((by rw [hg]; exact Nat.ne_of_lt (blk_lt (pk BK483.out)) : gb483 ≠ gb487)), Zm ((by rw [hg]; exact Nat.ne_of_gt (blk_lt (pk BK483.out)) : gb487 ≠ gb483))⟩ : _ ∧ _ ∧ _ ∧ _ ∧ _ ∧ _ ∧ _ ∧ _ ∧ _ ∧ _); clear BK481 BK483 HB; obtain ⟨BK481, BK483, HB, BK487, GW487, GE487, NB481_487, NB487_481, NB483_487, NB487_483⟩ := n0_; clear hb hbox hg; have hnb28 := NB487_481.out; have hnc28 := NB481_487.out; have hnb29 := NB487_483.out; have hnc29 := NB483_487.out; obtain ⟨hcz30_0, hcz30_1, hcz30_2, hcz30_3, hcz30_4⟩ := cz5 BK487.out; have hfz30_0 := Zkf BK487.out 0; have hfz30_1 := Zkf BK487.out 1; have hfz30_2 := Zkf BK487.out 2; have hfz30_3 := Zkf BK487.out 3; have hfz30_4 := Zkf BK487.out 4) | ((with_reducible refine gate_callee (f := 152) rfl ?_); refine ge_ (some 26) Try.func152 #[.agg #[.int .i64 ((rd_T156 l0_7 x21_2).f0), .int .i64 ((rd_T156 l0_7 x21_2).f1), .string ((rd_T156 l0_7 x21_2).f2), .string ((rd_T156 l0_7 x21_2).f3), .string ((rd_T156 l0_7 x21_2).f4)]] ?_; (with_reducible refine (impl_InsRight.calls _ _ _ _ _ _ _ _ A22.out).mono ?_); rintro e w31 ⟨rfl, hb⟩; refine ⟨_, rfl, ?_⟩; have n0_ := (⟨Zm (Zkb (g := gb481) (o := .cells #[.string a0_0, .string a0_1, .bool a0_2, .bool a0_3, .bool a0_4, .int .i64 a0_5, .int .i64 a0_6, .slice (some ad486) l0_7.length c0_7, .slice A0_8 l0_8.length c0_8] 84 (0, 0)) zc_ hb), Zm (Zkb (g := gb483) (o := .cells #[.int .i64 t482] 2 (0, 0)) zc_ hb), Zm (Zkb (g := gb487) (o := .cells #[.int .i64 ((rd_T156 l0_7 x21_2).f0), .int .i64 ((rd_T156 l0_7 x21_2).f1), .string ((rd_T156 l0_7 x21_2).f2), .string ((rd_T156 l0_7 x21_2).f3), .string ((rd_T156 l0_7 x21_2).f4)] 156 (0, 0)) zc_ hb), Zm (Zbt hb_ hb)⟩ : _ ∧ _ ∧ _ ∧ _); clear BK481 BK483 BK487 HB; obtain ⟨BK481, BK483, BK487, HB⟩ := n0_; (try clear hb); (try clear hb2); (try clear hk); (try clear hi); obtain ⟨hcz32_0, hcz32_1, hcz32_2, hcz32_3, hcz32_4⟩ := cz5 BK487.out; have hfz32_0 := Zkf BK487.out 0; have hfz32_1 := Zkf BK487.out 1; have hfz32_2 := Zkf BK487.out 2; have hfz32_3 := Zkf BK487.out 3; have hfz32_4 := Zkf BK487.out 4) | (go_at_call 153; (first | (with_reducible refine (impl_OpForm.calls _ _ _ A24.out).mono ?_) | (with_reducible refine (calls_of_args ?_ (impl_OpForm.calls _ _ _ A24.out)).mono ?_; focus (simp [*]; done))); rintro e w33 ⟨rfl, hb⟩; have n0_ := (⟨Zm (Zkb (pk BK481.out) hb), Zm (Zkb (pk BK483.out) hb), Zm (Zkb (pk BK487.out) hb), Zm (Zbt (bk HB.out) hb)⟩ : _ ∧ _ ∧ _ ∧ _); clear BK481 BK483 BK487 HB; obtain ⟨BK481, BK483, BK487, HB⟩ := n0_; (try clear hb); (try clear hb2); (try clear hk); (try clear hi); obtain ⟨hcz34_0, hcz34_1, hcz34_2, hcz34_3, hcz34_4⟩ := cz5 BK487.out; have hfz34_0 := Zkf BK487.out 0; have hfz34_1 := Zkf BK487.out 1; have hfz34_2 := Zkf BK487.out 2; have hfz34_3 := Zkf BK487.out 3; have hfz34_4 := Zkf BK487.out 4; have hnb35 := NB483_481.out; have hnc35 := NB481_483.out; have hcz36_0 : w33.cell? ⟨gb483, 0, none⟩ = some (.int .i64 t482) := (Zkc BK483.out 0).trans rfl; have hfz36_0 := Zkf BK483.out 0))
       have H := HC26.out
       clear HC26
       by_cases c37 : ((rd_T156 l0_7 x21_2).f1) ≥ t482
       rotate_left
       · rw [if_neg c37] at H
         have c37b0 : decide (t482 ≤ ((rd_T156 l0_7 x21_2).f1)) = false := decide_eq_false c37
         clear c37
         (first | rw [c37b0] | (simp only [i64_w, i32_w]; rw [c37b0]) | skip)
         have H' := Zm H
         clear H
         go_wp2
         go_roundg k2
         case measure => have := HJ2.out; have := HK2.out; omega
         case rel => exact ⟨(wrap64 (x21_2 + 1)), (by first | rfl | (simp; done) | (simp [*]; done)), H', ⟨by have := HJ2.out; have := HK2.out; omega⟩, ⟨pk BK481.out⟩, ⟨pk BK483.out⟩, ⟨bk HB.out⟩⟩
       rw [if_pos c37] at H
       have c37b0 : decide (t482 ≤ ((rd_T156 l0_7 x21_2).f1)) = true := decide_eq_true c37
       clear c37
       (first | rw [c37b0] | (simp only [i64_w, i32_w]; rw [c37b0]) | skip)
       obtain rfl := Option.some.inj H
       go_wp2
       go_ret
       exact fin_ HB
   subst c16
   rw [if_pos rfl] at H
   obtain rfl := Option.some.inj H
   go_wp2
   go_ret
   exact fin_ HB
/-! ### impl_DescRead: function 187 -/
def impl_DescRead.f (k : Nat) (a0 : ByteArray) : Option (List ByteArray × ByteArray × Int × Int) := (impl_isText.f k (([a0] : List ByteArray))).bind fun t494 => (if t494 = true then ((impl_descRead.f k a0).bind fun bt495 => (some (bt495.1, bt495.2.1, bt495.2.2.1, bt495.2.2.2))) else (some (([] : List ByteArray), (⟨#[]⟩ : ByteArray), 0, 2)))
set_option maxHeartbeats 8000000 in
set_option maxRecDepth 100000 in
theorem impl_DescRead.calls (k : Nat) (a0 : ByteArray) (r1 : List ByteArray) (r2 : ByteArray) (r3 : Int) (r4 : Int) (w : World) (h : impl_DescRead.f k a0 = some (r1, r2, r3, r4)) :
 Calls Try.prog 187 #[.string a0] w fun e w' => ∃ v0_ : Value, e = .returned (.agg #[v0_, .string r2, .int .i64 r3, .int .i64 r4]) ∧ Kd.R Kd.string 9 w' w.heap.size (fun _ => True) v0_ r1 ∧ Below w.heap.size w w' := by
 have hu151 := Try.underlying151; have HB := Zm (Below.refl w.heap.size w); have H : ((impl_isText.f k (([a0] : List ByteArray))).bind fun t494 => (if t494 = true then ((impl_descRead.f k a0).bind fun bt495 => (some (bt495.1, bt495.2.1, bt495.2.2.1, bt495.2.2.2))) else (some (([] : List ByteArray), (⟨#[]⟩ : ByteArray), 0, 2)))) = some (r1, r2, r3, r4) := h; clear h; obtain ⟨y491, hy491⟩ : ∃ y_ : List ByteArray, y_ = (([a0] : List ByteArray)) := ⟨_, rfl⟩; replace H : ((impl_isText.f k y491).bind fun t494 => (if t494 = true then ((impl_descRead.f k a0).bind fun bt495 => (some (bt495.1, bt495.2.1, bt495.2.2.1, bt495.2.2.2))) else (some (([] : List ByteArray), (⟨#[]⟩ : ByteArray), 0, 2)))) = some (r1, r2, r3, r4) := by first | (rw [hy491]; with_reducible exact H) | (have H2_ := (Option.bind_some _ _).symm.trans H; rw [hy491]; with_reducible exact H2_) | (have H2_ := (Option.bind_some _ _).symm.trans H; with_reducible exact H2_) | with_reducible exact H | (rw [hy491]; exact H) | exact H
 have Ny491 := Zm hy491; clear hy491; replace H := Option.bind_eq_some_iff.mp H; obtain ⟨t494, A20, H⟩ := H; replace H : (if t494 = true then ((impl_descRead.f k a0).bind fun bt495 => (some (bt495.1, bt495.2.1, bt495.2.2.1, bt495.2.2.2))) else (some (([] : List ByteArray), (⟨#[]⟩ : ByteArray), 0, 2))) = some (r1, r2, r3, r4) := H; have A2 := Zm A20; clear A20; have HC3 := Zm H; clear H; go_enter Try.func187, Try.ntmps187; go_upto_if 6 with (first | ((with_reducible refine gate_dst (N := 2) rfl ?_); refine box_event ?hg (N := 2) ?hd (cs := #[.slice none 0 0, .string (⟨#[]⟩ : ByteArray), .int .i64 0, .int .i64 0]) (t := 151) ?hr ?_; (case hd => rfl); (case hg => rfl); (case hr => first | (go_simp; done) | (go_simp; rfl)); intro gb490 hg w4 hbox hb; have n0_ := (⟨Zm (Zbt (bk HB.out) hb), Zm (hbox), Zm ((by rw [hg]; exact (Zbz (bk HB.out)) : w.heap.size ≤ gb490)), Zm ((by rw [hg]; exact (Zbz (bk HB.out)) : w.heap.size ≤ gb490))⟩ : _ ∧ _ ∧ _ ∧ _); clear HB; obtain ⟨HB, BK490, GW490, GE490⟩ := n0_; clear hb hbox hg) | ((with_reducible refine gate_dst (N := 4) rfl ?_); refine Kd.R_lit Kd.string _ 9 ?hg (N := 4) ?hd (xs := ([a0] : List ByteArray)) (inner := [.string a0]) (ok := fun _ => True) (okp := fun _ => True) ?hr ?hp (fun _ hk => hk) trivial (Below.refl _ _) (Nat.le_refl _) (by simp) ?_; (case hd => rfl); (case hg => rfl); (case hr => first | (go_simp; done) | (go_simp; rfl)); (case hp => exact (Reps.one (show Kd.M Kd.string _ _ _ a0 [.string a0] from rfl) (Reps.none _ _))); intro v492 w5 ho6 hb hg_ hnew_; clear hg_ hnew_; (first | rw [← Ny491.out] at ho6 | (simp only [Int.reduceToNat] at ho6; rw [← Ny491.out] at ho6)); have n0_ := (⟨Zm (Kd.R_lower ho6 (Zbz (bk HB.out))), Zm (Zkb (pk BK490.out) hb), Zm (Zbt (bk HB.out) hb)⟩ : _ ∧ _ ∧ _); clear BK490 HB; obtain ⟨HO493, BK490, HB⟩ := n0_; clear hb ho6; obtain ⟨Ao7, co7, eo7⟩ := Kd.R_slice HO493.out; subst eo7) | ((with_reducible refine gate_callee (f := 150) rfl ?_); refine ge_ (some 5) Try.func150 #[.slice Ao7 y491.length co7] ?_; (with_reducible refine (impl_isText.calls _ _ _ _ _ _ ?side1 ?side2 A2.out).mono ?_); (case side1 => exact pc (Kd.R_reads' HO493.out).2.2); (case side2 => exact (Kd.R_reads' HO493.out).2.1); rintro e w' ⟨rfl, ⟨nd, rfl⟩⟩; refine ⟨_, rfl, ?_⟩)); have H := HC3.out; clear HC3; by_cases c8 : t494 = true; rotate_left
 · replace c8 := Bool.eq_false_iff.mpr c8; subst c8; rw [if_neg (show ¬ (false = true) by decide)] at H; simp only [Option.some.injEq, Prod.mk.injEq] at H; obtain ⟨rfl, rfl, rfl, rfl⟩ := H; obtain ⟨hcz13_0, hcz13_1, hcz13_2, hcz13_3⟩ := cz4 BK490.out; have hfz13_0 := Zkf BK490.out 0; have hfz13_1 := Zkf BK490.out 1; have hfz13_2 := Zkf BK490.out 2; have hfz13_3 := Zkf BK490.out 3; go_wp2; refine bodyPost_ret (results_cell_row rfl _ _ gb490 151 #[.slice none 0 0, .string (⟨#[]⟩ : ByteArray), .int .i64 0, .int .i64 2] (0, 0) _ rfl zc_ Try.underlying151 rfl (by kernel_rfl)) rfl ?_; exact ⟨_, by first | rfl | (simp [*] <;> rfl), by first | exact Kd.R_nil _ _ _ _ _ | exact Kd.N_nil _ _ _ _ _ | exact Kd.V_nil _ _ _ _ _ | exact Kd.Q_nil _ _ _ _ _ | exact Kd.S_nil _ _ _ _ _, hb_⟩

 subst c8
 rw [if_pos rfl] at H
 replace H := Option.bind_eq_some_iff.mp H
 obtain ⟨⟨t495, t498, t499, t500⟩, A90, H⟩ := H
 replace H : (some (t495, t498, t499, t500)) = some (r1, r2, r3, r4) := H
 have A9 := Zm A90
 clear A90
 simp only [Option.some.injEq, Prod.mk.injEq] at H
 obtain ⟨rfl, rfl, rfl, rfl⟩ := H
 (try clear HO493)
 go_wp2_with (first | ((with_reducible refine gate_callee (f := 107) rfl ?_); refine ge_ (some 9) Try.func107 #[.string a0] ?_; (with_reducible refine (impl_descRead.calls _ _ _ _ _ _ _ A9.out).mono ?_); rintro e w10 ⟨v496, rfl, ho0, hb⟩; refine ⟨_, rfl, ?_⟩; have n0_ := (⟨Zm (Kd.R_lower ho0 (Zbz (bk HB.out))), Zm (Zkb (pk BK490.out) hb), Zm (Zbt (bk HB.out) hb)⟩ : _ ∧ _ ∧ _); clear BK490 HB; obtain ⟨HO497, BK490, HB⟩ := n0_; (try clear hb); (try clear hb2); (try clear hk); (try clear hi); (try clear ho0); obtain ⟨Ao11, co11, eo11⟩ := Kd.R_slice HO497.out; subst eo11; obtain ⟨hcz12_0, hcz12_1, hcz12_2, hcz12_3⟩ := cz4 BK490.out; have hfz12_0 := Zkf BK490.out 0; have hfz12_1 := Zkf BK490.out 1; have hfz12_2 := Zkf BK490.out 2; have hfz12_3 := Zkf BK490.out 3))
 refine bodyPost_ret (results_cell_row rfl _ _ gb490 151 #[.slice Ao11 t495.length co11, .string t498, .int .i64 t499, .int .i64 t500] (0, 0) _ rfl zc_ Try.underlying151 rfl (by kernel_rfl)) rfl ?_
 exact ⟨_, by first | rfl | (simp [*] <;> rfl), by (with_reducible repeat (first | apply Kd.R_alloc | apply Kd.R_drewN | apply Kd.R_drew)); exact Kd.R_mono (Kd.R_far (p := ⟨gb490, 3, none⟩) (Kd.R_far (p := ⟨gb490, 2, none⟩) (Kd.R_far (p := ⟨gb490, 1, none⟩) (Kd.R_far (p := ⟨gb490, 0, none⟩) (Kd.R_types HO497.out BK490.out (by decide)) (fun _ hk => hk.2) (.slice Ao11 t495.length co11)) (fun _ hk => hk.2) (.string t498)) (fun _ hk => hk.2) (.int .i64 t499)) (fun _ hk => hk.2) (.int .i64 t500)) (fun _ hk => trivial), hb_⟩
/-! ### impl_size_string: function 188 -/
def impl_size_string.f (l0 : List ByteArray) : Option (Int) := some (l0.length : Int)
set_option maxHeartbeats 8000000 in
set_option maxRecDepth 100000 in
theorem impl_size_string.calls (A0 : Option Addr) (c0 : Nat) (l0 : List ByteArray) (r : Int) (w : World) (hr0 : Kd.C Kd.string w A0 l0.length l0) (hc0 : l0.length ≤ c0) (h : impl_size_string.f l0 = some r) :
 Calls Try.prog 188 #[.slice A0 l0.length c0] w fun e w' => e = .returned (.int .i64 r) ∧ Drawn0 w w' := by
 have HR0 := Zm hr0; have HC0 := Zm hc0; clear hr0 hc0; have H : (some (l0.length : Int)) = some r := h; clear h; obtain rfl := Option.some.inj H; go_enter Try.func188, Try.ntmps188; go_wp2; go_ret; exact ⟨by first | rfl | (simp; done) | (simp [*]; done), by repeat (first | exact Drawn0.refl _ | apply Drawn0.step)⟩

/-! ### impl_DescSlots: function 156 -/
def impl_DescSlots.f (k : Nat) (a0 : ByteArray) : Option (Int) := (impl_DescRead.f k a0).bind fun bt501 => (if bt501.2.2.2 = 0 then ((impl_size_string.f bt501.1).bind fun t508 => (some t508)) else (some (-1)))
set_option maxHeartbeats 8000000 in
set_option maxRecDepth 100000 in
theorem impl_DescSlots.calls (k : Nat) (a0 : ByteArray) (r : Int) (w : World) (h : impl_DescSlots.f k a0 = some r) :
 Calls Try.prog 156 #[.string a0] w fun e w' => e = .returned (.int .i64 r) ∧ Below w.heap.size w w' := by
 have hu151 := Try.underlying151; have HB := Zm (Below.refl w.heap.size w); have H : ((impl_DescRead.f k a0).bind fun bt501 => (if bt501.2.2.2 = 0 then ((impl_size_string.f bt501.1).bind fun t508 => (some t508)) else (some (-1)))) = some r := h; clear h; replace H := Option.bind_eq_some_iff.mp H; obtain ⟨⟨t501, t504, t505, t506⟩, A20, H⟩ := H; (try dsimp only at H); have A2 := Zm A20; clear A20; have HC3 := Zm H; clear H; go_enter Try.func156, Try.ntmps156; go_upto_if 8 with (first | ((with_reducible refine gate_callee (f := 187) rfl ?_); refine ge_ (some 5) Try.func187 #[.string a0] ?_; (with_reducible refine (impl_DescRead.calls _ _ _ _ _ _ _ A2.out).mono ?_); rintro e w4 ⟨v502, rfl, ho0, hb⟩; refine ⟨_, rfl, ?_⟩; have n0_ := (⟨Zm (Kd.R_lower ho0 (Zbz (bk HB.out))), Zm (Zbt (bk HB.out) hb)⟩ : _ ∧ _); clear HB; obtain ⟨HO503, HB⟩ := n0_; (try clear hb); (try clear hb2); (try clear hk); (try clear hi); (try clear ho0)) | ((with_reducible refine gate_dst (N := 3) rfl ?_); refine box_event ?hg (N := 3) ?hd (cs := #[.slice none 0 0, .string (⟨#[]⟩ : ByteArray), .int .i64 0, .int .i64 0]) (t := 151) ?hr ?_; (case hd => rfl); (case hg => rfl); (case hr => first | (go_simp; done) | (go_simp; rfl)); intro gb507 hg w5 hbox hb; have n0_ := (⟨Zm (Kd.R_below (by (with_reducible repeat (first | apply Kd.R_alloc | apply Kd.R_drewN | apply Kd.R_drew)); exact HO503.out) hb), Zm (Zbt (bk HB.out) hb), Zm (hbox), Zm ((by rw [hg]; exact (Zbz (bk HB.out)) : w.heap.size ≤ gb507)), Zm ((by rw [hg]; exact (Zbz (bk HB.out)) : w.heap.size ≤ gb507))⟩ : _ ∧ _ ∧ _ ∧ _ ∧ _); clear HO503 HB; obtain ⟨HO503, HB, BK507, GW507, GE507⟩ := n0_; clear hb hbox hg; obtain ⟨Ao6, co6, eo6⟩ := Kd.R_slice HO503.out; subst eo6; obtain ⟨hcz7_0, hcz7_1, hcz7_2, hcz7_3⟩ := cz4 BK507.out; have hfz7_0 := Zkf BK507.out 0; have hfz7_1 := Zkf BK507.out 1; have hfz7_2 := Zkf BK507.out 2; have hfz7_3 := Zkf BK507.out 3)); have H := HC3.out; clear HC3; by_cases c8 : t506 = 0; rotate_left
 · rw [if_neg c8] at H; have c8b0 : (t506 == 0) = false := beq_eq_false_iff_ne.mpr c8; have c8b1 : (t506 != 0) = true := bne_iff_ne.mpr c8; (first | rw [c8b0] | (simp only [i64_w, i32_w]; rw [c8b0]) | skip); obtain rfl := Option.some.inj H; go_wp2; go_ret; exact ⟨by first | rfl | (simp [*] <;> rfl), hb_⟩

 rw [if_pos c8] at H
 have c8b0 : (t506 == 0) = true := beq_iff_eq.mpr c8
 have c8b1 : (t506 != 0) = false := bne_eq_false_iff_eq.mpr c8
 clear c8
 (first | rw [c8b0] | (simp only [i64_w, i32_w]; rw [c8b0]) | skip)
 replace H := Option.bind_eq_some_iff.mp H
 obtain ⟨t508, A90, H⟩ := H
 (try dsimp only at H)
 have A9 := Zm A90
 clear A90
 obtain rfl := Option.some.inj H
 obtain ⟨hcz10_0, hcz10_1, hcz10_2, hcz10_3⟩ := cz4 BK507.out
 have hfz10_0 := Zkf BK507.out 0
 have hfz10_1 := Zkf BK507.out 1
 have hfz10_2 := Zkf BK507.out 2
 have hfz10_3 := Zkf BK507.out 3
 go_wp2_with (first | ((with_reducible refine gate_callee (f := 188) rfl ?_); refine ge_ (some 12) Try.func188 #[.slice Ao6 t501.length co6] ?_; (with_reducible refine (impl_size_string.calls _ _ _ _ _ ?side1 ?side2 A9.out).mono ?_); (case side1 => refine (Kd.R_reads' (e := 9) (base := w.heap.size) (ok := fun k_ => True) (n := t501.length) (c := co6) ?_).2.2; exact (by (with_reducible repeat (first | apply Kd.R_alloc | apply Kd.R_drewN | apply Kd.R_drew)); exact (Kd.R_mono (Kd.R_far (p := ⟨gb507, 3, none⟩) (Kd.R_far (p := ⟨gb507, 2, none⟩) (Kd.R_far (p := ⟨gb507, 1, none⟩) (Kd.R_far (p := ⟨gb507, 0, none⟩) (Kd.R_types HO503.out BK507.out (by decide)) (fun _ hk => hk.2) (.slice Ao6 t501.length co6)) (fun _ hk => hk.2) (.string t504)) (fun _ hk => hk.2) (.int .i64 t505)) (fun _ hk => hk.2) (.int .i64 t506)) (fun _ h_ => h_.1)))); (case side2 => exact (Kd.R_reads' HO503.out).2.1); rintro e w' ⟨rfl, ⟨nd, rfl⟩⟩; refine ⟨_, rfl, ?_⟩))
 go_ret
 exact ⟨by first | rfl | (simp [*] <;> rfl), hb_⟩
/-! ### impl_Method_slots: function 106 -/
def impl_Method_slots.f (k : Nat) (a0_0 : ByteArray) (a0_1 : ByteArray) (a0_2 : Bool) (a0_3 : Bool) (a0_4 : Bool) (a0_5 : Int) (a0_6 : Int) (l0_7 : List (S156)) (l0_8 : List (S160)) : Option (Int) := (impl_DescSlots.f k a0_1).bind fun t510 => (if a0_2 = true then (some t510) else (some (wrap64 (t510 + 1))))
set_option maxHeartbeats 8000000 in
set_option maxRecDepth 100000 in
theorem impl_Method_slots.calls (k : Nat) (a0_0 : ByteArray) (a0_1 : ByteArray) (a0_2 : Bool) (a0_3 : Bool) (a0_4 : Bool) (a0_5 : Int) (a0_6 : Int) (A0_7 : Option Addr) (c0_7 : Nat) (l0_7 : List (S156)) (A0_8 : Option Addr) (c0_8 : Nat) (l0_8 : List (S160)) (r : Int) (w : World) (hr0_7 : Kd.C k156 w A0_7 l0_7.length l0_7) (hc0_7 : l0_7.length ≤ c0_7) (hr0_8 : Kd.C k160 w A0_8 l0_8.length l0_8) (hc0_8 : l0_8.length ≤ c0_8) (h : impl_Method_slots.f k a0_0 a0_1 a0_2 a0_3 a0_4 a0_5 a0_6 l0_7 l0_8 = some r) :
 Calls Try.prog 106 #[.agg #[.string a0_0, .string a0_1, .bool a0_2, .bool a0_3, .bool a0_4, .int .i64 a0_5, .int .i64 a0_6, .slice A0_7 l0_7.length c0_7, .slice A0_8 l0_8.length c0_8]] w fun e w' => e = .returned (.int .i64 r) ∧ Below w.heap.size w w' := by
 have hu84 := Try.underlying84; have HR0_7 := Zm hr0_7; have HC0_7 := Zm hc0_7; clear hr0_7 hc0_7; have HR0_8 := Zm hr0_8; have HC0_8 := Zm hc0_8; clear hr0_8 hc0_8; have HB := Zm (Below.refl w.heap.size w); have H : ((impl_DescSlots.f k a0_1).bind fun t510 => (if a0_2 = true then (some t510) else (some (wrap64 (t510 + 1))))) = some r := h; clear h; replace H := Option.bind_eq_some_iff.mp H; obtain ⟨t510, A20, H⟩ := H; (try dsimp only at H); have A2 := Zm A20; clear A20; have HC3 := Zm H; clear H; go_enter Try.func106, Try.ntmps106; go_upto_if 9 with (first | ((with_reducible refine gate_dst (N := 1) rfl ?_); refine box_event ?hg (N := 1) ?hd (cs := #[.string a0_0, .string a0_1, .bool a0_2, .bool a0_3, .bool a0_4, .int .i64 a0_5, .int .i64 a0_6, .slice A0_7 l0_7.length c0_7, .slice A0_8 l0_8.length c0_8]) (t := 84) ?hr ?_; (case hd => rfl); (case hg => rfl); (case hr => first | (go_simp; done) | (go_simp; rfl)); intro gb509 hg w4 hbox hb; have n0_ := (⟨Zm (Zbt (bk HB.out) hb), Zm (hbox), Zm ((by rw [hg]; exact (Zbz (bk HB.out)) : w.heap.size ≤ gb509)), Zm ((by rw [hg]; exact (Zbz (bk HB.out)) : w.heap.size ≤ gb509))⟩ : _ ∧ _ ∧ _ ∧ _); clear HB; obtain ⟨HB, BK509, GW509, GE509⟩ := n0_; clear hb hbox hg; obtain ⟨hcz5_0, hcz5_1, hcz5_2, hcz5_3, hcz5_4, hcz5_5, hcz5_6, hcz5_7, hcz5_8⟩ := cz9 BK509.out; have hfz5_8 := Zkf BK509.out 8) | ((with_reducible refine gate_callee (f := 156) rfl ?_); refine ge_ (some 6) Try.func156 #[.string a0_1] ?_; (with_reducible refine (impl_DescSlots.calls _ _ _ _ A2.out).mono ?_); rintro e w6 ⟨rfl, hb⟩; refine ⟨_, rfl, ?_⟩; have n0_ := (⟨Zm (Zkb (pk BK509.out) hb), Zm (Zbt (bk HB.out) hb)⟩ : _ ∧ _); clear BK509 HB; obtain ⟨BK509, HB⟩ := n0_; (try clear hb); (try clear hb2); (try clear hk); (try clear hi); obtain ⟨hcz7_0, hcz7_1, hcz7_2, hcz7_3, hcz7_4, hcz7_5, hcz7_6, hcz7_7, hcz7_8⟩ := cz9 BK509.out; have hfz7_8 := Zkf BK509.out 8)); have H := HC3.out; clear HC3; by_cases c8 : a0_2 = true; rotate_left
 · replace c8 := Bool.eq_false_iff.mpr c8; subst c8; rw [if_neg (show ¬ (false = true) by decide)] at H; obtain rfl := Option.some.inj H; go_wp2; go_ret; exact fin_ HB

 subst c8
 rw [if_pos rfl] at H
 obtain rfl := Option.some.inj H
 go_wp2
 go_ret
 exact fin_ HB
end Go.Proofs.Ytlflbmbcjjegaaa.PFnExactClassRight
