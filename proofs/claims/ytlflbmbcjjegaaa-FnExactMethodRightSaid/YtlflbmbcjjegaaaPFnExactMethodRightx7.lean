/- Functions of the program as plain Lean functions, each with a proof that the program's call comes to the same; no condition. Written by a program of this session. -/
import Derived.Test.YtlflbmbcjjegaaaPFnExactMethodRightx0
namespace Go.Proofs.Ytlflbmbcjjegaaa.PFnExactMethodRight
open Go.RowKit Go.Proofs.YtlflbmbcjjegaaaW.PrintWords Go.Proofs.YtlflbmbcjjegaaaW.PrintLast Go.Proofs.YtlflbmbcjjegaaaW.PrintMore
open Go.Proofs.YtlflbmbcjjegaaaW.PrintWords renaming below_alloc → Zba, pw_below_drewN → Zbn, below_drew1 → Zbd, below_set → Zbs, below_size → Zbz, below_step → Zbt, blk_drewN → Zkn, blk_drew → Zkd, blk_alloc → Zka, blk_cell → Zkc, blk_frozen → Zkf, blk_far → Zkr, blk_put → Zkp, blk_below → Zkb
open Go.World renaming block_lt_of_cell? → Zlt
open Go.Proofs.YtlflbmbcjjegaaaW.PrintWords.Aside0 renaming mk → Zm
attribute [local go_sem] max2_int min2_int max_two min_two max_three min_three max_four min_four   -- for this text's walks alone
set_option linter.unusedVariables false
set_option linter.unusedSimpArgs false

/-! ### laws_toIns: function 148 -/
def laws_toIns.f (a0_0 : Int) (a0_1 : Int) (a0_2 : ByteArray) (a0_3 : ByteArray) (a0_4 : ByteArray) : Option (Int × Int × ByteArray × ByteArray × ByteArray) := some (a0_0, a0_1, a0_2, a0_3, a0_4)
set_option maxHeartbeats 8000000 in
set_option maxRecDepth 100000 in
theorem laws_toIns.calls (a0_0 : Int) (a0_1 : Int) (a0_2 : ByteArray) (a0_3 : ByteArray) (a0_4 : ByteArray) (r1 : Int) (r2 : Int) (r3 : ByteArray) (r4 : ByteArray) (r5 : ByteArray) (w : World) (h : laws_toIns.f a0_0 a0_1 a0_2 a0_3 a0_4 = some (r1, r2, r3, r4, r5)) :
 Calls Try.prog 148 #[.agg #[.int .i64 a0_0, .int .i64 a0_1, .string a0_2, .string a0_3, .string a0_4]] w fun e w' => e = .returned (.agg #[.int .i64 r1, .int .i64 r2, .string r3, .string r4, .string r5]) ∧ Below w.heap.size w w' := by
 have hu199 := Try.underlying199
 have hu156 := Try.underlying156
 have HB := Zm (Below.refl w.heap.size w)
 have H : (some (a0_0, a0_1, a0_2, a0_3, a0_4)) = some (r1, r2, r3, r4, r5) := h
 clear h
 simp only [Option.some.injEq, Prod.mk.injEq] at H
 obtain ⟨rfl, rfl, rfl, rfl, rfl⟩ := H
 go_enter Try.func148, Try.ntmps148
 go_wp2_with (first | ((with_reducible refine gate_dst (N := 1) rfl ?_); refine box_event ?hg (N := 1) ?hd (cs := #[.int .i64 a0_0, .int .i64 a0_1, .string a0_2, .string a0_3, .string a0_4]) (t := 199) ?hr ?_; (case hd => rfl); (case hg => rfl); (case hr => first | (go_simp; done) | (go_simp; rfl)); intro gb233 hg w2 hbox hb; have n0_ := (⟨Zm (Zbt (bk HB.out) hb), Zm (hbox), Zm ((by rw [hg]; exact (Zbz (bk HB.out)) : w.heap.size ≤ gb233)), Zm ((by rw [hg]; exact (Zbz (bk HB.out)) : w.heap.size ≤ gb233))⟩ : _ ∧ _ ∧ _ ∧ _); clear HB; obtain ⟨HB, BK233, GW233, GE233⟩ := n0_; clear hb hbox hg) | ((with_reducible refine gate_dst (N := 2) rfl ?_); refine box_event ?hg (N := 2) ?hd (cs := #[.int .i64 0, .int .i64 0, .string (⟨#[]⟩ : ByteArray), .string (⟨#[]⟩ : ByteArray), .string (⟨#[]⟩ : ByteArray)]) (t := 156) ?hr ?_; (case hd => rfl); (case hg => rfl); (case hr => first | (go_simp; done) | (go_simp; rfl)); intro gb234 hg w3 hbox hb; have n0_ := (⟨Zm (Zkb (pk BK233.out) hb), Zm (Zbt (bk HB.out) hb), Zm (hbox), Zm ((by rw [hg]; exact (Zbz (bk HB.out)) : w.heap.size ≤ gb234)), Zm ((by rw [hg]; exact (Zbz (bk HB.out)) : w.heap.size ≤ gb234)), Zm ((by rw [hg]; exact Nat.ne_of_lt (blk_lt (pk BK233.out)) : gb233 ≠ gb234)), Zm ((by rw [hg]; exact Nat.ne_of_gt (blk_lt (pk BK233.out)) : gb234 ≠ gb233))⟩ : _ ∧ _ ∧ _ ∧ _ ∧ _ ∧ _ ∧ _); clear BK233 HB; obtain ⟨BK233, HB, BK234, GW234, GE234, NB233_234, NB234_233⟩ := n0_; clear hb hbox hg) | ((with_reducible refine gate_dst (N := 3) rfl ?_); refine box_event ?hg (N := 3) ?hd (cs := #[.int .i64 0, .int .i64 0, .string (⟨#[]⟩ : ByteArray), .string (⟨#[]⟩ : ByteArray), .string (⟨#[]⟩ : ByteArray)]) (t := 156) ?hr ?_; (case hd => rfl); (case hg => rfl); (case hr => first | (go_simp; done) | (go_simp; rfl)); intro gb235 hg w4 hbox hb; have n0_ := (⟨Zm (Zkb (pk BK233.out) hb), Zm (Zkb (pk BK234.out) hb), Zm (Zbt (bk HB.out) hb), Zm (hbox), Zm ((by rw [hg]; exact (Zbz (bk HB.out)) : w.heap.size ≤ gb235)), Zm ((by rw [hg]; exact (Zbz (bk HB.out)) : w.heap.size ≤ gb235)), Zm ((by rw [hg]; exact Nat.ne_of_lt (blk_lt (pk BK233.out)) : gb233 ≠ gb235)), Zm ((by rw [hg]; exact Nat.ne_of_gt (blk_lt (pk BK233.out)) : gb235 ≠ gb233)), Zm ((by rw [hg]; exact Nat.ne_of_lt (blk_lt (pk BK234.out)) : gb234 ≠ gb235)), Zm ((by rw [hg]; exact Nat.ne_of_gt (blk_lt (pk BK234.out)) : gb235 ≠ gb234))⟩ : _ ∧ _ ∧ _ ∧ _ ∧ _ ∧ _ ∧ _ ∧ _ ∧ _ ∧ _); clear BK233 BK234 HB; obtain ⟨BK233, BK234, HB, BK235, GW235, GE235, NB233_235, NB235_233, NB234_235, NB235_234⟩ := n0_; clear hb hbox hg; have hnb5 := NB233_234.out; have hnc5 := NB234_233.out; have hnb6 := NB233_235.out; have hnc6 := NB235_233.out; obtain ⟨hcz7_0, hcz7_1, hcz7_2, hcz7_3, hcz7_4⟩ := cz5 BK233.out; have hnb8 := NB235_234.out; have hnc8 := NB234_235.out; obtain ⟨hcz9_0, hcz9_1, hcz9_2, hcz9_3, hcz9_4⟩ := cz5 BK235.out; have hfz9_0 := Zkf BK235.out 0; have hfz9_1 := Zkf BK235.out 1; have hfz9_2 := Zkf BK235.out 2; have hfz9_3 := Zkf BK235.out 3; have hfz9_4 := Zkf BK235.out 4; obtain ⟨hcz10_0, hcz10_1, hcz10_2, hcz10_3, hcz10_4⟩ := cz5 BK234.out; have hfz10_0 := Zkf BK234.out 0; have hfz10_1 := Zkf BK234.out 1; have hfz10_2 := Zkf BK234.out 2; have hfz10_3 := Zkf BK234.out 3; have hfz10_4 := Zkf BK234.out 4))
 refine bodyPost_ret (results_cell_row rfl _ _ gb234 156 #[.int .i64 a0_0, .int .i64 a0_1, .string a0_2, .string a0_3, .string a0_4] (0, 0) _ rfl (by (with_reducible repeat (first | refine Zkn ?_ _ | refine Zkd ?_ | refine Zka ?_ _)); refine Zkp (cs := #[.int .i64 a0_0, .int .i64 a0_1, .string a0_2, .string a0_3, .string (⟨#[]⟩ : ByteArray)]) ?_ 4 _ rfl; (with_reducible repeat (first | refine Zkn ?_ _ | refine Zkd ?_ | refine Zka ?_ _)); refine Zkp (cs := #[.int .i64 a0_0, .int .i64 a0_1, .string a0_2, .string (⟨#[]⟩ : ByteArray), .string (⟨#[]⟩ : ByteArray)]) ?_ 3 _ rfl; (with_reducible repeat (first | refine Zkn ?_ _ | refine Zkd ?_ | refine Zka ?_ _)); refine Zkp (cs := #[.int .i64 a0_0, .int .i64 a0_1, .string (⟨#[]⟩ : ByteArray), .string (⟨#[]⟩ : ByteArray), .string (⟨#[]⟩ : ByteArray)]) ?_ 2 _ rfl; (with_reducible repeat (first | refine Zkn ?_ _ | refine Zkd ?_ | refine Zka ?_ _)); refine Zkp (cs := #[.int .i64 a0_0, .int .i64 0, .string (⟨#[]⟩ : ByteArray), .string (⟨#[]⟩ : ByteArray), .string (⟨#[]⟩ : ByteArray)]) ?_ 1 _ rfl; (with_reducible repeat (first | refine Zkn ?_ _ | refine Zkd ?_ | refine Zka ?_ _)); refine Zkp (cs := #[.int .i64 0, .int .i64 0, .string (⟨#[]⟩ : ByteArray), .string (⟨#[]⟩ : ByteArray), .string (⟨#[]⟩ : ByteArray)]) ?_ 0 _ rfl; (with_reducible repeat (first | refine Zkn ?_ _ | refine Zkd ?_ | refine Zka ?_ _)); refine Zkr ?_ NB234_235.out _; (with_reducible repeat (first | refine Zkn ?_ _ | refine Zkd ?_ | refine Zka ?_ _)); refine Zkr ?_ NB234_235.out _; (with_reducible repeat (first | refine Zkn ?_ _ | refine Zkd ?_ | refine Zka ?_ _)); refine Zkr ?_ NB234_235.out _; (with_reducible repeat (first | refine Zkn ?_ _ | refine Zkd ?_ | refine Zka ?_ _)); refine Zkr ?_ NB234_235.out _; (with_reducible repeat (first | refine Zkn ?_ _ | refine Zkd ?_ | refine Zka ?_ _)); refine Zkr ?_ NB234_235.out _; (with_reducible repeat (first | refine Zkn ?_ _ | refine Zkd ?_ | refine Zka ?_ _)); exact BK234.out) Try.underlying156 rfl (by kernel_rfl)) rfl ?_
 exact ⟨by first | rfl | (simp [*] <;> rfl), by repeat (first | (with_reducible first | exact HB.out | apply Zba | apply Zbn | apply Zbd | refine Zbs ?_ GE233.out | refine Zbs ?_ GE234.out | refine Zbs ?_ GE235.out) | exact HB.out)⟩

/-! ### laws_toInsS: function 101 -/
def laws_toInsS.l0 : Nat → List (S199) → List (S156) → Int → Option ((List (S156)))
 | 0, _, _, _ => none
 | k + 1, x0, x3, x4 => if x4 < (x0.length : Int) then (if 0 ≤ x4 then ((laws_toIns.f ((rd_T199 x0 x4).f0) ((rd_T199 x0 x4).f1) ((rd_T199 x0 x4).f2) ((rd_T199 x0 x4).f3) ((rd_T199 x0 x4).f4)).bind fun bt240 => (if x4 < (x3.length : Int) then (laws_toInsS.l0 k x0 (x3.set (x4 : Int).toNat (⟨bt240.1, bt240.2.1, bt240.2.2.1, bt240.2.2.2.1, bt240.2.2.2.2⟩ : S156)) (wrap64 (x4 + 1))) else (none))) else (none)) else (some x3)
def laws_toInsS.f (k : Nat) (l0 : List (S199)) : Option ((List (S156))) := if 0 ≤ (l0.length : Int) then (if ((l0.length : Int) : Int).toNat ≤ 4398046511104 then (laws_toInsS.l0 k l0 (List.replicate ((l0.length : Int) : Int).toNat z156) 0) else (none)) else (none)
theorem laws_toInsS.mono_l : ∀ k, (∀ y0 y1 y2, LeO (laws_toInsS.l0 k y0 y1 y2) (laws_toInsS.l0 (k + 1) y0 y1 y2))
 | 0 => fun _ _ _ r h => by simp [laws_toInsS.l0] at h
 | k + 1 => by
  have ih0 := laws_toInsS.mono_l k
  · intro y0 y1 y2
    unfold laws_toInsS.l0
    repeat' first
    | (with_reducible exact ih0 _ _ _)
    | (with_reducible exact LeO.refl _)
    | (with_reducible exact LeO.none _)
    | (with_reducible refine LeO.ite ?_ ?_)
    | (with_reducible refine LeO.bind ?_ (fun _ => ?_))
    | exact ih0 _ _ _
    | exact LeO.none _
    | refine LeO.ite ?_ ?_
    | refine LeO.bind ?_ (fun _ => ?_)
theorem laws_toInsS.mono : ∀ a0 k, LeO (laws_toInsS.f k a0) (laws_toInsS.f (k + 1) a0) := by
 intro a0 k
 have ih0 := laws_toInsS.mono_l k
 unfold laws_toInsS.f
 repeat' first
  | (with_reducible exact ih0 _ _ _)
  | (with_reducible exact LeO.refl _)
  | (with_reducible exact LeO.none _)
  | (with_reducible refine LeO.ite ?_ ?_)
  | (with_reducible refine LeO.bind ?_ (fun _ => ?_))
  | exact ih0 _ _ _
  | exact LeO.none _
  | refine LeO.ite ?_ ?_
  | refine LeO.bind ?_ (fun _ => ?_)
set_option maxHeartbeats 8000000 in
set_option maxRecDepth 100000 in
theorem laws_toInsS.calls (k : Nat) (A0 : Option Addr) (c0 : Nat) (l0 : List (S199)) (r : List (S156)) (w : World) (hr0 : Kd.C k199 w A0 l0.length l0) (hc0 : l0.length ≤ c0) (h : laws_toInsS.f k l0 = some r) :
 Calls Try.prog 101 #[.slice A0 l0.length c0] w fun e w' => ∃ v0_ : Value, e = .returned (v0_) ∧ Kd.R k156 156 w' w.heap.size (fun _ => True) v0_ r ∧ Below w.heap.size w w' := by
 have hu199 := Try.underlying199
 have hu156 := Try.underlying156
 have HR0 := Zm hr0
 have HC0 := Zm hc0
 clear hr0 hc0
 have HB := Zm (Below.refl w.heap.size w)
 have H : (if 0 ≤ (l0.length : Int) then (if ((l0.length : Int) : Int).toNat ≤ 4398046511104 then (laws_toInsS.l0 k l0 (List.replicate ((l0.length : Int) : Int).toNat z156) 0) else (none)) else (none)) = some r := h
 clear h
 by_cases c2 : 0 ≤ (l0.length : Int)
 rotate_left
 · rw [if_neg c2] at H
   exact absurd H (by simp)

 rw [if_pos c2] at H
 have c2b0 := eq_true c2
 have c2b1 := decide_eq_true c2
 clear c2
 by_cases c3 : ((l0.length : Int) : Int).toNat ≤ 4398046511104
 rotate_left
 · rw [if_neg c3] at H
   exact absurd H (by simp)
 rw [if_pos c3] at H
 have c3b0 := eq_true c3
 have c3b1 := decide_eq_true c3
 clear c3
 obtain ⟨y236, hy236⟩ : ∃ y_ : List (S156), y_ = (List.replicate ((l0.length : Int) : Int).toNat z156) := ⟨_, rfl⟩
 replace H : (laws_toInsS.l0 k l0 y236 0) = some r := by first | (rw [hy236]; with_reducible exact H) | (have H2_ := (Option.bind_some _ _).symm.trans H; rw [hy236]; with_reducible exact H2_) | (have H2_ := (Option.bind_some _ _).symm.trans H; with_reducible exact H2_) | with_reducible exact H | (rw [hy236]; exact H) | exact H
 have Ny236 := Zm hy236
 clear hy236
 have H' := Zm H
 clear H
 go_enter Try.func101, Try.ntmps101
 go_wp2_with (first | ((with_reducible refine gate_dst (N := 7) rfl ?_); refine Kd.R_make k156 _ 156 rfl (N := 7) rfl 81 _ _ rfl (l0.length : Int) rfl rfl Try.underlying81 (.agg #[(.int .i64 0), (.int .i64 0), (.string ⟨#[]⟩), (.string ⟨#[]⟩), (.string ⟨#[]⟩)]) 64 info156 rfl (by decide) (by omega) z156 (ok := fun _ => True) (okp := fun _ => True) (k156_mkM _ _ _ z156 ) (fun _ hk => hk) trivial (of_decide_eq_true (by first | (with_reducible assumption) | assumption)) (Nat.le_trans (Nat.mul_le_mul_right _ (of_decide_eq_true (by first | (with_reducible assumption) | assumption) : (l0.length : Int).toNat ≤ 4398046511104)) (by omega)) (Below.refl _ _) (Nat.le_refl _) ?_; intro v237 w4 ho5 hb hg_ hnew_; clear hg_ hnew_; (first | rw [← Ny236.out] at ho5 | (simp only [Int.reduceToNat] at ho5; rw [← Ny236.out] at ho5)); have n0_ := (⟨Zm (Kd.R_lower ho5 (Zbz (bk HB.out))), Zm (Zbt (bk HB.out) hb)⟩ : _ ∧ _); clear HB; obtain ⟨HO238, HB⟩ := n0_; clear hb ho5))
 go_loopg [4] k (fun kq v4 w' => ∃ (x3_1 : List (S156)) (x4_1 : Int), v4 = .int .i64 x4_1 ∧ Aside0 (laws_toInsS.l0 kq l0 x3_1 x4_1 = some r) ∧ Aside0 (kq ≤ k) ∧ Aside0 (Kd.R k156 156 w' w.heap.size (fun _ => True) v237 x3_1) ∧ Aside0 (Below w.heap.size w w'))
 case atStart => exact ⟨(y236), (0), (by first | rfl | (simp; done) | (simp [*]; done)), H', ⟨Nat.le_refl _⟩, ⟨by (with_reducible repeat (first | apply Kd.R_alloc | apply Kd.R_drewN | apply Kd.R_drew)); exact HO238.out⟩, ⟨bk HB.out⟩⟩
 case round =>
  clear H'
  (try clear c2); (try clear c2b0); (try clear c2b1); (try clear c3); (try clear c3b0); (try clear c3b1)
  obtain ⟨x3_1, x4_1, rfl, HA, HK1, HO_3, HB⟩ := hrel
  cases gk with
  | zero => exact absurd HA.out (by simp [laws_toInsS.l0])
  | succ k1 =>
   have H := HA.out
   clear HA
   simp only [laws_toInsS.l0] at H
   by_cases c6 : x4_1 < (l0.length : Int)
   rotate_left
   · rw [if_neg c6] at H
     have c6b0 := decide_eq_false c6
     clear c6
     obtain rfl := Option.some.inj H
     go_wp2
     go_ret
     exact ⟨_, by first | rfl | (simp [*] <;> rfl), by (with_reducible repeat (first | apply Kd.R_alloc | apply Kd.R_drewN | apply Kd.R_drew)); exact HO_3.out, bk HB.out⟩
   rw [if_pos c6] at H
   have c6b0 := decide_eq_true c6
   clear c6
   by_cases c7 : 0 ≤ x4_1
   rotate_left
   · rw [if_neg c7] at H
     exact absurd H (by simp)
   rw [if_pos c7] at H
   have c7b0 := decide_eq_true c7
   clear c7
   replace H := Option.bind_eq_some_iff.mp H
   obtain ⟨⟨t240, t241, t242, t243, t244⟩, A80, H⟩ := H
   (try dsimp only at H)
   have A8 := Zm A80
   clear A80
   by_cases c9 : x4_1 < (x3_1.length : Int)
   rotate_left
   · rw [if_neg c9] at H
     exact absurd H (by simp)
   rw [if_pos c9] at H
   have c9b0 := decide_eq_true c9
   clear c9
   obtain ⟨y245, hy245⟩ : ∃ y_ : List (S156), y_ = (x3_1.set (x4_1 : Int).toNat (⟨t240, t241, t242, t243, t244⟩ : S156)) := ⟨_, rfl⟩
   replace H : (laws_toInsS.l0 k1 l0 y245 (wrap64 (x4_1 + 1))) = some r := by first | (rw [hy245]; with_reducible exact H) | (have H2_ := (Option.bind_some _ _).symm.trans H; rw [hy245]; with_reducible exact H2_) | (have H2_ := (Option.bind_some _ _).symm.trans H; with_reducible exact H2_) | with_reducible exact H | (rw [hy245]; exact H) | exact H
   have Ny245 := Zm hy245
   clear hy245
   have H' := Zm H
   clear H
   have p239 : 0 ≤ (x4_1 : Int) := of_decide_eq_true (by first | (with_reducible assumption) | assumption)
   have q239 : x4_1 < (l0.length : Int) := of_decide_eq_true (by first | (with_reducible assumption) | assumption)
   obtain ⟨ad239, e239, hx239_0, hx239_1, hx239_2, hx239_3, hx239_4⟩ := at_T199 HR0.out x4_1 p239 q239
   cases e239
   replace hx239_0 := (HB.out.cell (Zlt _ _ hx239_0)).trans hx239_0
   replace hx239_1 := (HB.out.cell (Zlt _ _ hx239_1)).trans hx239_1
   replace hx239_2 := (HB.out.cell (Zlt _ _ hx239_2)).trans hx239_2
   replace hx239_3 := (HB.out.cell (Zlt _ _ hx239_3)).trans hx239_3
   replace hx239_4 := (HB.out.cell (Zlt _ _ hx239_4)).trans hx239_4
   replace p239 := eq_true p239
   replace q239 := eq_true q239
   go_wp2_with (first | ((with_reducible refine gate_callee (f := 148) rfl ?_); refine goesL_ (some 20) rfl rfl Try.func148 (by kernel_rfl) rfl #[.agg #[.int .i64 ((rd_T199 l0 x4_1).f0), .int .i64 ((rd_T199 l0 x4_1).f1), .string ((rd_T199 l0 x4_1).f2), .string ((rd_T199 l0 x4_1).f3), .string ((rd_T199 l0 x4_1).f4)]] rfl (by (try simp only [List.map_toArray, List.map_cons, List.map_nil]); first | done | rfl | (simp only [List.length_drop, List.length_take]; rfl)) ?_; (with_reducible refine (laws_toIns.calls ((rd_T199 l0 x4_1).f0) ((rd_T199 l0 x4_1).f1) ((rd_T199 l0 x4_1).f2) ((rd_T199 l0 x4_1).f3) ((rd_T199 l0 x4_1).f4) t240 t241 t242 t243 t244 _ A8.out).mono ?_); rintro e w11 ⟨rfl, hb⟩; refine ⟨_, rfl, ?_⟩; have n0_ := (⟨Zm (Kd.R_below (by (with_reducible repeat (first | apply Kd.R_alloc | apply Kd.R_drewN | apply Kd.R_drew)); exact HO_3.out) hb), Zm (Zbt (bk HB.out) hb)⟩ : _ ∧ _); clear HO_3 HB; obtain ⟨HO_3, HB⟩ := n0_; (try clear hb); (try clear hb2); (try clear hk); (try clear hi); have p10 : 0 ≤ (x4_1 : Int) := of_decide_eq_true (by first | (with_reducible assumption) | assumption); have q10 : (x4_1 : Int) < ((x3_1.length : Int) : Int) := of_decide_eq_true (by first | (with_reducible assumption) | assumption); obtain ⟨go10, co10, eo10, gb10, gl10, cl10, HG10⟩ := Kd.R_form HO_3.out (by omega); (first | cases eo10 | (injection eo10 with ea_ en_ ec_; (first | subst ea_ | (injection ea_ with ea_; subst ea_)); subst ec_; clear en_)); have GB10 := Zm gb10; have GG10 := Zm HG10; clear gb10 gl10 HG10; obtain ⟨ce10, hcl10, hM10, hcc10, hfr10⟩ := Kd.R_elem HO_3.out z156 (x4_1 : Int) p10 q10; obtain rfl := k156_openM hM10; have hx10_0 : w11.cell? ⟨go10, (x4_1 : Int).toNat * 5, none⟩ = some (.int .i64 ((rd_T156 x3_1 x4_1).f0)) := hcc10 0 _ rfl; have hx10_1 : w11.cell? ⟨go10, (x4_1 : Int).toNat * 5 + 1, none⟩ = some (.int .i64 ((rd_T156 x3_1 x4_1).f1)) := hcc10 1 _ rfl; have hx10_2 : w11.cell? ⟨go10, (x4_1 : Int).toNat * 5 + 2, none⟩ = some (.string ((rd_T156 x3_1 x4_1).f2)) := hcc10 2 _ rfl; have hx10_3 : w11.cell? ⟨go10, (x4_1 : Int).toNat * 5 + 3, none⟩ = some (.string ((rd_T156 x3_1 x4_1).f3)) := hcc10 3 _ rfl; have hx10_4 : w11.cell? ⟨go10, (x4_1 : Int).toNat * 5 + 4, none⟩ = some (.string ((rd_T156 x3_1 x4_1).f4)) := hcc10 4 _ rfl; have hf10_0 : w11.frozen? ⟨go10, (x4_1 : Int).toNat * 5, none⟩ = false := hfr10 0; have hf10_1 : w11.frozen? ⟨go10, (x4_1 : Int).toNat * 5 + 1, none⟩ = false := hfr10 1; have hf10_2 : w11.frozen? ⟨go10, (x4_1 : Int).toNat * 5 + 2, none⟩ = false := hfr10 2; have hf10_3 : w11.frozen? ⟨go10, (x4_1 : Int).toNat * 5 + 3, none⟩ = false := hfr10 3; have hf10_4 : w11.frozen? ⟨go10, (x4_1 : Int).toNat * 5 + 4, none⟩ = false := hfr10 4; clear hcl10 hcc10 hfr10 hM10; replace p10 := eq_true p10; replace q10 := eq_true q10; have HX12 := Zm (show Kd.R k156 156 w11 w.heap.size (fun _ => True) (.slice (some ⟨go10, 0, none⟩) x3_1.length co10) x3_1 from (by (with_reducible repeat (first | apply Kd.R_alloc | apply Kd.R_drewN | apply Kd.R_drew)); exact HO_3.out)); obtain ⟨ce12, hcl12, hM12, hcc12, hfr12⟩ := Kd.R_elem HX12.out z156 (x4_1 : Int) (of_decide_eq_true (by first | (with_reducible assumption) | assumption)) (by have h_ : (x4_1 : Int) < ((x3_1.length : Int) : Int) := of_decide_eq_true (by first | (with_reducible assumption) | assumption); first | exact h_ | (have e_ := (Kd.R_reads' HO_3.out).1; omega) | simpa using h_); obtain rfl := k156_openM hM12; have HP12 := Kd.R_seg HX12.out (x4_1 : Int) (of_decide_eq_true (by first | (with_reducible assumption) | assumption)) (by have h_ : (x4_1 : Int) < ((x3_1.length : Int) : Int) := of_decide_eq_true (by first | (with_reducible assumption) | assumption); first | exact h_ | (have e_ := (Kd.R_reads' HO_3.out).1; omega) | simpa using h_) (seg := [.int .i64 t240, .int .i64 t241, .string t242, .string t243, .string t244]) (j := 0) hcl12 hcc12 (show 5 ≤ 5 from by decide) (x' := (⟨t240, t241, t242, t243, t244⟩ : S156)) (k156_mkM _ _ _ (⟨t240, t241, t242, t243, t244⟩ : S156) ) (fun _ hk => hk); have hx12_0 := hcc12 0 _ rfl; (try simp only [show (k156).sz = 5 from rfl, Nat.mul_one, Nat.add_zero] at hx12_0); have hf12_0 := hfr12 0; (try simp only [show (k156).sz = 5 from rfl, Nat.mul_one, Nat.add_zero] at hf12_0); have hx12_1 := hcc12 1 _ rfl; (try simp only [show (k156).sz = 5 from rfl, Nat.mul_one, Nat.add_zero] at hx12_1); have hf12_1 := hfr12 1; (try simp only [show (k156).sz = 5 from rfl, Nat.mul_one, Nat.add_zero] at hf12_1); have hx12_2 := hcc12 2 _ rfl; (try simp only [show (k156).sz = 5 from rfl, Nat.mul_one, Nat.add_zero] at hx12_2); have hf12_2 := hfr12 2; (try simp only [show (k156).sz = 5 from rfl, Nat.mul_one, Nat.add_zero] at hf12_2); have hx12_3 := hcc12 3 _ rfl; (try simp only [show (k156).sz = 5 from rfl, Nat.mul_one, Nat.add_zero] at hx12_3); have hf12_3 := hfr12 3; (try simp only [show (k156).sz = 5 from rfl, Nat.mul_one, Nat.add_zero] at hf12_3); have hx12_4 := hcc12 4 _ rfl; (try simp only [show (k156).sz = 5 from rfl, Nat.mul_one, Nat.add_zero] at hx12_4); have hf12_4 := hfr12 4; (try simp only [show (k156).sz = 5 from rfl, Nat.mul_one, Nat.add_zero] at hf12_4); clear hcl12 hcc12 hfr12 hM12) | ((with_reducible refine gate_store (t := 156) (p := 21) rfl ?_); refine store_event (t := 156) (p := 21) (v := ?vo_w13) (w1 := (((((w11.setCell ⟨go10, (x4_1 : Int).toNat * 5, none⟩ (.int .i64 t240)).setCell ⟨go10, (x4_1 : Int).toNat * 5 + 1, none⟩ (.int .i64 t241)).setCell ⟨go10, (x4_1 : Int).toNat * 5 + 2, none⟩ (.string t242)).setCell ⟨go10, (x4_1 : Int).toNat * 5 + 3, none⟩ (.string t243)).setCell ⟨go10, (x4_1 : Int).toNat * 5 + 4, none⟩ (.string t244))) ?hg ?ho ?hn ?hr ?_; (case ho => rfl); (case hg => rfl); (case hn => rfl); (case hr => first | (go_simp; done) | (go_simp; rfl)); intro w13 hw; have hg : w11.grownBy w13 (some go10) := (by rw [hw]; exact HP12.2); have hp_ : Kd.R k156 156 w13 w.heap.size (fun _ => True) (.slice (some ⟨go10, 0, none⟩) x3_1.length co10) y245 := (by rw [hw, Ny245.out]; exact HP12.1); clear HP12; have n0_ := (⟨Zm (hp_), Zm ((by rw [hw]; exact Zbs (Zbs (Zbs (Zbs (Zbs (HB.out) GB10.out) GB10.out) GB10.out) GB10.out) GB10.out : Below w.heap.size w w13))⟩ : _ ∧ _); clear HO_3 HB; obtain ⟨HO_3, HB⟩ := n0_; clear hg hw hp_))
   go_roundg k1
   case measure => have := HK1.out; omega
   case rel => exact ⟨(y245), (wrap64 (x4_1 + 1)), (by first | rfl | (simp; done) | (simp [*]; done)), H', ⟨by have := HK1.out; omega⟩, ⟨by (with_reducible repeat (first | apply Kd.R_alloc | apply Kd.R_drewN | apply Kd.R_drew)); exact HO_3.out⟩, ⟨bk HB.out⟩⟩
/-! ### laws_toHandler: function 149 -/
def laws_toHandler.f (a0_0 : Int) (a0_1 : Int) (a0_2 : Int) (a0_3 : ByteArray) : Option (Int × Int × Int × ByteArray) := some (a0_0, a0_1, a0_2, a0_3)
set_option maxHeartbeats 8000000 in
set_option maxRecDepth 100000 in
theorem laws_toHandler.calls (a0_0 : Int) (a0_1 : Int) (a0_2 : Int) (a0_3 : ByteArray) (r1 : Int) (r2 : Int) (r3 : Int) (r4 : ByteArray) (w : World) (h : laws_toHandler.f a0_0 a0_1 a0_2 a0_3 = some (r1, r2, r3, r4)) :
 Calls Try.prog 149 #[.agg #[.int .i64 a0_0, .int .i64 a0_1, .int .i64 a0_2, .string a0_3]] w fun e w' => e = .returned (.agg #[.int .i64 r1, .int .i64 r2, .int .i64 r3, .string r4]) ∧ Below w.heap.size w w' := by
 have hu201 := Try.underlying201
 have hu160 := Try.underlying160
 have HB := Zm (Below.refl w.heap.size w)
 have H : (some (a0_0, a0_1, a0_2, a0_3)) = some (r1, r2, r3, r4) := h
 clear h
 simp only [Option.some.injEq, Prod.mk.injEq] at H
 obtain ⟨rfl, rfl, rfl, rfl⟩ := H
 go_enter Try.func149, Try.ntmps149
 go_wp2_with (first | ((with_reducible refine gate_dst (N := 1) rfl ?_); refine box_event ?hg (N := 1) ?hd (cs := #[.int .i64 a0_0, .int .i64 a0_1, .int .i64 a0_2, .string a0_3]) (t := 201) ?hr ?_; (case hd => rfl); (case hg => rfl); (case hr => first | (go_simp; done) | (go_simp; rfl)); intro gb246 hg w2 hbox hb; have n0_ := (⟨Zm (Zbt (bk HB.out) hb), Zm (hbox), Zm ((by rw [hg]; exact (Zbz (bk HB.out)) : w.heap.size ≤ gb246)), Zm ((by rw [hg]; exact (Zbz (bk HB.out)) : w.heap.size ≤ gb246))⟩ : _ ∧ _ ∧ _ ∧ _); clear HB; obtain ⟨HB, BK246, GW246, GE246⟩ := n0_; clear hb hbox hg) | ((with_reducible refine gate_dst (N := 2) rfl ?_); refine box_event ?hg (N := 2) ?hd (cs := #[.int .i64 0, .int .i64 0, .int .i64 0, .string (⟨#[]⟩ : ByteArray)]) (t := 160) ?hr ?_; (case hd => rfl); (case hg => rfl); (case hr => first | (go_simp; done) | (go_simp; rfl)); intro gb247 hg w3 hbox hb; have n0_ := (⟨Zm (Zkb (pk BK246.out) hb), Zm (Zbt (bk HB.out) hb), Zm (hbox), Zm ((by rw [hg]; exact (Zbz (bk HB.out)) : w.heap.size ≤ gb247)), Zm ((by rw [hg]; exact (Zbz (bk HB.out)) : w.heap.size ≤ gb247)), Zm ((by rw [hg]; exact Nat.ne_of_lt (blk_lt (pk BK246.out)) : gb246 ≠ gb247)), Zm ((by rw [hg]; exact Nat.ne_of_gt (blk_lt (pk BK246.out)) : gb247 ≠ gb246))⟩ : _ ∧ _ ∧ _ ∧ _ ∧ _ ∧ _ ∧ _); clear BK246 HB; obtain ⟨BK246, HB, BK247, GW247, GE247, NB246_247, NB247_246⟩ := n0_; clear hb hbox hg) | ((with_reducible refine gate_dst (N := 3) rfl ?_); refine box_event ?hg (N := 3) ?hd (cs := #[.int .i64 0, .int .i64 0, .int .i64 0, .string (⟨#[]⟩ : ByteArray)]) (t := 160) ?hr ?_; (case hd => rfl); (case hg => rfl); (case hr => first | (go_simp; done) | (go_simp; rfl)); intro gb248 hg w4 hbox hb; have n0_ := (⟨Zm (Zkb (pk BK246.out) hb), Zm (Zkb (pk BK247.out) hb), Zm (Zbt (bk HB.out) hb), Zm (hbox), Zm ((by rw [hg]; exact (Zbz (bk HB.out)) : w.heap.size ≤ gb248)), Zm ((by rw [hg]; exact (Zbz (bk HB.out)) : w.heap.size ≤ gb248)), Zm ((by rw [hg]; exact Nat.ne_of_lt (blk_lt (pk BK246.out)) : gb246 ≠ gb248)), Zm ((by rw [hg]; exact Nat.ne_of_gt (blk_lt (pk BK246.out)) : gb248 ≠ gb246)), Zm ((by rw [hg]; exact Nat.ne_of_lt (blk_lt (pk BK247.out)) : gb247 ≠ gb248)), Zm ((by rw [hg]; exact Nat.ne_of_gt (blk_lt (pk BK247.out)) : gb248 ≠ gb247))⟩ : _ ∧ _ ∧ _ ∧ _ ∧ _ ∧ _ ∧ _ ∧ _ ∧ _ ∧ _); clear BK246 BK247 HB; obtain ⟨BK246, BK247, HB, BK248, GW248, GE248, NB246_248, NB248_246, NB247_248, NB248_247⟩ := n0_; clear hb hbox hg; have hnb5 := NB246_247.out; have hnc5 := NB247_246.out; have hnb6 := NB246_248.out; have hnc6 := NB248_246.out; obtain ⟨hcz7_0, hcz7_1, hcz7_2, hcz7_3⟩ := cz4 BK246.out; have hnb8 := NB248_247.out; have hnc8 := NB247_248.out; obtain ⟨hcz9_0, hcz9_1, hcz9_2, hcz9_3⟩ := cz4 BK248.out; have hfz9_0 := Zkf BK248.out 0; have hfz9_1 := Zkf BK248.out 1; have hfz9_2 := Zkf BK248.out 2; have hfz9_3 := Zkf BK248.out 3; obtain ⟨hcz10_0, hcz10_1, hcz10_2, hcz10_3⟩ := cz4 BK247.out; have hfz10_0 := Zkf BK247.out 0; have hfz10_1 := Zkf BK247.out 1; have hfz10_2 := Zkf BK247.out 2; have hfz10_3 := Zkf BK247.out 3))
 refine bodyPost_ret (results_cell_row rfl _ _ gb247 160 #[.int .i64 a0_0, .int .i64 a0_1, .int .i64 a0_2, .string a0_3] (0, 0) _ rfl (by (with_reducible repeat (first | refine Zkn ?_ _ | refine Zkd ?_ | refine Zka ?_ _)); refine Zkp (cs := #[.int .i64 a0_0, .int .i64 a0_1, .int .i64 a0_2, .string (⟨#[]⟩ : ByteArray)]) ?_ 3 _ rfl; (with_reducible repeat (first | refine Zkn ?_ _ | refine Zkd ?_ | refine Zka ?_ _)); refine Zkp (cs := #[.int .i64 a0_0, .int .i64 a0_1, .int .i64 0, .string (⟨#[]⟩ : ByteArray)]) ?_ 2 _ rfl; (with_reducible repeat (first | refine Zkn ?_ _ | refine Zkd ?_ | refine Zka ?_ _)); refine Zkp (cs := #[.int .i64 a0_0, .int .i64 0, .int .i64 0, .string (⟨#[]⟩ : ByteArray)]) ?_ 1 _ rfl; (with_reducible repeat (first | refine Zkn ?_ _ | refine Zkd ?_ | refine Zka ?_ _)); refine Zkp (cs := #[.int .i64 0, .int .i64 0, .int .i64 0, .string (⟨#[]⟩ : ByteArray)]) ?_ 0 _ rfl; (with_reducible repeat (first | refine Zkn ?_ _ | refine Zkd ?_ | refine Zka ?_ _)); refine Zkr ?_ NB247_248.out _; (with_reducible repeat (first | refine Zkn ?_ _ | refine Zkd ?_ | refine Zka ?_ _)); refine Zkr ?_ NB247_248.out _; (with_reducible repeat (first | refine Zkn ?_ _ | refine Zkd ?_ | refine Zka ?_ _)); refine Zkr ?_ NB247_248.out _; (with_reducible repeat (first | refine Zkn ?_ _ | refine Zkd ?_ | refine Zka ?_ _)); refine Zkr ?_ NB247_248.out _; (with_reducible repeat (first | refine Zkn ?_ _ | refine Zkd ?_ | refine Zka ?_ _)); exact BK247.out) Try.underlying160 rfl (by kernel_rfl)) rfl ?_
 exact ⟨by first | rfl | (simp [*] <;> rfl), by repeat (first | (with_reducible first | exact HB.out | apply Zba | apply Zbn | apply Zbd | refine Zbs ?_ GE246.out | refine Zbs ?_ GE247.out | refine Zbs ?_ GE248.out) | exact HB.out)⟩

/-! ### laws_toHandlerS: function 102 -/
def laws_toHandlerS.l0 : Nat → List (S201) → List (S160) → Int → Option ((List (S160)))
 | 0, _, _, _ => none
 | k + 1, x0, x3, x4 => if x4 < (x0.length : Int) then (if 0 ≤ x4 then ((laws_toHandler.f ((rd_T201 x0 x4).f0) ((rd_T201 x0 x4).f1) ((rd_T201 x0 x4).f2) ((rd_T201 x0 x4).f3)).bind fun bt253 => (if x4 < (x3.length : Int) then (laws_toHandlerS.l0 k x0 (x3.set (x4 : Int).toNat (⟨bt253.1, bt253.2.1, bt253.2.2.1, bt253.2.2.2⟩ : S160)) (wrap64 (x4 + 1))) else (none))) else (none)) else (some x3)
def laws_toHandlerS.f (k : Nat) (l0 : List (S201)) : Option ((List (S160))) := if 0 ≤ (l0.length : Int) then (if ((l0.length : Int) : Int).toNat ≤ 7036874417766 then (laws_toHandlerS.l0 k l0 (List.replicate ((l0.length : Int) : Int).toNat z160) 0) else (none)) else (none)
theorem laws_toHandlerS.mono_l : ∀ k, (∀ y0 y1 y2, LeO (laws_toHandlerS.l0 k y0 y1 y2) (laws_toHandlerS.l0 (k + 1) y0 y1 y2))
 | 0 => fun _ _ _ r h => by simp [laws_toHandlerS.l0] at h
 | k + 1 => by
  have ih0 := laws_toHandlerS.mono_l k
  · intro y0 y1 y2
    unfold laws_toHandlerS.l0
    repeat' first
    | (with_reducible exact ih0 _ _ _)
    | (with_reducible exact LeO.refl _)
    | (with_reducible exact LeO.none _)
    | (with_reducible refine LeO.ite ?_ ?_)
    | (with_reducible refine LeO.bind ?_ (fun _ => ?_))
    | exact ih0 _ _ _
    | exact LeO.none _
    | refine LeO.ite ?_ ?_
    | refine LeO.bind ?_ (fun _ => ?_)
theorem laws_toHandlerS.mono : ∀ a0 k, LeO (laws_toHandlerS.f k a0) (laws_toHandlerS.f (k + 1) a0) := by
 intro a0 k
 have ih0 := laws_toHandlerS.mono_l k
 unfold laws_toHandlerS.f
 repeat' first
  | (with_reducible exact ih0 _ _ _)
  | (with_reducible exact LeO.refl _)
  | (with_reducible exact LeO.none _)
  | (with_reducible refine LeO.ite ?_ ?_)
  | (with_reducible refine LeO.bind ?_ (fun _ => ?_))
  | exact ih0 _ _ _
  | exact LeO.none _
  | refine LeO.ite ?_ ?_
  | refine LeO.bind ?_ (fun _ => ?_)
set_option maxHeartbeats 8000000 in
set_option maxRecDepth 100000 in
theorem laws_toHandlerS.calls (k : Nat) (A0 : Option Addr) (c0 : Nat) (l0 : List (S201)) (r : List (S160)) (w : World) (hr0 : Kd.C k201 w A0 l0.length l0) (hc0 : l0.length ≤ c0) (h : laws_toHandlerS.f k l0 = some r) :
 Calls Try.prog 102 #[.slice A0 l0.length c0] w fun e w' => ∃ v0_ : Value, e = .returned (v0_) ∧ Kd.R k160 160 w' w.heap.size (fun _ => True) v0_ r ∧ Below w.heap.size w w' := by
 have hu201 := Try.underlying201
 have hu160 := Try.underlying160
 have HR0 := Zm hr0
 have HC0 := Zm hc0
 clear hr0 hc0
 have HB := Zm (Below.refl w.heap.size w)
 have H : (if 0 ≤ (l0.length : Int) then (if ((l0.length : Int) : Int).toNat ≤ 7036874417766 then (laws_toHandlerS.l0 k l0 (List.replicate ((l0.length : Int) : Int).toNat z160) 0) else (none)) else (none)) = some r := h
 clear h
 by_cases c2 : 0 ≤ (l0.length : Int)
 rotate_left
 · rw [if_neg c2] at H
   exact absurd H (by simp)

 rw [if_pos c2] at H
 have c2b0 := eq_true c2
 have c2b1 := decide_eq_true c2
 clear c2
 by_cases c3 : ((l0.length : Int) : Int).toNat ≤ 7036874417766
 rotate_left
 · rw [if_neg c3] at H
   exact absurd H (by simp)
 rw [if_pos c3] at H
 have c3b0 := eq_true c3
 have c3b1 := decide_eq_true c3
 clear c3
 obtain ⟨y249, hy249⟩ : ∃ y_ : List (S160), y_ = (List.replicate ((l0.length : Int) : Int).toNat z160) := ⟨_, rfl⟩
 replace H : (laws_toHandlerS.l0 k l0 y249 0) = some r := by first | (rw [hy249]; with_reducible exact H) | (have H2_ := (Option.bind_some _ _).symm.trans H; rw [hy249]; with_reducible exact H2_) | (have H2_ := (Option.bind_some _ _).symm.trans H; with_reducible exact H2_) | with_reducible exact H | (rw [hy249]; exact H) | exact H
 have Ny249 := Zm hy249
 clear hy249
 have H' := Zm H
 clear H
 go_enter Try.func102, Try.ntmps102
 go_wp2_with (first | ((with_reducible refine gate_dst (N := 7) rfl ?_); refine Kd.R_make k160 _ 160 rfl (N := 7) rfl 82 _ _ rfl (l0.length : Int) rfl rfl Try.underlying82 (.agg #[(.int .i64 0), (.int .i64 0), (.int .i64 0), (.string ⟨#[]⟩)]) 40 info160 rfl (by decide) (by omega) z160 (ok := fun _ => True) (okp := fun _ => True) (k160_mkM _ _ _ z160 ) (fun _ hk => hk) trivial (of_decide_eq_true (by first | (with_reducible assumption) | assumption)) (Nat.le_trans (Nat.mul_le_mul_right _ (of_decide_eq_true (by first | (with_reducible assumption) | assumption) : (l0.length : Int).toNat ≤ 7036874417766)) (by omega)) (Below.refl _ _) (Nat.le_refl _) ?_; intro v250 w4 ho5 hb hg_ hnew_; clear hg_ hnew_; (first | rw [← Ny249.out] at ho5 | (simp only [Int.reduceToNat] at ho5; rw [← Ny249.out] at ho5)); have n0_ := (⟨Zm (Kd.R_lower ho5 (Zbz (bk HB.out))), Zm (Zbt (bk HB.out) hb)⟩ : _ ∧ _); clear HB; obtain ⟨HO251, HB⟩ := n0_; clear hb ho5))
 go_loopg [4] k (fun kq v4 w' => ∃ (x3_1 : List (S160)) (x4_1 : Int), v4 = .int .i64 x4_1 ∧ Aside0 (laws_toHandlerS.l0 kq l0 x3_1 x4_1 = some r) ∧ Aside0 (kq ≤ k) ∧ Aside0 (Kd.R k160 160 w' w.heap.size (fun _ => True) v250 x3_1) ∧ Aside0 (Below w.heap.size w w'))
 case atStart => exact ⟨(y249), (0), (by first | rfl | (simp; done) | (simp [*]; done)), H', ⟨Nat.le_refl _⟩, ⟨by (with_reducible repeat (first | apply Kd.R_alloc | apply Kd.R_drewN | apply Kd.R_drew)); exact HO251.out⟩, ⟨bk HB.out⟩⟩
 case round =>
  clear H'
  (try clear c2); (try clear c2b0); (try clear c2b1); (try clear c3); (try clear c3b0); (try clear c3b1)
  obtain ⟨x3_1, x4_1, rfl, HA, HK1, HO_3, HB⟩ := hrel
  cases gk with
  | zero => exact absurd HA.out (by simp [laws_toHandlerS.l0])
  | succ k1 =>
   have H := HA.out
   clear HA
   simp only [laws_toHandlerS.l0] at H
   by_cases c6 : x4_1 < (l0.length : Int)
   rotate_left
   · rw [if_neg c6] at H
     have c6b0 := decide_eq_false c6
     clear c6
     obtain rfl := Option.some.inj H
     go_wp2
     go_ret
     exact ⟨_, by first | rfl | (simp [*] <;> rfl), by (with_reducible repeat (first | apply Kd.R_alloc | apply Kd.R_drewN | apply Kd.R_drew)); exact HO_3.out, bk HB.out⟩
   rw [if_pos c6] at H
   have c6b0 := decide_eq_true c6
   clear c6
   by_cases c7 : 0 ≤ x4_1
   rotate_left
   · rw [if_neg c7] at H
     exact absurd H (by simp)
   rw [if_pos c7] at H
   have c7b0 := decide_eq_true c7
   clear c7
   replace H := Option.bind_eq_some_iff.mp H
   obtain ⟨⟨t253, t254, t255, t256⟩, A80, H⟩ := H
   (try dsimp only at H)
   have A8 := Zm A80
   clear A80
   by_cases c9 : x4_1 < (x3_1.length : Int)
   rotate_left
   · rw [if_neg c9] at H
     exact absurd H (by simp)
   rw [if_pos c9] at H
   have c9b0 := decide_eq_true c9
   clear c9
   obtain ⟨y257, hy257⟩ : ∃ y_ : List (S160), y_ = (x3_1.set (x4_1 : Int).toNat (⟨t253, t254, t255, t256⟩ : S160)) := ⟨_, rfl⟩
   replace H : (laws_toHandlerS.l0 k1 l0 y257 (wrap64 (x4_1 + 1))) = some r := by first | (rw [hy257]; with_reducible exact H) | (have H2_ := (Option.bind_some _ _).symm.trans H; rw [hy257]; with_reducible exact H2_) | (have H2_ := (Option.bind_some _ _).symm.trans H; with_reducible exact H2_) | with_reducible exact H | (rw [hy257]; exact H) | exact H
   have Ny257 := Zm hy257
   clear hy257
   have H' := Zm H
   clear H
   have p252 : 0 ≤ (x4_1 : Int) := of_decide_eq_true (by first | (with_reducible assumption) | assumption)
   have q252 : x4_1 < (l0.length : Int) := of_decide_eq_true (by first | (with_reducible assumption) | assumption)
   obtain ⟨ad252, e252, hx252_0, hx252_1, hx252_2, hx252_3⟩ := at_T201 HR0.out x4_1 p252 q252
   cases e252
   replace hx252_0 := (HB.out.cell (Zlt _ _ hx252_0)).trans hx252_0
   replace hx252_1 := (HB.out.cell (Zlt _ _ hx252_1)).trans hx252_1
   replace hx252_2 := (HB.out.cell (Zlt _ _ hx252_2)).trans hx252_2
   replace hx252_3 := (HB.out.cell (Zlt _ _ hx252_3)).trans hx252_3
   replace p252 := eq_true p252
   replace q252 := eq_true q252
   go_wp2_with (first | ((with_reducible refine gate_callee (f := 149) rfl ?_); refine goesL_ (some 20) rfl rfl Try.func149 (by kernel_rfl) rfl #[.agg #[.int .i64 ((rd_T201 l0 x4_1).f0), .int .i64 ((rd_T201 l0 x4_1).f1), .int .i64 ((rd_T201 l0 x4_1).f2), .string ((rd_T201 l0 x4_1).f3)]] rfl (by (try simp only [List.map_toArray, List.map_cons, List.map_nil]); first | done | rfl | (simp only [List.length_drop, List.length_take]; rfl)) ?_; (with_reducible refine (laws_toHandler.calls ((rd_T201 l0 x4_1).f0) ((rd_T201 l0 x4_1).f1) ((rd_T201 l0 x4_1).f2) ((rd_T201 l0 x4_1).f3) t253 t254 t255 t256 _ A8.out).mono ?_); rintro e w11 ⟨rfl, hb⟩; refine ⟨_, rfl, ?_⟩; have n0_ := (⟨Zm (Kd.R_below (by (with_reducible repeat (first | apply Kd.R_alloc | apply Kd.R_drewN | apply Kd.R_drew)); exact HO_3.out) hb), Zm (Zbt (bk HB.out) hb)⟩ : _ ∧ _); clear HO_3 HB; obtain ⟨HO_3, HB⟩ := n0_; (try clear hb); (try clear hb2); (try clear hk); (try clear hi); have p10 : 0 ≤ (x4_1 : Int) := of_decide_eq_true (by first | (with_reducible assumption) | assumption); have q10 : (x4_1 : Int) < ((x3_1.length : Int) : Int) := of_decide_eq_true (by first | (with_reducible assumption) | assumption); obtain ⟨go10, co10, eo10, gb10, gl10, cl10, HG10⟩ := Kd.R_form HO_3.out (by omega); (first | cases eo10 | (injection eo10 with ea_ en_ ec_; (first | subst ea_ | (injection ea_ with ea_; subst ea_)); subst ec_; clear en_)); have GB10 := Zm gb10; have GG10 := Zm HG10; clear gb10 gl10 HG10; obtain ⟨ce10, hcl10, hM10, hcc10, hfr10⟩ := Kd.R_elem HO_3.out z160 (x4_1 : Int) p10 q10; obtain rfl := k160_openM hM10; have hx10_0 : w11.cell? ⟨go10, (x4_1 : Int).toNat * 4, none⟩ = some (.int .i64 ((rd_T160 x3_1 x4_1).f0)) := hcc10 0 _ rfl; have hx10_1 : w11.cell? ⟨go10, (x4_1 : Int).toNat * 4 + 1, none⟩ = some (.int .i64 ((rd_T160 x3_1 x4_1).f1)) := hcc10 1 _ rfl; have hx10_2 : w11.cell? ⟨go10, (x4_1 : Int).toNat * 4 + 2, none⟩ = some (.int .i64 ((rd_T160 x3_1 x4_1).f2)) := hcc10 2 _ rfl; have hx10_3 : w11.cell? ⟨go10, (x4_1 : Int).toNat * 4 + 3, none⟩ = some (.string ((rd_T160 x3_1 x4_1).f3)) := hcc10 3 _ rfl; have hf10_0 : w11.frozen? ⟨go10, (x4_1 : Int).toNat * 4, none⟩ = false := hfr10 0; have hf10_1 : w11.frozen? ⟨go10, (x4_1 : Int).toNat * 4 + 1, none⟩ = false := hfr10 1; have hf10_2 : w11.frozen? ⟨go10, (x4_1 : Int).toNat * 4 + 2, none⟩ = false := hfr10 2; have hf10_3 : w11.frozen? ⟨go10, (x4_1 : Int).toNat * 4 + 3, none⟩ = false := hfr10 3; clear hcl10 hcc10 hfr10 hM10; replace p10 := eq_true p10; replace q10 := eq_true q10; have HX12 := Zm (show Kd.R k160 160 w11 w.heap.size (fun _ => True) (.slice (some ⟨go10, 0, none⟩) x3_1.length co10) x3_1 from (by (with_reducible repeat (first | apply Kd.R_alloc | apply Kd.R_drewN | apply Kd.R_drew)); exact HO_3.out)); obtain ⟨ce12, hcl12, hM12, hcc12, hfr12⟩ := Kd.R_elem HX12.out z160 (x4_1 : Int) (of_decide_eq_true (by first | (with_reducible assumption) | assumption)) (by have h_ : (x4_1 : Int) < ((x3_1.length : Int) : Int) := of_decide_eq_true (by first | (with_reducible assumption) | assumption); first | exact h_ | (have e_ := (Kd.R_reads' HO_3.out).1; omega) | simpa using h_); obtain rfl := k160_openM hM12; have HP12 := Kd.R_seg HX12.out (x4_1 : Int) (of_decide_eq_true (by first | (with_reducible assumption) | assumption)) (by have h_ : (x4_1 : Int) < ((x3_1.length : Int) : Int) := of_decide_eq_true (by first | (with_reducible assumption) | assumption); first | exact h_ | (have e_ := (Kd.R_reads' HO_3.out).1; omega) | simpa using h_) (seg := [.int .i64 t253, .int .i64 t254, .int .i64 t255, .string t256]) (j := 0) hcl12 hcc12 (show 4 ≤ 4 from by decide) (x' := (⟨t253, t254, t255, t256⟩ : S160)) (k160_mkM _ _ _ (⟨t253, t254, t255, t256⟩ : S160) ) (fun _ hk => hk); have hx12_0 := hcc12 0 _ rfl; (try simp only [show (k160).sz = 4 from rfl, Nat.mul_one, Nat.add_zero] at hx12_0); have hf12_0 := hfr12 0; (try simp only [show (k160).sz = 4 from rfl, Nat.mul_one, Nat.add_zero] at hf12_0); have hx12_1 := hcc12 1 _ rfl; (try simp only [show (k160).sz = 4 from rfl, Nat.mul_one, Nat.add_zero] at hx12_1); have hf12_1 := hfr12 1; (try simp only [show (k160).sz = 4 from rfl, Nat.mul_one, Nat.add_zero] at hf12_1); have hx12_2 := hcc12 2 _ rfl; (try simp only [show (k160).sz = 4 from rfl, Nat.mul_one, Nat.add_zero] at hx12_2); have hf12_2 := hfr12 2; (try simp only [show (k160).sz = 4 from rfl, Nat.mul_one, Nat.add_zero] at hf12_2); have hx12_3 := hcc12 3 _ rfl; (try simp only [show (k160).sz = 4 from rfl, Nat.mul_one, Nat.add_zero] at hx12_3); have hf12_3 := hfr12 3; (try simp only [show (k160).sz = 4 from rfl, Nat.mul_one, Nat.add_zero] at hf12_3); clear hcl12 hcc12 hfr12 hM12) | ((with_reducible refine gate_store (t := 160) (p := 21) rfl ?_); refine store_event (t := 160) (p := 21) (v := ?vo_w13) (w1 := ((((w11.setCell ⟨go10, (x4_1 : Int).toNat * 4, none⟩ (.int .i64 t253)).setCell ⟨go10, (x4_1 : Int).toNat * 4 + 1, none⟩ (.int .i64 t254)).setCell ⟨go10, (x4_1 : Int).toNat * 4 + 2, none⟩ (.int .i64 t255)).setCell ⟨go10, (x4_1 : Int).toNat * 4 + 3, none⟩ (.string t256))) ?hg ?ho ?hn ?hr ?_; (case ho => rfl); (case hg => rfl); (case hn => rfl); (case hr => first | (go_simp; done) | (go_simp; rfl)); intro w13 hw; have hg : w11.grownBy w13 (some go10) := (by rw [hw]; exact HP12.2); have hp_ : Kd.R k160 160 w13 w.heap.size (fun _ => True) (.slice (some ⟨go10, 0, none⟩) x3_1.length co10) y257 := (by rw [hw, Ny257.out]; exact HP12.1); clear HP12; have n0_ := (⟨Zm (hp_), Zm ((by rw [hw]; exact Zbs (Zbs (Zbs (Zbs (HB.out) GB10.out) GB10.out) GB10.out) GB10.out : Below w.heap.size w w13))⟩ : _ ∧ _); clear HO_3 HB; obtain ⟨HO_3, HB⟩ := n0_; clear hg hw hp_))
   go_roundg k1
   case measure => have := HK1.out; omega
   case rel => exact ⟨(y257), (wrap64 (x4_1 + 1)), (by first | rfl | (simp; done) | (simp [*]; done)), H', ⟨by have := HK1.out; omega⟩, ⟨by (with_reducible repeat (first | apply Kd.R_alloc | apply Kd.R_drewN | apply Kd.R_drew)); exact HO_3.out⟩, ⟨bk HB.out⟩⟩
/-! ### laws_toMethod: function 35 -/
def laws_toMethod.f (k : Nat) (a0_0 : ByteArray) (a0_1 : ByteArray) (a0_2 : Bool) (a0_3 : Bool) (a0_4 : Bool) (a0_5 : Int) (a0_6 : Int) (l0_7 : List (S199)) (l0_8 : List (S201)) : Option (ByteArray × ByteArray × Bool × Bool × Bool × Int × Int × (List (S156)) × (List (S160))) := (laws_toInsS.f k l0_7).bind fun t261 => ((laws_toHandlerS.f k l0_8).bind fun t264 => (some (a0_0, a0_1, a0_2, a0_3, a0_4, a0_5, a0_6, t261, t264)))
theorem laws_toMethod.mono : ∀ a0 a1 a2 a3 a4 a5 a6 a7 a8 k, LeO (laws_toMethod.f k a0 a1 a2 a3 a4 a5 a6 a7 a8) (laws_toMethod.f (k + 1) a0 a1 a2 a3 a4 a5 a6 a7 a8) := by
 intro a0 a1 a2 a3 a4 a5 a6 a7 a8 k
 unfold laws_toMethod.f
 repeat' first
  | (with_reducible exact laws_toHandlerS.mono _ _)
  | (with_reducible exact laws_toInsS.mono _ _)
  | (with_reducible exact LeO.refl _)
  | (with_reducible exact LeO.none _)
  | (with_reducible refine LeO.ite ?_ ?_)
  | (with_reducible refine LeO.bind ?_ (fun _ => ?_))
  | exact laws_toHandlerS.mono _ _
  | exact laws_toInsS.mono _ _
  | exact LeO.none _
  | refine LeO.ite ?_ ?_
  | refine LeO.bind ?_ (fun _ => ?_)
set_option maxHeartbeats 8000000 in
set_option maxRecDepth 100000 in
theorem laws_toMethod.calls (k : Nat) (a0_0 : ByteArray) (a0_1 : ByteArray) (a0_2 : Bool) (a0_3 : Bool) (a0_4 : Bool) (a0_5 : Int) (a0_6 : Int) (A0_7 : Option Addr) (c0_7 : Nat) (l0_7 : List (S199)) (A0_8 : Option Addr) (c0_8 : Nat) (l0_8 : List (S201)) (r1 : ByteArray) (r2 : ByteArray) (r3 : Bool) (r4 : Bool) (r5 : Bool) (r6 : Int) (r7 : Int) (r8 : List (S156)) (r9 : List (S160)) (w : World) (hr0_7 : Kd.C k199 w A0_7 l0_7.length l0_7) (hc0_7 : l0_7.length ≤ c0_7) (hr0_8 : Kd.C k201 w A0_8 l0_8.length l0_8) (hc0_8 : l0_8.length ≤ c0_8) (h : laws_toMethod.f k a0_0 a0_1 a0_2 a0_3 a0_4 a0_5 a0_6 l0_7 l0_8 = some (r1, r2, r3, r4, r5, r6, r7, r8, r9)) :
 Calls Try.prog 35 #[.agg #[.string a0_0, .string a0_1, .bool a0_2, .bool a0_3, .bool a0_4, .int .i64 a0_5, .int .i64 a0_6, .slice A0_7 l0_7.length c0_7, .slice A0_8 l0_8.length c0_8]] w fun e w' => ∃ v7_ v8_ : Value, e = .returned (.agg #[.string r1, .string r2, .bool r3, .bool r4, .bool r5, .int .i64 r6, .int .i64 r7, v7_, v8_]) ∧ Kd.R k156 156 w' w.heap.size (fun _ => True) v7_ r8 ∧ Kd.R k160 160 w' w.heap.size (fun _ => True) v8_ r9 ∧ Below w.heap.size w w' := by
 have hu78 := Try.underlying78
 have hu84 := Try.underlying84
 have HR0_7 := Zm hr0_7
 have HC0_7 := Zm hc0_7
 clear hr0_7 hc0_7
 have HR0_8 := Zm hr0_8
 have HC0_8 := Zm hc0_8
 clear hr0_8 hc0_8
 have HB := Zm (Below.refl w.heap.size w)
 have H : ((laws_toInsS.f k l0_7).bind fun t261 => ((laws_toHandlerS.f k l0_8).bind fun t264 => (some (a0_0, a0_1, a0_2, a0_3, a0_4, a0_5, a0_6, t261, t264)))) = some (r1, r2, r3, r4, r5, r6, r7, r8, r9) := h
 clear h
 replace H := Option.bind_eq_some_iff.mp H
 obtain ⟨t261, A20, H⟩ := H
 replace H : ((laws_toHandlerS.f k l0_8).bind fun t264 => (some (a0_0, a0_1, a0_2, a0_3, a0_4, a0_5, a0_6, t261, t264))) = some (r1, r2, r3, r4, r5, r6, r7, r8, r9) := H
 have A2 := Zm A20
 clear A20
 replace H := Option.bind_eq_some_iff.mp H
 obtain ⟨t264, A30, H⟩ := H
 replace H : (some (a0_0, a0_1, a0_2, a0_3, a0_4, a0_5, a0_6, t261, t264)) = some (r1, r2, r3, r4, r5, r6, r7, r8, r9) := H
 have A3 := Zm A30
 clear A30
 simp only [Option.some.injEq, Prod.mk.injEq] at H
 obtain ⟨rfl, rfl, rfl, rfl, rfl, rfl, rfl, rfl, rfl⟩ := H
 go_enter Try.func35, Try.ntmps35
 go_wp2_with (first | ((with_reducible refine gate_dst (N := 1) rfl ?_); refine box_event ?hg (N := 1) ?hd (cs := #[.string a0_0, .string a0_1, .bool a0_2, .bool a0_3, .bool a0_4, .int .i64 a0_5, .int .i64 a0_6, .slice A0_7 l0_7.length c0_7, .slice A0_8 l0_8.length c0_8]) (t := 78) ?hr ?_; (case hd => rfl); (case hg => rfl); (case hr => first | (go_simp; done) | (go_simp; rfl)); intro gb258 hg w4 hbox hb; have n0_ := (⟨Zm (Zbt (bk HB.out) hb), Zm (hbox), Zm ((by rw [hg]; exact (Zbz (bk HB.out)) : w.heap.size ≤ gb258)), Zm ((by rw [hg]; exact (Zbz (bk HB.out)) : w.heap.size ≤ gb258))⟩ : _ ∧ _ ∧ _ ∧ _); clear HB; obtain ⟨HB, BK258, GW258, GE258⟩ := n0_; clear hb hbox hg) | ((with_reducible refine gate_dst (N := 2) rfl ?_); refine box_event ?hg (N := 2) ?hd (cs := #[.string (⟨#[]⟩ : ByteArray), .string (⟨#[]⟩ : ByteArray), .bool false, .bool false, .bool false, .int .i64 0, .int .i64 0, .slice none 0 0, .slice none 0 0]) (t := 84) ?hr ?_; (case hd => rfl); (case hg => rfl); (case hr => first | (go_simp; done) | (go_simp; rfl)); intro gb259 hg w5 hbox hb; have n0_ := (⟨Zm (Zkb (pk BK258.out) hb), Zm (Zbt (bk HB.out) hb), Zm (hbox), Zm ((by rw [hg]; exact (Zbz (bk HB.out)) : w.heap.size ≤ gb259)), Zm ((by rw [hg]; exact (Zbz (bk HB.out)) : w.heap.size ≤ gb259)), Zm ((by rw [hg]; exact Nat.ne_of_lt (blk_lt (pk BK258.out)) : gb258 ≠ gb259)), Zm ((by rw [hg]; exact Nat.ne_of_gt (blk_lt (pk BK258.out)) : gb259 ≠ gb258))⟩ : _ ∧ _ ∧ _ ∧ _ ∧ _ ∧ _ ∧ _); clear BK258 HB; obtain ⟨BK258, HB, BK259, GW259, GE259, NB258_259, NB259_258⟩ := n0_; clear hb hbox hg) | ((with_reducible refine gate_dst (N := 3) rfl ?_); refine box_event ?hg (N := 3) ?hd (cs := #[.string (⟨#[]⟩ : ByteArray), .string (⟨#[]⟩ : ByteArray), .bool false, .bool false, .bool false, .int .i64 0, .int .i64 0, .slice none 0 0, .slice none 0 0]) (t := 84) ?hr ?_; (case hd => rfl); (case hg => rfl); (case hr => first | (go_simp; done) | (go_simp; rfl)); intro gb260 hg w6 hbox hb; have n0_ := (⟨Zm (Zkb (pk BK258.out) hb), Zm (Zkb (pk BK259.out) hb), Zm (Zbt (bk HB.out) hb), Zm (hbox), Zm ((by rw [hg]; exact (Zbz (bk HB.out)) : w.heap.size ≤ gb260)), Zm ((by rw [hg]; exact (Zbz (bk HB.out)) : w.heap.size ≤ gb260)), Zm ((by rw [hg]; exact Nat.ne_of_lt (blk_lt (pk BK258.out)) : gb258 ≠ gb260)), Zm ((by rw [hg]; exact Nat.ne_of_gt (blk_lt (pk BK258.out)) : gb260 ≠ gb258)), Zm ((by rw [hg]; exact Nat.ne_of_lt (blk_lt (pk BK259.out)) : gb259 ≠ gb260)), Zm ((by rw [hg]; exact Nat.ne_of_gt (blk_lt (pk BK259.out)) : gb260 ≠ gb259))⟩ : _ ∧ _ ∧ _ ∧ _ ∧ _ ∧ _ ∧ _ ∧ _ ∧ _ ∧ _); clear BK258 BK259 HB; obtain ⟨BK258, BK259, HB, BK260, GW260, GE260, NB258_260, NB260_258, NB259_260, NB260_259⟩ := n0_; clear hb hbox hg; have hnb7 := NB258_259.out; have hnc7 := NB259_258.out; have hnb8 := NB258_260.out; have hnc8 := NB260_258.out; obtain ⟨hcz9_0, hcz9_1, hcz9_2, hcz9_3, hcz9_4, hcz9_5, hcz9_6, hcz9_7, hcz9_8⟩ := cz9 BK258.out; have hnb10 := NB260_259.out; have hnc10 := NB259_260.out; obtain ⟨hcz11_0, hcz11_1, hcz11_2, hcz11_3, hcz11_4, hcz11_5, hcz11_6, hcz11_7, hcz11_8⟩ := cz9 BK260.out; have hfz11_0 := Zkf BK260.out 0; have hfz11_1 := Zkf BK260.out 1; have hfz11_2 := Zkf BK260.out 2; have hfz11_3 := Zkf BK260.out 3; have hfz11_4 := Zkf BK260.out 4; have hfz11_5 := Zkf BK260.out 5; have hfz11_6 := Zkf BK260.out 6; have hfz11_7 := Zkf BK260.out 7; have hfz11_8 := Zkf BK260.out 8) | ((with_reducible refine gate_callee (f := 101) rfl ?_); refine goesL_ (some 27) rfl rfl Try.func101 (by kernel_rfl) rfl #[.slice A0_7 l0_7.length c0_7] rfl (by (try simp only [List.map_toArray, List.map_cons, List.map_nil]); first | done | rfl | (simp only [List.length_drop, List.length_take]; rfl)) ?_; (with_reducible refine (laws_toInsS.calls k _ _ l0_7 t261 _ ?side1 ?side2 A2.out).mono ?_); (case side1 => exact Kd.C_below HR0_7.out (by repeat (first | (with_reducible first | exact HB.out | apply Zba | apply Zbn | apply Zbd | refine Zbs ?_ GE258.out | refine Zbs ?_ GE259.out | refine Zbs ?_ GE260.out) | exact HB.out))); (case side2 => exact HC0_7.out); rintro e w12 ⟨v262, rfl, ho0, hb⟩; refine ⟨_, rfl, ?_⟩; have n0_ := (⟨Zm (Kd.R_lower ho0 (Zbz (by repeat (first | (with_reducible first | exact HB.out | apply Zba | apply Zbn | apply Zbd | refine Zbs ?_ GE258.out | refine Zbs ?_ GE259.out | refine Zbs ?_ GE260.out) | exact HB.out)))), Zm (Zkb (g := gb258) (o := .cells #[.string a0_0, .string a0_1, .bool a0_2, .bool a0_3, .bool a0_4, .int .i64 a0_5, .int .i64 a0_6, .slice A0_7 l0_7.length c0_7, .slice A0_8 l0_8.length c0_8] 78 (0, 0)) (by (with_reducible repeat (first | refine Zkn ?_ _ | refine Zkd ?_ | refine Zka ?_ _)); refine Zkr ?_ NB258_260.out _; (with_reducible repeat (first | refine Zkn ?_ _ | refine Zkd ?_ | refine Zka ?_ _)); refine Zkr ?_ NB258_260.out _; (with_reducible repeat (first | refine Zkn ?_ _ | refine Zkd ?_ | refine Zka ?_ _)); refine Zkr ?_ NB258_260.out _; (with_reducible repeat (first | refine Zkn ?_ _ | refine Zkd ?_ | refine Zka ?_ _)); refine Zkr ?_ NB258_260.out _; (with_reducible repeat (first | refine Zkn ?_ _ | refine Zkd ?_ | refine Zka ?_ _)); refine Zkr ?_ NB258_260.out _; (with_reducible repeat (first | refine Zkn ?_ _ | refine Zkd ?_ | refine Zka ?_ _)); refine Zkr ?_ NB258_260.out _; (with_reducible repeat (first | refine Zkn ?_ _ | refine Zkd ?_ | refine Zka ?_ _)); refine Zkr ?_ NB258_260.out _; (with_reducible repeat (first | refine Zkn ?_ _ | refine Zkd ?_ | refine Zka ?_ _)); exact BK258.out) hb), Zm (Zkb (g := gb259) (o := .cells #[.string (⟨#[]⟩ : ByteArray), .string (⟨#[]⟩ : ByteArray), .bool false, .bool false, .bool false, .int .i64 0, .int .i64 0, .slice none 0 0, .slice none 0 0] 84 (0, 0)) (by (with_reducible repeat (first | refine Zkn ?_ _ | refine Zkd ?_ | refine Zka ?_ _)); refine Zkr ?_ NB259_260.out _; (with_reducible repeat (first | refine Zkn ?_ _ | refine Zkd ?_ | refine Zka ?_ _)); refine Zkr ?_ NB259_260.out _; (with_reducible repeat (first | refine Zkn ?_ _ | refine Zkd ?_ | refine Zka ?_ _)); refine Zkr ?_ NB259_260.out _; (with_reducible repeat (first | refine Zkn ?_ _ | refine Zkd ?_ | refine Zka ?_ _)); refine Zkr ?_ NB259_260.out _; (with_reducible repeat (first | refine Zkn ?_ _ | refine Zkd ?_ | refine Zka ?_ _)); refine Zkr ?_ NB259_260.out _; (with_reducible repeat (first | refine Zkn ?_ _ | refine Zkd ?_ | refine Zka ?_ _)); refine Zkr ?_ NB259_260.out _; (with_reducible repeat (first | refine Zkn ?_ _ | refine Zkd ?_ | refine Zka ?_ _)); refine Zkr ?_ NB259_260.out _; (with_reducible repeat (first | refine Zkn ?_ _ | refine Zkd ?_ | refine Zka ?_ _)); exact BK259.out) hb), Zm (Zkb (g := gb260) (o := .cells #[.string a0_0, .string a0_1, .bool a0_2, .bool a0_3, .bool a0_4, .int .i64 a0_5, .int .i64 a0_6, .slice none 0 0, .slice none 0 0] 84 (0, 0)) (by (with_reducible repeat (first | refine Zkn ?_ _ | refine Zkd ?_ | refine Zka ?_ _)); refine Zkp (cs := #[.string a0_0, .string a0_1, .bool a0_2, .bool a0_3, .bool a0_4, .int .i64 a0_5, .int .i64 0, .slice none 0 0, .slice none 0 0]) ?_ 6 _ rfl; (with_reducible repeat (first | refine Zkn ?_ _ | refine Zkd ?_ | refine Zka ?_ _)); refine Zkp (cs := #[.string a0_0, .string a0_1, .bool a0_2, .bool a0_3, .bool a0_4, .int .i64 0, .int .i64 0, .slice none 0 0, .slice none 0 0]) ?_ 5 _ rfl; (with_reducible repeat (first | refine Zkn ?_ _ | refine Zkd ?_ | refine Zka ?_ _)); refine Zkp (cs := #[.string a0_0, .string a0_1, .bool a0_2, .bool a0_3, .bool false, .int .i64 0, .int .i64 0, .slice none 0 0, .slice none 0 0]) ?_ 4 _ rfl; (with_reducible repeat (first | refine Zkn ?_ _ | refine Zkd ?_ | refine Zka ?_ _)); refine Zkp (cs := #[.string a0_0, .string a0_1, .bool a0_2, .bool false, .bool false, .int .i64 0, .int .i64 0, .slice none 0 0, .slice none 0 0]) ?_ 3 _ rfl; (with_reducible repeat (first | refine Zkn ?_ _ | refine Zkd ?_ | refine Zka ?_ _)); refine Zkp (cs := #[.string a0_0, .string a0_1, .bool false, .bool false, .bool false, .int .i64 0, .int .i64 0, .slice none 0 0, .slice none 0 0]) ?_ 2 _ rfl; (with_reducible repeat (first | refine Zkn ?_ _ | refine Zkd ?_ | refine Zka ?_ _)); refine Zkp (cs := #[.string a0_0, .string (⟨#[]⟩ : ByteArray), .bool false, .bool false, .bool false, .int .i64 0, .int .i64 0, .slice none 0 0, .slice none 0 0]) ?_ 1 _ rfl; (with_reducible repeat (first | refine Zkn ?_ _ | refine Zkd ?_ | refine Zka ?_ _)); refine Zkp (cs := #[.string (⟨#[]⟩ : ByteArray), .string (⟨#[]⟩ : ByteArray), .bool false, .bool false, .bool false, .int .i64 0, .int .i64 0, .slice none 0 0, .slice none 0 0]) ?_ 0 _ rfl; (with_reducible repeat (first | refine Zkn ?_ _ | refine Zkd ?_ | refine Zka ?_ _)); exact BK260.out) hb), Zm (Zbt (by repeat (first | (with_reducible first | exact HB.out | apply Zba | apply Zbn | apply Zbd | refine Zbs ?_ GE258.out | refine Zbs ?_ GE259.out | refine Zbs ?_ GE260.out) | exact HB.out)) hb)⟩ : _ ∧ _ ∧ _ ∧ _ ∧ _); clear BK258 BK259 BK260 HB; obtain ⟨HO263, BK258, BK259, BK260, HB⟩ := n0_; (try clear hb); (try clear hb2); (try clear hk); (try clear hi); (try clear ho0); obtain ⟨Ao13, co13, eo13⟩ := Kd.R_slice HO263.out; subst eo13; obtain ⟨hcz14_0, hcz14_1, hcz14_2, hcz14_3, hcz14_4, hcz14_5, hcz14_6, hcz14_7, hcz14_8⟩ := cz9 BK260.out; have hfz14_0 := Zkf BK260.out 0; have hfz14_1 := Zkf BK260.out 1; have hfz14_2 := Zkf BK260.out 2; have hfz14_3 := Zkf BK260.out 3; have hfz14_4 := Zkf BK260.out 4; have hfz14_5 := Zkf BK260.out 5; have hfz14_6 := Zkf BK260.out 6; have hfz14_7 := Zkf BK260.out 7; have hfz14_8 := Zkf BK260.out 8; obtain ⟨hcz15_0, hcz15_1, hcz15_2, hcz15_3, hcz15_4, hcz15_5, hcz15_6, hcz15_7, hcz15_8⟩ := cz9 BK258.out; have hfz15_8 := Zkf BK258.out 8) | ((with_reducible refine gate_callee (f := 102) rfl ?_); refine goesL_ (some 31) rfl rfl Try.func102 (by kernel_rfl) rfl #[.slice A0_8 l0_8.length c0_8] rfl (by (try simp only [List.map_toArray, List.map_cons, List.map_nil]); first | done | rfl | (simp only [List.length_drop, List.length_take]; rfl)) ?_; (with_reducible refine (laws_toHandlerS.calls k _ _ l0_8 t264 _ ?side1 ?side2 A3.out).mono ?_); (case side1 => exact Kd.C_below HR0_8.out (by repeat (first | (with_reducible first | exact HB.out | apply Zba | apply Zbn | apply Zbd | refine Zbs ?_ GE258.out | refine Zbs ?_ GE259.out | refine Zbs ?_ GE260.out) | exact HB.out))); (case side2 => exact HC0_8.out); rintro e w16 ⟨v265, rfl, ho0, hb⟩; refine ⟨_, rfl, ?_⟩; have n0_ := (⟨Zm (Kd.R_below (by (with_reducible repeat (first | apply Kd.R_alloc | apply Kd.R_drewN | apply Kd.R_drew)); exact (Kd.R_mono (Kd.R_far (p := ⟨gb260, 7, none⟩) (Kd.R_types HO263.out BK260.out (by decide)) (fun _ hk => hk.2) (.slice Ao13 t261.length co13)) (fun _ h_ => h_.1))) hb), Zm (Kd.R_lower ho0 (Zbz (by repeat (first | (with_reducible first | exact HB.out | apply Zba | apply Zbn | apply Zbd | refine Zbs ?_ GE258.out | refine Zbs ?_ GE259.out | refine Zbs ?_ GE260.out) | exact HB.out)))), Zm (Zkb (g := gb258) (o := .cells #[.string a0_0, .string a0_1, .bool a0_2, .bool a0_3, .bool a0_4, .int .i64 a0_5, .int .i64 a0_6, .slice A0_7 l0_7.length c0_7, .slice A0_8 l0_8.length c0_8] 78 (0, 0)) (by (with_reducible repeat (first | refine Zkn ?_ _ | refine Zkd ?_ | refine Zka ?_ _)); refine Zkr ?_ NB258_260.out _; (with_reducible repeat (first | refine Zkn ?_ _ | refine Zkd ?_ | refine Zka ?_ _)); exact BK258.out) hb), Zm (Zkb (g := gb259) (o := .cells #[.string (⟨#[]⟩ : ByteArray), .string (⟨#[]⟩ : ByteArray), .bool false, .bool false, .bool false, .int .i64 0, .int .i64 0, .slice none 0 0, .slice none 0 0] 84 (0, 0)) (by (with_reducible repeat (first | refine Zkn ?_ _ | refine Zkd ?_ | refine Zka ?_ _)); refine Zkr ?_ NB259_260.out _; (with_reducible repeat (first | refine Zkn ?_ _ | refine Zkd ?_ | refine Zka ?_ _)); exact BK259.out) hb), Zm (Zkb (g := gb260) (o := .cells #[.string a0_0, .string a0_1, .bool a0_2, .bool a0_3, .bool a0_4, .int .i64 a0_5, .int .i64 a0_6, .slice Ao13 t261.length co13, .slice none 0 0] 84 (0, 0)) (by (with_reducible repeat (first | refine Zkn ?_ _ | refine Zkd ?_ | refine Zka ?_ _)); refine Zkp (cs := #[.string a0_0, .string a0_1, .bool a0_2, .bool a0_3, .bool a0_4, .int .i64 a0_5, .int .i64 a0_6, .slice none 0 0, .slice none 0 0]) ?_ 7 _ rfl; (with_reducible repeat (first | refine Zkn ?_ _ | refine Zkd ?_ | refine Zka ?_ _)); exact BK260.out) hb), Zm (Zbt (by repeat (first | (with_reducible first | exact HB.out | apply Zba | apply Zbn | apply Zbd | refine Zbs ?_ GE258.out | refine Zbs ?_ GE259.out | refine Zbs ?_ GE260.out) | exact HB.out)) hb)⟩ : _ ∧ _ ∧ _ ∧ _ ∧ _ ∧ _); clear HO263 BK258 BK259 BK260 HB; obtain ⟨HO263, HO266, BK258, BK259, BK260, HB⟩ := n0_; (try clear hb); (try clear hb2); (try clear hk); (try clear hi); (try clear ho0); obtain ⟨Ao17, co17, eo17⟩ := Kd.R_slice HO266.out; subst eo17; obtain ⟨hcz18_0, hcz18_1, hcz18_2, hcz18_3, hcz18_4, hcz18_5, hcz18_6, hcz18_7, hcz18_8⟩ := cz9 BK260.out; have hfz18_0 := Zkf BK260.out 0; have hfz18_1 := Zkf BK260.out 1; have hfz18_2 := Zkf BK260.out 2; have hfz18_3 := Zkf BK260.out 3; have hfz18_4 := Zkf BK260.out 4; have hfz18_5 := Zkf BK260.out 5; have hfz18_6 := Zkf BK260.out 6; have hfz18_7 := Zkf BK260.out 7; have hfz18_8 := Zkf BK260.out 8; obtain ⟨hcz19_0, hcz19_1, hcz19_2, hcz19_3, hcz19_4, hcz19_5, hcz19_6, hcz19_7, hcz19_8⟩ := cz9 BK259.out; have hfz19_0 := Zkf BK259.out 0; have hfz19_1 := Zkf BK259.out 1; have hfz19_2 := Zkf BK259.out 2; have hfz19_3 := Zkf BK259.out 3; have hfz19_4 := Zkf BK259.out 4; have hfz19_5 := Zkf BK259.out 5; have hfz19_6 := Zkf BK259.out 6; have hfz19_7 := Zkf BK259.out 7; have hfz19_8 := Zkf BK259.out 8))
 refine bodyPost_ret (results_cell_row rfl _ _ gb259 84 #[.string a0_0, .string a0_1, .bool a0_2, .bool a0_3, .bool a0_4, .int .i64 a0_5, .int .i64 a0_6, .slice Ao13 t261.length co13, .slice Ao17 t264.length co17] (0, 0) _ rfl (by (with_reducible repeat (first | refine Zkn ?_ _ | refine Zkd ?_ | refine Zka ?_ _)); refine Zkp (cs := #[.string a0_0, .string a0_1, .bool a0_2, .bool a0_3, .bool a0_4, .int .i64 a0_5, .int .i64 a0_6, .slice Ao13 t261.length co13, .slice none 0 0]) ?_ 8 _ rfl; (with_reducible repeat (first | refine Zkn ?_ _ | refine Zkd ?_ | refine Zka ?_ _)); refine Zkp (cs := #[.string a0_0, .string a0_1, .bool a0_2, .bool a0_3, .bool a0_4, .int .i64 a0_5, .int .i64 a0_6, .slice none 0 0, .slice none 0 0]) ?_ 7 _ rfl; (with_reducible repeat (first | refine Zkn ?_ _ | refine Zkd ?_ | refine Zka ?_ _)); refine Zkp (cs := #[.string a0_0, .string a0_1, .bool a0_2, .bool a0_3, .bool a0_4, .int .i64 a0_5, .int .i64 0, .slice none 0 0, .slice none 0 0]) ?_ 6 _ rfl; (with_reducible repeat (first | refine Zkn ?_ _ | refine Zkd ?_ | refine Zka ?_ _)); refine Zkp (cs := #[.string a0_0, .string a0_1, .bool a0_2, .bool a0_3, .bool a0_4, .int .i64 0, .int .i64 0, .slice none 0 0, .slice none 0 0]) ?_ 5 _ rfl; (with_reducible repeat (first | refine Zkn ?_ _ | refine Zkd ?_ | refine Zka ?_ _)); refine Zkp (cs := #[.string a0_0, .string a0_1, .bool a0_2, .bool a0_3, .bool false, .int .i64 0, .int .i64 0, .slice none 0 0, .slice none 0 0]) ?_ 4 _ rfl; (with_reducible repeat (first | refine Zkn ?_ _ | refine Zkd ?_ | refine Zka ?_ _)); refine Zkp (cs := #[.string a0_0, .string a0_1, .bool a0_2, .bool false, .bool false, .int .i64 0, .int .i64 0, .slice none 0 0, .slice none 0 0]) ?_ 3 _ rfl; (with_reducible repeat (first | refine Zkn ?_ _ | refine Zkd ?_ | refine Zka ?_ _)); refine Zkp (cs := #[.string a0_0, .string a0_1, .bool false, .bool false, .bool false, .int .i64 0, .int .i64 0, .slice none 0 0, .slice none 0 0]) ?_ 2 _ rfl; (with_reducible repeat (first | refine Zkn ?_ _ | refine Zkd ?_ | refine Zka ?_ _)); refine Zkp (cs := #[.string a0_0, .string (⟨#[]⟩ : ByteArray), .bool false, .bool false, .bool false, .int .i64 0, .int .i64 0, .slice none 0 0, .slice none 0 0]) ?_ 1 _ rfl; (with_reducible repeat (first | refine Zkn ?_ _ | refine Zkd ?_ | refine Zka ?_ _)); refine Zkp (cs := #[.string (⟨#[]⟩ : ByteArray), .string (⟨#[]⟩ : ByteArray), .bool false, .bool false, .bool false, .int .i64 0, .int .i64 0, .slice none 0 0, .slice none 0 0]) ?_ 0 _ rfl; (with_reducible repeat (first | refine Zkn ?_ _ | refine Zkd ?_ | refine Zka ?_ _)); refine Zkr ?_ NB259_260.out _; (with_reducible repeat (first | refine Zkn ?_ _ | refine Zkd ?_ | refine Zka ?_ _)); exact BK259.out) Try.underlying84 rfl (by kernel_rfl)) rfl ?_
 exact ⟨_, _, by first | rfl | (simp [*] <;> rfl), by (with_reducible repeat (first | apply Kd.R_alloc | apply Kd.R_drewN | apply Kd.R_drew)); exact Kd.R_mono (Kd.R_far (p := ⟨gb259, 8, none⟩) (Kd.R_far (p := ⟨gb259, 7, none⟩) (Kd.R_far (p := ⟨gb259, 6, none⟩) (Kd.R_far (p := ⟨gb259, 5, none⟩) (Kd.R_far (p := ⟨gb259, 4, none⟩) (Kd.R_far (p := ⟨gb259, 3, none⟩) (Kd.R_far (p := ⟨gb259, 2, none⟩) (Kd.R_far (p := ⟨gb259, 1, none⟩) (Kd.R_far (p := ⟨gb259, 0, none⟩) (Kd.R_far (p := ⟨gb260, 8, none⟩) (Kd.R_types (Kd.R_types HO263.out BK260.out (by decide)) BK259.out (by decide)) (fun _ hk => hk.1.2) (.slice Ao17 t264.length co17)) (fun _ hk => hk.2) (.string a0_0)) (fun _ hk => hk.2) (.string a0_1)) (fun _ hk => hk.2) (.bool a0_2)) (fun _ hk => hk.2) (.bool a0_3)) (fun _ hk => hk.2) (.bool a0_4)) (fun _ hk => hk.2) (.int .i64 a0_5)) (fun _ hk => hk.2) (.int .i64 a0_6)) (fun _ hk => hk.2) (.slice Ao13 t261.length co13)) (fun _ hk => hk.2) (.slice Ao17 t264.length co17)) (fun _ hk => trivial), by (with_reducible repeat (first | apply Kd.R_alloc | apply Kd.R_drewN | apply Kd.R_drew)); exact Kd.R_mono (Kd.R_far (p := ⟨gb259, 8, none⟩) (Kd.R_far (p := ⟨gb259, 7, none⟩) (Kd.R_far (p := ⟨gb259, 6, none⟩) (Kd.R_far (p := ⟨gb259, 5, none⟩) (Kd.R_far (p := ⟨gb259, 4, none⟩) (Kd.R_far (p := ⟨gb259, 3, none⟩) (Kd.R_far (p := ⟨gb259, 2, none⟩) (Kd.R_far (p := ⟨gb259, 1, none⟩) (Kd.R_far (p := ⟨gb259, 0, none⟩) (Kd.R_far (p := ⟨gb260, 8, none⟩) (Kd.R_types (Kd.R_types HO266.out BK260.out (by decide)) BK259.out (by decide)) (fun _ hk => hk.1.2) (.slice Ao17 t264.length co17)) (fun _ hk => hk.2) (.string a0_0)) (fun _ hk => hk.2) (.string a0_1)) (fun _ hk => hk.2) (.bool a0_2)) (fun _ hk => hk.2) (.bool a0_3)) (fun _ hk => hk.2) (.bool a0_4)) (fun _ hk => hk.2) (.int .i64 a0_5)) (fun _ hk => hk.2) (.int .i64 a0_6)) (fun _ hk => hk.2) (.slice Ao13 t261.length co13)) (fun _ hk => hk.2) (.slice Ao17 t264.length co17)) (fun _ hk => trivial), by repeat (first | (with_reducible first | exact HB.out | apply Zba | apply Zbn | apply Zbd | refine Zbs ?_ GE258.out | refine Zbs ?_ GE259.out | refine Zbs ?_ GE260.out) | exact HB.out)⟩

/-! ### impl_within: function 44 -/
def impl_within.f (a0 : Int) (a1 : Int) (a2 : Int) : Option (Bool) := if a0 ≥ a1 then (some (decide (a0 ≤ a2))) else (some false)
set_option maxHeartbeats 8000000 in
set_option maxRecDepth 100000 in
theorem impl_within.calls (a0 : Int) (a1 : Int) (a2 : Int) (r : Bool) (w : World) (h : impl_within.f a0 a1 a2 = some r) :
 Calls Try.prog 44 #[.int .i64 a0, .int .i64 a1, .int .i64 a2] w fun e w' => e = .returned (.bool r) ∧ Drawn0 w w' := by
 have H : (if a0 ≥ a1 then (some (decide (a0 ≤ a2))) else (some false)) = some r := h
 clear h
 by_cases c4 : a0 ≥ a1
 rotate_left
 · rw [if_neg c4] at H
   have c4b0 : decide (a1 ≤ a0) = false := decide_eq_false c4
   clear c4
   obtain rfl := Option.some.inj H
   go_enter Try.func44, Try.ntmps44
   go_wp2
   go_ret
   exact ⟨by first | rfl | (simp; done) | (simp [*]; done), by repeat (first | exact Drawn0.refl _ | apply Drawn0.step)⟩

 rw [if_pos c4] at H
 have c4b0 : decide (a1 ≤ a0) = true := decide_eq_true c4
 clear c4
 obtain rfl := Option.some.inj H
 go_enter Try.func44, Try.ntmps44
 go_wp2
 go_ret
 exact ⟨by first | rfl | (simp; done) | (simp [*]; done), by repeat (first | exact Drawn0.refl _ | apply Drawn0.step)⟩
/-! ### impl_length: function 160 -/
def impl_length.f (a0 : ByteArray) : Option (Int) := some (a0.size : Int)
set_option maxHeartbeats 8000000 in
set_option maxRecDepth 100000 in
theorem impl_length.calls (a0 : ByteArray) (r : Int) (w : World) (h : impl_length.f a0 = some r) :
 Calls Try.prog 160 #[.string a0] w fun e w' => e = .returned (.int .i64 r) ∧ Drawn0 w w' := by
 have H : (some (a0.size : Int)) = some r := h
 clear h
 obtain rfl := Option.some.inj H
 go_enter Try.func160, Try.ntmps160
 go_wp2
 go_ret
 exact ⟨by first | rfl | (simp; done) | (simp [*]; done), by repeat (first | exact Drawn0.refl _ | apply Drawn0.step)⟩

-- NOT PRINTED: function 204 (bytealg_IndexByteString)

-- NOT PRINTED: function 200 (stringslite_IndexByte)

/-! ### strings_IndexByte: function 191 -/
def strings_IndexByte.f (a0 : ByteArray) (a1 : Int) : Option (Int) := some (Lib.indexByte a0.data.toList a1.toNat.toUInt8)
set_option maxHeartbeats 8000000 in
set_option maxRecDepth 100000 in
theorem strings_IndexByte.calls (a0 : ByteArray) (a1 : Int) (r : Int) (w : World) (h : strings_IndexByte.f a0 a1 = some r) :
    Calls Try.prog 191 #[.string a0, .int .u8 a1] w fun e w' => e = .returned (.int .i64 r) ∧ Drawn0 w w' := by
  obtain rfl := Option.some.inj h
  exact (Try.strings_IndexByte a0 a1 w).mono fun e w' ⟨he, hw⟩ => ⟨he, hw ▸ Drawn0.refl _⟩

/-! ### impl_isNameByte: function 163 -/
def impl_isNameByte.f (a0 : Int) (a1 : Int) : Option (Bool) := (strings_IndexByte.f (⟨#[48, 49, 50, 51, 52, 53, 54, 55, 56, 57, 97, 98, 99, 100, 101, 102, 103, 104, 105, 106, 107, 108, 109, 110, 111, 112, 113, 114, 115, 116, 117, 118, 119, 120, 121, 122, 65, 66, 67, 68, 69, 70, 71, 72, 73, 74, 75, 76, 77, 78, 79, 80, 81, 82, 83, 84, 85, 86, 87, 88, 89, 90, 36]⟩ : ByteArray) a0).bind fun t267 => (if t267 ≥ 10 then (some true) else (if t267 ≥ 0 then (some (decide (a1 > 0))) else (some false)))
set_option maxHeartbeats 8000000 in
set_option maxRecDepth 100000 in
theorem impl_isNameByte.calls (a0 : Int) (a1 : Int) (r : Bool) (w : World) (h : impl_isNameByte.f a0 a1 = some r) :
 Calls Try.prog 163 #[.int .u8 a0, .int .i64 a1] w fun e w' => e = .returned (.bool r) ∧ Drawn0 w w' := by
 have H : ((strings_IndexByte.f (⟨#[48, 49, 50, 51, 52, 53, 54, 55, 56, 57, 97, 98, 99, 100, 101, 102, 103, 104, 105, 106, 107, 108, 109, 110, 111, 112, 113, 114, 115, 116, 117, 118, 119, 120, 121, 122, 65, 66, 67, 68, 69, 70, 71, 72, 73, 74, 75, 76, 77, 78, 79, 80, 81, 82, 83, 84, 85, 86, 87, 88, 89, 90, 36]⟩ : ByteArray) a0).bind fun t267 => (if t267 ≥ 10 then (some true) else (if t267 ≥ 0 then (some (decide (a1 > 0))) else (some false)))) = some r := h
 clear h
 replace H := Option.bind_eq_some_iff.mp H
 obtain ⟨t267, A30, H⟩ := H
 (try dsimp only at H)
 have A3 := Zm A30
 clear A30
 by_cases c4 : t267 ≥ 10
 rotate_left
 · rw [if_neg c4] at H
   have c4b0 : decide (10 ≤ t267) = false := decide_eq_false c4
   clear c4
   by_cases c5 : t267 ≥ 0
   rotate_left
   · rw [if_neg c5] at H
     have c5b0 : decide (0 ≤ t267) = false := decide_eq_false c5
     clear c5
     obtain rfl := Option.some.inj H
     go_enter Try.func163, Try.ntmps163
     go_wp2_with (first | ((with_reducible refine gate_callee (f := 191) rfl ?_); refine goesL_ (some 7) rfl rfl Try.func191 (by kernel_rfl) rfl #[.string (⟨#[48, 49, 50, 51, 52, 53, 54, 55, 56, 57, 97, 98, 99, 100, 101, 102, 103, 104, 105, 106, 107, 108, 109, 110, 111, 112, 113, 114, 115, 116, 117, 118, 119, 120, 121, 122, 65, 66, 67, 68, 69, 70, 71, 72, 73, 74, 75, 76, 77, 78, 79, 80, 81, 82, 83, 84, 85, 86, 87, 88, 89, 90, 36]⟩ : ByteArray), .int .u8 a0] rfl (by (try simp only [List.map_toArray, List.map_cons, List.map_nil]); first | done | rfl | (simp only [List.length_drop, List.length_take]; rfl)) ?_; (with_reducible refine (strings_IndexByte.calls (⟨#[48, 49, 50, 51, 52, 53, 54, 55, 56, 57, 97, 98, 99, 100, 101, 102, 103, 104, 105, 106, 107, 108, 109, 110, 111, 112, 113, 114, 115, 116, 117, 118, 119, 120, 121, 122, 65, 66, 67, 68, 69, 70, 71, 72, 73, 74, 75, 76, 77, 78, 79, 80, 81, 82, 83, 84, 85, 86, 87, 88, 89, 90, 36]⟩ : ByteArray) a0 t267 _ A3.out).mono ?_); rintro e w' ⟨rfl, ⟨nd, rfl⟩⟩; refine ⟨_, rfl, ?_⟩))
     go_ret
     exact ⟨by first | rfl | (simp; done) | (simp [*]; done), by repeat (first | exact Drawn0.refl _ | apply Drawn0.step)⟩

   rw [if_pos c5] at H
   have c5b0 : decide (0 ≤ t267) = true := decide_eq_true c5
   clear c5
   obtain rfl := Option.some.inj H
   go_enter Try.func163, Try.ntmps163
   go_wp2_with (first | ((with_reducible refine gate_callee (f := 191) rfl ?_); refine goesL_ (some 7) rfl rfl Try.func191 (by kernel_rfl) rfl #[.string (⟨#[48, 49, 50, 51, 52, 53, 54, 55, 56, 57, 97, 98, 99, 100, 101, 102, 103, 104, 105, 106, 107, 108, 109, 110, 111, 112, 113, 114, 115, 116, 117, 118, 119, 120, 121, 122, 65, 66, 67, 68, 69, 70, 71, 72, 73, 74, 75, 76, 77, 78, 79, 80, 81, 82, 83, 84, 85, 86, 87, 88, 89, 90, 36]⟩ : ByteArray), .int .u8 a0] rfl (by (try simp only [List.map_toArray, List.map_cons, List.map_nil]); first | done | rfl | (simp only [List.length_drop, List.length_take]; rfl)) ?_; (with_reducible refine (strings_IndexByte.calls (⟨#[48, 49, 50, 51, 52, 53, 54, 55, 56, 57, 97, 98, 99, 100, 101, 102, 103, 104, 105, 106, 107, 108, 109, 110, 111, 112, 113, 114, 115, 116, 117, 118, 119, 120, 121, 122, 65, 66, 67, 68, 69, 70, 71, 72, 73, 74, 75, 76, 77, 78, 79, 80, 81, 82, 83, 84, 85, 86, 87, 88, 89, 90, 36]⟩ : ByteArray) a0 t267 _ A3.out).mono ?_); rintro e w' ⟨rfl, ⟨nd, rfl⟩⟩; refine ⟨_, rfl, ?_⟩))
   go_ret
   exact ⟨by first | rfl | (simp; done) | (simp [*]; done), by repeat (first | exact Drawn0.refl _ | apply Drawn0.step)⟩
 rw [if_pos c4] at H
 have c4b0 : decide (10 ≤ t267) = true := decide_eq_true c4
 clear c4
 obtain rfl := Option.some.inj H
 go_enter Try.func163, Try.ntmps163
 go_wp2_with (first | ((with_reducible refine gate_callee (f := 191) rfl ?_); refine goesL_ (some 7) rfl rfl Try.func191 (by kernel_rfl) rfl #[.string (⟨#[48, 49, 50, 51, 52, 53, 54, 55, 56, 57, 97, 98, 99, 100, 101, 102, 103, 104, 105, 106, 107, 108, 109, 110, 111, 112, 113, 114, 115, 116, 117, 118, 119, 120, 121, 122, 65, 66, 67, 68, 69, 70, 71, 72, 73, 74, 75, 76, 77, 78, 79, 80, 81, 82, 83, 84, 85, 86, 87, 88, 89, 90, 36]⟩ : ByteArray), .int .u8 a0] rfl (by (try simp only [List.map_toArray, List.map_cons, List.map_nil]); first | done | rfl | (simp only [List.length_drop, List.length_take]; rfl)) ?_; (with_reducible refine (strings_IndexByte.calls (⟨#[48, 49, 50, 51, 52, 53, 54, 55, 56, 57, 97, 98, 99, 100, 101, 102, 103, 104, 105, 106, 107, 108, 109, 110, 111, 112, 113, 114, 115, 116, 117, 118, 119, 120, 121, 122, 65, 66, 67, 68, 69, 70, 71, 72, 73, 74, 75, 76, 77, 78, 79, 80, 81, 82, 83, 84, 85, 86, 87, 88, 89, 90, 36]⟩ : ByteArray) a0 t267 _ A3.out).mono ?_); rintro e w' ⟨rfl, ⟨nd, rfl⟩⟩; refine ⟨_, rfl, ?_⟩))
 go_ret
 exact ⟨by first | rfl | (simp; done) | (simp [*]; done), by repeat (first | exact Drawn0.refl _ | apply Drawn0.step)⟩
/-! ### impl_NameRight: function 111 -/
def impl_NameRight.l0 : Nat → ByteArray → Int → Int → Option (Bool)
 | 0, _, _, _ => none
 | k + 1, x0, x5, x6 => if x6 < x5 then (if 0 ≤ x6 then (if x6 < (x0.size : Int) then ((impl_isNameByte.f (bt x0 x6) x6).bind fun t268 => (if t268 = true then (impl_NameRight.l0 k x0 x5 (wrap64 (x6 + 1))) else (some false))) else (none)) else (none)) else ((impl_length.f x0).bind fun t269 => ((impl_within.f t269 1 20).bind fun t270 => (some t270)))
def impl_NameRight.f (k : Nat) (a0 : ByteArray) : Option (Bool) := impl_NameRight.l0 k a0 (a0.size : Int) 0
theorem impl_NameRight.mono_l : ∀ k, (∀ y0 y1 y2, LeO (impl_NameRight.l0 k y0 y1 y2) (impl_NameRight.l0 (k + 1) y0 y1 y2))
 | 0 => fun _ _ _ r h => by simp [impl_NameRight.l0] at h
 | k + 1 => by
  have ih0 := impl_NameRight.mono_l k
  · intro y0 y1 y2
    unfold impl_NameRight.l0
    repeat' first
    | (with_reducible exact ih0 _ _ _)
    | (with_reducible exact LeO.refl _)
    | (with_reducible exact LeO.none _)
    | (with_reducible refine LeO.ite ?_ ?_)
    | (with_reducible refine LeO.bind ?_ (fun _ => ?_))
    | exact ih0 _ _ _
    | exact LeO.none _
    | refine LeO.ite ?_ ?_
    | refine LeO.bind ?_ (fun _ => ?_)
theorem impl_NameRight.mono : ∀ a0 k, LeO (impl_NameRight.f k a0) (impl_NameRight.f (k + 1) a0) := by
 intro a0 k
 have ih0 := impl_NameRight.mono_l k
 unfold impl_NameRight.f
 repeat' first
  | (with_reducible exact ih0 _ _ _)
  | (with_reducible exact LeO.refl _)
  | (with_reducible exact LeO.none _)
  | (with_reducible refine LeO.ite ?_ ?_)
  | (with_reducible refine LeO.bind ?_ (fun _ => ?_))
  | exact ih0 _ _ _
  | exact LeO.none _
  | refine LeO.ite ?_ ?_
  | refine LeO.bind ?_ (fun _ => ?_)
set_option maxHeartbeats 8000000 in
set_option maxRecDepth 100000 in
theorem impl_NameRight.calls (k : Nat) (a0 : ByteArray) (r : Bool) (w : World) (h : impl_NameRight.f k a0 = some r) :
 Calls Try.prog 111 #[.string a0] w fun e w' => e = .returned (.bool r) ∧ Drawn0 w w' := by
 have H : (impl_NameRight.l0 k a0 (a0.size : Int) 0) = some r := h
 clear h
 have H' := Zm H
 clear H
 go_enter Try.func111, Try.ntmps111
 go_wp2
 go_loopg [6] k (fun kq v6 w' => ∃ (x6_1 : Int), v6 = .int .i64 x6_1 ∧ Aside0 (impl_NameRight.l0 kq a0 (a0.size : Int) x6_1 = some r) ∧ Aside0 (kq ≤ k) ∧ Drawn0 w w')
 case atStart => exact ⟨(0), (by first | rfl | (simp; done) | (simp [*]; done)), H', ⟨Nat.le_refl _⟩, by repeat (first | exact Drawn0.refl _ | apply Drawn0.step)⟩
 case round =>
  clear H'
  obtain ⟨x6_1, rfl, HA, HK1, ⟨m1, rfl⟩⟩ := hrel
  cases gk with
  | zero => exact absurd HA.out (by simp [impl_NameRight.l0])
  | succ k1 =>
   have H := HA.out
   clear HA
   simp only [impl_NameRight.l0] at H
   by_cases c2 : x6_1 < (a0.size : Int)
   rotate_left
   · rw [if_neg c2] at H
     have c2b0 := decide_eq_false c2
     clear c2
     replace H := Option.bind_eq_some_iff.mp H
     obtain ⟨t269, A90, H⟩ := H
     (try dsimp only at H)
     have A9 := Zm A90
     clear A90
     replace H := Option.bind_eq_some_iff.mp H
     obtain ⟨t270, A100, H⟩ := H
     (try dsimp only at H)
     have A10 := Zm A100
     clear A100
     obtain rfl := Option.some.inj H
     go_wp2_with (first | ((with_reducible refine gate_callee (f := 160) rfl ?_); refine goesL_ (some 17) rfl rfl Try.func160 (by kernel_rfl) rfl #[.string a0] rfl (by (try simp only [List.map_toArray, List.map_cons, List.map_nil]); first | done | rfl | (simp only [List.length_drop, List.length_take]; rfl)) ?_; (with_reducible refine (impl_length.calls a0 t269 _ A9.out).mono ?_); rintro e w' ⟨rfl, ⟨nd, rfl⟩⟩; refine ⟨_, rfl, ?_⟩) | ((with_reducible refine gate_callee (f := 44) rfl ?_); refine goesL_ (some 18) rfl rfl Try.func44 (by kernel_rfl) rfl #[.int .i64 t269, .int .i64 1, .int .i64 20] rfl (by (try simp only [List.map_toArray, List.map_cons, List.map_nil]); first | done | rfl | (simp only [List.length_drop, List.length_take]; rfl)) ?_; (with_reducible refine (impl_within.calls t269 1 20 t270 _ A10.out).mono ?_); rintro e w' ⟨rfl, ⟨nd, rfl⟩⟩; refine ⟨_, rfl, ?_⟩))
     go_ret
     exact ⟨by first | rfl | (simp; done) | (simp [*]; done), by repeat (first | exact Drawn0.refl _ | apply Drawn0.step)⟩

   rw [if_pos c2] at H
   have c2b0 := decide_eq_true c2
   clear c2
   by_cases c3 : 0 ≤ x6_1
   rotate_left
   · rw [if_neg c3] at H
     exact absurd H (by simp)
   rw [if_pos c3] at H
   have c3b0 := decide_eq_true c3
   clear c3
   by_cases c4 : x6_1 < (a0.size : Int)
   rotate_left
   · rw [if_neg c4] at H
     exact absurd H (by simp)
   rw [if_pos c4] at H
   have c4b0 := decide_eq_true c4
   clear c4
   replace H := Option.bind_eq_some_iff.mp H
   obtain ⟨t268, A60, H⟩ := H
   (try dsimp only at H)
   have A6 := Zm A60
   clear A60
   have HC7 := Zm H
   clear H
   have p5 : 0 ≤ (x6_1 : Int) := of_decide_eq_true (by first | (with_reducible assumption) | assumption)
   have q5 : x6_1 < (a0.size : Int) := of_decide_eq_true (by first | (with_reducible assumption) | assumption)
   have hx5 := bt_at a0 x6_1
   replace p5 := eq_true p5
   replace q5 := eq_true q5
   go_upto_if 14 with (first | ((with_reducible refine gate_callee (f := 163) rfl ?_); refine goesL_ (some 13) rfl rfl Try.func163 (by kernel_rfl) rfl #[.int .u8 (bt a0 x6_1), .int .i64 x6_1] rfl (by (try simp only [List.map_toArray, List.map_cons, List.map_nil]); first | done | rfl | (simp only [List.length_drop, List.length_take]; rfl)) ?_; (with_reducible refine (impl_isNameByte.calls (bt a0 x6_1) x6_1 t268 _ A6.out).mono ?_); rintro e w' ⟨rfl, ⟨nd, rfl⟩⟩; refine ⟨_, rfl, ?_⟩))
   have H := HC7.out
   clear HC7
   by_cases c8 : t268 = true
   rotate_left
   · replace c8 := Bool.eq_false_iff.mpr c8
     subst c8
     rw [if_neg (show ¬ (false = true) by decide)] at H
     obtain rfl := Option.some.inj H
     go_wp2
     go_ret
     exact ⟨by first | rfl | (simp; done) | (simp [*]; done), by repeat (first | exact Drawn0.refl _ | apply Drawn0.step)⟩
   subst c8
   rw [if_pos rfl] at H
   have H' := Zm H
   clear H
   go_wp2
   go_roundg k1
   case measure => have := HK1.out; omega
   case rel => exact ⟨(wrap64 (x6_1 + 1)), (by first | rfl | (simp; done) | (simp [*]; done)), H', ⟨by have := HK1.out; omega⟩, by repeat (first | exact Drawn0.refl _ | apply Drawn0.step)⟩
/-! ### impl_isMethodName: function 103 -/
def impl_isMethodName.f (k : Nat) (a0 : ByteArray) : Option (Bool) := (impl_NameRight.f k a0).bind fun t271 => (if t271 = true then (some true) else (some (a0.toList == ([60, 105, 110, 105, 116, 62] : List UInt8))))
theorem impl_isMethodName.mono : ∀ a0 k, LeO (impl_isMethodName.f k a0) (impl_isMethodName.f (k + 1) a0) := by
 intro a0 k
 unfold impl_isMethodName.f
 repeat' first
  | (with_reducible exact impl_NameRight.mono _ _)
  | (with_reducible exact LeO.refl _)
  | (with_reducible exact LeO.none _)
  | (with_reducible refine LeO.ite ?_ ?_)
  | (with_reducible refine LeO.bind ?_ (fun _ => ?_))
  | exact impl_NameRight.mono _ _
  | exact LeO.none _
  | refine LeO.ite ?_ ?_
  | refine LeO.bind ?_ (fun _ => ?_)
set_option maxHeartbeats 8000000 in
set_option maxRecDepth 100000 in
theorem impl_isMethodName.calls (k : Nat) (a0 : ByteArray) (r : Bool) (w : World) (h : impl_isMethodName.f k a0 = some r) :
 Calls Try.prog 103 #[.string a0] w fun e w' => e = .returned (.bool r) ∧ Drawn0 w w' := by
 have H : ((impl_NameRight.f k a0).bind fun t271 => (if t271 = true then (some true) else (some (a0.toList == ([60, 105, 110, 105, 116, 62] : List UInt8))))) = some r := h
 clear h
 replace H := Option.bind_eq_some_iff.mp H
 obtain ⟨t271, A20, H⟩ := H
 (try dsimp only at H)
 have A2 := Zm A20
 clear A20
 by_cases c3 : t271 = true
 rotate_left
 · replace c3 := Bool.eq_false_iff.mpr c3
   subst c3
   rw [if_neg (show ¬ (false = true) by decide)] at H
   obtain rfl := Option.some.inj H
   go_enter Try.func103, Try.ntmps103
   go_wp2_with (first | ((with_reducible refine gate_callee (f := 111) rfl ?_); refine goesL_ (some 4) rfl rfl Try.func111 (by kernel_rfl) rfl #[.string a0] rfl (by (try simp only [List.map_toArray, List.map_cons, List.map_nil]); first | done | rfl | (simp only [List.length_drop, List.length_take]; rfl)) ?_; (with_reducible refine (impl_NameRight.calls k a0 false _ A2.out).mono ?_); rintro e w' ⟨rfl, ⟨nd, rfl⟩⟩; refine ⟨_, rfl, ?_⟩))
   go_ret
   exact ⟨by first | rfl | (simp; done) | (simp [*]; done), by repeat (first | exact Drawn0.refl _ | apply Drawn0.step)⟩

 subst c3
 rw [if_pos rfl] at H
 obtain rfl := Option.some.inj H
 go_enter Try.func103, Try.ntmps103
 go_wp2_with (first | ((with_reducible refine gate_callee (f := 111) rfl ?_); refine goesL_ (some 4) rfl rfl Try.func111 (by kernel_rfl) rfl #[.string a0] rfl (by (try simp only [List.map_toArray, List.map_cons, List.map_nil]); first | done | rfl | (simp only [List.length_drop, List.length_take]; rfl)) ?_; (with_reducible refine (impl_NameRight.calls k a0 true _ A2.out).mono ?_); rintro e w' ⟨rfl, ⟨nd, rfl⟩⟩; refine ⟨_, rfl, ?_⟩))
 go_ret
 exact ⟨by first | rfl | (simp; done) | (simp [*]; done), by repeat (first | exact Drawn0.refl _ | apply Drawn0.step)⟩
/-- A state of type 216 at block g of W; what its slices lead to came in by w0. -/
def IsS216 (w0 W : World) (g : Nat) (f0 : ByteArray) (f1 : Int) (f2 : Bool) : Prop := W.heap[g]? = some (.cells #[.string f0, .int .i64 f1, .bool f2] 216 (0, 0)) ∧ w0.heap.size ≤ g
theorem IsS216.grown {w0 W : World} {g : Nat} {f0 : ByteArray} {f1 : Int} {f2 : Bool} {W1 : World} {row : Option Nat} (h : IsS216 w0 W g f0 f1 f2) (hw : W.grownBy W1 row) (hne : some g ≠ row) : IsS216 w0 W1 g f0 f1 f2 := by
 obtain ⟨hb, hg⟩ := h
 exact ⟨blk_grown hb hw hne, hg⟩
theorem IsS216.own_neN {w0 W : World} {g : Nat} {f0 : ByteArray} {f1 : Int} {f2 : Bool} {α : Type} {d : Kd α} {e : Nat} {base : Nat} {ok : Nat → Prop} {v : Value} {xs : List α} (h : IsS216 w0 W g f0 f1 f2) (ho : Kd.N d e W base ok v xs) (ht : e ≠ 216) : some g ≠ v.ownBlock := by
 obtain ⟨hb, hg⟩ := h
 exact Kd.N_ne ho hb ht
theorem IsS216.fresh {w0 W : World} {g : Nat} {f0 : ByteArray} {f1 : Int} {f2 : Bool} (h : IsS216 w0 W g f0 f1 f2) : ∀ k, W.heap.size ≤ k → k ≠ g := by
 obtain ⟨hb, hg⟩ := h
 exact Kd.freshB hb
theorem IsS216.kept {w0 W : World} {g : Nat} {f0 : ByteArray} {f1 : Int} {f2 : Bool} {W1 : World} {S : Nat → Prop} (h : IsS216 w0 W g f0 f1 f2) (hk : Kept W W1 S) (hne : ¬ S g) : IsS216 w0 W1 g f0 f1 f2 := by
 obtain ⟨hb, hg⟩ := h
 exact ⟨blk_kept hb hk hne, hg⟩
theorem IsS216.below {w0 W : World} {g : Nat} {f0 : ByteArray} {f1 : Int} {f2 : Bool} {W1 : World} (h : IsS216 w0 W g f0 f1 f2) (hw : Below W.heap.size W W1) : IsS216 w0 W1 g f0 f1 f2 := h.grown (grown_of_below hw none) (by simp)
theorem IsS216.alloc {w0 W : World} {g : Nat} {f0 : ByteArray} {f1 : Int} {f2 : Bool} (h : IsS216 w0 W g f0 f1 f2) (o : Obj) : IsS216 w0 (W.alloc o) g f0 f1 f2 := h.below (Zba (Below.refl _ _) o)
theorem IsS216.drewN {w0 W : World} {g : Nat} {f0 : ByteArray} {f1 : Int} {f2 : Bool} (h : IsS216 w0 W g f0 f1 f2) (m : Nat) : IsS216 w0 (W.drewN m) g f0 f1 f2 := h
theorem IsS216.drew {w0 W : World} {g : Nat} {f0 : ByteArray} {f1 : Int} {f2 : Bool} (h : IsS216 w0 W g f0 f1 f2) : IsS216 w0 W.drew g f0 f1 f2 := h
theorem IsS216.at_ {w0 W : World} {g : Nat} {f0 : ByteArray} {f1 : Int} {f2 : Bool} {w' : World} {m : Nat} (hq : W.drewN m = w') (h : IsS216 w0 W g f0 f1 f2) : IsS216 w0 w' g f0 f1 f2 := by subst hq; exact IsS216.drewN h m
theorem IsS216.apart {w0 W : World} {g : Nat} {f0 : ByteArray} {f1 : Int} {f2 : Bool} {α : Type} {d : Kd α} {e : Nat} {base : Nat} {ok : Nat → Prop} {v : Value} {xs : List α} (h : IsS216 w0 W g f0 f1 f2) (ho : d.R e W base ok v xs) (ht : ∀ q, q ∈ e :: d.E → q ≠ 216) : d.R e W base (fun k => ok k ∧ k ≠ g) v xs := by
 obtain ⟨hb, hg⟩ := h
 exact Kd.R_types ho hb ht
theorem IsS216.own_ne {w0 W : World} {g : Nat} {f0 : ByteArray} {f1 : Int} {f2 : Bool} {α : Type} {d : Kd α} {e : Nat} {base : Nat} {ok : Nat → Prop} {v : Value} {xs : List α} (h : IsS216 w0 W g f0 f1 f2) (ho : d.R e W base ok v xs) (ht : e ≠ 216) : some g ≠ v.ownBlock := by
 obtain ⟨hb, hg⟩ := h
 exact Kd.R_ne ho hb ht
theorem IsS216.apartQ {w0 W : World} {g : Nat} {f0 : ByteArray} {f1 : Int} {f2 : Bool} {α : Type} {d : Kd α} {e : Nat} {base : Nat} {ok : Nat → Prop} {v : Value} {xs : List α} (h : IsS216 w0 W g f0 f1 f2) (ho : d.Q e W base ok v xs) (ht : ∀ q, q ∈ e :: d.E → q ≠ 216) : d.Q e W base (fun k => ok k ∧ k ≠ g) v xs := by
 obtain ⟨hb, hg⟩ := h
 exact Kd.Q_types ho hb ht
theorem IsS216.own_neQ {w0 W : World} {g : Nat} {f0 : ByteArray} {f1 : Int} {f2 : Bool} {α : Type} {d : Kd α} {e : Nat} {base : Nat} {ok : Nat → Prop} {v : Value} {xs : List α} (h : IsS216 w0 W g f0 f1 f2) (ho : d.Q e W base ok v xs) (ht : e ≠ 216) : some g ≠ v.ownBlock := by
 obtain ⟨hb, hg⟩ := h
 exact Kd.Q_ne ho hb ht
theorem IsS216.apartS {w0 W : World} {g : Nat} {f0 : ByteArray} {f1 : Int} {f2 : Bool} {α : Type} {d : Kd α} {e : Nat} {base : Nat} {ok : Nat → Prop} {v : Value} {xs : List α} (h : IsS216 w0 W g f0 f1 f2) (ho : d.S e W base ok v xs) (ht : ∀ q, q ∈ e :: d.E → q ≠ 216) : d.S e W base (fun k => ok k ∧ k ≠ g) v xs := by
 obtain ⟨hb, hg⟩ := h
 exact Kd.S_types ho hb ht
theorem IsS216.own_neS {w0 W : World} {g : Nat} {f0 : ByteArray} {f1 : Int} {f2 : Bool} {α : Type} {d : Kd α} {e : Nat} {base : Nat} {ok : Nat → Prop} {v : Value} {xs : List α} (h : IsS216 w0 W g f0 f1 f2) (ho : d.S e W base ok v xs) (ht : e ≠ 216) : some g ≠ v.ownBlock := by
 obtain ⟨hb, hg⟩ := h
 exact Kd.S_ne ho hb ht
theorem IsS216.lt {w0 W : World} {g : Nat} {f0 : ByteArray} {f1 : Int} {f2 : Bool} (h : IsS216 w0 W g f0 f1 f2) : g < W.heap.size := by
 obtain ⟨hb, hg⟩ := h
 exact blk_lt hb
theorem IsS216.ge {w0 W : World} {g : Nat} {f0 : ByteArray} {f1 : Int} {f2 : Bool} (h : IsS216 w0 W g f0 f1 f2) : w0.heap.size ≤ g := by
 obtain ⟨hb, hg⟩ := h
 exact hg
theorem IsS216.ne_blk {w0 W : World} {g : Nat} {f0 : ByteArray} {f1 : Int} {f2 : Bool} {a : Nat} {cs : Array Value} {t : TypeId} {fr : Nat × Nat} (h : IsS216 w0 W g f0 f1 f2) (hb2 : W.heap[a]? = some (.cells cs t fr)) (ht : t ≠ 216) : g ≠ a := by
 obtain ⟨hb, hg⟩ := h
 rintro rfl
 rw [hb] at hb2
 injection hb2 with hb2
 injection hb2 with _ ht2
 exact ht ht2.symm
theorem IsS216.far {w0 W : World} {g : Nat} {f0 : ByteArray} {f1 : Int} {f2 : Bool} {p : Addr} (h : IsS216 w0 W g f0 f1 f2) (hne : g ≠ p.block) (u : Value) : IsS216 w0 (W.setCell p u) g f0 f1 f2 := by
 obtain ⟨hb, hg⟩ := h
 exact ⟨Zkr hb hne u, hg⟩
theorem cellS216_0 {W : World} {g : Nat} {f0 : ByteArray} {f1 : Int} {f2 : Bool} (h : W.heap[g]? = some (.cells #[.string f0, .int .i64 f1, .bool f2] 216 (0, 0))) : W.cell? ⟨g, 0, none⟩ = some (.string f0) := (Zkc h 0).trans rfl
theorem IsS216.set_0 {w0 W : World} {g : Nat} {f0 : ByteArray} {f1 : Int} {f2 : Bool} (h : IsS216 w0 W g f0 f1 f2) (x : ByteArray) : IsS216 w0 (W.setCell ⟨g, 0, none⟩ (.string x)) g x f1 f2 := by
 obtain ⟨hb, hg⟩ := h
 exact ⟨by simpa using blk_set hb 0 (.string x), hg⟩
theorem cellS216_1 {W : World} {g : Nat} {f0 : ByteArray} {f1 : Int} {f2 : Bool} (h : W.heap[g]? = some (.cells #[.string f0, .int .i64 f1, .bool f2] 216 (0, 0))) : W.cell? ⟨g, 1, none⟩ = some (.int .i64 f1) := (Zkc h 1).trans rfl
theorem IsS216.set_1 {w0 W : World} {g : Nat} {f0 : ByteArray} {f1 : Int} {f2 : Bool} (h : IsS216 w0 W g f0 f1 f2) (x : Int) : IsS216 w0 (W.setCell ⟨g, 1, none⟩ (.int .i64 x)) g f0 x f2 := by
 obtain ⟨hb, hg⟩ := h
 exact ⟨by simpa using blk_set hb 1 (.int .i64 x), hg⟩
theorem cellS216_2 {W : World} {g : Nat} {f0 : ByteArray} {f1 : Int} {f2 : Bool} (h : W.heap[g]? = some (.cells #[.string f0, .int .i64 f1, .bool f2] 216 (0, 0))) : W.cell? ⟨g, 2, none⟩ = some (.bool f2) := (Zkc h 2).trans rfl
theorem IsS216.set_2 {w0 W : World} {g : Nat} {f0 : ByteArray} {f1 : Int} {f2 : Bool} (h : IsS216 w0 W g f0 f1 f2) (x : Bool) : IsS216 w0 (W.setCell ⟨g, 2, none⟩ (.bool x)) g f0 f1 x := by
 obtain ⟨hb, hg⟩ := h
 exact ⟨by simpa using blk_set hb 2 (.bool x), hg⟩
theorem IsS216.new (w0 W : World) (f0 : ByteArray) (f1 : Int) (f2 : Bool) (hB : Below w0.heap.size w0 W) : IsS216 w0 (W.alloc (.cells #[.string f0, .int .i64 f1, .bool f2] 216)) W.heap.size f0 f1 f2 := ⟨by simpa using heap_alloc_new W _, hB.size⟩

/-! ### impl_reader_is: function 189 -/
def impl_reader_is.f (s0_0 : ByteArray) (s0_1 : Int) (s0_2 : Bool) (a1 : Int) : Option (Bool × ByteArray × Int × Bool) := if s0_2 = true then (some (false, s0_0, s0_1, s0_2)) else ((impl_length.f s0_0).bind fun t272 => (if s0_1 < t272 then (if 0 ≤ s0_1 then (if s0_1 < (s0_0.size : Int) then (some (((bt s0_0 s0_1) == a1), s0_0, s0_1, s0_2)) else (none)) else (none)) else (some (false, s0_0, s0_1, s0_2))))
set_option maxHeartbeats 8000000 in
set_option maxRecDepth 100000 in
theorem impl_reader_is.calls (g : Nat) (s0_0 : ByteArray) (s0_1 : Int) (s0_2 : Bool) (a1 : Int) (r1 : Bool) (r2 : ByteArray) (r3 : Int) (r4 : Bool) (w0 w : World) (hI : IsS216 w0 w g s0_0 s0_1 s0_2) (hB : Below w0.heap.size w0 w) (h : impl_reader_is.f s0_0 s0_1 s0_2 a1 = some (r1, r2, r3, r4)) :
 Calls Try.prog 189 #[.pointer (some ⟨g, 0, none⟩), .int .u8 a1] w fun e w' => e = .returned (.bool r1) ∧ IsS216 w0 w' g r2 r3 r4 ∧ Below w0.heap.size w0 w' ∧ KeepBut w w' g none := by
 have HI0 := Zm hI
 have HK := Zm (KeepBut.refl w g none)
 have HL := Zm hB.size
 clear hI
 have HW0 := Zm hB.size
 have HB := Zm hB
 clear hB
 have H : (if s0_2 = true then (some (false, s0_0, s0_1, s0_2)) else ((impl_length.f s0_0).bind fun t272 => (if s0_1 < t272 then (if 0 ≤ s0_1 then (if s0_1 < (s0_0.size : Int) then (some (((bt s0_0 s0_1) == a1), s0_0, s0_1, s0_2)) else (none)) else (none)) else (some (false, s0_0, s0_1, s0_2))))) = some (r1, r2, r3, r4) := h
 clear h
 obtain ⟨hb, hg⟩ := HI0.out
 have f0 := cellS216_0 hb
 have f1 := cellS216_1 hb
 have f2 := cellS216_2 hb
 have hu216 := Try.underlying216
 have hlen : ∀ W : World, Calls Try.prog 160 #[.string s0_0] W fun e W' => e = .returned (.int .i64 (s0_0.size : Int)) ∧ Drawn0 W W' := fun W => impl_length.calls s0_0 (s0_0.size : Int) W rfl
 have hlq : ∀ (W : World) (n : Nat), Calls Try.prog 160 #[.string s0_0] (W.drewN n) fun e w'' => e = .returned (.int .i64 (s0_0.size : Int)) ∧ ∃ m, w'' = W.drewN m := fun W n => Calls.quiet_of ((hlen (W.drewN n)).mono fun e W' ⟨he, ⟨m, hm⟩⟩ => ⟨he, m, hm⟩)
 clear hb
 cases s0_2 with
 | true =>
  rw [if_pos rfl] at H
  simp only [Option.some.injEq, Prod.mk.injEq] at H
  obtain ⟨rfl, rfl, rfl, rfl⟩ := H
  go_enter Try.func189, Try.ntmps189
  go_wp2
  go_quiet (fail)
  go_wp2
  go_ret
  exact ⟨rfl, HI0.out, by repeat (with_reducible first | exact HB.out | apply Zbn | apply Zbd), by repeat (with_reducible first | exact HK.out | apply keep_drewN | apply keep_drew)⟩
 | false =>
  rw [if_neg (by simp)] at H
  simp only [impl_length.f, Option.bind_some] at H
  by_cases c1 : s0_1 < (s0_0.size : Int)
  rotate_left
  · rw [if_neg c1] at H
    have c1b : decide (s0_1 < (s0_0.size : Int)) = false := decide_eq_false c1
    simp only [Option.some.injEq, Prod.mk.injEq] at H
    obtain ⟨rfl, rfl, rfl, rfl⟩ := H
    go_enter Try.func189, Try.ntmps189
    go_wp2
    go_quiet ((go_at_call 160; exact hlq _ _))
    go_wp2
    go_ret
    exact ⟨rfl, HI0.out, by repeat (with_reducible first | exact HB.out | apply Zbn | apply Zbd), by repeat (with_reducible first | exact HK.out | apply keep_drewN | apply keep_drew)⟩

  rw [if_pos c1] at H
  have c1b : decide (s0_1 < (s0_0.size : Int)) = true := decide_eq_true c1
  by_cases c2 : 0 ≤ s0_1
  rotate_left
  · rw [if_neg c2] at H
    exact absurd H (by simp)
  rw [if_pos c2, if_pos c1] at H
  have c2b : decide (0 ≤ s0_1) = true := decide_eq_true c2
  simp only [Option.some.injEq, Prod.mk.injEq] at H
  obtain ⟨rfl, rfl, rfl, rfl⟩ := H
  have hbt := bt_at s0_0 s0_1
  go_enter Try.func189, Try.ntmps189
  go_wp2
  go_quiet ((go_at_call 160; exact hlq _ _))
  go_wp2
  go_ret
  exact ⟨rfl, HI0.out, by repeat (with_reducible first | exact HB.out | apply Zbn | apply Zbd), by repeat (with_reducible first | exact HK.out | apply keep_drewN | apply keep_drew)⟩
/-! ### impl_reader_take: function 158 -/
def impl_reader_take.f (s0_0 : ByteArray) (s0_1 : Int) (s0_2 : Bool) (a1 : Int) : Option (Bool × ByteArray × Int × Bool) := (impl_reader_is.f s0_0 s0_1 s0_2 a1).bind fun bt273 => (if bt273.1 = true then (some (true, bt273.2.1, wrap64 (bt273.2.2.1 + 1), bt273.2.2.2)) else (some (false, bt273.2.1, bt273.2.2.1, bt273.2.2.2)))
set_option maxHeartbeats 8000000 in
set_option maxRecDepth 100000 in
theorem impl_reader_take.calls (g : Nat) (s0_0 : ByteArray) (s0_1 : Int) (s0_2 : Bool) (a1 : Int) (r1 : Bool) (r2 : ByteArray) (r3 : Int) (r4 : Bool) (w0 w : World) (hI : IsS216 w0 w g s0_0 s0_1 s0_2) (hB : Below w0.heap.size w0 w) (h : impl_reader_take.f s0_0 s0_1 s0_2 a1 = some (r1, r2, r3, r4)) :
 Calls Try.prog 158 #[.pointer (some ⟨g, 0, none⟩), .int .u8 a1] w fun e w' => e = .returned (.bool r1) ∧ IsS216 w0 w' g r2 r3 r4 ∧ Below w0.heap.size w0 w' ∧ KeepBut w w' g none := by
 have HI0 := Zm hI
 have HK := Zm (KeepBut.refl w g none)
 have HL := Zm hB.size
 clear hI
 have HW0 := Zm hB.size
 have HB := Zm hB
 clear hB
 have H : ((impl_reader_is.f s0_0 s0_1 s0_2 a1).bind fun bt273 => (if bt273.1 = true then (some (true, bt273.2.1, wrap64 (bt273.2.2.1 + 1), bt273.2.2.2)) else (some (false, bt273.2.1, bt273.2.2.1, bt273.2.2.2)))) = some (r1, r2, r3, r4) := h
 clear h
 replace H := Option.bind_eq_some_iff.mp H
 obtain ⟨⟨t273, t274, t275, t276⟩, A30, H⟩ := H
 replace H : (if t273 = true then (some (true, t274, wrap64 (t275 + 1), t276)) else (some (false, t274, t275, t276))) = some (r1, r2, r3, r4) := H
 have A3 := Zm A30
 clear A30
 have HC4 := Zm H
 clear H
 go_enter Try.func158, Try.ntmps158
 go_upto_if 8 with (first | ((with_reducible refine gate_callee (f := 189) rfl ?_); refine goesL_ (some 7) rfl rfl Try.func189 (by kernel_rfl) rfl #[.pointer (some ⟨g, 0, none⟩), .int .u8 a1] rfl (by (try simp only [List.map_toArray, List.map_cons, List.map_nil]); first | done | rfl | (simp only [List.length_drop, List.length_take]; rfl)) ?_; (with_reducible refine (impl_reader_is.calls g s0_0 s0_1 s0_2 a1 t273 t274 t275 t276 w0 _ ?side1 ?side2 A3.out).mono ?_); (case side1 => repeat (first | (with_reducible first | exact HI0.out | apply IsS216.alloc | apply IsS216.drewN | apply IsS216.drew | apply IsS216.set_0 | apply IsS216.set_1 | apply IsS216.set_2) | exact HI0.out)); (case side2 => exact bk HB.out); rintro e w5 ⟨rfl, hi, hb, hk⟩; refine ⟨_, rfl, ?_⟩; have n0_ := (⟨Zm (KeepBut.trans (by repeat (first | (with_reducible first | exact HK.out | apply KeepBut.set_ | apply keep_drewN | apply keep_drew | apply keep_alloc) | exact HK.out)) hk (.inl rfl)), Zm (hb), Zm (hi)⟩ : _ ∧ _ ∧ _); clear HK HB HI0; obtain ⟨HK, HB, HI0⟩ := n0_; (try clear hb); (try clear hb2); (try clear hk); (try clear hi)))
 have H := HC4.out
 clear HC4
 by_cases c6 : t273 = true
 rotate_left
 · replace c6 := Bool.eq_false_iff.mpr c6
   subst c6
   rw [if_neg (show ¬ (false = true) by decide)] at H
   simp only [Option.some.injEq, Prod.mk.injEq] at H
   obtain ⟨rfl, rfl, rfl, rfl⟩ := H
   go_wp2
   go_ret
   exact ⟨by first | rfl | (simp [*] <;> rfl), by repeat (first | (with_reducible first | exact HI0.out | apply IsS216.alloc | apply IsS216.drewN | apply IsS216.drew | apply IsS216.set_0 | apply IsS216.set_1 | apply IsS216.set_2) | exact HI0.out), by exact bk HB.out, by repeat (first | (with_reducible first | exact HK.out | apply KeepBut.set_ | apply keep_drewN | apply keep_drew | apply keep_alloc) | exact HK.out)⟩

 subst c6
 rw [if_pos rfl] at H
 simp only [Option.some.injEq, Prod.mk.injEq] at H
 obtain ⟨rfl, rfl, rfl, rfl⟩ := H
 obtain ⟨HGz7, hgz7⟩ := HI0.out
 have hcz7_0 := cellS216_0 HGz7
 have hcz7_1 := cellS216_1 HGz7
 have hcz7_2 := cellS216_2 HGz7
 have hfz7_0 := Zkf HGz7 0
 have hfz7_1 := Zkf HGz7 1
 have hfz7_2 := Zkf HGz7 2
 clear HGz7 hgz7
 go_wp2
 go_ret
 exact ⟨by first | rfl | (simp [*] <;> rfl), by repeat (first | (with_reducible first | exact HI0.out | apply IsS216.alloc | apply IsS216.drewN | apply IsS216.drew | apply IsS216.set_0 | apply IsS216.set_1 | apply IsS216.set_2) | exact HI0.out), by repeat (first | (with_reducible first | exact HB.out | apply Zba | apply Zbn | apply Zbd | refine Zbs ?_ (IsS216.ge HI0.out)) | exact HB.out), by repeat (first | (with_reducible first | exact HK.out | apply KeepBut.set_ | apply keep_drewN | apply keep_drew | apply keep_alloc) | exact HK.out)⟩
/-! ### impl_reader_want: function 157 -/
def impl_reader_want.f (s0_0 : ByteArray) (s0_1 : Int) (s0_2 : Bool) (a1 : Int) : Option (ByteArray × Int × Bool) := (impl_reader_take.f s0_0 s0_1 s0_2 a1).bind fun bt277 => (if bt277.1 = true then (some (bt277.2.1, bt277.2.2.1, bt277.2.2.2)) else (some (bt277.2.1, bt277.2.2.1, true)))
set_option maxHeartbeats 8000000 in
set_option maxRecDepth 100000 in
theorem impl_reader_want.calls (g : Nat) (s0_0 : ByteArray) (s0_1 : Int) (s0_2 : Bool) (a1 : Int) (r1 : ByteArray) (r2 : Int) (r3 : Bool) (w0 w : World) (hI : IsS216 w0 w g s0_0 s0_1 s0_2) (hB : Below w0.heap.size w0 w) (h : impl_reader_want.f s0_0 s0_1 s0_2 a1 = some (r1, r2, r3)) :
 Calls Try.prog 157 #[.pointer (some ⟨g, 0, none⟩), .int .u8 a1] w fun e w' => e = .returned (.tuple #[]) ∧ IsS216 w0 w' g r1 r2 r3 ∧ Below w0.heap.size w0 w' ∧ KeepBut w w' g none := by
 have HI0 := Zm hI
 have HK := Zm (KeepBut.refl w g none)
 have HL := Zm hB.size
 clear hI
 have HW0 := Zm hB.size
 have HB := Zm hB
 clear hB
 have H : ((impl_reader_take.f s0_0 s0_1 s0_2 a1).bind fun bt277 => (if bt277.1 = true then (some (bt277.2.1, bt277.2.2.1, bt277.2.2.2)) else (some (bt277.2.1, bt277.2.2.1, true)))) = some (r1, r2, r3) := h
 clear h
 replace H := Option.bind_eq_some_iff.mp H
 obtain ⟨⟨t277, t278, t279, t280⟩, A30, H⟩ := H
 replace H : (if t277 = true then (some (t278, t279, t280)) else (some (t278, t279, true))) = some (r1, r2, r3) := H
 have A3 := Zm A30
 clear A30
 have HC4 := Zm H
 clear H
 go_enter Try.func157, Try.ntmps157
 go_upto_if 7 with (first | ((with_reducible refine gate_callee (f := 158) rfl ?_); refine goesL_ (some 6) rfl rfl Try.func158 (by kernel_rfl) rfl #[.pointer (some ⟨g, 0, none⟩), .int .u8 a1] rfl (by (try simp only [List.map_toArray, List.map_cons, List.map_nil]); first | done | rfl | (simp only [List.length_drop, List.length_take]; rfl)) ?_; (with_reducible refine (impl_reader_take.calls g s0_0 s0_1 s0_2 a1 t277 t278 t279 t280 w0 _ ?side1 ?side2 A3.out).mono ?_); (case side1 => repeat (first | (with_reducible first | exact HI0.out | apply IsS216.alloc | apply IsS216.drewN | apply IsS216.drew | apply IsS216.set_0 | apply IsS216.set_1 | apply IsS216.set_2) | exact HI0.out)); (case side2 => exact bk HB.out); rintro e w5 ⟨rfl, hi, hb, hk⟩; refine ⟨_, rfl, ?_⟩; have n0_ := (⟨Zm (KeepBut.trans (by repeat (first | (with_reducible first | exact HK.out | apply KeepBut.set_ | apply keep_drewN | apply keep_drew | apply keep_alloc) | exact HK.out)) hk (.inl rfl)), Zm (hb), Zm (hi)⟩ : _ ∧ _ ∧ _); clear HK HB HI0; obtain ⟨HK, HB, HI0⟩ := n0_; (try clear hb); (try clear hb2); (try clear hk); (try clear hi)))
 have H := HC4.out
 clear HC4
 by_cases c6 : t277 = true
 rotate_left
 · replace c6 := Bool.eq_false_iff.mpr c6
   subst c6
   rw [if_neg (show ¬ (false = true) by decide)] at H
   simp only [Option.some.injEq, Prod.mk.injEq] at H
   obtain ⟨rfl, rfl, rfl⟩ := H
   obtain ⟨HGz7, hgz7⟩ := HI0.out
   have hcz7_0 := cellS216_0 HGz7
   have hcz7_1 := cellS216_1 HGz7
   have hcz7_2 := cellS216_2 HGz7
   have hfz7_0 := Zkf HGz7 0
   have hfz7_1 := Zkf HGz7 1
   have hfz7_2 := Zkf HGz7 2
   clear HGz7 hgz7
   go_wp2
   first | go_end0 | ((try simp only [Exit.inBlock, Exit.then]); refine bodyPost_ret (results_none rfl _ _ _) rfl ?_)
   exact ⟨by first | rfl | (simp [*] <;> rfl), by repeat (first | (with_reducible first | exact HI0.out | apply IsS216.alloc | apply IsS216.drewN | apply IsS216.drew | apply IsS216.set_0 | apply IsS216.set_1 | apply IsS216.set_2) | exact HI0.out), by repeat (first | (with_reducible first | exact HB.out | apply Zba | apply Zbn | apply Zbd | refine Zbs ?_ (IsS216.ge HI0.out)) | exact HB.out), by repeat (first | (with_reducible first | exact HK.out | apply KeepBut.set_ | apply keep_drewN | apply keep_drew | apply keep_alloc) | exact HK.out)⟩

 subst c6
 rw [if_pos rfl] at H
 simp only [Option.some.injEq, Prod.mk.injEq] at H
 obtain ⟨rfl, rfl, rfl⟩ := H
 go_wp2
 first | go_end0 | ((try simp only [Exit.inBlock, Exit.then]); refine bodyPost_ret (results_none rfl _ _ _) rfl ?_)
 exact ⟨by first | rfl | (simp [*] <;> rfl), by repeat (first | (with_reducible first | exact HI0.out | apply IsS216.alloc | apply IsS216.drewN | apply IsS216.drew | apply IsS216.set_0 | apply IsS216.set_1 | apply IsS216.set_2) | exact HI0.out), by exact bk HB.out, by repeat (first | (with_reducible first | exact HK.out | apply KeepBut.set_ | apply keep_drewN | apply keep_drew | apply keep_alloc) | exact HK.out)⟩
end Go.Proofs.Ytlflbmbcjjegaaa.PFnExactMethodRight
