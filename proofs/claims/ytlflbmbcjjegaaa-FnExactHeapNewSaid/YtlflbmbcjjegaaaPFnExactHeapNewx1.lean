/- Functions of the program as plain Lean functions, each with a proof that the program's call comes to the same; no condition. Written by a program of this session. -/
import Derived.Test.YtlflbmbcjjegaaaPFnExactHeapNewx0
namespace Go.Proofs.Ytlflbmbcjjegaaa.PFnExactHeapNew
open Go.RowKit Go.Proofs.YtlflbmbcjjegaaaW.PrintWords Go.Proofs.YtlflbmbcjjegaaaW.PrintLast Go.Proofs.YtlflbmbcjjegaaaW.PrintMore
open Go.Proofs.YtlflbmbcjjegaaaW.PrintWords renaming below_alloc → Zba, pw_below_drewN → Zbn, below_drew1 → Zbd, below_set → Zbs, below_size → Zbz, below_step → Zbt, blk_drewN → Zkn, blk_drew → Zkd, blk_alloc → Zka, blk_cell → Zkc, blk_frozen → Zkf, blk_far → Zkr, blk_put → Zkp, blk_below → Zkb
open Go.World renaming block_lt_of_cell? → Zlt
open Go.Proofs.YtlflbmbcjjegaaaW.PrintWords.Aside0 renaming mk → Zm
attribute [local go_sem] max2_int min2_int max_two min_two max_three min_three max_four min_four   -- for this text's walks alone
set_option linter.unusedVariables false
set_option linter.unusedSimpArgs false

/-! ### spec_BuiltIn: function 43 -/
def spec_BuiltIn.f  : Option (List ByteArray) := some (([(⟨#[79, 98, 106, 101, 99, 116]⟩ : ByteArray), (⟨#[69, 114, 114, 111, 114]⟩ : ByteArray), (⟨#[78, 117, 108, 108, 69, 114, 114, 111, 114]⟩ : ByteArray), (⟨#[82, 97, 110, 103, 101, 69, 114, 114, 111, 114]⟩ : ByteArray), (⟨#[67, 97, 115, 116, 69, 114, 114, 111, 114]⟩ : ByteArray), (⟨#[77, 97, 116, 104, 69, 114, 114, 111, 114]⟩ : ByteArray), (⟨#[70, 117, 108, 108, 69, 114, 114, 111, 114]⟩ : ByteArray), (⟨#[68, 101, 101, 112, 69, 114, 114, 111, 114]⟩ : ByteArray)] : List ByteArray))
set_option maxHeartbeats 8000000 in
set_option maxRecDepth 100000 in
theorem spec_BuiltIn.calls  (r : List ByteArray) (w : World) (h : spec_BuiltIn.f  = some r) :
 Calls Try.prog 43 #[] w fun e w' => ∃ v0_ : Value, e = .returned (v0_) ∧ Kd.R Kd.string 9 w' w.heap.size (fun _ => True) v0_ r ∧ Below w.heap.size w w' := by
 have HB := Zm (Below.refl w.heap.size w); have H : (some (([(⟨#[79, 98, 106, 101, 99, 116]⟩ : ByteArray), (⟨#[69, 114, 114, 111, 114]⟩ : ByteArray), (⟨#[78, 117, 108, 108, 69, 114, 114, 111, 114]⟩ : ByteArray), (⟨#[82, 97, 110, 103, 101, 69, 114, 114, 111, 114]⟩ : ByteArray), (⟨#[67, 97, 115, 116, 69, 114, 114, 111, 114]⟩ : ByteArray), (⟨#[77, 97, 116, 104, 69, 114, 114, 111, 114]⟩ : ByteArray), (⟨#[70, 117, 108, 108, 69, 114, 114, 111, 114]⟩ : ByteArray), (⟨#[68, 101, 101, 112, 69, 114, 114, 111, 114]⟩ : ByteArray)] : List ByteArray))) = some r := h; clear h; obtain ⟨y101, hy101⟩ : ∃ y_ : List ByteArray, y_ = (([(⟨#[79, 98, 106, 101, 99, 116]⟩ : ByteArray), (⟨#[69, 114, 114, 111, 114]⟩ : ByteArray), (⟨#[78, 117, 108, 108, 69, 114, 114, 111, 114]⟩ : ByteArray), (⟨#[82, 97, 110, 103, 101, 69, 114, 114, 111, 114]⟩ : ByteArray), (⟨#[67, 97, 115, 116, 69, 114, 114, 111, 114]⟩ : ByteArray), (⟨#[77, 97, 116, 104, 69, 114, 114, 111, 114]⟩ : ByteArray), (⟨#[70, 117, 108, 108, 69, 114, 114, 111, 114]⟩ : ByteArray), (⟨#[68, 101, 101, 112, 69, 114, 114, 111, 114]⟩ : ByteArray)] : List ByteArray)) := ⟨_, rfl⟩; replace H : (some y101) = some r := by first | (rw [hy101]; with_reducible exact H) | (have H2_ := (Option.bind_some _ _).symm.trans H; rw [hy101]; with_reducible exact H2_) | (have H2_ := (Option.bind_some _ _).symm.trans H; with_reducible exact H2_) | with_reducible exact H | (rw [hy101]; exact H) | exact H
 have Ny101 := Zm hy101; clear hy101; obtain rfl := Option.some.inj H; go_enter Try.func43, Try.ntmps43; go_wp2_with (first | ((with_reducible refine gate_dst (N := 1) rfl ?_); refine Kd.R_lit Kd.string _ 9 ?hg (N := 1) ?hd (xs := ([(⟨#[79, 98, 106, 101, 99, 116]⟩ : ByteArray), (⟨#[69, 114, 114, 111, 114]⟩ : ByteArray), (⟨#[78, 117, 108, 108, 69, 114, 114, 111, 114]⟩ : ByteArray), (⟨#[82, 97, 110, 103, 101, 69, 114, 114, 111, 114]⟩ : ByteArray), (⟨#[67, 97, 115, 116, 69, 114, 114, 111, 114]⟩ : ByteArray), (⟨#[77, 97, 116, 104, 69, 114, 114, 111, 114]⟩ : ByteArray), (⟨#[70, 117, 108, 108, 69, 114, 114, 111, 114]⟩ : ByteArray), (⟨#[68, 101, 101, 112, 69, 114, 114, 111, 114]⟩ : ByteArray)] : List ByteArray)) (inner := [.string (⟨#[79, 98, 106, 101, 99, 116]⟩ : ByteArray), .string (⟨#[69, 114, 114, 111, 114]⟩ : ByteArray), .string (⟨#[78, 117, 108, 108, 69, 114, 114, 111, 114]⟩ : ByteArray), .string (⟨#[82, 97, 110, 103, 101, 69, 114, 114, 111, 114]⟩ : ByteArray), .string (⟨#[67, 97, 115, 116, 69, 114, 114, 111, 114]⟩ : ByteArray), .string (⟨#[77, 97, 116, 104, 69, 114, 114, 111, 114]⟩ : ByteArray), .string (⟨#[70, 117, 108, 108, 69, 114, 114, 111, 114]⟩ : ByteArray), .string (⟨#[68, 101, 101, 112, 69, 114, 114, 111, 114]⟩ : ByteArray)]) (ok := fun _ => True) (okp := fun _ => True) ?hr ?hp (fun _ hk => hk) trivial (Below.refl _ _) (Nat.le_refl _) (by simp) ?_; (case hd => rfl); (case hg => rfl); (case hr => first | (go_simp; done) | (go_simp; rfl)); (case hp => exact (Reps.one (show Kd.M Kd.string _ _ _ (⟨#[79, 98, 106, 101, 99, 116]⟩ : ByteArray) [.string (⟨#[79, 98, 106, 101, 99, 116]⟩ : ByteArray)] from rfl) (Reps.one (show Kd.M Kd.string _ _ _ (⟨#[69, 114, 114, 111, 114]⟩ : ByteArray) [.string (⟨#[69, 114, 114, 111, 114]⟩ : ByteArray)] from rfl) (Reps.one (show Kd.M Kd.string _ _ _ (⟨#[78, 117, 108, 108, 69, 114, 114, 111, 114]⟩ : ByteArray) [.string (⟨#[78, 117, 108, 108, 69, 114, 114, 111, 114]⟩ : ByteArray)] from rfl) (Reps.one (show Kd.M Kd.string _ _ _ (⟨#[82, 97, 110, 103, 101, 69, 114, 114, 111, 114]⟩ : ByteArray) [.string (⟨#[82, 97, 110, 103, 101, 69, 114, 114, 111, 114]⟩ : ByteArray)] from rfl) (Reps.one (show Kd.M Kd.string _ _ _ (⟨#[67, 97, 115, 116, 69, 114, 114, 111, 114]⟩ : ByteArray) [.string (⟨#[67, 97, 115, 116, 69, 114, 114, 111, 114]⟩ : ByteArray)] from rfl) (Reps.one (show Kd.M Kd.string _ _ _ (⟨#[77, 97, 116, 104, 69, 114, 114, 111, 114]⟩ : ByteArray) [.string (⟨#[77, 97, 116, 104, 69, 114, 114, 111, 114]⟩ : ByteArray)] from rfl) (Reps.one (show Kd.M Kd.string _ _ _ (⟨#[70, 117, 108, 108, 69, 114, 114, 111, 114]⟩ : ByteArray) [.string (⟨#[70, 117, 108, 108, 69, 114, 114, 111, 114]⟩ : ByteArray)] from rfl) (Reps.one (show Kd.M Kd.string _ _ _ (⟨#[68, 101, 101, 112, 69, 114, 114, 111, 114]⟩ : ByteArray) [.string (⟨#[68, 101, 101, 112, 69, 114, 114, 111, 114]⟩ : ByteArray)] from rfl) (Reps.none _ _)))))))))); intro v102 w1 ho2 hb hg_ hnew_; clear hg_ hnew_; (first | rw [← Ny101.out] at ho2 | (simp only [Int.reduceToNat] at ho2; rw [← Ny101.out] at ho2)); have n0_ := (⟨Zm (Kd.R_lower ho2 (Zbz (bk HB.out))), Zm (Zbt (bk HB.out) hb)⟩ : _ ∧ _); clear HB; obtain ⟨HO103, HB⟩ := n0_; clear hb ho2)); go_ret; exact ⟨_, by first | rfl | (simp [*] <;> rfl), by (with_reducible repeat (first | apply Kd.R_alloc | apply Kd.R_drewN | apply Kd.R_drew)); exact HO103.out, bk HB.out⟩

/-! ### spec_HeapNew: function 10 -/
mutual
def spec_HeapNew.j0 : Nat → Int → Bool → Option ((List (S97)) × Int)
 | 0, _, _ => none
 | k + 1, x0, x11 => if x11 = true then (some (([] : List (S97)), 0)) else ((spec_BuiltIn.f).bind fun t106 => (spec_HeapNew.l0 k t106 2 ([] : List (S97)) x0))
def spec_HeapNew.l0 : Nat → List ByteArray → Int → List (S97) → Int → Option ((List (S97)) × Int)
 | 0, _, _, _, _ => none
 | k + 1, x4, x5, x106000, x106001 => if x5 < (x4.length : Int) then (if 0 ≤ x5 then (if x106000.length < 2513169434916 then (spec_HeapNew.l0 k x4 (wrap64 (x5 + 1)) (x106000 ++ [(⟨1, rdOf ByteArray.empty x4 x5, true, ([] : List (S67))⟩ : S97)]) x106001) else (none)) else (none)) else (some (x106000, x106001))
end
def spec_HeapNew.f (k : Nat) (a0 : Int) : Option ((List (S97)) × Int) := if a0 < 0 then (spec_HeapNew.j0 k a0 true) else (spec_HeapNew.j0 k a0 (decide (a0 > 94)))
def spec_HeapNew.T8 : Bool × List (List Nat × List Nat) := (true, [([], []), ([0], [0]), ([], []), ([], []), ([2, 3], [2, 3]), ([4], [4]), ([5], [5]), ([6], [6]), ([1, 7], [1, 7]), ([0, 1, 2, 3, 4, 5, 6, 7, 8], []), ([9, 8, 8, 0, 1, 2, 3, 4, 5, 6, 7, 8], [8, 9])])
def spec_HeapNew.B8 : List Nat := [0, 1, 0, 0, 12, 28, 60, 124, 255, 511, 1023]
theorem spec_HeapNew.tab8 : rtab .any (opsOf Try.f10 8) = spec_HeapNew.T8 := by kernel_rfl
theorem spec_HeapNew.bits8 : waitsOk spec_HeapNew.T8.2 spec_HeapNew.B8 = true := by kernel_rfl
set_option maxHeartbeats 8000000 in
set_option maxRecDepth 100000 in
theorem spec_HeapNew.calls (k : Nat) (a0 : Int) (r1 : List (S97)) (r2 : Int) (w : World) (h : spec_HeapNew.f k a0 = some (r1, r2)) :
 Calls Try.prog 10 #[.int .i64 a0] w fun e w' => ∃ v0_ : Value, e = .returned (.agg #[v0_, .int .i64 r2]) ∧ Kd.S k97 97 w' w.heap.size (fun _ => True) v0_ r1 ∧ Below w.heap.size w w' := by
 have hu24 := Try.underlying24; have hu97 := Try.underlying97; have HB := Zm (Below.refl w.heap.size w); have H : (if a0 < 0 then (spec_HeapNew.j0 k a0 true) else (spec_HeapNew.j0 k a0 (decide (a0 > 94)))) = some (r1, r2) := h; clear h; have HC2 := Zm H; clear H; go_enter Try.func10, Try.ntmps10; go_upto_region 1 with (first | ((with_reducible refine gate_dst (N := 2) rfl ?_); refine box_event ?hg (N := 2) ?hd (cs := #[.slice none 0 0, .int .i64 0]) (t := 24) ?hr ?_; (case hd => rfl); (case hg => rfl); (case hr => first | (go_simp; done) | (go_simp; rfl)); intro gb104 hg w3 hbox hb; have n0_ := (⟨Zm (Zbt (bk HB.out) hb), Zm (hbox), Zm ((by rw [hg]; exact (Zbz (bk HB.out)) : w.heap.size ≤ gb104)), Zm ((by rw [hg]; exact (Zbz (bk HB.out)) : w.heap.size ≤ gb104))⟩ : _ ∧ _ ∧ _ ∧ _); clear HB; obtain ⟨HB, BK104, GW104, GE104⟩ := n0_; clear hb hbox hg)); (try simp only [Act.put, List.setIfInBounds_toArray, List.set_cons_zero, List.set_cons_succ]); go_cut [11] (fun v11 wc => ∃ (kq : Nat) (x11_1 : Bool), v11 = .bool x11_1 ∧ Aside0 (spec_HeapNew.j0 kq a0 x11_1 = some (r1, r2)) ∧ Aside0 (kq ≤ k) ∧ Aside0 (wc.heap[gb104]? = some (.cells #[(.slice none 0 0), .int .i64 0] 24 (0, 0))) ∧ Aside0 (Below w.heap.size w wc))
 case first =>
  have H := HC2.out; clear HC2; by_cases c4 : a0 < 0; rotate_left
  · rw [if_neg c4] at H; have c4b0 := decide_eq_false c4; clear c4; (first | rw [c4b0] | (simp only [i64_w, i32_w]; rw [c4b0]) | skip); have H' := Zm H; clear H; go_wp2; go_meet
    case rel => exact ⟨_, (decide (a0 > 94)), (by first | rfl | (simp; done) | (simp [*]; done)), H', ⟨by first | omega | exact Nat.le_refl _⟩, ⟨pk BK104.out⟩, ⟨bk HB.out⟩⟩
  rw [if_pos c4] at H; have c4b0 := decide_eq_true c4; clear c4; (first | rw [c4b0] | (simp only [i64_w, i32_w]; rw [c4b0]) | skip); have H' := Zm H; clear H; go_wp2; go_meet
  case rel => exact ⟨_, (true), (by first | rfl | (simp; done) | (simp [*]; done)), H', ⟨by first | omega | exact Nat.le_refl _⟩, ⟨pk BK104.out⟩, ⟨bk HB.out⟩⟩
 case rest =>
  clear HC2; obtain ⟨kq, x11_1, rfl, HA, HJ1, BK104, HB⟩ := hcut
  cases kq with
  | zero => exact absurd HA.out (by simp [spec_HeapNew.j0])
  | succ kj1 =>
   have H := HA.out; clear HA; simp only [spec_HeapNew.j0] at H; by_cases c5 : x11_1 = true; rotate_left
   · replace c5 := Bool.eq_false_iff.mpr c5; subst c5; rw [if_neg (show ¬ (false = true) by decide)] at H; replace H := Option.bind_eq_some_iff.mp H; obtain ⟨t106, A70, H⟩ := H; replace H : (spec_HeapNew.l0 kj1 t106 2 ([] : List (S97)) a0) = some (r1, r2) := H; have A7 := Zm A70; clear A70; have H' := Zm H; clear H; go_wp2_with (first | ((with_reducible refine gate_dst (N := 3) rfl ?_); refine box_event ?hg (N := 3) ?hd (cs := #[.slice none 0 0, .int .i64 0]) (t := 24) ?hr ?_; (case hd => rfl); (case hg => rfl); (case hr => first | (go_simp; done) | (go_simp; rfl)); intro gb105 hg w8 hbox hb; have n0_ := (⟨Zm (Zkb (pk BK104.out) hb), Zm (Zbt (bk HB.out) hb), Zm (hbox), Zm ((by rw [hg]; exact (Zbz (bk HB.out)) : w.heap.size ≤ gb105)), Zm ((by rw [hg]; exact (Zbz (bk HB.out)) : w.heap.size ≤ gb105)), Zm ((by rw [hg]; exact Nat.ne_of_lt (blk_lt (pk BK104.out)) : gb104 ≠ gb105)), Zm ((by rw [hg]; exact Nat.ne_of_gt (blk_lt (pk BK104.out)) : gb105 ≠ gb104))⟩ : _ ∧ _ ∧ _ ∧ _ ∧ _ ∧ _ ∧ _); clear BK104 HB; obtain ⟨BK104, HB, BK105, GW105, GE105, NB104_105, NB105_104⟩ := n0_; clear hb hbox hg; have hnb9 := NB105_104.out; have hnc9 := NB104_105.out; obtain ⟨hcz10_0, hcz10_1, hfz10_0, hfz10_1⟩ := cf2 BK105.out) | ((with_reducible refine gate_callee (f := 43) rfl ?_); refine ge_ (some 15) Try.func43 #[] ?_; (with_reducible refine (spec_BuiltIn.calls _ _ A7.out).mono ?_); rintro e w11 ⟨v107, rfl, ho0, hb⟩; refine ⟨_, rfl, ?_⟩; have n0_ := (⟨Zm (Kd.R_lower ho0 (Zbz hb_)), Zm (Zkb (g := gb104) (o := .cells #[.slice none 0 0, .int .i64 0] 24 (0, 0)) zc_ hb), Zm (Zkb (g := gb105) (o := .cells #[.slice none 0 0, .int .i64 a0] 24 (0, 0)) zc_ hb), Zm (Zbt hb_ hb)⟩ : _ ∧ _ ∧ _ ∧ _); clear BK104 BK105 HB; obtain ⟨HO108, BK104, BK105, HB⟩ := n0_; (try clear hb); (try clear hb2); (try clear hk); (try clear hi); (try clear ho0))); go_loopg [5] kj1 (fun kq v5 w' => ∃ (x5_2 : Int) (x106000_2 : List (S97)) (u106000 : Value), v5 = .int .i64 x5_2 ∧ Aside0 (spec_HeapNew.l0 kq t106 x5_2 x106000_2 a0 = some (r1, r2)) ∧ Aside0 (kq ≤ kj1) ∧ Aside0 (Kd.R Kd.string 9 w' w.heap.size (fun _ => True) v107 t106) ∧ Aside0 (Kd.S k97 97 w' w.heap.size (fun _ => True) u106000 x106000_2) ∧ Aside0 (w'.heap[gb104]? = some (.cells #[(.slice none 0 0), .int .i64 0] 24 (0, 0))) ∧ Aside0 (w'.heap[gb105]? = some (.cells #[u106000, .int .i64 a0] 24 (0, 0))) ∧ Aside0 (Below w.heap.size w w'))
     case atStart => exact ⟨(2), (([] : List (S97))), (.slice none 0 0), (by first | rfl | (simp; done) | (simp [*]; done)), H', ⟨Nat.le_refl _⟩, ⟨by (with_reducible repeat (first | apply Kd.R_alloc | apply Kd.R_drewN | apply Kd.R_drew)); exact HO108.out⟩, ⟨by first | exact Kd.S_nil _ _ _ _ _ | exact Kd.N_nil _ _ _ _ _ | exact Kd.V_nil _ _ _ _ _ | exact Kd.Q_nil _ _ _ _ _ | exact Kd.R_nil _ _ _ _ _⟩, ⟨pk BK104.out⟩, ⟨pk BK105.out⟩, ⟨bk HB.out⟩⟩
     case round =>
      clear H'; (try clear c5); (try clear hcz10_0); (try clear hcz10_1); (try clear hfz10_0); (try clear hfz10_1); obtain ⟨x5_2, x106000_2, u106000, rfl, HA, HK2, HO_4, HO_106000, BK104, BK105, HB⟩ := hrel
      cases gk with
      | zero => exact absurd HA.out (by simp [spec_HeapNew.l0])
      | succ k2 =>
       have H := HA.out; clear HA; simp only [spec_HeapNew.l0] at H; by_cases c12 : x5_2 < (t106.length : Int); rotate_left
       · rw [if_neg c12] at H; have c12b0 := decide_eq_false c12; clear c12; simp only [Option.some.injEq, Prod.mk.injEq] at H; obtain ⟨rfl, rfl⟩ := H; obtain ⟨Ao20, co20, eo20⟩ := Kd.R_slice HO_4.out; subst eo20; have hnb21 := NB105_104.out; have hnc21 := NB104_105.out; obtain ⟨hcz22_0, hcz22_1, hfz22_0, hfz22_1⟩ := cf2 BK105.out; obtain ⟨Ao23, co23, eo23⟩ := Kd.S_slice HO_106000.out; subst eo23; obtain ⟨hcz24_0, hcz24_1, hfz24_0, hfz24_1⟩ := cf2 BK104.out; go_wp2; refine bodyPost_ret (results_cell_row rfl _ _ gb104 24 #[.slice Ao23 x106000_2.length co23, .int .i64 a0] (0, 0) _ rfl zc_ Try.underlying24 rfl (by kernel_rfl)) rfl ?_; exact ⟨_, by first | rfl | (simp [*] <;> rfl), by (with_reducible repeat (first | apply Kd.S_alloc | apply Kd.S_drewN | apply Kd.S_drew)); exact Kd.S_mono (Kd.S_far (p := ⟨gb104, 1, none⟩) (Kd.S_far (p := ⟨gb104, 0, none⟩) (Kd.S_types HO_106000.out BK104.out (by decide)) (fun _ hk => hk.2) (.slice Ao23 x106000_2.length co23)) (fun _ hk => hk.2) (.int .i64 a0)) (fun _ hk => trivial), hb_⟩

       rw [if_pos c12] at H
       have c12b0 := decide_eq_true c12
       clear c12
       by_cases c13 : 0 ≤ x5_2
       rotate_left
       · rw [if_neg c13] at H
         exact absurd H (by simp)
       rw [if_pos c13] at H
       have c13b0 := decide_eq_true c13
       clear c13
       by_cases c14 : x106000_2.length < 2513169434916
       rotate_left
       · rw [if_neg c14] at H
         exact absurd H (by simp)
       rw [if_pos c14] at H
       have LMc14 := Zm c14
       clear c14
       obtain ⟨y110, hy110⟩ : ∃ y_ : List (S97), y_ = (x106000_2 ++ [(⟨1, rdOf ByteArray.empty t106 x5_2, true, ([] : List (S67))⟩ : S97)]) := ⟨_, rfl⟩
       replace H : (spec_HeapNew.l0 k2 t106 (wrap64 (x5_2 + 1)) y110 a0) = some (r1, r2) := by first | (rw [hy110]; with_reducible exact H) | (have H2_ := (Option.bind_some _ _).symm.trans H; rw [hy110]; with_reducible exact H2_) | (have H2_ := (Option.bind_some _ _).symm.trans H; with_reducible exact H2_) | with_reducible exact H | (rw [hy110]; exact H) | exact H
       have Ny110 := Zm hy110
       clear hy110
       have H' := Zm H
       clear H
       obtain ⟨Ao15, co15, eo15⟩ := Kd.R_slice HO_4.out
       subst eo15
       try go_wp2
       have n0_ := (⟨Zm (Kd.R_drew HO_4.out), Zm (Kd.S_drew HO_106000.out), Zm (Zkd BK104.out), Zm (Zkd BK105.out), Zm (Zbd HB.out)⟩ : _ ∧ _ ∧ _ ∧ _ ∧ _)
       clear HO_4 HO_106000 BK104 BK105 HB
       obtain ⟨HO_4, HO_106000, BK104, BK105, HB⟩ := n0_
       have p109 : 0 ≤ (x5_2 : Int) := of_decide_eq_true (by first | (with_reducible assumption) | assumption)
       have q109 : x5_2 < (t106.length : Int) := of_decide_eq_true (by first | (with_reducible assumption) | assumption)
       obtain ⟨ad109, e109, hx109_0⟩ := Kd.at_string (Kd.R_reads' HO_4.out).2.2 x5_2 p109 q109
       cases e109
       replace p109 := eq_true p109
       replace q109 := eq_true q109
       refine start_ (n := 11) (S := fun w' => w'.cell? ⟨gb105, 0, none⟩ = some (u106000) ∧ w'.cell? ⟨gb105, 1, none⟩ = some (.int .i64 a0) ∧ w'.cell? (ad109.add (x5_2).toNat) = some (.string (rdOf ByteArray.empty t106 x5_2))) (ds := [8, 10]) #[false, false, false, false, false, false, false, false, false, false, false] (by kernel_rfl) rfl rfl ⟨(Zkc BK105.out 0).trans rfl, (Zkc BK105.out 1).trans rfl, hx109_0⟩ (fun hHeld => ?_); refine with_tabW spec_HeapNew.tab8 spec_HeapNew.bits8 (fun HT_ HW_ => ?_)
       generalize wr.drew = w16 at HO_4 HO_106000 BK104 BK105 HB hx109_0 hHeld ⊢
       refine pure_ (i := 0) (N := some 22) (v := ?_) (a' := ?_) #[true, false, false, false, false, false, false, false, false, false, false] rfl rfl (any_of HT_.out (by kernel_rfl)) (fun _ _ _ h => h) (Or.inl ⟨by rfl, ?_⟩) ?_ ?_
       rotate_left
       · intro w'
         go_simp
         with_reducible rfl
       rotate_left
       · simp only [Act.put, List.setIfInBounds_toArray, List.set_cons_zero, List.set_cons_succ, i64_w, i32_w]
         rfl
       refine pure_ (i := 2) (N := some 24) (v := ?_) (a' := ?_) #[true, false, true, false, false, false, false, false, false, false, false] rfl rfl (any_of HT_.out (by kernel_rfl)) (fun _ _ _ h => h) (Or.inl ⟨by rfl, ?_⟩) ?_ ?_
       rotate_left
       · intro w'
         go_simp
         with_reducible rfl
       rotate_left
       · simp only [Act.put, List.setIfInBounds_toArray, List.set_cons_zero, List.set_cons_succ, i64_w, i32_w]
         rfl
       refine pure_ (i := 3) (N := some 25) (v := ?_) (a' := ?_) #[true, false, true, true, false, false, false, false, false, false, false] rfl rfl (any_of HT_.out (by kernel_rfl)) (fun _ _ _ h => h) (Or.inl ⟨by rfl, ?_⟩) ?_ ?_
       rotate_left
       · intro w'
         go_simp
         with_reducible rfl
       rotate_left
       · simp only [Act.put, List.setIfInBounds_toArray, List.set_cons_zero, List.set_cons_succ, i64_w, i32_w]
         rfl
       refine pure_ (i := 4) (N := some 26) (v := ?_) (a' := ?_) #[true, false, true, true, true, false, false, false, false, false, false] rfl rfl (any_of HT_.out (by kernel_rfl)) (fun _ _ _ h => h) (Or.inl ⟨by rfl, ?_⟩) ?_ ?_
       rotate_left
       · intro w'
         go_simp
         with_reducible rfl
       rotate_left
       · simp only [Act.put, List.setIfInBounds_toArray, List.set_cons_zero, List.set_cons_succ, i64_w, i32_w]
         rfl
       refine take_ (i := 1) (N := some 23) (v := ?_) (a' := ?_) #[true, true, true, true, true, false, false, false, false, false, false] rfl rfl (take_ofW HT_.out HW_.out (by kernel_rfl)) (fun _ _ _ h => h) (Or.inl ⟨by rfl, ?_⟩) hHeld ?_ ?_
       rotate_left
       · rintro w' ⟨s0, s1, s2⟩
         go_simp
         with_reducible rfl
       rotate_left
       · simp only [Act.put, List.setIfInBounds_toArray, List.set_cons_zero, List.set_cons_succ, i64_w, i32_w]
         rfl
       refine take_ (i := 5) (N := some 27) (v := ?_) (a' := ?_) #[true, true, true, true, true, true, false, false, false, false, false] rfl rfl (take_ofW HT_.out HW_.out (by kernel_rfl)) (fun _ _ _ h => h) (Or.inl ⟨by rfl, ?_⟩) hHeld ?_ ?_
       rotate_left
       · rintro w' ⟨s0, s1, s2⟩
         go_simp
         with_reducible rfl
       rotate_left
       · simp only [Act.put, List.setIfInBounds_toArray, List.set_cons_zero, List.set_cons_succ, i64_w, i32_w]
         rfl
       refine pure_ (i := 6) (N := some 28) (v := ?_) (a' := ?_) #[true, true, true, true, true, true, true, false, false, false, false] rfl rfl (any_of HT_.out (by kernel_rfl)) (fun _ _ _ h => h) (Or.inl ⟨by rfl, ?_⟩) ?_ ?_
       rotate_left
       · intro w'
         go_simp
         with_reducible rfl
       rotate_left
       · simp only [Act.put, List.setIfInBounds_toArray, List.set_cons_zero, List.set_cons_succ, i64_w, i32_w]
         rfl
       refine one_ (i := 7) (N := some 29) #[true, true, true, true, true, true, true, true, false, false, false] rfl rfl (one_of HT_.out (by kernel_rfl)) (by decide) (fun K hK => ?_)
       refine value_ (w1 := ?_) (v := ?_) (by rfl) rfl ?_ ?_
       rotate_left 2
       · go_simp
         constructor
         · rfl
         · rfl
       refine hK.out _ _ ⟨(Zkc (Zka BK105.out _) 0).trans rfl, (Zkc (Zka BK105.out _) 1).trans rfl, (World.cell?_alloc_lt _ _ _ (Zlt _ _ (hHeld.2.2))).trans (hHeld.2.2)⟩ (fun hHeld => ?_)
       clear hK K
       refine norm_ (a' := ?_) ?_ ?_
       rotate_left
       · show Act.put _ (some 29) _ = _
         simp only [Act.put, List.setIfInBounds_toArray, List.set_cons_zero, List.set_cons_succ, i64_w, i32_w]
         rfl
       refine last_ (i := 8) (N := some 30) #[true, true, true, true, true, true, true, true, true, false, false] rfl rfl (one_of HT_.out (by kernel_rfl)) (by decide) (fun K hK => ?_)
       refine Kd.S_append_step k97 (w0 := w) w.heap.size (by rfl) (.tmp 23) (.tmp 29) 22 97 (.agg #[(.int .i64 0), (.string ⟨#[]⟩), (.bool false), (.slice none 0 0)]) 56 rfl Try.underlying22 info97 rfl (by decide) (by omega) u106000 x106000_2 (⟨1, rdOf ByteArray.empty t106 x5_2, true, ([] : List (S67))⟩ : S97) [.int .i64 1, .string (rdOf ByteArray.empty t106 x5_2), .bool true, .slice none 0 0] (fun _ => True) (fun _ => False) rfl rfl ?aP (fun k_ hk_ => hk_.elim) ?aF ?aO ?aB ?aS ?aL ?_
       (case aP => exact k97_mkM _ _ _ (⟨1, rdOf ByteArray.empty t106 x5_2, true, ([] : List (S67))⟩ : S97) (Kd.R_nil _ _ _ _ _))
       (case aB => exact (bk HB.out))
       (case aF => exact (fun _ _ => trivial))
       (case aO => exact (by (with_reducible repeat (first | apply Kd.S_alloc | apply Kd.S_drewN | apply Kd.S_drew)); exact Kd.S_mono HO_106000.out (fun k_ hk => ⟨trivial, fun e_ => e_⟩)))
       (case aS => exact (Zbz (bk HB.out)))
       (case aL => have := LMc14.out; omega)
       intro v111 w17 ho hb hg hat
       rw [← Ny110.out] at ho
       have n0_ := Zm (Kd.R_over' (by (with_reducible repeat (first | apply Kd.R_alloc | apply Kd.R_drewN | apply Kd.R_drew)); exact HO_4.out) (Kd.S_typed (by (with_reducible repeat (first | apply Kd.S_alloc | apply Kd.S_drewN | apply Kd.S_drew)); exact HO_106000.out)) (by decide) hg)
       have n1_ := Zm (blk_grown (pk BK104.out) hg (Kd.S_ne HO_106000.out BK104.out (by decide)))
       have n2_ := Zm (blk_grown (pk BK105.out) hg (Kd.S_ne HO_106000.out BK105.out (by decide)))
       have n3_ := Zm (hb)
       have n4_ := Zm (ho)
       clear HO_4
       clear BK104
       clear BK105
       clear HB
       clear HO_106000
       have HO_4 := n0_
       have BK104 := n1_
       have BK105 := n2_
       have HB := n3_
       have HO112 := n4_
       clear n0_ n1_ n2_ n3_ n4_
       clear ho hb hg hat
       obtain ⟨Ao18, co18, eo18⟩ := Kd.S_slice HO112.out
       (first | subst eo18 | (injection eo18 with f1_ f2_ f3_; have f4_ := f1_.symm; have f5_ := f3_.symm; clear f1_ f2_ f3_; subst f4_; subst f5_))
       refine hK.out _ _ ?_
       clear hK K
       refine norm_ (a' := ?_) ?_ ?_
       rotate_left
       · show Act.put _ (some 30) _ = _
         simp only [Act.put, List.setIfInBounds_toArray, List.set_cons_zero, List.set_cons_succ, i64_w, i32_w]
         rfl
       refine pure_ (i := 9) (N := some 31) (v := ?_) (a' := ?_) #[true, true, true, true, true, true, true, true, true, true, false] rfl rfl (any_of HT_.out (by kernel_rfl)) (fun _ _ _ h => h) (Or.inl ⟨by rfl, ?_⟩) ?_ ?_
       rotate_left
       · intro w'
         go_simp
         with_reducible rfl
       rotate_left
       · simp only [Act.put, List.setIfInBounds_toArray, List.set_cons_zero, List.set_cons_succ, i64_w, i32_w]
         rfl
       refine last_ (i := 10) (N := none) #[true, true, true, true, true, true, true, true, true, true, true] rfl rfl (one_of HT_.out (by kernel_rfl)) (by decide) (fun K hK => ?_)
       have hs19 : w17.cell? ⟨gb105, 0, none⟩ = some (u106000) := (Zkc BK105.out 0).trans rfl
       have hfs19 := Zkf BK105.out 0
       have hns19_0 := NB104_105.out
       have hms19_0 := NB105_104.out
       refine skip_ (w1 := ?_) (by rfl) rfl ?_ ?_
       rotate_left
       · go_simp
         rfl
       refine hK.out _ _ ?_
       clear hK K
       refine done_ (done_of HT_.out (by kernel_rfl)) ?_
       try go_wp2
       go_roundg k2
       case measure => have := HJ1.out; have := HK2.out; omega
       case rel => exact ⟨(wrap64 (x5_2 + 1)), (y110), (.slice Ao18 y110.length co18), (by first | rfl | (simp; done) | (simp [*]; done)), H', ⟨by have := HJ1.out; have := HK2.out; omega⟩, ⟨by (with_reducible repeat (first | apply Kd.R_alloc | apply Kd.R_drewN | apply Kd.R_drew)); exact Kd.R_mono (Kd.R_far (p := ⟨gb105, 0, none⟩) (Kd.R_types HO_4.out BK105.out (by decide)) (fun _ hk => hk.2) (.slice Ao18 y110.length co18)) (fun _ hk => trivial)⟩, ⟨by (with_reducible repeat (first | apply Kd.S_alloc | apply Kd.S_drewN | apply Kd.S_drew)); exact Kd.S_mono (Kd.S_far (p := ⟨gb105, 0, none⟩) (Kd.S_types HO112.out BK105.out (by decide)) (fun _ hk => hk.2) (.slice Ao18 y110.length co18)) (fun _ hk => trivial)⟩, ⟨zc_⟩, ⟨zc_⟩, ⟨hb_⟩⟩
   subst c5
   rw [if_pos rfl] at H
   simp only [Option.some.injEq, Prod.mk.injEq] at H
   obtain ⟨rfl, rfl⟩ := H
   obtain ⟨hcz6_0, hcz6_1, hfz6_0, hfz6_1⟩ := cf2 BK104.out
   go_wp2
   refine bodyPost_ret (results_cell_row rfl _ _ gb104 24 #[.slice none 0 0, .int .i64 0] (0, 0) _ rfl zc_ Try.underlying24 rfl (by kernel_rfl)) rfl ?_
   exact ⟨_, by first | rfl | (simp [*] <;> rfl), by first | exact Kd.S_nil _ _ _ _ _ | exact Kd.N_nil _ _ _ _ _ | exact Kd.V_nil _ _ _ _ _ | exact Kd.Q_nil _ _ _ _ _ | exact Kd.R_nil _ _ _ _ _, hb_⟩
/-! ### impl_within: function 44 -/
def impl_within.f (a0 : Int) (a1 : Int) (a2 : Int) : Option (Bool) := if a0 ≥ a1 then (some (decide (a0 ≤ a2))) else (some false)
set_option maxHeartbeats 8000000 in
set_option maxRecDepth 100000 in
theorem impl_within.calls (a0 : Int) (a1 : Int) (a2 : Int) (r : Bool) (w : World) (h : impl_within.f a0 a1 a2 = some r) :
 Calls Try.prog 44 #[.int .i64 a0, .int .i64 a1, .int .i64 a2] w fun e w' => e = .returned (.bool r) ∧ Drawn0 w w' := by
 have H : (if a0 ≥ a1 then (some (decide (a0 ≤ a2))) else (some false)) = some r := h; clear h; by_cases c4 : a0 ≥ a1; rotate_left
 · rw [if_neg c4] at H; have c4b0 : decide (a1 ≤ a0) = false := decide_eq_false c4; clear c4; obtain rfl := Option.some.inj H; go_enter Try.func44, Try.ntmps44; go_wp2; go_ret; exact ⟨by first | rfl | (simp; done) | (simp [*]; done), by repeat (first | exact Drawn0.refl _ | apply Drawn0.step)⟩

 rw [if_pos c4] at H
 have c4b0 : decide (a1 ≤ a0) = true := decide_eq_true c4
 clear c4
 obtain rfl := Option.some.inj H
 go_enter Try.func44, Try.ntmps44
 go_wp2
 go_ret
 exact ⟨by first | rfl | (simp; done) | (simp [*]; done), by repeat (first | exact Drawn0.refl _ | apply Drawn0.step)⟩
/-! ### impl_builtIn: function 119 -/
def impl_builtIn.f  : Option (List ByteArray) := some (([(⟨#[79, 98, 106, 101, 99, 116]⟩ : ByteArray), (⟨#[69, 114, 114, 111, 114]⟩ : ByteArray), (⟨#[78, 117, 108, 108, 69, 114, 114, 111, 114]⟩ : ByteArray), (⟨#[82, 97, 110, 103, 101, 69, 114, 114, 111, 114]⟩ : ByteArray), (⟨#[67, 97, 115, 116, 69, 114, 114, 111, 114]⟩ : ByteArray), (⟨#[77, 97, 116, 104, 69, 114, 114, 111, 114]⟩ : ByteArray), (⟨#[70, 117, 108, 108, 69, 114, 114, 111, 114]⟩ : ByteArray), (⟨#[68, 101, 101, 112, 69, 114, 114, 111, 114]⟩ : ByteArray)] : List ByteArray))
set_option maxHeartbeats 8000000 in
set_option maxRecDepth 100000 in
theorem impl_builtIn.calls  (r : List ByteArray) (w : World) (h : impl_builtIn.f  = some r) :
 Calls Try.prog 119 #[] w fun e w' => ∃ v0_ : Value, e = .returned (v0_) ∧ Kd.R Kd.string 9 w' w.heap.size (fun _ => True) v0_ r ∧ Below w.heap.size w w' := by
 have HB := Zm (Below.refl w.heap.size w); have H : (some (([(⟨#[79, 98, 106, 101, 99, 116]⟩ : ByteArray), (⟨#[69, 114, 114, 111, 114]⟩ : ByteArray), (⟨#[78, 117, 108, 108, 69, 114, 114, 111, 114]⟩ : ByteArray), (⟨#[82, 97, 110, 103, 101, 69, 114, 114, 111, 114]⟩ : ByteArray), (⟨#[67, 97, 115, 116, 69, 114, 114, 111, 114]⟩ : ByteArray), (⟨#[77, 97, 116, 104, 69, 114, 114, 111, 114]⟩ : ByteArray), (⟨#[70, 117, 108, 108, 69, 114, 114, 111, 114]⟩ : ByteArray), (⟨#[68, 101, 101, 112, 69, 114, 114, 111, 114]⟩ : ByteArray)] : List ByteArray))) = some r := h; clear h; obtain ⟨y113, hy113⟩ : ∃ y_ : List ByteArray, y_ = (([(⟨#[79, 98, 106, 101, 99, 116]⟩ : ByteArray), (⟨#[69, 114, 114, 111, 114]⟩ : ByteArray), (⟨#[78, 117, 108, 108, 69, 114, 114, 111, 114]⟩ : ByteArray), (⟨#[82, 97, 110, 103, 101, 69, 114, 114, 111, 114]⟩ : ByteArray), (⟨#[67, 97, 115, 116, 69, 114, 114, 111, 114]⟩ : ByteArray), (⟨#[77, 97, 116, 104, 69, 114, 114, 111, 114]⟩ : ByteArray), (⟨#[70, 117, 108, 108, 69, 114, 114, 111, 114]⟩ : ByteArray), (⟨#[68, 101, 101, 112, 69, 114, 114, 111, 114]⟩ : ByteArray)] : List ByteArray)) := ⟨_, rfl⟩; replace H : (some y113) = some r := by first | (rw [hy113]; with_reducible exact H) | (have H2_ := (Option.bind_some _ _).symm.trans H; rw [hy113]; with_reducible exact H2_) | (have H2_ := (Option.bind_some _ _).symm.trans H; with_reducible exact H2_) | with_reducible exact H | (rw [hy113]; exact H) | exact H
 have Ny113 := Zm hy113; clear hy113; obtain rfl := Option.some.inj H; go_enter Try.func119, Try.ntmps119; go_wp2_with (first | ((with_reducible refine gate_dst (N := 1) rfl ?_); refine Kd.R_lit Kd.string _ 9 ?hg (N := 1) ?hd (xs := ([(⟨#[79, 98, 106, 101, 99, 116]⟩ : ByteArray), (⟨#[69, 114, 114, 111, 114]⟩ : ByteArray), (⟨#[78, 117, 108, 108, 69, 114, 114, 111, 114]⟩ : ByteArray), (⟨#[82, 97, 110, 103, 101, 69, 114, 114, 111, 114]⟩ : ByteArray), (⟨#[67, 97, 115, 116, 69, 114, 114, 111, 114]⟩ : ByteArray), (⟨#[77, 97, 116, 104, 69, 114, 114, 111, 114]⟩ : ByteArray), (⟨#[70, 117, 108, 108, 69, 114, 114, 111, 114]⟩ : ByteArray), (⟨#[68, 101, 101, 112, 69, 114, 114, 111, 114]⟩ : ByteArray)] : List ByteArray)) (inner := [.string (⟨#[79, 98, 106, 101, 99, 116]⟩ : ByteArray), .string (⟨#[69, 114, 114, 111, 114]⟩ : ByteArray), .string (⟨#[78, 117, 108, 108, 69, 114, 114, 111, 114]⟩ : ByteArray), .string (⟨#[82, 97, 110, 103, 101, 69, 114, 114, 111, 114]⟩ : ByteArray), .string (⟨#[67, 97, 115, 116, 69, 114, 114, 111, 114]⟩ : ByteArray), .string (⟨#[77, 97, 116, 104, 69, 114, 114, 111, 114]⟩ : ByteArray), .string (⟨#[70, 117, 108, 108, 69, 114, 114, 111, 114]⟩ : ByteArray), .string (⟨#[68, 101, 101, 112, 69, 114, 114, 111, 114]⟩ : ByteArray)]) (ok := fun _ => True) (okp := fun _ => True) ?hr ?hp (fun _ hk => hk) trivial (Below.refl _ _) (Nat.le_refl _) (by simp) ?_; (case hd => rfl); (case hg => rfl); (case hr => first | (go_simp; done) | (go_simp; rfl)); (case hp => exact (Reps.one (show Kd.M Kd.string _ _ _ (⟨#[79, 98, 106, 101, 99, 116]⟩ : ByteArray) [.string (⟨#[79, 98, 106, 101, 99, 116]⟩ : ByteArray)] from rfl) (Reps.one (show Kd.M Kd.string _ _ _ (⟨#[69, 114, 114, 111, 114]⟩ : ByteArray) [.string (⟨#[69, 114, 114, 111, 114]⟩ : ByteArray)] from rfl) (Reps.one (show Kd.M Kd.string _ _ _ (⟨#[78, 117, 108, 108, 69, 114, 114, 111, 114]⟩ : ByteArray) [.string (⟨#[78, 117, 108, 108, 69, 114, 114, 111, 114]⟩ : ByteArray)] from rfl) (Reps.one (show Kd.M Kd.string _ _ _ (⟨#[82, 97, 110, 103, 101, 69, 114, 114, 111, 114]⟩ : ByteArray) [.string (⟨#[82, 97, 110, 103, 101, 69, 114, 114, 111, 114]⟩ : ByteArray)] from rfl) (Reps.one (show Kd.M Kd.string _ _ _ (⟨#[67, 97, 115, 116, 69, 114, 114, 111, 114]⟩ : ByteArray) [.string (⟨#[67, 97, 115, 116, 69, 114, 114, 111, 114]⟩ : ByteArray)] from rfl) (Reps.one (show Kd.M Kd.string _ _ _ (⟨#[77, 97, 116, 104, 69, 114, 114, 111, 114]⟩ : ByteArray) [.string (⟨#[77, 97, 116, 104, 69, 114, 114, 111, 114]⟩ : ByteArray)] from rfl) (Reps.one (show Kd.M Kd.string _ _ _ (⟨#[70, 117, 108, 108, 69, 114, 114, 111, 114]⟩ : ByteArray) [.string (⟨#[70, 117, 108, 108, 69, 114, 114, 111, 114]⟩ : ByteArray)] from rfl) (Reps.one (show Kd.M Kd.string _ _ _ (⟨#[68, 101, 101, 112, 69, 114, 114, 111, 114]⟩ : ByteArray) [.string (⟨#[68, 101, 101, 112, 69, 114, 114, 111, 114]⟩ : ByteArray)] from rfl) (Reps.none _ _)))))))))); intro v114 w1 ho2 hb hg_ hnew_; clear hg_ hnew_; (first | rw [← Ny113.out] at ho2 | (simp only [Int.reduceToNat] at ho2; rw [← Ny113.out] at ho2)); have n0_ := (⟨Zm (Kd.R_lower ho2 (Zbz (bk HB.out))), Zm (Zbt (bk HB.out) hb)⟩ : _ ∧ _); clear HB; obtain ⟨HO115, HB⟩ := n0_; clear hb ho2)); go_ret; exact ⟨_, by first | rfl | (simp [*] <;> rfl), by (with_reducible repeat (first | apply Kd.R_alloc | apply Kd.R_drewN | apply Kd.R_drew)); exact HO115.out, bk HB.out⟩

/-! ### impl_newHeap: function 45 -/
def impl_newHeap.l0 : Nat → List ByteArray → Int → Int → List (S97) → Int → Option ((List (S97)) × Int)
 | 0, _, _, _, _, _ => none
 | k + 1, x10, x11, x12, x117000, x117001 => if x12 < x11 then (if 0 ≤ x12 then (if x12 < (x10.length : Int) then (if x117000.length < 2513169434916 then (impl_newHeap.l0 k x10 x11 (wrap64 (x12 + 1)) (x117000 ++ [(⟨1, rdOf ByteArray.empty x10 x12, true, ([] : List (S67))⟩ : S97)]) x117001) else (none)) else (none)) else (none)) else (some (x117000, x117001))
def impl_newHeap.f (k : Nat) (a0 : Int) : Option ((List (S97)) × Int) := (impl_builtIn.f).bind fun t117 => (if 2 ≤ (t117.length : Int) then ((some (t117.drop 2 : List ByteArray)).bind fun y120 => (impl_newHeap.l0 k y120 (y120.length : Int) 0 ([] : List (S97)) a0)) else (none))
set_option maxHeartbeats 8000000 in
set_option maxRecDepth 100000 in
theorem impl_newHeap.calls (k : Nat) (a0 : Int) (r1 : List (S97)) (r2 : Int) (w : World) (h : impl_newHeap.f k a0 = some (r1, r2)) :
 Calls Try.prog 45 #[.int .i64 a0] w fun e w' => ∃ (v0_ : Value) (g_ : Nat), e = .returned (.pointer (some ⟨g_, 0, none⟩)) ∧ w.heap.size ≤ g_ ∧ w'.heap[g_]? = some (.cells #[v0_, .int .i64 r2] 24 (0, 0)) ∧ Kd.S k97 97 w' w.heap.size (fun _ => True) v0_ r1 ∧ Below w.heap.size w w' := by
 have hu24 := Try.underlying24; have hu97 := Try.underlying97; have HB := Zm (Below.refl w.heap.size w); have H : ((impl_builtIn.f).bind fun t117 => (if 2 ≤ (t117.length : Int) then ((some (t117.drop 2 : List ByteArray)).bind fun y120 => (impl_newHeap.l0 k y120 (y120.length : Int) 0 ([] : List (S97)) a0)) else (none))) = some (r1, r2) := h; clear h; replace H := Option.bind_eq_some_iff.mp H; obtain ⟨t117, A20, H⟩ := H; replace H : (if 2 ≤ (t117.length : Int) then ((some (t117.drop 2 : List ByteArray)).bind fun y120 => (impl_newHeap.l0 k y120 (y120.length : Int) 0 ([] : List (S97)) a0)) else (none)) = some (r1, r2) := H; have A2 := Zm A20; clear A20; by_cases c3 : 2 ≤ (t117.length : Int); rotate_left
 · rw [if_neg c3] at H; exact absurd H (by simp)

 rw [if_pos c3] at H
 have c3b0 := eq_true c3
 have c3b1 := decide_eq_true c3
 clear c3
 obtain ⟨y120, hy120⟩ : ∃ y_ : List ByteArray, y_ = (t117.drop 2) := ⟨_, rfl⟩
 replace H : (impl_newHeap.l0 k y120 (y120.length : Int) 0 ([] : List (S97)) a0) = some (r1, r2) := by first | (rw [hy120]; with_reducible exact H) | (have H2_ := (Option.bind_some _ _).symm.trans H; rw [hy120]; with_reducible exact H2_) | (have H2_ := (Option.bind_some _ _).symm.trans H; with_reducible exact H2_) | with_reducible exact H | (rw [hy120]; exact H) | exact H
 have Ny120 := Zm hy120
 clear hy120
 have H' := Zm H
 clear H
 go_enter Try.func45, Try.ntmps45
 go_wp2_with (first | ((with_reducible refine gate_dst (N := 8) rfl ?_); refine box_event ?hg (N := 8) ?hd (cs := #[.slice none 0 0, .int .i64 a0]) (t := 24) ?hr ?_; (case hd => rfl); (case hg => rfl); (case hr => first | (go_simp; done) | (go_simp; rfl)); intro gb116 hg w4 hbox hb; have n0_ := (⟨Zm (Zbt (bk HB.out) hb), Zm (hbox), Zm ((by rw [hg]; exact (Zbz (bk HB.out)) : w.heap.size ≤ gb116)), Zm ((by rw [hg]; exact (Zbz (bk HB.out)) : w.heap.size ≤ gb116))⟩ : _ ∧ _ ∧ _ ∧ _); clear HB; obtain ⟨HB, BK116, GW116, GE116⟩ := n0_; clear hb hbox hg) | ((with_reducible refine gate_callee (f := 119) rfl ?_); refine ge_ (some 9) Try.func119 #[] ?_; (with_reducible refine (impl_builtIn.calls _ _ A2.out).mono ?_); rintro e w5 ⟨v118, rfl, ho0, hb⟩; refine ⟨_, rfl, ?_⟩; have n0_ := (⟨Zm (Kd.R_lower ho0 (Zbz (bk HB.out))), Zm (Zkb (pk BK116.out) hb), Zm (Zbt (bk HB.out) hb)⟩ : _ ∧ _ ∧ _); clear BK116 HB; obtain ⟨HO119, BK116, HB⟩ := n0_; (try clear hb); (try clear hb2); (try clear hk); (try clear hi); (try clear ho0); obtain ⟨Ao7, co7, eo7⟩ := Kd.R_slice HO119.out; subst eo7; have q6 : (2 : Int) ≤ ((t117.length : Int) : Int) := of_decide_eq_true (by first | (with_reducible assumption) | assumption); obtain ⟨i06, hi06, _, hsz6, _⟩ := info_parts info9; have hroom6 : t117.length ≤ co7 := (Kd.R_reads' HO119.out).2.1; have hC6 : Kd.C Kd.string _ Ao7 t117.length t117 := (Kd.R_reads' HO119.out).2.2; have hcut6 := cut_from (P := Try.prog) 92 9 .i64 Try.underlying92 hi06 1 hsz6 Ao7 t117.length co7 2 (by omega) q6; have hr6 := Kd.C_drop (m := (2 : Int).toNat) (c := co7) hC6 (by omega) hroom6; obtain ⟨A6, hA6⟩ : ∃ A1, A1 = (if co7 = (2 : Int).toNat then Ao7 else (Ao7 : Option Addr).map (·.add ((2 : Int).toNat * 1))) := ⟨_, rfl⟩; obtain ⟨c6, hc6⟩ : ∃ c1, c1 = co7 - (2 : Int).toNat := ⟨_, rfl⟩; have hy6 : y120.length = t117.length - (2 : Int).toNat := (by rw [Ny120.out, List.length_drop] <;> omega); rw [show (t117).drop (2 : Int).toNat = y120 from Ny120.out.symm] at hr6; replace hr6 : Kd.C Kd.string _ A6 y120.length y120 := (by rw [hA6]; exact hr6); rw [← hy6, ← hA6, ← hc6] at hcut6; have HR123 := Zm hr6; have HC123 := Zm (show y120.length ≤ c6 from by rw [hy6, hc6]; exact Nat.sub_le_sub_right hroom6 _); have HD := Zm (fun (W : World) (hC_ : Kd.C Kd.string W Ao7 t117.length t117) => (show Kd.C Kd.string W A6 y120.length y120 from by have hr_ := Kd.C_drop (m := (2 : Int).toNat) (c := co7) hC_ (by omega) hroom6; rw [show (t117).drop (2 : Int).toNat = y120 from Ny120.out.symm] at hr_; rw [hA6]; exact hr_)); clear hr6 hC6 hroom6 hi06 hsz6 hc6; have KY6 := Zm hy6; have KA6 := Zm hA6; clear hy6 hA6; have KL6 := Zm (show 2 ≤ t117.length from by omega); replace q6 := eq_true q6))
 go_loopg [12] k (fun kq v12 w' => ∃ (x12_1 : Int) (x117000_1 : List (S97)) (u117000 : Value), v12 = .int .i64 x12_1 ∧ Aside0 (impl_newHeap.l0 kq y120 (y120.length : Int) x12_1 x117000_1 a0 = some (r1, r2)) ∧ Aside0 (kq ≤ k) ∧ Aside0 (Kd.R Kd.string 9 w' w.heap.size (fun _ => True) (.slice Ao7 t117.length co7) t117) ∧ Aside0 (Kd.S k97 97 w' w.heap.size (fun _ => True) u117000 x117000_1) ∧ Aside0 (w'.heap[gb116]? = some (.cells #[u117000, .int .i64 a0] 24 (0, 0))) ∧ Aside0 (Below w.heap.size w w'))
 case atStart => exact ⟨(0), (([] : List (S97))), (.slice none 0 0), (by first | rfl | (simp; done) | (simp [*]; done)), H', ⟨Nat.le_refl _⟩, ⟨by (with_reducible repeat (first | apply Kd.R_alloc | apply Kd.R_drewN | apply Kd.R_drew)); exact HO119.out⟩, ⟨by first | exact Kd.S_nil _ _ _ _ _ | exact Kd.N_nil _ _ _ _ _ | exact Kd.V_nil _ _ _ _ _ | exact Kd.Q_nil _ _ _ _ _ | exact Kd.R_nil _ _ _ _ _⟩, ⟨pk BK116.out⟩, ⟨bk HB.out⟩⟩
 case round =>
  clear H'
  (try clear c3); (try clear c3b0); (try clear c3b1); (try clear c6); (try clear q6); (try clear q6)
  obtain ⟨x12_1, x117000_1, u117000, rfl, HA, HK1, HOW, HO_117000, BK116, HB⟩ := hrel
  cases gk with
  | zero => exact absurd HA.out (by simp [impl_newHeap.l0])
  | succ k1 =>
   have H := HA.out
   clear HA
   simp only [impl_newHeap.l0] at H
   by_cases c8 : x12_1 < (y120.length : Int)
   rotate_left
   · rw [if_neg c8] at H
     have c8b0 := decide_eq_false c8
     clear c8
     simp only [Option.some.injEq, Prod.mk.injEq] at H
     obtain ⟨rfl, rfl⟩ := H
     obtain ⟨hcz16_0, hcz16_1, hfz16_0, hfz16_1⟩ := cf2 BK116.out
     go_wp2
     go_ret
     exact ⟨_, gb116, by first | rfl | (simp [*] <;> rfl), GE116.out, (pk BK116.out), by (with_reducible repeat (first | apply Kd.S_alloc | apply Kd.S_drewN | apply Kd.S_drew)); exact HO_117000.out, bk HB.out⟩
   rw [if_pos c8] at H
   have c8b0 := decide_eq_true c8
   clear c8
   by_cases c9 : 0 ≤ x12_1
   rotate_left
   · rw [if_neg c9] at H
     exact absurd H (by simp)
   rw [if_pos c9] at H
   have c9b0 := decide_eq_true c9
   clear c9
   by_cases c10 : x12_1 < (y120.length : Int)
   rotate_left
   · rw [if_neg c10] at H
     exact absurd H (by simp)
   rw [if_pos c10] at H
   have c10b0 := decide_eq_true c10
   clear c10
   by_cases c11 : x117000_1.length < 2513169434916
   rotate_left
   · rw [if_neg c11] at H
     exact absurd H (by simp)
   rw [if_pos c11] at H
   have LMc11 := Zm c11
   clear c11
   obtain ⟨y125, hy125⟩ : ∃ y_ : List (S97), y_ = (x117000_1 ++ [(⟨1, rdOf ByteArray.empty y120 x12_1, true, ([] : List (S67))⟩ : S97)]) := ⟨_, rfl⟩
   replace H : (impl_newHeap.l0 k1 y120 (y120.length : Int) (wrap64 (x12_1 + 1)) y125 a0) = some (r1, r2) := by first | (rw [hy125]; with_reducible exact H) | (have H2_ := (Option.bind_some _ _).symm.trans H; rw [hy125]; with_reducible exact H2_) | (have H2_ := (Option.bind_some _ _).symm.trans H; with_reducible exact H2_) | with_reducible exact H | (rw [hy125]; exact H) | exact H
   have Ny125 := Zm hy125
   clear hy125
   have H' := Zm H
   clear H
   have p124 : 0 ≤ (x12_1 : Int) := of_decide_eq_true (by first | (with_reducible assumption) | assumption)
   have q124 : x12_1 < (y120.length : Int) := of_decide_eq_true (by first | (with_reducible assumption) | assumption)
   obtain ⟨ad124, e124, hx124_0⟩ := Kd.at_string (HD.out _ (Kd.R_reads' HOW.out).2.2) x12_1 p124 q124
   cases e124
   replace p124 := eq_true p124
   replace q124 := eq_true q124
   obtain ⟨hcz12_0, hcz12_1, hfz12_0, hfz12_1⟩ := cf2 BK116.out
   go_wp2_with (first | ((with_reducible refine gate_builtin (b := .append) (xs := #[.tmp 20, .tmp 23]) rfl ?_); at_builtin; refine Kd.S_append k97 (w0 := w) w.heap.size rfl (.tmp 20) (.tmp 23) 22 97 (.agg #[(.int .i64 0), (.string ⟨#[]⟩), (.bool false), (.slice none 0 0)]) 56 rfl Try.underlying22 info97 rfl (by decide) (by omega) u117000 x117000_1 (⟨1, rdOf ByteArray.empty y120 x12_1, true, ([] : List (S67))⟩ : S97) [.int .i64 1, .string (rdOf ByteArray.empty y120 x12_1), .bool true, .slice none 0 0] (fun _ => True) (fun _ => False) rfl rfl ?aP (fun k_ hk_ => hk_.elim) ?aF ?aO ?aB ?aS ?aL ?_; (case aP => exact k97_mkM _ _ _ (⟨1, rdOf ByteArray.empty y120 x12_1, true, ([] : List (S67))⟩ : S97) (Kd.R_nil _ _ _ _ _)); (case aB => exact (bk HB.out)); (case aF => exact (fun _ _ => trivial)); (case aO => exact (by (with_reducible repeat (first | apply Kd.S_alloc | apply Kd.S_drewN | apply Kd.S_drew)); exact Kd.S_mono HO_117000.out (fun k_ hk => ⟨trivial, fun e_ => e_⟩))); (case aS => exact (Zbz (bk HB.out))); (case aL => have := LMc11.out; omega); intro v126 w13 ho hb hg hat; rw [← Ny125.out] at ho; have n0_ := (⟨Zm (blk_grown (pk BK116.out) hg (Kd.S_ne HO_117000.out BK116.out (by decide))), Zm (hb), Zm (ho), Zm (Kd.R_over' (by (with_reducible repeat (first | apply Kd.R_alloc | apply Kd.R_drewN | apply Kd.R_drew)); exact HOW.out) (Kd.S_typed (by (with_reducible repeat (first | apply Kd.S_alloc | apply Kd.S_drewN | apply Kd.S_drew)); exact HO_117000.out)) (by decide) hg)⟩ : _ ∧ _ ∧ _ ∧ _); clear BK116 HB HO_117000 HOW; obtain ⟨BK116, HB, HO127, HOW⟩ := n0_; clear ho hb hg hat; obtain ⟨Ao14, co14, eo14⟩ := Kd.S_slice HO127.out; subst eo14; obtain ⟨hcz15_0, hcz15_1, hfz15_0, hfz15_1⟩ := cf2 BK116.out))
   go_roundg k1
   case measure => have := HK1.out; omega
   case rel => exact ⟨(wrap64 (x12_1 + 1)), (y125), (.slice Ao14 y125.length co14), (by first | rfl | (simp; done) | (simp [*]; done)), H', ⟨by have := HK1.out; omega⟩, ⟨by (with_reducible repeat (first | apply Kd.R_alloc | apply Kd.R_drewN | apply Kd.R_drew)); exact Kd.R_mono (Kd.R_far (p := ⟨gb116, 0, none⟩) (Kd.R_types HOW.out BK116.out (by decide)) (fun _ hk => hk.2) (.slice Ao14 y125.length co14)) (fun _ hk => trivial)⟩, ⟨by (with_reducible repeat (first | apply Kd.S_alloc | apply Kd.S_drewN | apply Kd.S_drew)); exact Kd.S_mono (Kd.S_far (p := ⟨gb116, 0, none⟩) (Kd.S_types HO127.out BK116.out (by decide)) (fun _ hk => hk.2) (.slice Ao14 y125.length co14)) (fun _ hk => trivial)⟩, ⟨zc_⟩, ⟨hb_⟩⟩
/-! ### impl_HeapNew: function 11 -/
def impl_HeapNew.f (k : Nat) (a0 : Int) : Option ((List (S97)) × Int) := (impl_within.f a0 0 94).bind fun t129 => (if t129 = true then ((impl_newHeap.f k a0).bind fun bt130 => (some (bt130.1, bt130.2))) else (some (([] : List (S97)), 0)))
set_option maxHeartbeats 8000000 in
set_option maxRecDepth 100000 in
theorem impl_HeapNew.calls (k : Nat) (a0 : Int) (r1 : List (S97)) (r2 : Int) (w : World) (h : impl_HeapNew.f k a0 = some (r1, r2)) :
 Calls Try.prog 11 #[.int .i64 a0] w fun e w' => ∃ v0_ : Value, e = .returned (.agg #[v0_, .int .i64 r2]) ∧ Kd.S k97 97 w' w.heap.size (fun _ => True) v0_ r1 ∧ Below w.heap.size w w' := by
 have hu24 := Try.underlying24; have HB := Zm (Below.refl w.heap.size w); have H : ((impl_within.f a0 0 94).bind fun t129 => (if t129 = true then ((impl_newHeap.f k a0).bind fun bt130 => (some (bt130.1, bt130.2))) else (some (([] : List (S97)), 0)))) = some (r1, r2) := h; clear h; replace H := Option.bind_eq_some_iff.mp H; obtain ⟨t129, A20, H⟩ := H; replace H : (if t129 = true then ((impl_newHeap.f k a0).bind fun bt130 => (some (bt130.1, bt130.2))) else (some (([] : List (S97)), 0))) = some (r1, r2) := H; have A2 := Zm A20; clear A20; have HC3 := Zm H; clear H; go_enter Try.func11, Try.ntmps11; go_upto_if 5 with (first | ((with_reducible refine gate_dst (N := 2) rfl ?_); refine box_event ?hg (N := 2) ?hd (cs := #[.slice none 0 0, .int .i64 0]) (t := 24) ?hr ?_; (case hd => rfl); (case hg => rfl); (case hr => first | (go_simp; done) | (go_simp; rfl)); intro gb128 hg w4 hbox hb; have n0_ := (⟨Zm (Zbt (bk HB.out) hb), Zm (hbox), Zm ((by rw [hg]; exact (Zbz (bk HB.out)) : w.heap.size ≤ gb128)), Zm ((by rw [hg]; exact (Zbz (bk HB.out)) : w.heap.size ≤ gb128))⟩ : _ ∧ _ ∧ _ ∧ _); clear HB; obtain ⟨HB, BK128, GW128, GE128⟩ := n0_; clear hb hbox hg) | ((with_reducible refine gate_callee (f := 44) rfl ?_); refine ge_ (some 4) Try.func44 #[.int .i64 a0, .int .i64 0, .int .i64 94] ?_; (with_reducible refine (impl_within.calls _ _ _ _ _ A2.out).mono ?_); rintro e w' ⟨rfl, ⟨nd, rfl⟩⟩; refine ⟨_, rfl, ?_⟩)); have H := HC3.out; clear HC3; by_cases c5 : t129 = true; rotate_left
 · replace c5 := Bool.eq_false_iff.mpr c5; subst c5; rw [if_neg (show ¬ (false = true) by decide)] at H; simp only [Option.some.injEq, Prod.mk.injEq] at H; obtain ⟨rfl, rfl⟩ := H; obtain ⟨hcz10_0, hcz10_1, hfz10_0, hfz10_1⟩ := cf2 BK128.out; go_wp2; refine bodyPost_ret (results_cell_row rfl _ _ gb128 24 #[.slice none 0 0, .int .i64 0] (0, 0) _ rfl zc_ Try.underlying24 rfl (by kernel_rfl)) rfl ?_; exact ⟨_, by first | rfl | (simp [*] <;> rfl), by first | exact Kd.S_nil _ _ _ _ _ | exact Kd.N_nil _ _ _ _ _ | exact Kd.V_nil _ _ _ _ _ | exact Kd.Q_nil _ _ _ _ _ | exact Kd.R_nil _ _ _ _ _, hb_⟩

 subst c5
 rw [if_pos rfl] at H
 replace H := Option.bind_eq_some_iff.mp H
 obtain ⟨⟨t130, t133⟩, A60, H⟩ := H
 replace H : (some (t130, t133)) = some (r1, r2) := H
 have A6 := Zm A60
 clear A60
 simp only [Option.some.injEq, Prod.mk.injEq] at H
 obtain ⟨rfl, rfl⟩ := H
 go_wp2_with (first | ((with_reducible refine gate_callee (f := 45) rfl ?_); refine ge_ (some 8) Try.func45 #[.int .i64 a0] ?_; (with_reducible refine (impl_newHeap.calls _ _ _ _ _ A6.out).mono ?_); rintro e w7 ⟨v131, g_, rfl, hge_, hbk_, ho0, hb⟩; refine ⟨_, rfl, ?_⟩; have n0_ := (⟨Zm (Kd.S_lower ho0 (Zbz (bk HB.out))), Zm (Zkb (pk BK128.out) hb), Zm (Zbt (bk HB.out) hb)⟩ : _ ∧ _ ∧ _); clear BK128 HB; obtain ⟨HO132, BK128, HB⟩ := n0_; (try clear hb); (try clear hb2); (try clear hk); (try clear hi); (try clear ho0); obtain ⟨Ao8, co8, eo8⟩ := Kd.S_slice HO132.out; subst eo8; obtain ⟨hcz9_0, hcz9_1, hfz9_0, hfz9_1⟩ := cf2 BK128.out; obtain ⟨hcq_0, hcq_1, hfq_0, hfq_1⟩ := cf2 hbk_))
 refine bodyPost_ret (results_cell_row rfl _ _ gb128 24 #[.slice Ao8 t130.length co8, .int .i64 t133] (0, 0) _ rfl zc_ Try.underlying24 rfl (by kernel_rfl)) rfl ?_
 exact ⟨_, by first | rfl | (simp [*] <;> rfl), by (with_reducible repeat (first | apply Kd.S_alloc | apply Kd.S_drewN | apply Kd.S_drew)); exact Kd.S_mono (Kd.S_far (p := ⟨gb128, 1, none⟩) (Kd.S_far (p := ⟨gb128, 0, none⟩) (Kd.S_types HO132.out BK128.out (by decide)) (fun _ hk => hk.2) (.slice Ao8 t130.length co8)) (fun _ hk => hk.2) (.int .i64 t133)) (fun _ hk => trivial), hb_⟩
/-! ### laws_eqVal: function 85 -/
def laws_eqVal.f (a0_0 : Int) (a0_1 : Int) (a1_0 : Int) (a1_1 : Int) : Option (Bool) := if a0_0 = a1_0 then (if a0_1 = a1_1 then (some true) else (some false)) else (some false)
set_option maxHeartbeats 8000000 in
set_option maxRecDepth 100000 in
theorem laws_eqVal.calls (a0_0 : Int) (a0_1 : Int) (a1_0 : Int) (a1_1 : Int) (r : Bool) (w : World) (h : laws_eqVal.f a0_0 a0_1 a1_0 a1_1 = some r) :
 Calls Try.prog 85 #[.agg #[.int .i64 a0_0, .int .i64 a0_1], .agg #[.int .i64 a1_0, .int .i64 a1_1]] w fun e w' => e = .returned (.bool r) ∧ Below w.heap.size w w' := by
 have hu67 := Try.underlying67; have HB := Zm (Below.refl w.heap.size w); have H : (if a0_0 = a1_0 then (if a0_1 = a1_1 then (some true) else (some false)) else (some false)) = some r := h; clear h; have HC3 := Zm H; clear H; go_enter Try.func85, Try.ntmps85; go_upto_if 9 with (first | ((with_reducible refine gate_dst (N := 2) rfl ?_); refine box_event ?hg (N := 2) ?hd (cs := #[.int .i64 a0_0, .int .i64 a0_1]) (t := 67) ?hr ?_; (case hd => rfl); (case hg => rfl); (case hr => first | (go_simp; done) | (go_simp; rfl)); intro gb134 hg w4 hbox hb; have n0_ := (⟨Zm (Zbt (bk HB.out) hb), Zm (hbox), Zm ((by rw [hg]; exact (Zbz (bk HB.out)) : w.heap.size ≤ gb134)), Zm ((by rw [hg]; exact (Zbz (bk HB.out)) : w.heap.size ≤ gb134))⟩ : _ ∧ _ ∧ _ ∧ _); clear HB; obtain ⟨HB, BK134, GW134, GE134⟩ := n0_; clear hb hbox hg) | ((with_reducible refine gate_dst (N := 3) rfl ?_); refine box_event ?hg (N := 3) ?hd (cs := #[.int .i64 a1_0, .int .i64 a1_1]) (t := 67) ?hr ?_; (case hd => rfl); (case hg => rfl); (case hr => first | (go_simp; done) | (go_simp; rfl)); intro gb135 hg w5 hbox hb; have n0_ := (⟨Zm (Zkb (pk BK134.out) hb), Zm (Zbt (bk HB.out) hb), Zm (hbox), Zm ((by rw [hg]; exact (Zbz (bk HB.out)) : w.heap.size ≤ gb135)), Zm ((by rw [hg]; exact (Zbz (bk HB.out)) : w.heap.size ≤ gb135)), Zm ((by rw [hg]; exact Nat.ne_of_lt (blk_lt (pk BK134.out)) : gb134 ≠ gb135)), Zm ((by rw [hg]; exact Nat.ne_of_gt (blk_lt (pk BK134.out)) : gb135 ≠ gb134))⟩ : _ ∧ _ ∧ _ ∧ _ ∧ _ ∧ _ ∧ _); clear BK134 HB; obtain ⟨BK134, HB, BK135, GW135, GE135, NB134_135, NB135_134⟩ := n0_; clear hb hbox hg; have hnb6 := NB134_135.out; have hnc6 := NB135_134.out; obtain ⟨hcz7_0, hcz7_1⟩ := cz2 BK134.out; obtain ⟨hcz8_0, hcz8_1⟩ := cz2 BK135.out; have hfz8_1 := Zkf BK135.out 1)); have H := HC3.out; clear HC3; by_cases c9 : a0_0 = a1_0; rotate_left
 · rw [if_neg c9] at H; have c9b0 : (a0_0 == a1_0) = false := beq_eq_false_iff_ne.mpr c9; have c9b1 : (a0_0 != a1_0) = true := bne_iff_ne.mpr c9; (first | rw [c9b0] | (simp only [i64_w, i32_w]; rw [c9b0]) | skip); obtain rfl := Option.some.inj H; go_wp2; go_ret; exact fin_ HB

 rw [if_pos c9] at H
 have c9b0 : (a0_0 == a1_0) = true := beq_iff_eq.mpr c9
 have c9b1 : (a0_0 != a1_0) = false := bne_eq_false_iff_eq.mpr c9
 clear c9
 (first | rw [c9b0] | (simp only [i64_w, i32_w]; rw [c9b0]) | skip)
 by_cases c10 : a0_1 = a1_1
 rotate_left
 · rw [if_neg c10] at H
   have c10b0 : (a0_1 == a1_1) = false := beq_eq_false_iff_ne.mpr c10
   have c10b1 : (a0_1 != a1_1) = true := bne_iff_ne.mpr c10
   obtain rfl := Option.some.inj H
   have hnb14 := NB134_135.out
   have hnc14 := NB135_134.out
   obtain ⟨hcz15_0, hcz15_1⟩ := cz2 BK134.out
   obtain ⟨hcz16_0, hcz16_1⟩ := cz2 BK135.out
   go_wp2
   go_ret
   exact fin_ HB
 rw [if_pos c10] at H
 have c10b0 : (a0_1 == a1_1) = true := beq_iff_eq.mpr c10
 have c10b1 : (a0_1 != a1_1) = false := bne_eq_false_iff_eq.mpr c10
 clear c10
 obtain rfl := Option.some.inj H
 have hnb11 := NB134_135.out
 have hnc11 := NB135_134.out
 obtain ⟨hcz12_0, hcz12_1⟩ := cz2 BK134.out
 obtain ⟨hcz13_0, hcz13_1⟩ := cz2 BK135.out
 go_wp2
 go_ret
 exact fin_ HB
/-! ### laws_eqValS: function 83 -/
def laws_eqValS.l0 : Nat → List (S67) → List (S67) → Int → Option (Bool)
 | 0, _, _, _ => none
 | k + 1, x0, x1, x5 => if x5 < (x0.length : Int) then (if 0 ≤ x5 then (if x5 < (x1.length : Int) then ((laws_eqVal.f ((rd_T67 x0 x5).f0) ((rd_T67 x0 x5).f1) ((rd_T67 x1 x5).f0) ((rd_T67 x1 x5).f1)).bind fun t138 => (if t138 = true then (laws_eqValS.l0 k x0 x1 (wrap64 (x5 + 1))) else (some false))) else (none)) else (none)) else (some true)
def laws_eqValS.f (k : Nat) (l0 : List (S67)) (l1 : List (S67)) : Option (Bool) := if (l0.length : Int) = (l1.length : Int) then (laws_eqValS.l0 k l0 l1 0) else (some false)
def laws_eqValS.T6 : Bool × List (List Nat × List Nat) := (true, [([], []), ([], []), ([0, 1], [0, 1]), ([2], [2]), ([], []), ([], []), ([4, 5], [4, 5]), ([6], [6]), ([3, 7], [3, 7]), ([8], [8])])
def laws_eqValS.B6 : List Nat := [0, 0, 3, 7, 0, 0, 48, 112, 255, 511]
theorem laws_eqValS.tab6 : rtab .any (opsOf Try.f83 6) = laws_eqValS.T6 := by kernel_rfl
theorem laws_eqValS.bits6 : waitsOk laws_eqValS.T6.2 laws_eqValS.B6 = true := by kernel_rfl
set_option maxHeartbeats 8000000 in
set_option maxRecDepth 100000 in
theorem laws_eqValS.calls (k : Nat) (A0 : Option Addr) (c0 : Nat) (l0 : List (S67)) (A1 : Option Addr) (c1 : Nat) (l1 : List (S67)) (r : Bool) (w : World) (hr0 : Kd.C k67 w A0 l0.length l0) (hc0 : l0.length ≤ c0) (hr1 : Kd.C k67 w A1 l1.length l1) (hc1 : l1.length ≤ c1) (h : laws_eqValS.f k l0 l1 = some r) :
 Calls Try.prog 83 #[.slice A0 l0.length c0, .slice A1 l1.length c1] w fun e w' => e = .returned (.bool r) ∧ Below w.heap.size w w' := by
 have hu67 := Try.underlying67; have HR0 := Zm hr0; have HC0 := Zm hc0; clear hr0 hc0; have HR1 := Zm hr1; have HC1 := Zm hc1; clear hr1 hc1; have HB := Zm (Below.refl w.heap.size w); have H : (if (l0.length : Int) = (l1.length : Int) then (laws_eqValS.l0 k l0 l1 0) else (some false)) = some r := h; clear h; by_cases c3 : (l0.length : Int) = (l1.length : Int); rotate_left
 · rw [if_neg c3] at H; have c3b0 : ((l0.length : Int) == (l1.length : Int)) = false := beq_eq_false_iff_ne.mpr c3; have c3b1 : ((l0.length : Int) != (l1.length : Int)) = true := bne_iff_ne.mpr c3; have c3b2 : (l0.length == l1.length) = false := by first | simpa using c3 | (simp at c3 ⊢; omega)
   obtain rfl := Option.some.inj H; go_enter Try.func83, Try.ntmps83; go_wp2; go_ret; exact fin_ HB

 rw [if_pos c3] at H
 have c3b0 : ((l0.length : Int) == (l1.length : Int)) = true := beq_iff_eq.mpr c3
 have c3b1 : ((l0.length : Int) != (l1.length : Int)) = false := bne_eq_false_iff_eq.mpr c3
 have c3b2 : (l0.length == l1.length) = true := by first | simpa using c3 | (simp at c3 ⊢; omega)
 clear c3
 have H' := Zm H
 clear H
 go_enter Try.func83, Try.ntmps83
 go_wp2
 go_loopg [5] k (fun kq v5 w' => ∃ (x5_1 : Int), v5 = .int .i64 x5_1 ∧ Aside0 (laws_eqValS.l0 kq l0 l1 x5_1 = some r) ∧ Aside0 (kq ≤ k) ∧ Aside0 (Below w.heap.size w w'))
 case atStart => exact ⟨(0), (by first | rfl | (simp; done) | (simp [*]; done)), H', ⟨Nat.le_refl _⟩, ⟨bk HB.out⟩⟩
 case round =>
  clear H'
  (try clear c3); (try clear c3b0); (try clear c3b1); (try clear c3b2)
  obtain ⟨x5_1, rfl, HA, HK1, HB⟩ := hrel
  cases gk with
  | zero => exact absurd HA.out (by simp [laws_eqValS.l0])
  | succ k1 =>
   have H := HA.out
   clear HA
   simp only [laws_eqValS.l0] at H
   by_cases c4 : x5_1 < (l0.length : Int)
   rotate_left
   · rw [if_neg c4] at H
     have c4b0 := decide_eq_false c4
     clear c4
     obtain rfl := Option.some.inj H
     go_wp2
     go_ret
     exact fin_ HB
   rw [if_pos c4] at H
   have c4b0 := decide_eq_true c4
   clear c4
   by_cases c5 : 0 ≤ x5_1
   rotate_left
   · rw [if_neg c5] at H
     exact absurd H (by simp)
   rw [if_pos c5] at H
   have c5b0 := decide_eq_true c5
   clear c5
   by_cases c6 : x5_1 < (l1.length : Int)
   rotate_left
   · rw [if_neg c6] at H
     exact absurd H (by simp)
   rw [if_pos c6] at H
   have c6b0 := decide_eq_true c6
   clear c6
   replace H := Option.bind_eq_some_iff.mp H
   obtain ⟨t138, A70, H⟩ := H
   (try dsimp only at H)
   have A7 := Zm A70
   clear A70
   have HC8 := Zm H
   clear H
   try go_wp2
   have n0_ := Zm (Zbd HB.out)
   clear HB
   have HB := n0_
   clear n0_
   have p136 : 0 ≤ (x5_1 : Int) := of_decide_eq_true (by first | (with_reducible assumption) | assumption)
   have q136 : x5_1 < (l0.length : Int) := of_decide_eq_true (by first | (with_reducible assumption) | assumption)
   obtain ⟨ad136, e136, hx136_0, hx136_1⟩ := at_T67 HR0.out x5_1 p136 q136
   have hw136_1 := hx136_1
   have hw136_0 := hx136_0
   cases e136
   replace hx136_0 := hx_ HB hx136_0 (Zlt _ _ hx136_0)
   replace hx136_1 := hx_ HB hx136_1 (Zlt _ _ hx136_1)
   replace p136 := eq_true p136
   replace q136 := eq_true q136
   have p137 : 0 ≤ (x5_1 : Int) := of_decide_eq_true (by first | (with_reducible assumption) | assumption)
   have q137 : x5_1 < (l1.length : Int) := of_decide_eq_true (by first | (with_reducible assumption) | assumption)
   obtain ⟨ad137, e137, hx137_0, hx137_1⟩ := at_T67 HR1.out x5_1 p137 q137
   have hw137_1 := hx137_1
   have hw137_0 := hx137_0
   cases e137
   replace hx137_0 := hx_ HB hx137_0 (Zlt _ _ hx137_0)
   replace hx137_1 := hx_ HB hx137_1 (Zlt _ _ hx137_1)
   replace p137 := eq_true p137
   replace q137 := eq_true q137
   refine start_ (n := 10) (S := fun w' => w'.cell? (ad136.add ((x5_1).toNat * 2)) = some (.int .i64 ((rd_T67 l0 x5_1).f0)) ∧ w'.cell? ⟨(ad136.add ((x5_1).toNat * 2)).block, (ad136.add ((x5_1).toNat * 2)).off + 1, none⟩ = some (.int .i64 ((rd_T67 l0 x5_1).f1)) ∧ w'.cell? (ad137.add ((x5_1).toNat * 2)) = some (.int .i64 ((rd_T67 l1 x5_1).f0)) ∧ w'.cell? ⟨(ad137.add ((x5_1).toNat * 2)).block, (ad137.add ((x5_1).toNat * 2)).off + 1, none⟩ = some (.int .i64 ((rd_T67 l1 x5_1).f1))) (ds := []) #[false, false, false, false, false, false, false, false, false, false] (by kernel_rfl) rfl rfl ⟨((HB.out.cell (Zlt _ _ hw136_0)).trans hw136_0), ((HB.out.cell (Zlt _ _ hw136_1)).trans hw136_1), ((HB.out.cell (Zlt _ _ hw137_0)).trans hw137_0), ((HB.out.cell (Zlt _ _ hw137_1)).trans hw137_1)⟩ (fun hHeld => ?_); refine with_tabW laws_eqValS.tab6 laws_eqValS.bits6 (fun HT_ HW_ => ?_)
   generalize wr.drew = w9 at HB hx136_0 hx136_1 hx137_0 hx137_1 hHeld ⊢
   refine pure_ (i := 0) (N := some 17) (v := ?_) (a' := ?_) #[true, false, false, false, false, false, false, false, false, false] rfl rfl (any_of HT_.out (by kernel_rfl)) (fun _ _ _ h => h) (Or.inl ⟨by rfl, ?_⟩) ?_ ?_
   rotate_left
   · intro w'
     go_simp
     with_reducible rfl
   rotate_left
   · simp only [Act.put, List.setIfInBounds_toArray, List.set_cons_zero, List.set_cons_succ, i64_w, i32_w]
     rfl
   refine pure_ (i := 1) (N := some 18) (v := ?_) (a' := ?_) #[true, true, false, false, false, false, false, false, false, false] rfl rfl (any_of HT_.out (by kernel_rfl)) (fun _ _ _ h => h) (Or.inl ⟨by rfl, ?_⟩) ?_ ?_
   rotate_left
   · intro w'
     go_simp
     with_reducible rfl
   rotate_left
   · simp only [Act.put, List.setIfInBounds_toArray, List.set_cons_zero, List.set_cons_succ, i64_w, i32_w]
     rfl
   refine pure_ (i := 2) (N := some 19) (v := ?_) (a' := ?_) #[true, true, true, false, false, false, false, false, false, false] rfl rfl (any_of HT_.out (by kernel_rfl)) (fun _ _ _ h => h) (Or.inl ⟨by rfl, ?_⟩) ?_ ?_
   rotate_left
   · intro w'
     go_simp
     with_reducible rfl
   rotate_left
   · simp only [Act.put, List.setIfInBounds_toArray, List.set_cons_zero, List.set_cons_succ, i64_w, i32_w]
     rfl
   refine pure_ (i := 4) (N := some 21) (v := ?_) (a' := ?_) #[true, true, true, false, true, false, false, false, false, false] rfl rfl (any_of HT_.out (by kernel_rfl)) (fun _ _ _ h => h) (Or.inl ⟨by rfl, ?_⟩) ?_ ?_
   rotate_left
   · intro w'
     go_simp
     with_reducible rfl
   rotate_left
   · simp only [Act.put, List.setIfInBounds_toArray, List.set_cons_zero, List.set_cons_succ, i64_w, i32_w]
     rfl
   refine pure_ (i := 5) (N := some 22) (v := ?_) (a' := ?_) #[true, true, true, false, true, true, false, false, false, false] rfl rfl (any_of HT_.out (by kernel_rfl)) (fun _ _ _ h => h) (Or.inl ⟨by rfl, ?_⟩) ?_ ?_
   rotate_left
   · intro w'
     go_simp
     with_reducible rfl
   rotate_left
   · simp only [Act.put, List.setIfInBounds_toArray, List.set_cons_zero, List.set_cons_succ, i64_w, i32_w]
     rfl
   refine pure_ (i := 6) (N := some 23) (v := ?_) (a' := ?_) #[true, true, true, false, true, true, true, false, false, false] rfl rfl (any_of HT_.out (by kernel_rfl)) (fun _ _ _ h => h) (Or.inl ⟨by rfl, ?_⟩) ?_ ?_
   rotate_left
   · intro w'
     go_simp
     with_reducible rfl
   rotate_left
   · simp only [Act.put, List.setIfInBounds_toArray, List.set_cons_zero, List.set_cons_succ, i64_w, i32_w]
     rfl
   refine take_ (i := 3) (N := some 20) (v := ?_) (a' := ?_) #[true, true, true, true, true, true, true, false, false, false] rfl rfl (take_ofW HT_.out HW_.out (by kernel_rfl)) (fun _ _ _ h => h) (Or.inl ⟨by rfl, ?_⟩) hHeld ?_ ?_
   rotate_left
   · rintro w' ⟨s0, s1, s2, s3⟩
     go_simp
     with_reducible rfl
   rotate_left
   · simp only [Act.put, List.setIfInBounds_toArray, List.set_cons_zero, List.set_cons_succ, i64_w, i32_w]
     rfl
   refine take_ (i := 7) (N := some 24) (v := ?_) (a' := ?_) #[true, true, true, true, true, true, true, true, false, false] rfl rfl (take_ofW HT_.out HW_.out (by kernel_rfl)) (fun _ _ _ h => h) (Or.inl ⟨by rfl, ?_⟩) hHeld ?_ ?_
   rotate_left
   · rintro w' ⟨s0, s1, s2, s3⟩
     go_simp
     with_reducible rfl
   rotate_left
   · simp only [Act.put, List.setIfInBounds_toArray, List.set_cons_zero, List.set_cons_succ, i64_w, i32_w]
     rfl
   refine one_ (i := 8) (N := some 25) #[true, true, true, true, true, true, true, true, true, false] rfl rfl (one_of HT_.out (by kernel_rfl)) (by decide) (fun K hK => ?_)
   refine goes_ Try.func85 (by kernel_rfl) rfl #[.agg #[.int .i64 ((rd_T67 l0 x5_1).f0), .int .i64 ((rd_T67 l0 x5_1).f1)], .agg #[.int .i64 ((rd_T67 l1 x5_1).f0), .int .i64 ((rd_T67 l1 x5_1).f1)]] (by rfl) rfl rfl (by (try simp only [List.map_toArray, List.map_cons, List.map_nil]); first | done | rfl | (simp only [List.length_drop, List.length_take]; rfl)) ?_
   with_reducible refine (laws_eqVal.calls ((rd_T67 l0 x5_1).f0) ((rd_T67 l0 x5_1).f1) ((rd_T67 l1 x5_1).f0) ((rd_T67 l1 x5_1).f1) t138 _ A7.out).mono ?_
   rintro e w10 ⟨rfl, hb⟩
   refine ⟨_, rfl, ?_⟩
   have n0_ := Zm (Zbt (bk HB.out) hb)
   clear HB
   have HB := n0_
   clear n0_
   refine hK.out _ _ ⟨((HB.out.cell (Zlt _ _ hw136_0)).trans hw136_0), ((HB.out.cell (Zlt _ _ hw136_1)).trans hw136_1), ((HB.out.cell (Zlt _ _ hw137_0)).trans hw137_0), ((HB.out.cell (Zlt _ _ hw137_1)).trans hw137_1)⟩ (fun hHeld => ?_)
   clear hK K
   refine norm_ (a' := ?_) ?_ ?_
   rotate_left
   · show Act.put _ (some 25) _ = _
     simp only [Act.put, List.setIfInBounds_toArray, List.set_cons_zero, List.set_cons_succ, i64_w, i32_w]
     rfl
   refine pure_ (i := 9) (N := some 26) (v := ?_) (a' := ?_) #[true, true, true, true, true, true, true, true, true, true] rfl rfl (any_of HT_.out (by kernel_rfl)) (fun _ _ _ h => h) (Or.inl ⟨by rfl, ?_⟩) ?_ ?_
   rotate_left
   · intro w'
     go_simp
     with_reducible rfl
   rotate_left
   · simp only [Act.put, List.setIfInBounds_toArray, List.set_cons_zero, List.set_cons_succ, i64_w, i32_w]
     rfl
   refine done_ (done_of HT_.out (by kernel_rfl)) ?_
   go_upto_if 26 with (fail)
   have H := HC8.out
   clear HC8
   by_cases c11 : t138 = true
   rotate_left
   · replace c11 := Bool.eq_false_iff.mpr c11
     subst c11
     rw [if_neg (show ¬ (false = true) by decide)] at H
     obtain rfl := Option.some.inj H
     go_wp2
     go_ret
     exact fin_ HB
   subst c11
   rw [if_pos rfl] at H
   have H' := Zm H
   clear H
   go_wp2
   go_roundg k1
   case measure => have := HK1.out; omega
   case rel => exact ⟨(wrap64 (x5_1 + 1)), (by first | rfl | (simp; done) | (simp [*]; done)), H', ⟨by have := HK1.out; omega⟩, ⟨bk HB.out⟩⟩
end Go.Proofs.Ytlflbmbcjjegaaa.PFnExactHeapNew
