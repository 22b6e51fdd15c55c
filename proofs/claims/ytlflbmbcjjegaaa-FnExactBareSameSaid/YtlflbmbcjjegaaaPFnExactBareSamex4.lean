/- Functions of the program as plain Lean functions, each with a proof that the program's call comes to the same; no condition. Written by a program of this session. -/
import Derived.Test.YtlflbmbcjjegaaaPFnExactBareSamex0
import Derived.Test.YtlflbmbcjjegaaaPFnExactBareSamex3
namespace Go.Proofs.Ytlflbmbcjjegaaa.PFnExactBareSame
open Go.RowKit Go.Proofs.YtlflbmbcjjegaaaW.PrintWords Go.Proofs.YtlflbmbcjjegaaaW.PrintLast Go.Proofs.YtlflbmbcjjegaaaW.PrintMore
open Go.Proofs.YtlflbmbcjjegaaaW.PrintWords renaming below_alloc → Zba, pw_below_drewN → Zbn, below_drew1 → Zbd, below_set → Zbs, below_size → Zbz, below_step → Zbt, blk_drewN → Zkn, blk_drew → Zkd, blk_alloc → Zka, blk_cell → Zkc, blk_frozen → Zkf, blk_far → Zkr, blk_put → Zkp, blk_below → Zkb, add_block → Zab
open Go.World renaming block_lt_of_cell? → Zlt
open Go.Proofs.YtlflbmbcjjegaaaW.PrintWords.Aside0 renaming mk → Zm
attribute [local go_sem] max2_int min2_int max_two min_two max_three min_three max_four min_four   -- for this text's walks alone
set_option linter.unusedVariables false
set_option linter.unusedSimpArgs false

/-! ### impl_BareObj: function 57 -/
def impl_BareObj.l0 : Nat → List (S108) → List (S108) → Int → Int → Option (Bool)
  | 0, _, _, _, _ => none
  | k + 1, x1, x15, x16, x17 => if x17 < x16 then (if 0 ≤ x17 then (if x17 < (x15.length : Int) then (if x17 < (x1.length : Int) then ((impl_BareSame_1.f k ((rd_T108 x15 x17).f0) ((rd_T108 x15 x17).f1) ((rd_T108 x15 x17).f2) ((rd_T108 x1 x17).f0) ((rd_T108 x1 x17).f1) ((rd_T108 x1 x17).f2)).bind fun t197 => (if t197 = true then (impl_BareObj.l0 k x1 x15 x16 (wrap64 (x17 + 1))) else (some false))) else (none)) else (none)) else (none)) else (some true)
def impl_BareObj.f (k : Nat) (l0 : List (S108)) (l1 : List (S108))  : Option (Bool) := if (l0.length : Int) = (l1.length : Int) then (impl_BareObj.l0 k l1 l0 (l0.length : Int) 0) else (some false)
theorem impl_BareObj.mono_l : ∀ k, (∀ y0 y1 y2 y3, LeO (impl_BareObj.l0 k y0 y1 y2 y3) (impl_BareObj.l0 (k + 1) y0 y1 y2 y3))
  | 0 => fun _ _ _ _ r h => by simp [impl_BareObj.l0] at h
  | k + 1 => by
    have ih0 := impl_BareObj.mono_l k
    · intro y0 y1 y2 y3
      unfold impl_BareObj.l0
      repeat' first
      | (with_reducible exact ih0 _ _ _ _)
      | (with_reducible exact impl_BareSame_1.mono _ _ _ _ _ _ _)
      | (with_reducible exact LeO.refl _)
      | (with_reducible exact LeO.none _)
      | (with_reducible refine LeO.ite ?_ ?_)
      | (with_reducible refine LeO.bind ?_ (fun _ => ?_))
      | exact ih0 _ _ _ _
      | exact impl_BareSame_1.mono _ _ _ _ _ _ _
      | exact LeO.none _
      | refine LeO.ite ?_ ?_
      | refine LeO.bind ?_ (fun _ => ?_)
theorem impl_BareObj.mono : ∀ a0 a1 k, LeO (impl_BareObj.f k a0 a1) (impl_BareObj.f (k + 1) a0 a1) := by
  intro a0 a1 k
  have ih0 := impl_BareObj.mono_l k
  unfold impl_BareObj.f
  repeat' first
      | (with_reducible exact ih0 _ _ _ _)
      | (with_reducible exact impl_BareSame_1.mono _ _ _ _ _ _ _)
      | (with_reducible exact LeO.refl _)
      | (with_reducible exact LeO.none _)
      | (with_reducible refine LeO.ite ?_ ?_)
      | (with_reducible refine LeO.bind ?_ (fun _ => ?_))
      | exact ih0 _ _ _ _
      | exact impl_BareSame_1.mono _ _ _ _ _ _ _
      | exact LeO.none _
      | refine LeO.ite ?_ ?_
      | refine LeO.bind ?_ (fun _ => ?_)
set_option maxHeartbeats 8000000 in
set_option maxRecDepth 100000 in
theorem impl_BareObj.calls (k : Nat) (A0 : Option Addr) (c0 : Nat) (l0 : List (S108)) (A1 : Option Addr) (c1 : Nat) (l1 : List (S108))  (r : Bool) (w : World) (hr0 : Kd.C k108 w A0 l0.length l0) (hc0 : l0.length ≤ c0) (hr1 : Kd.C k108 w A1 l1.length l1) (hc1 : l1.length ≤ c1) (h : impl_BareObj.f k l0 l1 = some r) :
    Calls Try.prog 57 #[.slice A0 l0.length c0, .slice A1 l1.length c1, .func (.func 58) #[] #[]] w fun e w' => e = .returned (.bool r) ∧ Below w.heap.size w w' := by
  have hu108 := Try.underlying108
  have HR0 := Zm hr0
  have HC0 := Zm hc0
  clear hr0 hc0
  have HR1 := Zm hr1
  have HC1 := Zm hc1
  clear hr1 hc1
  have HB := Zm (Below.refl w.heap.size w)
  have H : (if (l0.length : Int) = (l1.length : Int) then (impl_BareObj.l0 k l1 l0 (l0.length : Int) 0) else (some false)) = some r := h
  clear h
  by_cases c4 : (l0.length : Int) = (l1.length : Int)
  rotate_left
  · rw [if_neg c4] at H
    have c4b0 : ((l0.length : Int) == (l1.length : Int)) = false := beq_eq_false_iff_ne.mpr c4
    have c4b1 : ((l0.length : Int) != (l1.length : Int)) = true := bne_iff_ne.mpr c4
    have c4b2 : (l0.length == l1.length) = false := by first | simpa using c4 | (simp at c4 ⊢; omega)
    obtain rfl := Option.some.inj H
    go_enter Try.func57, Try.ntmps57
    go_wp2
    go_ret
    exact ⟨by first | rfl | (simp [errW_none, errW_some] <;> rfl) | (simp [*, errW_none, errW_some] <;> rfl), by repeat (first | (with_reducible first | exact HB.out | apply Zba | apply Zbn | apply Zbd) | exact HB.out)⟩

  rw [if_pos c4] at H
  have c4b0 : ((l0.length : Int) == (l1.length : Int)) = true := beq_iff_eq.mpr c4
  have c4b1 : ((l0.length : Int) != (l1.length : Int)) = false := bne_eq_false_iff_eq.mpr c4
  have c4b2 : (l0.length == l1.length) = true := by first | simpa using c4 | (simp at c4 ⊢; omega)
  clear c4
  have H' := Zm H
  clear H
  go_enter Try.func57, Try.ntmps57
  go_wp2
  go_loopg [17] k (fun kq v17 w' => ∃ (x17_1 : Int), v17 = .int .i64 x17_1 ∧ Aside0 (impl_BareObj.l0 kq l1 l0 (l0.length : Int) x17_1 = some r) ∧ Aside0 (kq ≤ k) ∧ Aside0 (Below w.heap.size w w'))
  case atStart => exact ⟨(0), (by first | rfl | (simp; done) | (simp [*]; done)), H', ⟨Nat.le_refl _⟩, ⟨by repeat (first | (with_reducible first | exact HB.out | apply Zba | apply Zbn | apply Zbd) | exact HB.out)⟩⟩
  case round =>
    clear H'
    (try clear c1); (try clear p2); (try clear c4); (try clear c4b0); (try clear c4b1); (try clear c4b2)
    obtain ⟨x17_1, rfl, HA, HK1, HB⟩ := hrel
    cases gk with
    | zero => exact absurd HA.out (by simp [impl_BareObj.l0])
    | succ k1 =>
      have H := HA.out
      clear HA
      simp only [impl_BareObj.l0] at H
      by_cases c5 : x17_1 < (l0.length : Int)
      rotate_left
      · rw [if_neg c5] at H
        have c5b0 : decide (x17_1 < (l0.length : Int)) = false := decide_eq_false c5
        clear c5
        obtain rfl := Option.some.inj H
        go_wp2
        go_ret
        exact ⟨by first | rfl | (simp [errW_none, errW_some] <;> rfl) | (simp [*, errW_none, errW_some] <;> rfl), by repeat (first | (with_reducible first | exact HB.out | apply Zba | apply Zbn | apply Zbd) | exact HB.out)⟩
      rw [if_pos c5] at H
      have c5b0 : decide (x17_1 < (l0.length : Int)) = true := decide_eq_true c5
      clear c5
      by_cases c6 : 0 ≤ x17_1
      rotate_left
      · rw [if_neg c6] at H
        exact absurd H (by simp)
      rw [if_pos c6] at H
      have c6b0 : decide (0 ≤ x17_1) = true := decide_eq_true c6
      clear c6
      by_cases c7 : x17_1 < (l0.length : Int)
      rotate_left
      · rw [if_neg c7] at H
        exact absurd H (by simp)
      rw [if_pos c7] at H
      have c7b0 : decide (x17_1 < (l0.length : Int)) = true := decide_eq_true c7
      clear c7
      by_cases c8 : x17_1 < (l1.length : Int)
      rotate_left
      · rw [if_neg c8] at H
        exact absurd H (by simp)
      rw [if_pos c8] at H
      have c8b0 : decide (x17_1 < (l1.length : Int)) = true := decide_eq_true c8
      clear c8
      replace H := Option.bind_eq_some_iff.mp H
      obtain ⟨t197, A90, H⟩ := H
      replace H : (if t197 = true then (impl_BareObj.l0 k1 l1 l0 (l0.length : Int) (wrap64 (x17_1 + 1))) else (some false)) = some r := H
      have A9 := Zm A90
      clear A90
      by_cases c10 : t197 = true
      rotate_left
      · replace c10 := Bool.eq_false_iff.mpr c10
        subst c10
        have H1 : (some false) = some r := by rw [if_neg (show ¬ (false = true) by decide)] at H; exact H
        clear H
        have H := H1
        clear H1
        obtain rfl := Option.some.inj H
        have p193 : 0 ≤ (x17_1 : Int) := of_decide_eq_true (by first | (with_reducible assumption) | assumption)
        have q193 : x17_1 < (l0.length : Int) := of_decide_eq_true (by first | (with_reducible assumption) | assumption)
        obtain ⟨ad193, A193_2, c193_2, e193, hx193_0, hx193_1, hx193_2, hl193_2, hi193_2⟩ := at_T108 HR0.out x17_1 p193 q193
        cases e193
        replace hx193_0 := (HB.out.cell (Zlt _ _ hx193_0)).trans hx193_0
        replace hx193_1 := (HB.out.cell (Zlt _ _ hx193_1)).trans hx193_1
        replace hx193_2 := (HB.out.cell (Zlt _ _ hx193_2)).trans hx193_2
        have HR193_2 := Zm hi193_2
        have HC193_2 := Zm hl193_2
        clear hi193_2 hl193_2
        replace p193 := eq_true p193
        replace q193 := eq_true q193
        go_wp2_with (first | ((with_reducible refine gate_dst (N := 8) rfl ?_); refine box_event ?hg (N := 8) ?hd (cs := #[.string (⟨#[]⟩ : ByteArray), .int .i64 0, .slice none 0 0]) (t := 108) ?hr ?_; (case hd => rfl); (case hg => rfl); (case hr => first | (go_simp; done) | (go_simp; rfl)); intro gb194 hg w18 hbox hb; have n0_ := Zm (Zbt (by repeat (first | (with_reducible first | exact HB.out | apply Zba | apply Zbn | apply Zbd) | exact HB.out)) hb); have n1_ := Zm (hbox); have n2_ := Zm ((by rw [hg]; exact (Zbz (by repeat (first | (with_reducible first | exact HB.out | apply Zba | apply Zbn | apply Zbd) | exact HB.out))) : w.heap.size ≤ gb194)); have n3_ := Zm ((by rw [hg]; exact (Zbz (by repeat (first | (with_reducible first | exact HB.out | apply Zba | apply Zbn | apply Zbd) | exact HB.out))) : w.heap.size ≤ gb194)); clear HB; have HB := n0_; have BK194 := n1_; have GW194 := n2_; have GE194 := n3_; clear n0_ n1_ n2_ n3_; clear hb hbox hg; have hcz19_0 : w18.cell? ⟨gb194, 0, none⟩ = some (.string (⟨#[]⟩ : ByteArray)) := (Zkc BK194.out 0).trans rfl; have hcz19_1 : w18.cell? ⟨gb194, 1, none⟩ = some (.int .i64 0) := (Zkc BK194.out 1).trans rfl; have hcz19_2 : w18.cell? ⟨gb194, 2, none⟩ = some (.slice none 0 0) := (Zkc BK194.out 2).trans rfl; have hfz19_0 := Zkf BK194.out 0; have hfz19_1 := Zkf BK194.out 1; have hfz19_2 := Zkf BK194.out 2; have p195 : 0 ≤ (x17_1 : Int) := of_decide_eq_true (by first | (with_reducible assumption) | assumption); have q195 : x17_1 < (l1.length : Int) := of_decide_eq_true (by first | (with_reducible assumption) | assumption); obtain ⟨ad195, A195_2, c195_2, e195, hx195_0, hx195_1, hx195_2, hl195_2, hi195_2⟩ := at_T108 HR1.out x17_1 p195 q195; cases e195; have hn195_0 : ad195.block ≠ gb194 := Nat.ne_of_lt (Nat.lt_of_lt_of_le (by have := Zlt _ _ hx195_0; first | rwa [Zab] at this | exact this) GW194.out); have hn195_1 : ad195.block ≠ gb194 := Nat.ne_of_lt (Nat.lt_of_lt_of_le (by have := Zlt _ _ hx195_0; first | rwa [Zab] at this | exact this) GW194.out); have hn195_2 : ad195.block ≠ gb194 := Nat.ne_of_lt (Nat.lt_of_lt_of_le (by have := Zlt _ _ hx195_0; first | rwa [Zab] at this | exact this) GW194.out); replace hx195_0 := (HB.out.cell (Zlt _ _ hx195_0)).trans hx195_0; replace hx195_1 := (HB.out.cell (Zlt _ _ hx195_1)).trans hx195_1; replace hx195_2 := (HB.out.cell (Zlt _ _ hx195_2)).trans hx195_2; have HR195_2 := Zm hi195_2; have HC195_2 := Zm hl195_2; clear hi195_2 hl195_2; replace hx195_0 := (cell_far (p := ⟨gb194, 0, none⟩) (by first | (rw [Zab]; exact hn195_0) | (show (Addr.add _ _).block ≠ _; rw [Zab]; exact hn195_0) | exact hn195_0) (.string ((rd_T108 l0 x17_1).f0))).trans hx195_0; replace hx195_1 := (cell_far (p := ⟨gb194, 0, none⟩) (by first | (rw [Zab]; exact hn195_0) | (show (Addr.add _ _).block ≠ _; rw [Zab]; exact hn195_0) | exact hn195_0) (.string ((rd_T108 l0 x17_1).f0))).trans hx195_1; replace hx195_2 := (cell_far (p := ⟨gb194, 0, none⟩) (by first | (rw [Zab]; exact hn195_0) | (show (Addr.add _ _).block ≠ _; rw [Zab]; exact hn195_0) | exact hn195_0) (.string ((rd_T108 l0 x17_1).f0))).trans hx195_2; replace hx195_0 := (cell_far (p := ⟨gb194, 1, none⟩) (by first | (rw [Zab]; exact hn195_1) | (show (Addr.add _ _).block ≠ _; rw [Zab]; exact hn195_1) | exact hn195_1) (.int .i64 ((rd_T108 l0 x17_1).f1))).trans hx195_0; replace hx195_1 := (cell_far (p := ⟨gb194, 1, none⟩) (by first | (rw [Zab]; exact hn195_1) | (show (Addr.add _ _).block ≠ _; rw [Zab]; exact hn195_1) | exact hn195_1) (.int .i64 ((rd_T108 l0 x17_1).f1))).trans hx195_1; replace hx195_2 := (cell_far (p := ⟨gb194, 1, none⟩) (by first | (rw [Zab]; exact hn195_1) | (show (Addr.add _ _).block ≠ _; rw [Zab]; exact hn195_1) | exact hn195_1) (.int .i64 ((rd_T108 l0 x17_1).f1))).trans hx195_2; replace hx195_0 := (cell_far (p := ⟨gb194, 2, none⟩) (by first | (rw [Zab]; exact hn195_2) | (show (Addr.add _ _).block ≠ _; rw [Zab]; exact hn195_2) | exact hn195_2) (.slice A193_2 ((rd_T108 l0 x17_1).f2).length c193_2)).trans hx195_0; replace hx195_1 := (cell_far (p := ⟨gb194, 2, none⟩) (by first | (rw [Zab]; exact hn195_2) | (show (Addr.add _ _).block ≠ _; rw [Zab]; exact hn195_2) | exact hn195_2) (.slice A193_2 ((rd_T108 l0 x17_1).f2).length c193_2)).trans hx195_1; replace hx195_2 := (cell_far (p := ⟨gb194, 2, none⟩) (by first | (rw [Zab]; exact hn195_2) | (show (Addr.add _ _).block ≠ _; rw [Zab]; exact hn195_2) | exact hn195_2) (.slice A193_2 ((rd_T108 l0 x17_1).f2).length c193_2)).trans hx195_2; clear hn195_0; clear hn195_1; clear hn195_2; replace p195 := eq_true p195; replace q195 := eq_true q195) | ((with_reducible refine gate_dst (N := 9) rfl ?_); refine box_event ?hg (N := 9) ?hd (cs := #[.string (⟨#[]⟩ : ByteArray), .int .i64 0, .slice none 0 0]) (t := 108) ?hr ?_; (case hd => rfl); (case hg => rfl); (case hr => first | (go_simp; done) | (go_simp; rfl)); intro gb196 hg w20 hbox hb; have n0_ := Zm (Zkb (g := gb194) (o := .cells #[.string ((rd_T108 l0 x17_1).f0), .int .i64 ((rd_T108 l0 x17_1).f1), .slice A193_2 ((rd_T108 l0 x17_1).f2).length c193_2] 108 (0, 0)) (by (with_reducible repeat (first | refine Zkn ?_ _ | refine Zkd ?_ | refine Zka ?_ _)); refine Zkp (cs := #[.string ((rd_T108 l0 x17_1).f0), .int .i64 ((rd_T108 l0 x17_1).f1), .slice none 0 0]) ?_ 2 _ rfl; (with_reducible repeat (first | refine Zkn ?_ _ | refine Zkd ?_ | refine Zka ?_ _)); refine Zkp (cs := #[.string ((rd_T108 l0 x17_1).f0), .int .i64 0, .slice none 0 0]) ?_ 1 _ rfl; (with_reducible repeat (first | refine Zkn ?_ _ | refine Zkd ?_ | refine Zka ?_ _)); refine Zkp (cs := #[.string (⟨#[]⟩ : ByteArray), .int .i64 0, .slice none 0 0]) ?_ 0 _ rfl; (with_reducible repeat (first | refine Zkn ?_ _ | refine Zkd ?_ | refine Zka ?_ _)); exact BK194.out) hb); have n1_ := Zm (Zbt (by repeat (first | (with_reducible first | exact HB.out | apply Zba | apply Zbn | apply Zbd | refine Zbs ?_ GE194.out) | exact HB.out)) hb); have n2_ := Zm (hbox); have n3_ := Zm ((by rw [hg]; exact (Zbz (by repeat (first | (with_reducible first | exact HB.out | apply Zba | apply Zbn | apply Zbd | refine Zbs ?_ GE194.out) | exact HB.out))) : w.heap.size ≤ gb196)); have n4_ := Zm ((by rw [hg]; exact (Zbz (by repeat (first | (with_reducible first | exact HB.out | apply Zba | apply Zbn | apply Zbd | refine Zbs ?_ GE194.out) | exact HB.out))) : w.heap.size ≤ gb196)); have n5_ := Zm ((by rw [hg]; exact Nat.ne_of_lt (blk_lt (g := gb194) (o := .cells #[.string ((rd_T108 l0 x17_1).f0), .int .i64 ((rd_T108 l0 x17_1).f1), .slice A193_2 ((rd_T108 l0 x17_1).f2).length c193_2] 108 (0, 0)) (by (with_reducible repeat (first | refine Zkn ?_ _ | refine Zkd ?_ | refine Zka ?_ _)); refine Zkp (cs := #[.string ((rd_T108 l0 x17_1).f0), .int .i64 ((rd_T108 l0 x17_1).f1), .slice none 0 0]) ?_ 2 _ rfl; (with_reducible repeat (first | refine Zkn ?_ _ | refine Zkd ?_ | refine Zka ?_ _)); refine Zkp (cs := #[.string ((rd_T108 l0 x17_1).f0), .int .i64 0, .slice none 0 0]) ?_ 1 _ rfl; (with_reducible repeat (first | refine Zkn ?_ _ | refine Zkd ?_ | refine Zka ?_ _)); refine Zkp (cs := #[.string (⟨#[]⟩ : ByteArray), .int .i64 0, .slice none 0 0]) ?_ 0 _ rfl; (with_reducible repeat (first | refine Zkn ?_ _ | refine Zkd ?_ | refine Zka ?_ _)); exact BK194.out)) : gb194 ≠ gb196)); have n6_ := Zm ((by rw [hg]; exact Nat.ne_of_gt (blk_lt (g := gb194) (o := .cells #[.string ((rd_T108 l0 x17_1).f0), .int .i64 ((rd_T108 l0 x17_1).f1), .slice A193_2 ((rd_T108 l0 x17_1).f2).length c193_2] 108 (0, 0)) (by (with_reducible repeat (first | refine Zkn ?_ _ | refine Zkd ?_ | refine Zka ?_ _)); refine Zkp (cs := #[.string ((rd_T108 l0 x17_1).f0), .int .i64 ((rd_T108 l0 x17_1).f1), .slice none 0 0]) ?_ 2 _ rfl; (with_reducible repeat (first | refine Zkn ?_ _ | refine Zkd ?_ | refine Zka ?_ _)); refine Zkp (cs := #[.string ((rd_T108 l0 x17_1).f0), .int .i64 0, .slice none 0 0]) ?_ 1 _ rfl; (with_reducible repeat (first | refine Zkn ?_ _ | refine Zkd ?_ | refine Zka ?_ _)); refine Zkp (cs := #[.string (⟨#[]⟩ : ByteArray), .int .i64 0, .slice none 0 0]) ?_ 0 _ rfl; (with_reducible repeat (first | refine Zkn ?_ _ | refine Zkd ?_ | refine Zka ?_ _)); exact BK194.out)) : gb196 ≠ gb194)); clear BK194; clear HB; have BK194 := n0_; have HB := n1_; have BK196 := n2_; have GW196 := n3_; have GE196 := n4_; have NB194_196 := n5_; have NB196_194 := n6_; clear n0_ n1_ n2_ n3_ n4_ n5_ n6_; clear hb hbox hg; have hnb21 := NB196_194.out; have hnc21 := NB194_196.out; have hcz22_0 : w20.cell? ⟨gb196, 0, none⟩ = some (.string (⟨#[]⟩ : ByteArray)) := (Zkc BK196.out 0).trans rfl; have hcz22_1 : w20.cell? ⟨gb196, 1, none⟩ = some (.int .i64 0) := (Zkc BK196.out 1).trans rfl; have hcz22_2 : w20.cell? ⟨gb196, 2, none⟩ = some (.slice none 0 0) := (Zkc BK196.out 2).trans rfl; have hfz22_0 := Zkf BK196.out 0; have hfz22_1 := Zkf BK196.out 1; have hfz22_2 := Zkf BK196.out 2; have hcz23_0 : w20.cell? ⟨gb194, 0, none⟩ = some (.string ((rd_T108 l0 x17_1).f0)) := (Zkc BK194.out 0).trans rfl; have hcz23_1 : w20.cell? ⟨gb194, 1, none⟩ = some (.int .i64 ((rd_T108 l0 x17_1).f1)) := (Zkc BK194.out 1).trans rfl; have hcz23_2 : w20.cell? ⟨gb194, 2, none⟩ = some (.slice A193_2 ((rd_T108 l0 x17_1).f2).length c193_2) := (Zkc BK194.out 2).trans rfl; have hfz23_0 := Zkf BK194.out 0; have hfz23_1 := Zkf BK194.out 1; have hfz23_2 := Zkf BK194.out 2) | (go_at_call 58; (first | (with_reducible refine (impl_BareSame_1.calls k1 ((rd_T108 l0 x17_1).f0) ((rd_T108 l0 x17_1).f1) _ _ ((rd_T108 l0 x17_1).f2) ((rd_T108 l1 x17_1).f0) ((rd_T108 l1 x17_1).f1) _ _ ((rd_T108 l1 x17_1).f2) false _ ?side1 ?side2 ?side3 ?side4 A9.out).mono ?_) | (with_reducible refine (calls_of_args ?_ (impl_BareSame_1.calls k1 ((rd_T108 l0 x17_1).f0) ((rd_T108 l0 x17_1).f1) _ _ ((rd_T108 l0 x17_1).f2) ((rd_T108 l1 x17_1).f0) ((rd_T108 l1 x17_1).f1) _ _ ((rd_T108 l1 x17_1).f2) false _ ?side1 ?side2 ?side3 ?side4 A9.out)).mono ?_; focus (simp [*]; done))); (case side1 => exact Kd.C_below HR193_2.out (by repeat (first | (with_reducible first | exact HB.out | apply Zba | apply Zbn | apply Zbd | refine Zbs ?_ GE194.out | refine Zbs ?_ GE196.out) | exact HB.out))); (case side2 => exact HC193_2.out); (case side3 => exact Kd.C_below HR195_2.out (by repeat (first | (with_reducible first | exact HB.out | apply Zba | apply Zbn | apply Zbd | refine Zbs ?_ GE194.out | refine Zbs ?_ GE196.out) | exact HB.out))); (case side4 => exact HC195_2.out); rintro e w24 ⟨rfl, hb⟩; have n0_ := Zm (Zkb (g := gb194) (o := .cells #[.string ((rd_T108 l0 x17_1).f0), .int .i64 ((rd_T108 l0 x17_1).f1), .slice A193_2 ((rd_T108 l0 x17_1).f2).length c193_2] 108 (0, 0)) (by (with_reducible repeat (first | refine Zkn ?_ _ | refine Zkd ?_ | refine Zka ?_ _)); refine Zkr ?_ NB194_196.out _; (with_reducible repeat (first | refine Zkn ?_ _ | refine Zkd ?_ | refine Zka ?_ _)); refine Zkr ?_ NB194_196.out _; (with_reducible repeat (first | refine Zkn ?_ _ | refine Zkd ?_ | refine Zka ?_ _)); refine Zkr ?_ NB194_196.out _; (with_reducible repeat (first | refine Zkn ?_ _ | refine Zkd ?_ | refine Zka ?_ _)); exact BK194.out) hb); have n1_ := Zm (Zkb (g := gb196) (o := .cells #[.string ((rd_T108 l1 x17_1).f0), .int .i64 ((rd_T108 l1 x17_1).f1), .slice A195_2 ((rd_T108 l1 x17_1).f2).length c195_2] 108 (0, 0)) (by (with_reducible repeat (first | refine Zkn ?_ _ | refine Zkd ?_ | refine Zka ?_ _)); refine Zkp (cs := #[.string ((rd_T108 l1 x17_1).f0), .int .i64 ((rd_T108 l1 x17_1).f1), .slice none 0 0]) ?_ 2 _ rfl; (with_reducible repeat (first | refine Zkn ?_ _ | refine Zkd ?_ | refine Zka ?_ _)); refine Zkp (cs := #[.string ((rd_T108 l1 x17_1).f0), .int .i64 0, .slice none 0 0]) ?_ 1 _ rfl; (with_reducible repeat (first | refine Zkn ?_ _ | refine Zkd ?_ | refine Zka ?_ _)); refine Zkp (cs := #[.string (⟨#[]⟩ : ByteArray), .int .i64 0, .slice none 0 0]) ?_ 0 _ rfl; (with_reducible repeat (first | refine Zkn ?_ _ | refine Zkd ?_ | refine Zka ?_ _)); exact BK196.out) hb); have n2_ := Zm (Zbt (by repeat (first | (with_reducible first | exact HB.out | apply Zba | apply Zbn | apply Zbd | refine Zbs ?_ GE194.out | refine Zbs ?_ GE196.out) | exact HB.out)) hb); clear BK194; clear BK196; clear HB; have BK194 := n0_; have BK196 := n1_; have HB := n2_; clear n0_ n1_ n2_; (try clear hb); (try clear hb2); (try clear hk); (try clear hi)))
        go_ret
        exact ⟨by first | rfl | (simp [errW_none, errW_some] <;> rfl) | (simp [*, errW_none, errW_some] <;> rfl), by repeat (first | (with_reducible first | exact HB.out | apply Zba | apply Zbn | apply Zbd | refine Zbs ?_ GE194.out | refine Zbs ?_ GE196.out) | exact HB.out)⟩
      subst c10
      have H1 : (impl_BareObj.l0 k1 l1 l0 (l0.length : Int) (wrap64 (x17_1 + 1))) = some r := by rw [if_pos rfl] at H; exact H
      clear H
      have H := H1
      clear H1
      have H' := Zm H
      clear H
      have p193 : 0 ≤ (x17_1 : Int) := of_decide_eq_true (by first | (with_reducible assumption) | assumption)
      have q193 : x17_1 < (l0.length : Int) := of_decide_eq_true (by first | (with_reducible assumption) | assumption)
      obtain ⟨ad193, A193_2, c193_2, e193, hx193_0, hx193_1, hx193_2, hl193_2, hi193_2⟩ := at_T108 HR0.out x17_1 p193 q193
      cases e193
      replace hx193_0 := (HB.out.cell (Zlt _ _ hx193_0)).trans hx193_0
      replace hx193_1 := (HB.out.cell (Zlt _ _ hx193_1)).trans hx193_1
      replace hx193_2 := (HB.out.cell (Zlt _ _ hx193_2)).trans hx193_2
      have HR193_2 := Zm hi193_2
      have HC193_2 := Zm hl193_2
      clear hi193_2 hl193_2
      replace p193 := eq_true p193
      replace q193 := eq_true q193
      go_wp2_with (first | ((with_reducible refine gate_dst (N := 8) rfl ?_); refine box_event ?hg (N := 8) ?hd (cs := #[.string (⟨#[]⟩ : ByteArray), .int .i64 0, .slice none 0 0]) (t := 108) ?hr ?_; (case hd => rfl); (case hg => rfl); (case hr => first | (go_simp; done) | (go_simp; rfl)); intro gb194 hg w11 hbox hb; have n0_ := Zm (Zbt (by repeat (first | (with_reducible first | exact HB.out | apply Zba | apply Zbn | apply Zbd) | exact HB.out)) hb); have n1_ := Zm (hbox); have n2_ := Zm ((by rw [hg]; exact (Zbz (by repeat (first | (with_reducible first | exact HB.out | apply Zba | apply Zbn | apply Zbd) | exact HB.out))) : w.heap.size ≤ gb194)); have n3_ := Zm ((by rw [hg]; exact (Zbz (by repeat (first | (with_reducible first | exact HB.out | apply Zba | apply Zbn | apply Zbd) | exact HB.out))) : w.heap.size ≤ gb194)); clear HB; have HB := n0_; have BK194 := n1_; have GW194 := n2_; have GE194 := n3_; clear n0_ n1_ n2_ n3_; clear hb hbox hg; have hcz12_0 : w11.cell? ⟨gb194, 0, none⟩ = some (.string (⟨#[]⟩ : ByteArray)) := (Zkc BK194.out 0).trans rfl; have hcz12_1 : w11.cell? ⟨gb194, 1, none⟩ = some (.int .i64 0) := (Zkc BK194.out 1).trans rfl; have hcz12_2 : w11.cell? ⟨gb194, 2, none⟩ = some (.slice none 0 0) := (Zkc BK194.out 2).trans rfl; have hfz12_0 := Zkf BK194.out 0; have hfz12_1 := Zkf BK194.out 1; have hfz12_2 := Zkf BK194.out 2; have p195 : 0 ≤ (x17_1 : Int) := of_decide_eq_true (by first | (with_reducible assumption) | assumption); have q195 : x17_1 < (l1.length : Int) := of_decide_eq_true (by first | (with_reducible assumption) | assumption); obtain ⟨ad195, A195_2, c195_2, e195, hx195_0, hx195_1, hx195_2, hl195_2, hi195_2⟩ := at_T108 HR1.out x17_1 p195 q195; cases e195; have hn195_0 : ad195.block ≠ gb194 := Nat.ne_of_lt (Nat.lt_of_lt_of_le (by have := Zlt _ _ hx195_0; first | rwa [Zab] at this | exact this) GW194.out); have hn195_1 : ad195.block ≠ gb194 := Nat.ne_of_lt (Nat.lt_of_lt_of_le (by have := Zlt _ _ hx195_0; first | rwa [Zab] at this | exact this) GW194.out); have hn195_2 : ad195.block ≠ gb194 := Nat.ne_of_lt (Nat.lt_of_lt_of_le (by have := Zlt _ _ hx195_0; first | rwa [Zab] at this | exact this) GW194.out); replace hx195_0 := (HB.out.cell (Zlt _ _ hx195_0)).trans hx195_0; replace hx195_1 := (HB.out.cell (Zlt _ _ hx195_1)).trans hx195_1; replace hx195_2 := (HB.out.cell (Zlt _ _ hx195_2)).trans hx195_2; have HR195_2 := Zm hi195_2; have HC195_2 := Zm hl195_2; clear hi195_2 hl195_2; replace hx195_0 := (cell_far (p := ⟨gb194, 0, none⟩) (by first | (rw [Zab]; exact hn195_0) | (show (Addr.add _ _).block ≠ _; rw [Zab]; exact hn195_0) | exact hn195_0) (.string ((rd_T108 l0 x17_1).f0))).trans hx195_0; replace hx195_1 := (cell_far (p := ⟨gb194, 0, none⟩) (by first | (rw [Zab]; exact hn195_0) | (show (Addr.add _ _).block ≠ _; rw [Zab]; exact hn195_0) | exact hn195_0) (.string ((rd_T108 l0 x17_1).f0))).trans hx195_1; replace hx195_2 := (cell_far (p := ⟨gb194, 0, none⟩) (by first | (rw [Zab]; exact hn195_0) | (show (Addr.add _ _).block ≠ _; rw [Zab]; exact hn195_0) | exact hn195_0) (.string ((rd_T108 l0 x17_1).f0))).trans hx195_2; replace hx195_0 := (cell_far (p := ⟨gb194, 1, none⟩) (by first | (rw [Zab]; exact hn195_1) | (show (Addr.add _ _).block ≠ _; rw [Zab]; exact hn195_1) | exact hn195_1) (.int .i64 ((rd_T108 l0 x17_1).f1))).trans hx195_0; replace hx195_1 := (cell_far (p := ⟨gb194, 1, none⟩) (by first | (rw [Zab]; exact hn195_1) | (show (Addr.add _ _).block ≠ _; rw [Zab]; exact hn195_1) | exact hn195_1) (.int .i64 ((rd_T108 l0 x17_1).f1))).trans hx195_1; replace hx195_2 := (cell_far (p := ⟨gb194, 1, none⟩) (by first | (rw [Zab]; exact hn195_1) | (show (Addr.add _ _).block ≠ _; rw [Zab]; exact hn195_1) | exact hn195_1) (.int .i64 ((rd_T108 l0 x17_1).f1))).trans hx195_2; replace hx195_0 := (cell_far (p := ⟨gb194, 2, none⟩) (by first | (rw [Zab]; exact hn195_2) | (show (Addr.add _ _).block ≠ _; rw [Zab]; exact hn195_2) | exact hn195_2) (.slice A193_2 ((rd_T108 l0 x17_1).f2).length c193_2)).trans hx195_0; replace hx195_1 := (cell_far (p := ⟨gb194, 2, none⟩) (by first | (rw [Zab]; exact hn195_2) | (show (Addr.add _ _).block ≠ _; rw [Zab]; exact hn195_2) | exact hn195_2) (.slice A193_2 ((rd_T108 l0 x17_1).f2).length c193_2)).trans hx195_1; replace hx195_2 := (cell_far (p := ⟨gb194, 2, none⟩) (by first | (rw [Zab]; exact hn195_2) | (show (Addr.add _ _).block ≠ _; rw [Zab]; exact hn195_2) | exact hn195_2) (.slice A193_2 ((rd_T108 l0 x17_1).f2).length c193_2)).trans hx195_2; clear hn195_0; clear hn195_1; clear hn195_2; replace p195 := eq_true p195; replace q195 := eq_true q195) | ((with_reducible refine gate_dst (N := 9) rfl ?_); refine box_event ?hg (N := 9) ?hd (cs := #[.string (⟨#[]⟩ : ByteArray), .int .i64 0, .slice none 0 0]) (t := 108) ?hr ?_; (case hd => rfl); (case hg => rfl); (case hr => first | (go_simp; done) | (go_simp; rfl)); intro gb196 hg w13 hbox hb; have n0_ := Zm (Zkb (g := gb194) (o := .cells #[.string ((rd_T108 l0 x17_1).f0), .int .i64 ((rd_T108 l0 x17_1).f1), .slice A193_2 ((rd_T108 l0 x17_1).f2).length c193_2] 108 (0, 0)) (by (with_reducible repeat (first | refine Zkn ?_ _ | refine Zkd ?_ | refine Zka ?_ _)); refine Zkp (cs := #[.string ((rd_T108 l0 x17_1).f0), .int .i64 ((rd_T108 l0 x17_1).f1), .slice none 0 0]) ?_ 2 _ rfl; (with_reducible repeat (first | refine Zkn ?_ _ | refine Zkd ?_ | refine Zka ?_ _)); refine Zkp (cs := #[.string ((rd_T108 l0 x17_1).f0), .int .i64 0, .slice none 0 0]) ?_ 1 _ rfl; (with_reducible repeat (first | refine Zkn ?_ _ | refine Zkd ?_ | refine Zka ?_ _)); refine Zkp (cs := #[.string (⟨#[]⟩ : ByteArray), .int .i64 0, .slice none 0 0]) ?_ 0 _ rfl; (with_reducible repeat (first | refine Zkn ?_ _ | refine Zkd ?_ | refine Zka ?_ _)); exact BK194.out) hb); have n1_ := Zm (Zbt (by repeat (first | (with_reducible first | exact HB.out | apply Zba | apply Zbn | apply Zbd | refine Zbs ?_ GE194.out) | exact HB.out)) hb); have n2_ := Zm (hbox); have n3_ := Zm ((by rw [hg]; exact (Zbz (by repeat (first | (with_reducible first | exact HB.out | apply Zba | apply Zbn | apply Zbd | refine Zbs ?_ GE194.out) | exact HB.out))) : w.heap.size ≤ gb196)); have n4_ := Zm ((by rw [hg]; exact (Zbz (by repeat (first | (with_reducible first | exact HB.out | apply Zba | apply Zbn | apply Zbd | refine Zbs ?_ GE194.out) | exact HB.out))) : w.heap.size ≤ gb196)); have n5_ := Zm ((by rw [hg]; exact Nat.ne_of_lt (blk_lt (g := gb194) (o := .cells #[.string ((rd_T108 l0 x17_1).f0), .int .i64 ((rd_T108 l0 x17_1).f1), .slice A193_2 ((rd_T108 l0 x17_1).f2).length c193_2] 108 (0, 0)) (by (with_reducible repeat (first | refine Zkn ?_ _ | refine Zkd ?_ | refine Zka ?_ _)); refine Zkp (cs := #[.string ((rd_T108 l0 x17_1).f0), .int .i64 ((rd_T108 l0 x17_1).f1), .slice none 0 0]) ?_ 2 _ rfl; (with_reducible repeat (first | refine Zkn ?_ _ | refine Zkd ?_ | refine Zka ?_ _)); refine Zkp (cs := #[.string ((rd_T108 l0 x17_1).f0), .int .i64 0, .slice none 0 0]) ?_ 1 _ rfl; (with_reducible repeat (first | refine Zkn ?_ _ | refine Zkd ?_ | refine Zka ?_ _)); refine Zkp (cs := #[.string (⟨#[]⟩ : ByteArray), .int .i64 0, .slice none 0 0]) ?_ 0 _ rfl; (with_reducible repeat (first | refine Zkn ?_ _ | refine Zkd ?_ | refine Zka ?_ _)); exact BK194.out)) : gb194 ≠ gb196)); have n6_ := Zm ((by rw [hg]; exact Nat.ne_of_gt (blk_lt (g := gb194) (o := .cells #[.string ((rd_T108 l0 x17_1).f0), .int .i64 ((rd_T108 l0 x17_1).f1), .slice A193_2 ((rd_T108 l0 x17_1).f2).length c193_2] 108 (0, 0)) (by (with_reducible repeat (first | refine Zkn ?_ _ | refine Zkd ?_ | refine Zka ?_ _)); refine Zkp (cs := #[.string ((rd_T108 l0 x17_1).f0), .int .i64 ((rd_T108 l0 x17_1).f1), .slice none 0 0]) ?_ 2 _ rfl; (with_reducible repeat (first | refine Zkn ?_ _ | refine Zkd ?_ | refine Zka ?_ _)); refine Zkp (cs := #[.string ((rd_T108 l0 x17_1).f0), .int .i64 0, .slice none 0 0]) ?_ 1 _ rfl; (with_reducible repeat (first | refine Zkn ?_ _ | refine Zkd ?_ | refine Zka ?_ _)); refine Zkp (cs := #[.string (⟨#[]⟩ : ByteArray), .int .i64 0, .slice none 0 0]) ?_ 0 _ rfl; (with_reducible repeat (first | refine Zkn ?_ _ | refine Zkd ?_ | refine Zka ?_ _)); exact BK194.out)) : gb196 ≠ gb194)); clear BK194; clear HB; have BK194 := n0_; have HB := n1_; have BK196 := n2_; have GW196 := n3_; have GE196 := n4_; have NB194_196 := n5_; have NB196_194 := n6_; clear n0_ n1_ n2_ n3_ n4_ n5_ n6_; clear hb hbox hg; have hnb14 := NB196_194.out; have hnc14 := NB194_196.out; have hcz15_0 : w13.cell? ⟨gb196, 0, none⟩ = some (.string (⟨#[]⟩ : ByteArray)) := (Zkc BK196.out 0).trans rfl; have hcz15_1 : w13.cell? ⟨gb196, 1, none⟩ = some (.int .i64 0) := (Zkc BK196.out 1).trans rfl; have hcz15_2 : w13.cell? ⟨gb196, 2, none⟩ = some (.slice none 0 0) := (Zkc BK196.out 2).trans rfl; have hfz15_0 := Zkf BK196.out 0; have hfz15_1 := Zkf BK196.out 1; have hfz15_2 := Zkf BK196.out 2; have hcz16_0 : w13.cell? ⟨gb194, 0, none⟩ = some (.string ((rd_T108 l0 x17_1).f0)) := (Zkc BK194.out 0).trans rfl; have hcz16_1 : w13.cell? ⟨gb194, 1, none⟩ = some (.int .i64 ((rd_T108 l0 x17_1).f1)) := (Zkc BK194.out 1).trans rfl; have hcz16_2 : w13.cell? ⟨gb194, 2, none⟩ = some (.slice A193_2 ((rd_T108 l0 x17_1).f2).length c193_2) := (Zkc BK194.out 2).trans rfl; have hfz16_0 := Zkf BK194.out 0; have hfz16_1 := Zkf BK194.out 1; have hfz16_2 := Zkf BK194.out 2) | (go_at_call 58; (first | (with_reducible refine (impl_BareSame_1.calls k1 ((rd_T108 l0 x17_1).f0) ((rd_T108 l0 x17_1).f1) _ _ ((rd_T108 l0 x17_1).f2) ((rd_T108 l1 x17_1).f0) ((rd_T108 l1 x17_1).f1) _ _ ((rd_T108 l1 x17_1).f2) true _ ?side1 ?side2 ?side3 ?side4 A9.out).mono ?_) | (with_reducible refine (calls_of_args ?_ (impl_BareSame_1.calls k1 ((rd_T108 l0 x17_1).f0) ((rd_T108 l0 x17_1).f1) _ _ ((rd_T108 l0 x17_1).f2) ((rd_T108 l1 x17_1).f0) ((rd_T108 l1 x17_1).f1) _ _ ((rd_T108 l1 x17_1).f2) true _ ?side1 ?side2 ?side3 ?side4 A9.out)).mono ?_; focus (simp [*]; done))); (case side1 => exact Kd.C_below HR193_2.out (by repeat (first | (with_reducible first | exact HB.out | apply Zba | apply Zbn | apply Zbd | refine Zbs ?_ GE194.out | refine Zbs ?_ GE196.out) | exact HB.out))); (case side2 => exact HC193_2.out); (case side3 => exact Kd.C_below HR195_2.out (by repeat (first | (with_reducible first | exact HB.out | apply Zba | apply Zbn | apply Zbd | refine Zbs ?_ GE194.out | refine Zbs ?_ GE196.out) | exact HB.out))); (case side4 => exact HC195_2.out); rintro e w17 ⟨rfl, hb⟩; have n0_ := Zm (Zkb (g := gb194) (o := .cells #[.string ((rd_T108 l0 x17_1).f0), .int .i64 ((rd_T108 l0 x17_1).f1), .slice A193_2 ((rd_T108 l0 x17_1).f2).length c193_2] 108 (0, 0)) (by (with_reducible repeat (first | refine Zkn ?_ _ | refine Zkd ?_ | refine Zka ?_ _)); refine Zkr ?_ NB194_196.out _; (with_reducible repeat (first | refine Zkn ?_ _ | refine Zkd ?_ | refine Zka ?_ _)); refine Zkr ?_ NB194_196.out _; (with_reducible repeat (first | refine Zkn ?_ _ | refine Zkd ?_ | refine Zka ?_ _)); refine Zkr ?_ NB194_196.out _; (with_reducible repeat (first | refine Zkn ?_ _ | refine Zkd ?_ | refine Zka ?_ _)); exact BK194.out) hb); have n1_ := Zm (Zkb (g := gb196) (o := .cells #[.string ((rd_T108 l1 x17_1).f0), .int .i64 ((rd_T108 l1 x17_1).f1), .slice A195_2 ((rd_T108 l1 x17_1).f2).length c195_2] 108 (0, 0)) (by (with_reducible repeat (first | refine Zkn ?_ _ | refine Zkd ?_ | refine Zka ?_ _)); refine Zkp (cs := #[.string ((rd_T108 l1 x17_1).f0), .int .i64 ((rd_T108 l1 x17_1).f1), .slice none 0 0]) ?_ 2 _ rfl; (with_reducible repeat (first | refine Zkn ?_ _ | refine Zkd ?_ | refine Zka ?_ _)); refine Zkp (cs := #[.string ((rd_T108 l1 x17_1).f0), .int .i64 0, .slice none 0 0]) ?_ 1 _ rfl; (with_reducible repeat (first | refine Zkn ?_ _ | refine Zkd ?_ | refine Zka ?_ _)); refine Zkp (cs := #[.string (⟨#[]⟩ : ByteArray), .int .i64 0, .slice none 0 0]) ?_ 0 _ rfl; (with_reducible repeat (first | refine Zkn ?_ _ | refine Zkd ?_ | refine Zka ?_ _)); exact BK196.out) hb); have n2_ := Zm (Zbt (by repeat (first | (with_reducible first | exact HB.out | apply Zba | apply Zbn | apply Zbd | refine Zbs ?_ GE194.out | refine Zbs ?_ GE196.out) | exact HB.out)) hb); clear BK194; clear BK196; clear HB; have BK194 := n0_; have BK196 := n1_; have HB := n2_; clear n0_ n1_ n2_; (try clear hb); (try clear hb2); (try clear hk); (try clear hi)))
      go_roundg k1
      case measure => have := HK1.out; omega
      case rel => exact ⟨(wrap64 (x17_1 + 1)), (by first | rfl | (simp; done) | (simp [*]; done)), H', ⟨by have := HK1.out; omega⟩, ⟨by repeat (first | (with_reducible first | exact HB.out | apply Zba | apply Zbn | apply Zbd | refine Zbs ?_ GE194.out | refine Zbs ?_ GE196.out) | exact HB.out)⟩⟩
/-! ### impl_BareSame_2: function 60 -/
def impl_BareSame_2.f (k : Nat) (a0_0 : Int) (a0_1 : Int) (a0_2 : Int) (l0_3 : List Int) (l0_4 : List Int) (a1_0 : Int) (a1_1 : Int) (a1_2 : Int) (l1_3 : List Int) (l1_4 : List Int) : Option (Bool) := if a0_0 = a1_0 then (if a0_1 = a1_1 then (if a0_2 = a1_2 then ((slices_Equal_int64_int64.f k l0_3 l1_3).bind fun t200 => (if t200 = true then ((slices_Equal_int64_int64.f k l0_4 l1_4).bind fun t201 => (some t201)) else (some false))) else (some false)) else (some false)) else (some false)
theorem impl_BareSame_2.mono : ∀ a0 a1 a2 a3 a4 a5 a6 a7 a8 a9 k, LeO (impl_BareSame_2.f k a0 a1 a2 a3 a4 a5 a6 a7 a8 a9) (impl_BareSame_2.f (k + 1) a0 a1 a2 a3 a4 a5 a6 a7 a8 a9) := by
  intro a0 a1 a2 a3 a4 a5 a6 a7 a8 a9 k
  unfold impl_BareSame_2.f
  repeat' first
      | (with_reducible exact slices_Equal_int64_int64.mono _ _ _)
      | (with_reducible exact LeO.refl _)
      | (with_reducible exact LeO.none _)
      | (with_reducible refine LeO.ite ?_ ?_)
      | (with_reducible refine LeO.bind ?_ (fun _ => ?_))
      | exact slices_Equal_int64_int64.mono _ _ _
      | exact LeO.none _
      | refine LeO.ite ?_ ?_
      | refine LeO.bind ?_ (fun _ => ?_)
set_option maxHeartbeats 8000000 in
set_option maxRecDepth 100000 in
theorem impl_BareSame_2.calls (k : Nat) (a0_0 : Int) (a0_1 : Int) (a0_2 : Int) (A0_3 : Option Addr) (c0_3 : Nat) (l0_3 : List Int) (A0_4 : Option Addr) (c0_4 : Nat) (l0_4 : List Int) (a1_0 : Int) (a1_1 : Int) (a1_2 : Int) (A1_3 : Option Addr) (c1_3 : Nat) (l1_3 : List Int) (A1_4 : Option Addr) (c1_4 : Nat) (l1_4 : List Int) (r : Bool) (w : World) (hr0_3 : Kd.C (Kd.int .i64) w A0_3 l0_3.length l0_3) (hc0_3 : l0_3.length ≤ c0_3) (hr0_4 : Kd.C (Kd.int .i64) w A0_4 l0_4.length l0_4) (hc0_4 : l0_4.length ≤ c0_4) (hr1_3 : Kd.C (Kd.int .i64) w A1_3 l1_3.length l1_3) (hc1_3 : l1_3.length ≤ c1_3) (hr1_4 : Kd.C (Kd.int .i64) w A1_4 l1_4.length l1_4) (hc1_4 : l1_4.length ≤ c1_4) (h : impl_BareSame_2.f k a0_0 a0_1 a0_2 l0_3 l0_4 a1_0 a1_1 a1_2 l1_3 l1_4 = some r) :
    Calls Try.prog 60 #[.agg #[.int .i64 a0_0, .int .i64 a0_1, .int .i64 a0_2, .slice A0_3 l0_3.length c0_3, .slice A0_4 l0_4.length c0_4], .agg #[.int .i64 a1_0, .int .i64 a1_1, .int .i64 a1_2, .slice A1_3 l1_3.length c1_3, .slice A1_4 l1_4.length c1_4]] w fun e w' => e = .returned (.bool r) ∧ Below w.heap.size w w' := by
  have hu110 := Try.underlying110
  have HR0_3 := Zm hr0_3
  have HC0_3 := Zm hc0_3
  clear hr0_3 hc0_3
  have HR0_4 := Zm hr0_4
  have HC0_4 := Zm hc0_4
  clear hr0_4 hc0_4
  have HR1_3 := Zm hr1_3
  have HC1_3 := Zm hc1_3
  clear hr1_3 hc1_3
  have HR1_4 := Zm hr1_4
  have HC1_4 := Zm hc1_4
  clear hr1_4 hc1_4
  have HB := Zm (Below.refl w.heap.size w)
  have H : (if a0_0 = a1_0 then (if a0_1 = a1_1 then (if a0_2 = a1_2 then ((slices_Equal_int64_int64.f k l0_3 l1_3).bind fun t200 => (if t200 = true then ((slices_Equal_int64_int64.f k l0_4 l1_4).bind fun t201 => (some t201)) else (some false))) else (some false)) else (some false)) else (some false)) = some r := h
  clear h
  by_cases c3 : a0_0 = a1_0
  rotate_left
  · rw [if_neg c3] at H
    have c3b0 : (a0_0 == a1_0) = false := beq_eq_false_iff_ne.mpr c3
    have c3b1 : (a0_0 != a1_0) = true := bne_iff_ne.mpr c3
    obtain rfl := Option.some.inj H
    go_enter Try.func60, Try.ntmps60
    go_wp2_with (first | ((with_reducible refine gate_dst (N := 2) rfl ?_); refine box_event ?hg (N := 2) ?hd (cs := #[.int .i64 a0_0, .int .i64 a0_1, .int .i64 a0_2, .slice A0_3 l0_3.length c0_3, .slice A0_4 l0_4.length c0_4]) (t := 110) ?hr ?_; (case hd => rfl); (case hg => rfl); (case hr => first | (go_simp; done) | (go_simp; rfl)); intro gb198 hg w29 hbox hb; have n0_ := Zm (Zbt (by repeat (first | (with_reducible first | exact HB.out | apply Zba | apply Zbn | apply Zbd) | exact HB.out)) hb); have n1_ := Zm (hbox); have n2_ := Zm ((by rw [hg]; exact (Zbz (by repeat (first | (with_reducible first | exact HB.out | apply Zba | apply Zbn | apply Zbd) | exact HB.out))) : w.heap.size ≤ gb198)); have n3_ := Zm ((by rw [hg]; exact (Zbz (by repeat (first | (with_reducible first | exact HB.out | apply Zba | apply Zbn | apply Zbd) | exact HB.out))) : w.heap.size ≤ gb198)); clear HB; have HB := n0_; have BK198 := n1_; have GW198 := n2_; have GE198 := n3_; clear n0_ n1_ n2_ n3_; clear hb hbox hg) | ((with_reducible refine gate_dst (N := 3) rfl ?_); refine box_event ?hg (N := 3) ?hd (cs := #[.int .i64 a1_0, .int .i64 a1_1, .int .i64 a1_2, .slice A1_3 l1_3.length c1_3, .slice A1_4 l1_4.length c1_4]) (t := 110) ?hr ?_; (case hd => rfl); (case hg => rfl); (case hr => first | (go_simp; done) | (go_simp; rfl)); intro gb199 hg w30 hbox hb; have n0_ := Zm (Zkb (g := gb198) (o := .cells #[.int .i64 a0_0, .int .i64 a0_1, .int .i64 a0_2, .slice A0_3 l0_3.length c0_3, .slice A0_4 l0_4.length c0_4] 110 (0, 0)) (by (with_reducible repeat (first | refine Zkn ?_ _ | refine Zkd ?_ | refine Zka ?_ _)); exact BK198.out) hb); have n1_ := Zm (Zbt (by repeat (first | (with_reducible first | exact HB.out | apply Zba | apply Zbn | apply Zbd | refine Zbs ?_ GE198.out) | exact HB.out)) hb); have n2_ := Zm (hbox); have n3_ := Zm ((by rw [hg]; exact (Zbz (by repeat (first | (with_reducible first | exact HB.out | apply Zba | apply Zbn | apply Zbd | refine Zbs ?_ GE198.out) | exact HB.out))) : w.heap.size ≤ gb199)); have n4_ := Zm ((by rw [hg]; exact (Zbz (by repeat (first | (with_reducible first | exact HB.out | apply Zba | apply Zbn | apply Zbd | refine Zbs ?_ GE198.out) | exact HB.out))) : w.heap.size ≤ gb199)); have n5_ := Zm ((by rw [hg]; exact Nat.ne_of_lt (blk_lt (g := gb198) (o := .cells #[.int .i64 a0_0, .int .i64 a0_1, .int .i64 a0_2, .slice A0_3 l0_3.length c0_3, .slice A0_4 l0_4.length c0_4] 110 (0, 0)) (by (with_reducible repeat (first | refine Zkn ?_ _ | refine Zkd ?_ | refine Zka ?_ _)); exact BK198.out)) : gb198 ≠ gb199)); have n6_ := Zm ((by rw [hg]; exact Nat.ne_of_gt (blk_lt (g := gb198) (o := .cells #[.int .i64 a0_0, .int .i64 a0_1, .int .i64 a0_2, .slice A0_3 l0_3.length c0_3, .slice A0_4 l0_4.length c0_4] 110 (0, 0)) (by (with_reducible repeat (first | refine Zkn ?_ _ | refine Zkd ?_ | refine Zka ?_ _)); exact BK198.out)) : gb199 ≠ gb198)); clear BK198; clear HB; have BK198 := n0_; have HB := n1_; have BK199 := n2_; have GW199 := n3_; have GE199 := n4_; have NB198_199 := n5_; have NB199_198 := n6_; clear n0_ n1_ n2_ n3_ n4_ n5_ n6_; clear hb hbox hg; have hnb31 := NB198_199.out; have hnc31 := NB199_198.out; have hcz32_0 : w30.cell? ⟨gb198, 0, none⟩ = some (.int .i64 a0_0) := (Zkc BK198.out 0).trans rfl; have hcz32_1 : w30.cell? ⟨gb198, 1, none⟩ = some (.int .i64 a0_1) := (Zkc BK198.out 1).trans rfl; have hcz32_2 : w30.cell? ⟨gb198, 2, none⟩ = some (.int .i64 a0_2) := (Zkc BK198.out 2).trans rfl; have hcz32_3 : w30.cell? ⟨gb198, 3, none⟩ = some (.slice A0_3 l0_3.length c0_3) := (Zkc BK198.out 3).trans rfl; have hcz32_4 : w30.cell? ⟨gb198, 4, none⟩ = some (.slice A0_4 l0_4.length c0_4) := (Zkc BK198.out 4).trans rfl; have hcz33_0 : w30.cell? ⟨gb199, 0, none⟩ = some (.int .i64 a1_0) := (Zkc BK199.out 0).trans rfl; have hcz33_1 : w30.cell? ⟨gb199, 1, none⟩ = some (.int .i64 a1_1) := (Zkc BK199.out 1).trans rfl; have hcz33_2 : w30.cell? ⟨gb199, 2, none⟩ = some (.int .i64 a1_2) := (Zkc BK199.out 2).trans rfl; have hcz33_3 : w30.cell? ⟨gb199, 3, none⟩ = some (.slice A1_3 l1_3.length c1_3) := (Zkc BK199.out 3).trans rfl; have hcz33_4 : w30.cell? ⟨gb199, 4, none⟩ = some (.slice A1_4 l1_4.length c1_4) := (Zkc BK199.out 4).trans rfl; have hfz33_4 := Zkf BK199.out 4))
    go_ret
    exact ⟨by first | rfl | (simp [errW_none, errW_some] <;> rfl) | (simp [*, errW_none, errW_some] <;> rfl), by repeat (first | (with_reducible first | exact HB.out | apply Zba | apply Zbn | apply Zbd | refine Zbs ?_ GE198.out | refine Zbs ?_ GE199.out) | exact HB.out)⟩

  rw [if_pos c3] at H
  have c3b0 : (a0_0 == a1_0) = true := beq_iff_eq.mpr c3
  have c3b1 : (a0_0 != a1_0) = false := bne_eq_false_iff_eq.mpr c3
  clear c3
  by_cases c4 : a0_1 = a1_1
  rotate_left
  · rw [if_neg c4] at H
    have c4b0 : (a0_1 == a1_1) = false := beq_eq_false_iff_ne.mpr c4
    have c4b1 : (a0_1 != a1_1) = true := bne_iff_ne.mpr c4
    obtain rfl := Option.some.inj H
    go_enter Try.func60, Try.ntmps60
    go_wp2_with (first | ((with_reducible refine gate_dst (N := 2) rfl ?_); refine box_event ?hg (N := 2) ?hd (cs := #[.int .i64 a0_0, .int .i64 a0_1, .int .i64 a0_2, .slice A0_3 l0_3.length c0_3, .slice A0_4 l0_4.length c0_4]) (t := 110) ?hr ?_; (case hd => rfl); (case hg => rfl); (case hr => first | (go_simp; done) | (go_simp; rfl)); intro gb198 hg w24 hbox hb; have n0_ := Zm (Zbt (by repeat (first | (with_reducible first | exact HB.out | apply Zba | apply Zbn | apply Zbd) | exact HB.out)) hb); have n1_ := Zm (hbox); have n2_ := Zm ((by rw [hg]; exact (Zbz (by repeat (first | (with_reducible first | exact HB.out | apply Zba | apply Zbn | apply Zbd) | exact HB.out))) : w.heap.size ≤ gb198)); have n3_ := Zm ((by rw [hg]; exact (Zbz (by repeat (first | (with_reducible first | exact HB.out | apply Zba | apply Zbn | apply Zbd) | exact HB.out))) : w.heap.size ≤ gb198)); clear HB; have HB := n0_; have BK198 := n1_; have GW198 := n2_; have GE198 := n3_; clear n0_ n1_ n2_ n3_; clear hb hbox hg) | ((with_reducible refine gate_dst (N := 3) rfl ?_); refine box_event ?hg (N := 3) ?hd (cs := #[.int .i64 a1_0, .int .i64 a1_1, .int .i64 a1_2, .slice A1_3 l1_3.length c1_3, .slice A1_4 l1_4.length c1_4]) (t := 110) ?hr ?_; (case hd => rfl); (case hg => rfl); (case hr => first | (go_simp; done) | (go_simp; rfl)); intro gb199 hg w25 hbox hb; have n0_ := Zm (Zkb (g := gb198) (o := .cells #[.int .i64 a0_0, .int .i64 a0_1, .int .i64 a0_2, .slice A0_3 l0_3.length c0_3, .slice A0_4 l0_4.length c0_4] 110 (0, 0)) (by (with_reducible repeat (first | refine Zkn ?_ _ | refine Zkd ?_ | refine Zka ?_ _)); exact BK198.out) hb); have n1_ := Zm (Zbt (by repeat (first | (with_reducible first | exact HB.out | apply Zba | apply Zbn | apply Zbd | refine Zbs ?_ GE198.out) | exact HB.out)) hb); have n2_ := Zm (hbox); have n3_ := Zm ((by rw [hg]; exact (Zbz (by repeat (first | (with_reducible first | exact HB.out | apply Zba | apply Zbn | apply Zbd | refine Zbs ?_ GE198.out) | exact HB.out))) : w.heap.size ≤ gb199)); have n4_ := Zm ((by rw [hg]; exact (Zbz (by repeat (first | (with_reducible first | exact HB.out | apply Zba | apply Zbn | apply Zbd | refine Zbs ?_ GE198.out) | exact HB.out))) : w.heap.size ≤ gb199)); have n5_ := Zm ((by rw [hg]; exact Nat.ne_of_lt (blk_lt (g := gb198) (o := .cells #[.int .i64 a0_0, .int .i64 a0_1, .int .i64 a0_2, .slice A0_3 l0_3.length c0_3, .slice A0_4 l0_4.length c0_4] 110 (0, 0)) (by (with_reducible repeat (first | refine Zkn ?_ _ | refine Zkd ?_ | refine Zka ?_ _)); exact BK198.out)) : gb198 ≠ gb199)); have n6_ := Zm ((by rw [hg]; exact Nat.ne_of_gt (blk_lt (g := gb198) (o := .cells #[.int .i64 a0_0, .int .i64 a0_1, .int .i64 a0_2, .slice A0_3 l0_3.length c0_3, .slice A0_4 l0_4.length c0_4] 110 (0, 0)) (by (with_reducible repeat (first | refine Zkn ?_ _ | refine Zkd ?_ | refine Zka ?_ _)); exact BK198.out)) : gb199 ≠ gb198)); clear BK198; clear HB; have BK198 := n0_; have HB := n1_; have BK199 := n2_; have GW199 := n3_; have GE199 := n4_; have NB198_199 := n5_; have NB199_198 := n6_; clear n0_ n1_ n2_ n3_ n4_ n5_ n6_; clear hb hbox hg; have hnb26 := NB198_199.out; have hnc26 := NB199_198.out; have hcz27_0 : w25.cell? ⟨gb198, 0, none⟩ = some (.int .i64 a0_0) := (Zkc BK198.out 0).trans rfl; have hcz27_1 : w25.cell? ⟨gb198, 1, none⟩ = some (.int .i64 a0_1) := (Zkc BK198.out 1).trans rfl; have hcz27_2 : w25.cell? ⟨gb198, 2, none⟩ = some (.int .i64 a0_2) := (Zkc BK198.out 2).trans rfl; have hcz27_3 : w25.cell? ⟨gb198, 3, none⟩ = some (.slice A0_3 l0_3.length c0_3) := (Zkc BK198.out 3).trans rfl; have hcz27_4 : w25.cell? ⟨gb198, 4, none⟩ = some (.slice A0_4 l0_4.length c0_4) := (Zkc BK198.out 4).trans rfl; have hcz28_0 : w25.cell? ⟨gb199, 0, none⟩ = some (.int .i64 a1_0) := (Zkc BK199.out 0).trans rfl; have hcz28_1 : w25.cell? ⟨gb199, 1, none⟩ = some (.int .i64 a1_1) := (Zkc BK199.out 1).trans rfl; have hcz28_2 : w25.cell? ⟨gb199, 2, none⟩ = some (.int .i64 a1_2) := (Zkc BK199.out 2).trans rfl; have hcz28_3 : w25.cell? ⟨gb199, 3, none⟩ = some (.slice A1_3 l1_3.length c1_3) := (Zkc BK199.out 3).trans rfl; have hcz28_4 : w25.cell? ⟨gb199, 4, none⟩ = some (.slice A1_4 l1_4.length c1_4) := (Zkc BK199.out 4).trans rfl; have hfz28_4 := Zkf BK199.out 4))
    go_ret
    exact ⟨by first | rfl | (simp [errW_none, errW_some] <;> rfl) | (simp [*, errW_none, errW_some] <;> rfl), by repeat (first | (with_reducible first | exact HB.out | apply Zba | apply Zbn | apply Zbd | refine Zbs ?_ GE198.out | refine Zbs ?_ GE199.out) | exact HB.out)⟩
  rw [if_pos c4] at H
  have c4b0 : (a0_1 == a1_1) = true := beq_iff_eq.mpr c4
  have c4b1 : (a0_1 != a1_1) = false := bne_eq_false_iff_eq.mpr c4
  clear c4
  by_cases c5 : a0_2 = a1_2
  rotate_left
  · rw [if_neg c5] at H
    have c5b0 : (a0_2 == a1_2) = false := beq_eq_false_iff_ne.mpr c5
    have c5b1 : (a0_2 != a1_2) = true := bne_iff_ne.mpr c5
    obtain rfl := Option.some.inj H
    go_enter Try.func60, Try.ntmps60
    go_wp2_with (first | ((with_reducible refine gate_dst (N := 2) rfl ?_); refine box_event ?hg (N := 2) ?hd (cs := #[.int .i64 a0_0, .int .i64 a0_1, .int .i64 a0_2, .slice A0_3 l0_3.length c0_3, .slice A0_4 l0_4.length c0_4]) (t := 110) ?hr ?_; (case hd => rfl); (case hg => rfl); (case hr => first | (go_simp; done) | (go_simp; rfl)); intro gb198 hg w19 hbox hb; have n0_ := Zm (Zbt (by repeat (first | (with_reducible first | exact HB.out | apply Zba | apply Zbn | apply Zbd) | exact HB.out)) hb); have n1_ := Zm (hbox); have n2_ := Zm ((by rw [hg]; exact (Zbz (by repeat (first | (with_reducible first | exact HB.out | apply Zba | apply Zbn | apply Zbd) | exact HB.out))) : w.heap.size ≤ gb198)); have n3_ := Zm ((by rw [hg]; exact (Zbz (by repeat (first | (with_reducible first | exact HB.out | apply Zba | apply Zbn | apply Zbd) | exact HB.out))) : w.heap.size ≤ gb198)); clear HB; have HB := n0_; have BK198 := n1_; have GW198 := n2_; have GE198 := n3_; clear n0_ n1_ n2_ n3_; clear hb hbox hg) | ((with_reducible refine gate_dst (N := 3) rfl ?_); refine box_event ?hg (N := 3) ?hd (cs := #[.int .i64 a1_0, .int .i64 a1_1, .int .i64 a1_2, .slice A1_3 l1_3.length c1_3, .slice A1_4 l1_4.length c1_4]) (t := 110) ?hr ?_; (case hd => rfl); (case hg => rfl); (case hr => first | (go_simp; done) | (go_simp; rfl)); intro gb199 hg w20 hbox hb; have n0_ := Zm (Zkb (g := gb198) (o := .cells #[.int .i64 a0_0, .int .i64 a0_1, .int .i64 a0_2, .slice A0_3 l0_3.length c0_3, .slice A0_4 l0_4.length c0_4] 110 (0, 0)) (by (with_reducible repeat (first | refine Zkn ?_ _ | refine Zkd ?_ | refine Zka ?_ _)); exact BK198.out) hb); have n1_ := Zm (Zbt (by repeat (first | (with_reducible first | exact HB.out | apply Zba | apply Zbn | apply Zbd | refine Zbs ?_ GE198.out) | exact HB.out)) hb); have n2_ := Zm (hbox); have n3_ := Zm ((by rw [hg]; exact (Zbz (by repeat (first | (with_reducible first | exact HB.out | apply Zba | apply Zbn | apply Zbd | refine Zbs ?_ GE198.out) | exact HB.out))) : w.heap.size ≤ gb199)); have n4_ := Zm ((by rw [hg]; exact (Zbz (by repeat (first | (with_reducible first | exact HB.out | apply Zba | apply Zbn | apply Zbd | refine Zbs ?_ GE198.out) | exact HB.out))) : w.heap.size ≤ gb199)); have n5_ := Zm ((by rw [hg]; exact Nat.ne_of_lt (blk_lt (g := gb198) (o := .cells #[.int .i64 a0_0, .int .i64 a0_1, .int .i64 a0_2, .slice A0_3 l0_3.length c0_3, .slice A0_4 l0_4.length c0_4] 110 (0, 0)) (by (with_reducible repeat (first | refine Zkn ?_ _ | refine Zkd ?_ | refine Zka ?_ _)); exact BK198.out)) : gb198 ≠ gb199)); have n6_ := Zm ((by rw [hg]; exact Nat.ne_of_gt (blk_lt (g := gb198) (o := .cells #[.int .i64 a0_0, .int .i64 a0_1, .int .i64 a0_2, .slice A0_3 l0_3.length c0_3, .slice A0_4 l0_4.length c0_4] 110 (0, 0)) (by (with_reducible repeat (first | refine Zkn ?_ _ | refine Zkd ?_ | refine Zka ?_ _)); exact BK198.out)) : gb199 ≠ gb198)); clear BK198; clear HB; have BK198 := n0_; have HB := n1_; have BK199 := n2_; have GW199 := n3_; have GE199 := n4_; have NB198_199 := n5_; have NB199_198 := n6_; clear n0_ n1_ n2_ n3_ n4_ n5_ n6_; clear hb hbox hg; have hnb21 := NB198_199.out; have hnc21 := NB199_198.out; have hcz22_0 : w20.cell? ⟨gb198, 0, none⟩ = some (.int .i64 a0_0) := (Zkc BK198.out 0).trans rfl; have hcz22_1 : w20.cell? ⟨gb198, 1, none⟩ = some (.int .i64 a0_1) := (Zkc BK198.out 1).trans rfl; have hcz22_2 : w20.cell? ⟨gb198, 2, none⟩ = some (.int .i64 a0_2) := (Zkc BK198.out 2).trans rfl; have hcz22_3 : w20.cell? ⟨gb198, 3, none⟩ = some (.slice A0_3 l0_3.length c0_3) := (Zkc BK198.out 3).trans rfl; have hcz22_4 : w20.cell? ⟨gb198, 4, none⟩ = some (.slice A0_4 l0_4.length c0_4) := (Zkc BK198.out 4).trans rfl; have hcz23_0 : w20.cell? ⟨gb199, 0, none⟩ = some (.int .i64 a1_0) := (Zkc BK199.out 0).trans rfl; have hcz23_1 : w20.cell? ⟨gb199, 1, none⟩ = some (.int .i64 a1_1) := (Zkc BK199.out 1).trans rfl; have hcz23_2 : w20.cell? ⟨gb199, 2, none⟩ = some (.int .i64 a1_2) := (Zkc BK199.out 2).trans rfl; have hcz23_3 : w20.cell? ⟨gb199, 3, none⟩ = some (.slice A1_3 l1_3.length c1_3) := (Zkc BK199.out 3).trans rfl; have hcz23_4 : w20.cell? ⟨gb199, 4, none⟩ = some (.slice A1_4 l1_4.length c1_4) := (Zkc BK199.out 4).trans rfl; have hfz23_4 := Zkf BK199.out 4))
    go_ret
    exact ⟨by first | rfl | (simp [errW_none, errW_some] <;> rfl) | (simp [*, errW_none, errW_some] <;> rfl), by repeat (first | (with_reducible first | exact HB.out | apply Zba | apply Zbn | apply Zbd | refine Zbs ?_ GE198.out | refine Zbs ?_ GE199.out) | exact HB.out)⟩
  rw [if_pos c5] at H
  have c5b0 : (a0_2 == a1_2) = true := beq_iff_eq.mpr c5
  have c5b1 : (a0_2 != a1_2) = false := bne_eq_false_iff_eq.mpr c5
  clear c5
  replace H := Option.bind_eq_some_iff.mp H
  obtain ⟨t200, A60, H⟩ := H
  replace H : (if t200 = true then ((slices_Equal_int64_int64.f k l0_4 l1_4).bind fun t201 => (some t201)) else (some false)) = some r := H
  have A6 := Zm A60
  clear A60
  by_cases c7 : t200 = true
  rotate_left
  · replace c7 := Bool.eq_false_iff.mpr c7
    subst c7
    have H1 : (some false) = some r := by rw [if_neg (show ¬ (false = true) by decide)] at H; exact H
    clear H
    have H := H1
    clear H1
    obtain rfl := Option.some.inj H
    go_enter Try.func60, Try.ntmps60
    go_wp2_with (first | ((with_reducible refine gate_dst (N := 2) rfl ?_); refine box_event ?hg (N := 2) ?hd (cs := #[.int .i64 a0_0, .int .i64 a0_1, .int .i64 a0_2, .slice A0_3 l0_3.length c0_3, .slice A0_4 l0_4.length c0_4]) (t := 110) ?hr ?_; (case hd => rfl); (case hg => rfl); (case hr => first | (go_simp; done) | (go_simp; rfl)); intro gb198 hg w14 hbox hb; have n0_ := Zm (Zbt (by repeat (first | (with_reducible first | exact HB.out | apply Zba | apply Zbn | apply Zbd) | exact HB.out)) hb); have n1_ := Zm (hbox); have n2_ := Zm ((by rw [hg]; exact (Zbz (by repeat (first | (with_reducible first | exact HB.out | apply Zba | apply Zbn | apply Zbd) | exact HB.out))) : w.heap.size ≤ gb198)); have n3_ := Zm ((by rw [hg]; exact (Zbz (by repeat (first | (with_reducible first | exact HB.out | apply Zba | apply Zbn | apply Zbd) | exact HB.out))) : w.heap.size ≤ gb198)); clear HB; have HB := n0_; have BK198 := n1_; have GW198 := n2_; have GE198 := n3_; clear n0_ n1_ n2_ n3_; clear hb hbox hg) | ((with_reducible refine gate_dst (N := 3) rfl ?_); refine box_event ?hg (N := 3) ?hd (cs := #[.int .i64 a1_0, .int .i64 a1_1, .int .i64 a1_2, .slice A1_3 l1_3.length c1_3, .slice A1_4 l1_4.length c1_4]) (t := 110) ?hr ?_; (case hd => rfl); (case hg => rfl); (case hr => first | (go_simp; done) | (go_simp; rfl)); intro gb199 hg w15 hbox hb; have n0_ := Zm (Zkb (g := gb198) (o := .cells #[.int .i64 a0_0, .int .i64 a0_1, .int .i64 a0_2, .slice A0_3 l0_3.length c0_3, .slice A0_4 l0_4.length c0_4] 110 (0, 0)) (by (with_reducible repeat (first | refine Zkn ?_ _ | refine Zkd ?_ | refine Zka ?_ _)); exact BK198.out) hb); have n1_ := Zm (Zbt (by repeat (first | (with_reducible first | exact HB.out | apply Zba | apply Zbn | apply Zbd | refine Zbs ?_ GE198.out) | exact HB.out)) hb); have n2_ := Zm (hbox); have n3_ := Zm ((by rw [hg]; exact (Zbz (by repeat (first | (with_reducible first | exact HB.out | apply Zba | apply Zbn | apply Zbd | refine Zbs ?_ GE198.out) | exact HB.out))) : w.heap.size ≤ gb199)); have n4_ := Zm ((by rw [hg]; exact (Zbz (by repeat (first | (with_reducible first | exact HB.out | apply Zba | apply Zbn | apply Zbd | refine Zbs ?_ GE198.out) | exact HB.out))) : w.heap.size ≤ gb199)); have n5_ := Zm ((by rw [hg]; exact Nat.ne_of_lt (blk_lt (g := gb198) (o := .cells #[.int .i64 a0_0, .int .i64 a0_1, .int .i64 a0_2, .slice A0_3 l0_3.length c0_3, .slice A0_4 l0_4.length c0_4] 110 (0, 0)) (by (with_reducible repeat (first | refine Zkn ?_ _ | refine Zkd ?_ | refine Zka ?_ _)); exact BK198.out)) : gb198 ≠ gb199)); have n6_ := Zm ((by rw [hg]; exact Nat.ne_of_gt (blk_lt (g := gb198) (o := .cells #[.int .i64 a0_0, .int .i64 a0_1, .int .i64 a0_2, .slice A0_3 l0_3.length c0_3, .slice A0_4 l0_4.length c0_4] 110 (0, 0)) (by (with_reducible repeat (first | refine Zkn ?_ _ | refine Zkd ?_ | refine Zka ?_ _)); exact BK198.out)) : gb199 ≠ gb198)); clear BK198; clear HB; have BK198 := n0_; have HB := n1_; have BK199 := n2_; have GW199 := n3_; have GE199 := n4_; have NB198_199 := n5_; have NB199_198 := n6_; clear n0_ n1_ n2_ n3_ n4_ n5_ n6_; clear hb hbox hg; have hnb16 := NB198_199.out; have hnc16 := NB199_198.out; have hcz17_0 : w15.cell? ⟨gb198, 0, none⟩ = some (.int .i64 a0_0) := (Zkc BK198.out 0).trans rfl; have hcz17_1 : w15.cell? ⟨gb198, 1, none⟩ = some (.int .i64 a0_1) := (Zkc BK198.out 1).trans rfl; have hcz17_2 : w15.cell? ⟨gb198, 2, none⟩ = some (.int .i64 a0_2) := (Zkc BK198.out 2).trans rfl; have hcz17_3 : w15.cell? ⟨gb198, 3, none⟩ = some (.slice A0_3 l0_3.length c0_3) := (Zkc BK198.out 3).trans rfl; have hcz17_4 : w15.cell? ⟨gb198, 4, none⟩ = some (.slice A0_4 l0_4.length c0_4) := (Zkc BK198.out 4).trans rfl; have hcz18_0 : w15.cell? ⟨gb199, 0, none⟩ = some (.int .i64 a1_0) := (Zkc BK199.out 0).trans rfl; have hcz18_1 : w15.cell? ⟨gb199, 1, none⟩ = some (.int .i64 a1_1) := (Zkc BK199.out 1).trans rfl; have hcz18_2 : w15.cell? ⟨gb199, 2, none⟩ = some (.int .i64 a1_2) := (Zkc BK199.out 2).trans rfl; have hcz18_3 : w15.cell? ⟨gb199, 3, none⟩ = some (.slice A1_3 l1_3.length c1_3) := (Zkc BK199.out 3).trans rfl; have hcz18_4 : w15.cell? ⟨gb199, 4, none⟩ = some (.slice A1_4 l1_4.length c1_4) := (Zkc BK199.out 4).trans rfl; (try clear BK198); (try clear BK199)) | (go_at_call 56; (first | (with_reducible refine (slices_Equal_int64_int64.calls k _ _ l0_3 _ _ l1_3 false _ ?side1 ?side2 ?side3 ?side4 A6.out).mono ?_) | (with_reducible refine (calls_of_args ?_ (slices_Equal_int64_int64.calls k _ _ l0_3 _ _ l1_3 false _ ?side1 ?side2 ?side3 ?side4 A6.out)).mono ?_; focus (simp [*]; done))); (case side1 => repeat (first | exact (Kd.C_below HR0_3.out HB.out) | (with_reducible refine Kd.C_alloc ?_ _) | (with_reducible refine Kd.C_drewN ?_ _) | (with_reducible refine Kd.C_drew ?_))); (case side2 => exact HC0_3.out); (case side3 => repeat (first | exact (Kd.C_below HR1_3.out HB.out) | (with_reducible refine Kd.C_alloc ?_ _) | (with_reducible refine Kd.C_drewN ?_ _) | (with_reducible refine Kd.C_drew ?_))); (case side4 => exact HC1_3.out); rintro e w' ⟨rfl, ⟨nd, rfl⟩⟩))
    go_ret
    exact ⟨by first | rfl | (simp [errW_none, errW_some] <;> rfl) | (simp [*, errW_none, errW_some] <;> rfl), by repeat (first | (with_reducible first | exact HB.out | apply Zba | apply Zbn | apply Zbd) | exact HB.out)⟩
  subst c7
  have H1 : ((slices_Equal_int64_int64.f k l0_4 l1_4).bind fun t201 => (some t201)) = some r := by rw [if_pos rfl] at H; exact H
  clear H
  have H := H1
  clear H1
  replace H := Option.bind_eq_some_iff.mp H
  obtain ⟨t201, A80, H⟩ := H
  replace H : (some t201) = some r := H
  have A8 := Zm A80
  clear A80
  obtain rfl := Option.some.inj H
  go_enter Try.func60, Try.ntmps60
  go_wp2_with (first | ((with_reducible refine gate_dst (N := 2) rfl ?_); refine box_event ?hg (N := 2) ?hd (cs := #[.int .i64 a0_0, .int .i64 a0_1, .int .i64 a0_2, .slice A0_3 l0_3.length c0_3, .slice A0_4 l0_4.length c0_4]) (t := 110) ?hr ?_; (case hd => rfl); (case hg => rfl); (case hr => first | (go_simp; done) | (go_simp; rfl)); intro gb198 hg w9 hbox hb; have n0_ := Zm (Zbt (by repeat (first | (with_reducible first | exact HB.out | apply Zba | apply Zbn | apply Zbd) | exact HB.out)) hb); have n1_ := Zm (hbox); have n2_ := Zm ((by rw [hg]; exact (Zbz (by repeat (first | (with_reducible first | exact HB.out | apply Zba | apply Zbn | apply Zbd) | exact HB.out))) : w.heap.size ≤ gb198)); have n3_ := Zm ((by rw [hg]; exact (Zbz (by repeat (first | (with_reducible first | exact HB.out | apply Zba | apply Zbn | apply Zbd) | exact HB.out))) : w.heap.size ≤ gb198)); clear HB; have HB := n0_; have BK198 := n1_; have GW198 := n2_; have GE198 := n3_; clear n0_ n1_ n2_ n3_; clear hb hbox hg) | ((with_reducible refine gate_dst (N := 3) rfl ?_); refine box_event ?hg (N := 3) ?hd (cs := #[.int .i64 a1_0, .int .i64 a1_1, .int .i64 a1_2, .slice A1_3 l1_3.length c1_3, .slice A1_4 l1_4.length c1_4]) (t := 110) ?hr ?_; (case hd => rfl); (case hg => rfl); (case hr => first | (go_simp; done) | (go_simp; rfl)); intro gb199 hg w10 hbox hb; have n0_ := Zm (Zkb (g := gb198) (o := .cells #[.int .i64 a0_0, .int .i64 a0_1, .int .i64 a0_2, .slice A0_3 l0_3.length c0_3, .slice A0_4 l0_4.length c0_4] 110 (0, 0)) (by (with_reducible repeat (first | refine Zkn ?_ _ | refine Zkd ?_ | refine Zka ?_ _)); exact BK198.out) hb); have n1_ := Zm (Zbt (by repeat (first | (with_reducible first | exact HB.out | apply Zba | apply Zbn | apply Zbd | refine Zbs ?_ GE198.out) | exact HB.out)) hb); have n2_ := Zm (hbox); have n3_ := Zm ((by rw [hg]; exact (Zbz (by repeat (first | (with_reducible first | exact HB.out | apply Zba | apply Zbn | apply Zbd | refine Zbs ?_ GE198.out) | exact HB.out))) : w.heap.size ≤ gb199)); have n4_ := Zm ((by rw [hg]; exact (Zbz (by repeat (first | (with_reducible first | exact HB.out | apply Zba | apply Zbn | apply Zbd | refine Zbs ?_ GE198.out) | exact HB.out))) : w.heap.size ≤ gb199)); have n5_ := Zm ((by rw [hg]; exact Nat.ne_of_lt (blk_lt (g := gb198) (o := .cells #[.int .i64 a0_0, .int .i64 a0_1, .int .i64 a0_2, .slice A0_3 l0_3.length c0_3, .slice A0_4 l0_4.length c0_4] 110 (0, 0)) (by (with_reducible repeat (first | refine Zkn ?_ _ | refine Zkd ?_ | refine Zka ?_ _)); exact BK198.out)) : gb198 ≠ gb199)); have n6_ := Zm ((by rw [hg]; exact Nat.ne_of_gt (blk_lt (g := gb198) (o := .cells #[.int .i64 a0_0, .int .i64 a0_1, .int .i64 a0_2, .slice A0_3 l0_3.length c0_3, .slice A0_4 l0_4.length c0_4] 110 (0, 0)) (by (with_reducible repeat (first | refine Zkn ?_ _ | refine Zkd ?_ | refine Zka ?_ _)); exact BK198.out)) : gb199 ≠ gb198)); clear BK198; clear HB; have BK198 := n0_; have HB := n1_; have BK199 := n2_; have GW199 := n3_; have GE199 := n4_; have NB198_199 := n5_; have NB199_198 := n6_; clear n0_ n1_ n2_ n3_ n4_ n5_ n6_; clear hb hbox hg; have hnb11 := NB198_199.out; have hnc11 := NB199_198.out; have hcz12_0 : w10.cell? ⟨gb198, 0, none⟩ = some (.int .i64 a0_0) := (Zkc BK198.out 0).trans rfl; have hcz12_1 : w10.cell? ⟨gb198, 1, none⟩ = some (.int .i64 a0_1) := (Zkc BK198.out 1).trans rfl; have hcz12_2 : w10.cell? ⟨gb198, 2, none⟩ = some (.int .i64 a0_2) := (Zkc BK198.out 2).trans rfl; have hcz12_3 : w10.cell? ⟨gb198, 3, none⟩ = some (.slice A0_3 l0_3.length c0_3) := (Zkc BK198.out 3).trans rfl; have hcz12_4 : w10.cell? ⟨gb198, 4, none⟩ = some (.slice A0_4 l0_4.length c0_4) := (Zkc BK198.out 4).trans rfl; have hcz13_0 : w10.cell? ⟨gb199, 0, none⟩ = some (.int .i64 a1_0) := (Zkc BK199.out 0).trans rfl; have hcz13_1 : w10.cell? ⟨gb199, 1, none⟩ = some (.int .i64 a1_1) := (Zkc BK199.out 1).trans rfl; have hcz13_2 : w10.cell? ⟨gb199, 2, none⟩ = some (.int .i64 a1_2) := (Zkc BK199.out 2).trans rfl; have hcz13_3 : w10.cell? ⟨gb199, 3, none⟩ = some (.slice A1_3 l1_3.length c1_3) := (Zkc BK199.out 3).trans rfl; have hcz13_4 : w10.cell? ⟨gb199, 4, none⟩ = some (.slice A1_4 l1_4.length c1_4) := (Zkc BK199.out 4).trans rfl; have hfz13_4 := Zkf BK199.out 4) | (go_at_call 56; (first | (with_reducible refine (slices_Equal_int64_int64.calls k _ _ l0_3 _ _ l1_3 true _ ?side1 ?side2 ?side3 ?side4 A6.out).mono ?_) | (with_reducible refine (calls_of_args ?_ (slices_Equal_int64_int64.calls k _ _ l0_3 _ _ l1_3 true _ ?side1 ?side2 ?side3 ?side4 A6.out)).mono ?_; focus (simp [*]; done))); (case side1 => repeat (first | exact (Kd.C_below HR0_3.out HB.out) | (with_reducible refine Kd.C_alloc ?_ _) | (with_reducible refine Kd.C_drewN ?_ _) | (with_reducible refine Kd.C_drew ?_))); (case side2 => exact HC0_3.out); (case side3 => repeat (first | exact (Kd.C_below HR1_3.out HB.out) | (with_reducible refine Kd.C_alloc ?_ _) | (with_reducible refine Kd.C_drewN ?_ _) | (with_reducible refine Kd.C_drew ?_))); (case side4 => exact HC1_3.out); rintro e w' ⟨rfl, ⟨nd, rfl⟩⟩; (try clear BK198); (try clear BK199)) | (go_at_call 56; (first | (with_reducible refine (slices_Equal_int64_int64.calls k _ _ l0_4 _ _ l1_4 t201 _ ?side1 ?side2 ?side3 ?side4 A8.out).mono ?_) | (with_reducible refine (calls_of_args ?_ (slices_Equal_int64_int64.calls k _ _ l0_4 _ _ l1_4 t201 _ ?side1 ?side2 ?side3 ?side4 A8.out)).mono ?_; focus (simp [*]; done))); (case side1 => repeat (first | exact (Kd.C_below HR0_4.out (by repeat (first | (with_reducible first | exact HB.out | apply Zba | apply Zbn | apply Zbd) | exact HB.out))) | (with_reducible refine Kd.C_alloc ?_ _) | (with_reducible refine Kd.C_drewN ?_ _) | (with_reducible refine Kd.C_drew ?_))); (case side2 => exact HC0_4.out); (case side3 => repeat (first | exact (Kd.C_below HR1_4.out (by repeat (first | (with_reducible first | exact HB.out | apply Zba | apply Zbn | apply Zbd) | exact HB.out))) | (with_reducible refine Kd.C_alloc ?_ _) | (with_reducible refine Kd.C_drewN ?_ _) | (with_reducible refine Kd.C_drew ?_))); (case side4 => exact HC1_4.out); rintro e w' ⟨rfl, ⟨nd, rfl⟩⟩))
  go_ret
  exact ⟨by first | rfl | (simp [errW_none, errW_some] <;> rfl) | (simp [*, errW_none, errW_some] <;> rfl), by repeat (first | (with_reducible first | exact HB.out | apply Zba | apply Zbn | apply Zbd) | exact HB.out)⟩
/-! ### impl_BareAct: function 59 -/
def impl_BareAct.l0 : Nat → List (S110) → List (S110) → Int → Int → Option (Bool)
  | 0, _, _, _, _ => none
  | k + 1, x1, x15, x16, x17 => if x17 < x16 then (if 0 ≤ x17 then (if x17 < (x15.length : Int) then (if x17 < (x1.length : Int) then ((impl_BareSame_2.f k ((rd_T110 x15 x17).f0) ((rd_T110 x15 x17).f1) ((rd_T110 x15 x17).f2) ((rd_T110 x15 x17).f3) ((rd_T110 x15 x17).f4) ((rd_T110 x1 x17).f0) ((rd_T110 x1 x17).f1) ((rd_T110 x1 x17).f2) ((rd_T110 x1 x17).f3) ((rd_T110 x1 x17).f4)).bind fun t206 => (if t206 = true then (impl_BareAct.l0 k x1 x15 x16 (wrap64 (x17 + 1))) else (some false))) else (none)) else (none)) else (none)) else (some true)
def impl_BareAct.f (k : Nat) (l0 : List (S110)) (l1 : List (S110))  : Option (Bool) := if (l0.length : Int) = (l1.length : Int) then (impl_BareAct.l0 k l1 l0 (l0.length : Int) 0) else (some false)
theorem impl_BareAct.mono_l : ∀ k, (∀ y0 y1 y2 y3, LeO (impl_BareAct.l0 k y0 y1 y2 y3) (impl_BareAct.l0 (k + 1) y0 y1 y2 y3))
  | 0 => fun _ _ _ _ r h => by simp [impl_BareAct.l0] at h
  | k + 1 => by
    have ih0 := impl_BareAct.mono_l k
    · intro y0 y1 y2 y3
      unfold impl_BareAct.l0
      repeat' first
      | (with_reducible exact ih0 _ _ _ _)
      | (with_reducible exact impl_BareSame_2.mono _ _ _ _ _ _ _ _ _ _ _)
      | (with_reducible exact LeO.refl _)
      | (with_reducible exact LeO.none _)
      | (with_reducible refine LeO.ite ?_ ?_)
      | (with_reducible refine LeO.bind ?_ (fun _ => ?_))
      | exact ih0 _ _ _ _
      | exact impl_BareSame_2.mono _ _ _ _ _ _ _ _ _ _ _
      | exact LeO.none _
      | refine LeO.ite ?_ ?_
      | refine LeO.bind ?_ (fun _ => ?_)
theorem impl_BareAct.mono : ∀ a0 a1 k, LeO (impl_BareAct.f k a0 a1) (impl_BareAct.f (k + 1) a0 a1) := by
  intro a0 a1 k
  have ih0 := impl_BareAct.mono_l k
  unfold impl_BareAct.f
  repeat' first
      | (with_reducible exact ih0 _ _ _ _)
      | (with_reducible exact impl_BareSame_2.mono _ _ _ _ _ _ _ _ _ _ _)
      | (with_reducible exact LeO.refl _)
      | (with_reducible exact LeO.none _)
      | (with_reducible refine LeO.ite ?_ ?_)
      | (with_reducible refine LeO.bind ?_ (fun _ => ?_))
      | exact ih0 _ _ _ _
      | exact impl_BareSame_2.mono _ _ _ _ _ _ _ _ _ _ _
      | exact LeO.none _
      | refine LeO.ite ?_ ?_
      | refine LeO.bind ?_ (fun _ => ?_)
set_option maxHeartbeats 8000000 in
set_option maxRecDepth 100000 in
theorem impl_BareAct.calls (k : Nat) (A0 : Option Addr) (c0 : Nat) (l0 : List (S110)) (A1 : Option Addr) (c1 : Nat) (l1 : List (S110))  (r : Bool) (w : World) (hr0 : Kd.C k110 w A0 l0.length l0) (hc0 : l0.length ≤ c0) (hr1 : Kd.C k110 w A1 l1.length l1) (hc1 : l1.length ≤ c1) (h : impl_BareAct.f k l0 l1 = some r) :
    Calls Try.prog 59 #[.slice A0 l0.length c0, .slice A1 l1.length c1, .func (.func 60) #[] #[]] w fun e w' => e = .returned (.bool r) ∧ Below w.heap.size w w' := by
  have hu110 := Try.underlying110
  have HR0 := Zm hr0
  have HC0 := Zm hc0
  clear hr0 hc0
  have HR1 := Zm hr1
  have HC1 := Zm hc1
  clear hr1 hc1
  have HB := Zm (Below.refl w.heap.size w)
  have H : (if (l0.length : Int) = (l1.length : Int) then (impl_BareAct.l0 k l1 l0 (l0.length : Int) 0) else (some false)) = some r := h
  clear h
  by_cases c4 : (l0.length : Int) = (l1.length : Int)
  rotate_left
  · rw [if_neg c4] at H
    have c4b0 : ((l0.length : Int) == (l1.length : Int)) = false := beq_eq_false_iff_ne.mpr c4
    have c4b1 : ((l0.length : Int) != (l1.length : Int)) = true := bne_iff_ne.mpr c4
    have c4b2 : (l0.length == l1.length) = false := by first | simpa using c4 | (simp at c4 ⊢; omega)
    obtain rfl := Option.some.inj H
    go_enter Try.func59, Try.ntmps59
    go_wp2
    go_ret
    exact ⟨by first | rfl | (simp [errW_none, errW_some] <;> rfl) | (simp [*, errW_none, errW_some] <;> rfl), by repeat (first | (with_reducible first | exact HB.out | apply Zba | apply Zbn | apply Zbd) | exact HB.out)⟩

  rw [if_pos c4] at H
  have c4b0 : ((l0.length : Int) == (l1.length : Int)) = true := beq_iff_eq.mpr c4
  have c4b1 : ((l0.length : Int) != (l1.length : Int)) = false := bne_eq_false_iff_eq.mpr c4
  have c4b2 : (l0.length == l1.length) = true := by first | simpa using c4 | (simp at c4 ⊢; omega)
  clear c4
  have H' := Zm H
  clear H
  go_enter Try.func59, Try.ntmps59
  go_wp2
  go_loopg [17] k (fun kq v17 w' => ∃ (x17_1 : Int), v17 = .int .i64 x17_1 ∧ Aside0 (impl_BareAct.l0 kq l1 l0 (l0.length : Int) x17_1 = some r) ∧ Aside0 (kq ≤ k) ∧ Aside0 (Below w.heap.size w w'))
  case atStart => exact ⟨(0), (by first | rfl | (simp; done) | (simp [*]; done)), H', ⟨Nat.le_refl _⟩, ⟨by repeat (first | (with_reducible first | exact HB.out | apply Zba | apply Zbn | apply Zbd) | exact HB.out)⟩⟩
  case round =>
    clear H'
    (try clear c1); (try clear p2); (try clear c4); (try clear c4b0); (try clear c4b1); (try clear c4b2)
    obtain ⟨x17_1, rfl, HA, HK1, HB⟩ := hrel
    cases gk with
    | zero => exact absurd HA.out (by simp [impl_BareAct.l0])
    | succ k1 =>
      have H := HA.out
      clear HA
      simp only [impl_BareAct.l0] at H
      by_cases c5 : x17_1 < (l0.length : Int)
      rotate_left
      · rw [if_neg c5] at H
        have c5b0 : decide (x17_1 < (l0.length : Int)) = false := decide_eq_false c5
        clear c5
        obtain rfl := Option.some.inj H
        go_wp2
        go_ret
        exact ⟨by first | rfl | (simp [errW_none, errW_some] <;> rfl) | (simp [*, errW_none, errW_some] <;> rfl), by repeat (first | (with_reducible first | exact HB.out | apply Zba | apply Zbn | apply Zbd) | exact HB.out)⟩
      rw [if_pos c5] at H
      have c5b0 : decide (x17_1 < (l0.length : Int)) = true := decide_eq_true c5
      clear c5
      by_cases c6 : 0 ≤ x17_1
      rotate_left
      · rw [if_neg c6] at H
        exact absurd H (by simp)
      rw [if_pos c6] at H
      have c6b0 : decide (0 ≤ x17_1) = true := decide_eq_true c6
      clear c6
      by_cases c7 : x17_1 < (l0.length : Int)
      rotate_left
      · rw [if_neg c7] at H
        exact absurd H (by simp)
      rw [if_pos c7] at H
      have c7b0 : decide (x17_1 < (l0.length : Int)) = true := decide_eq_true c7
      clear c7
      by_cases c8 : x17_1 < (l1.length : Int)
      rotate_left
      · rw [if_neg c8] at H
        exact absurd H (by simp)
      rw [if_pos c8] at H
      have c8b0 : decide (x17_1 < (l1.length : Int)) = true := decide_eq_true c8
      clear c8
      replace H := Option.bind_eq_some_iff.mp H
      obtain ⟨t206, A90, H⟩ := H
      replace H : (if t206 = true then (impl_BareAct.l0 k1 l1 l0 (l0.length : Int) (wrap64 (x17_1 + 1))) else (some false)) = some r := H
      have A9 := Zm A90
      clear A90
      by_cases c10 : t206 = true
      rotate_left
      · replace c10 := Bool.eq_false_iff.mpr c10
        subst c10
        have H1 : (some false) = some r := by rw [if_neg (show ¬ (false = true) by decide)] at H; exact H
        clear H
        have H := H1
        clear H1
        obtain rfl := Option.some.inj H
        have p202 : 0 ≤ (x17_1 : Int) := of_decide_eq_true (by first | (with_reducible assumption) | assumption)
        have q202 : x17_1 < (l0.length : Int) := of_decide_eq_true (by first | (with_reducible assumption) | assumption)
        obtain ⟨ad202, A202_3, c202_3, A202_4, c202_4, e202, hx202_0, hx202_1, hx202_2, hx202_3, hx202_4, hl202_3, hi202_3, hl202_4, hi202_4⟩ := at_T110 HR0.out x17_1 p202 q202
        cases e202
        replace hx202_0 := (HB.out.cell (Zlt _ _ hx202_0)).trans hx202_0
        replace hx202_1 := (HB.out.cell (Zlt _ _ hx202_1)).trans hx202_1
        replace hx202_2 := (HB.out.cell (Zlt _ _ hx202_2)).trans hx202_2
        replace hx202_3 := (HB.out.cell (Zlt _ _ hx202_3)).trans hx202_3
        replace hx202_4 := (HB.out.cell (Zlt _ _ hx202_4)).trans hx202_4
        have HR202_3 := Zm hi202_3
        have HC202_3 := Zm hl202_3
        clear hi202_3 hl202_3
        have HR202_4 := Zm hi202_4
        have HC202_4 := Zm hl202_4
        clear hi202_4 hl202_4
        replace p202 := eq_true p202
        replace q202 := eq_true q202
        go_wp2_with (first | ((with_reducible refine gate_dst (N := 8) rfl ?_); refine box_event ?hg (N := 8) ?hd (cs := #[.int .i64 0, .int .i64 0, .int .i64 0, .slice none 0 0, .slice none 0 0]) (t := 110) ?hr ?_; (case hd => rfl); (case hg => rfl); (case hr => first | (go_simp; done) | (go_simp; rfl)); intro gb203 hg w18 hbox hb; have n0_ := Zm (Zbt (by repeat (first | (with_reducible first | exact HB.out | apply Zba | apply Zbn | apply Zbd) | exact HB.out)) hb); have n1_ := Zm (hbox); have n2_ := Zm ((by rw [hg]; exact (Zbz (by repeat (first | (with_reducible first | exact HB.out | apply Zba | apply Zbn | apply Zbd) | exact HB.out))) : w.heap.size ≤ gb203)); have n3_ := Zm ((by rw [hg]; exact (Zbz (by repeat (first | (with_reducible first | exact HB.out | apply Zba | apply Zbn | apply Zbd) | exact HB.out))) : w.heap.size ≤ gb203)); clear HB; have HB := n0_; have BK203 := n1_; have GW203 := n2_; have GE203 := n3_; clear n0_ n1_ n2_ n3_; clear hb hbox hg; have hcz19_0 : w18.cell? ⟨gb203, 0, none⟩ = some (.int .i64 0) := (Zkc BK203.out 0).trans rfl; have hcz19_1 : w18.cell? ⟨gb203, 1, none⟩ = some (.int .i64 0) := (Zkc BK203.out 1).trans rfl; have hcz19_2 : w18.cell? ⟨gb203, 2, none⟩ = some (.int .i64 0) := (Zkc BK203.out 2).trans rfl; have hcz19_3 : w18.cell? ⟨gb203, 3, none⟩ = some (.slice none 0 0) := (Zkc BK203.out 3).trans rfl; have hcz19_4 : w18.cell? ⟨gb203, 4, none⟩ = some (.slice none 0 0) := (Zkc BK203.out 4).trans rfl; have hfz19_0 := Zkf BK203.out 0; have hfz19_1 := Zkf BK203.out 1; have hfz19_2 := Zkf BK203.out 2; have hfz19_3 := Zkf BK203.out 3; have hfz19_4 := Zkf BK203.out 4; have p204 : 0 ≤ (x17_1 : Int) := of_decide_eq_true (by first | (with_reducible assumption) | assumption); have q204 : x17_1 < (l1.length : Int) := of_decide_eq_true (by first | (with_reducible assumption) | assumption); obtain ⟨ad204, A204_3, c204_3, A204_4, c204_4, e204, hx204_0, hx204_1, hx204_2, hx204_3, hx204_4, hl204_3, hi204_3, hl204_4, hi204_4⟩ := at_T110 HR1.out x17_1 p204 q204; cases e204; have hn204_0 : ad204.block ≠ gb203 := Nat.ne_of_lt (Nat.lt_of_lt_of_le (by have := Zlt _ _ hx204_0; first | rwa [Zab] at this | exact this) GW203.out); have hn204_1 : ad204.block ≠ gb203 := Nat.ne_of_lt (Nat.lt_of_lt_of_le (by have := Zlt _ _ hx204_0; first | rwa [Zab] at this | exact this) GW203.out); have hn204_2 : ad204.block ≠ gb203 := Nat.ne_of_lt (Nat.lt_of_lt_of_le (by have := Zlt _ _ hx204_0; first | rwa [Zab] at this | exact this) GW203.out); have hn204_3 : ad204.block ≠ gb203 := Nat.ne_of_lt (Nat.lt_of_lt_of_le (by have := Zlt _ _ hx204_0; first | rwa [Zab] at this | exact this) GW203.out); have hn204_4 : ad204.block ≠ gb203 := Nat.ne_of_lt (Nat.lt_of_lt_of_le (by have := Zlt _ _ hx204_0; first | rwa [Zab] at this | exact this) GW203.out); replace hx204_0 := (HB.out.cell (Zlt _ _ hx204_0)).trans hx204_0; replace hx204_1 := (HB.out.cell (Zlt _ _ hx204_1)).trans hx204_1; replace hx204_2 := (HB.out.cell (Zlt _ _ hx204_2)).trans hx204_2; replace hx204_3 := (HB.out.cell (Zlt _ _ hx204_3)).trans hx204_3; replace hx204_4 := (HB.out.cell (Zlt _ _ hx204_4)).trans hx204_4; have HR204_3 := Zm hi204_3; have HC204_3 := Zm hl204_3; clear hi204_3 hl204_3; have HR204_4 := Zm hi204_4; have HC204_4 := Zm hl204_4; clear hi204_4 hl204_4; replace hx204_0 := (cell_far (p := ⟨gb203, 0, none⟩) (by first | (rw [Zab]; exact hn204_0) | (show (Addr.add _ _).block ≠ _; rw [Zab]; exact hn204_0) | exact hn204_0) (.int .i64 ((rd_T110 l0 x17_1).f0))).trans hx204_0; replace hx204_1 := (cell_far (p := ⟨gb203, 0, none⟩) (by first | (rw [Zab]; exact hn204_0) | (show (Addr.add _ _).block ≠ _; rw [Zab]; exact hn204_0) | exact hn204_0) (.int .i64 ((rd_T110 l0 x17_1).f0))).trans hx204_1; replace hx204_2 := (cell_far (p := ⟨gb203, 0, none⟩) (by first | (rw [Zab]; exact hn204_0) | (show (Addr.add _ _).block ≠ _; rw [Zab]; exact hn204_0) | exact hn204_0) (.int .i64 ((rd_T110 l0 x17_1).f0))).trans hx204_2; replace hx204_3 := (cell_far (p := ⟨gb203, 0, none⟩) (by first | (rw [Zab]; exact hn204_0) | (show (Addr.add _ _).block ≠ _; rw [Zab]; exact hn204_0) | exact hn204_0) (.int .i64 ((rd_T110 l0 x17_1).f0))).trans hx204_3; replace hx204_4 := (cell_far (p := ⟨gb203, 0, none⟩) (by first | (rw [Zab]; exact hn204_0) | (show (Addr.add _ _).block ≠ _; rw [Zab]; exact hn204_0) | exact hn204_0) (.int .i64 ((rd_T110 l0 x17_1).f0))).trans hx204_4; replace hx204_0 := (cell_far (p := ⟨gb203, 1, none⟩) (by first | (rw [Zab]; exact hn204_1) | (show (Addr.add _ _).block ≠ _; rw [Zab]; exact hn204_1) | exact hn204_1) (.int .i64 ((rd_T110 l0 x17_1).f1))).trans hx204_0; replace hx204_1 := (cell_far (p := ⟨gb203, 1, none⟩) (by first | (rw [Zab]; exact hn204_1) | (show (Addr.add _ _).block ≠ _; rw [Zab]; exact hn204_1) | exact hn204_1) (.int .i64 ((rd_T110 l0 x17_1).f1))).trans hx204_1; replace hx204_2 := (cell_far (p := ⟨gb203, 1, none⟩) (by first | (rw [Zab]; exact hn204_1) | (show (Addr.add _ _).block ≠ _; rw [Zab]; exact hn204_1) | exact hn204_1) (.int .i64 ((rd_T110 l0 x17_1).f1))).trans hx204_2; replace hx204_3 := (cell_far (p := ⟨gb203, 1, none⟩) (by first | (rw [Zab]; exact hn204_1) | (show (Addr.add _ _).block ≠ _; rw [Zab]; exact hn204_1) | exact hn204_1) (.int .i64 ((rd_T110 l0 x17_1).f1))).trans hx204_3; replace hx204_4 := (cell_far (p := ⟨gb203, 1, none⟩) (by first | (rw [Zab]; exact hn204_1) | (show (Addr.add _ _).block ≠ _; rw [Zab]; exact hn204_1) | exact hn204_1) (.int .i64 ((rd_T110 l0 x17_1).f1))).trans hx204_4; replace hx204_0 := (cell_far (p := ⟨gb203, 2, none⟩) (by first | (rw [Zab]; exact hn204_2) | (show (Addr.add _ _).block ≠ _; rw [Zab]; exact hn204_2) | exact hn204_2) (.int .i64 ((rd_T110 l0 x17_1).f2))).trans hx204_0; replace hx204_1 := (cell_far (p := ⟨gb203, 2, none⟩) (by first | (rw [Zab]; exact hn204_2) | (show (Addr.add _ _).block ≠ _; rw [Zab]; exact hn204_2) | exact hn204_2) (.int .i64 ((rd_T110 l0 x17_1).f2))).trans hx204_1; replace hx204_2 := (cell_far (p := ⟨gb203, 2, none⟩) (by first | (rw [Zab]; exact hn204_2) | (show (Addr.add _ _).block ≠ _; rw [Zab]; exact hn204_2) | exact hn204_2) (.int .i64 ((rd_T110 l0 x17_1).f2))).trans hx204_2; replace hx204_3 := (cell_far (p := ⟨gb203, 2, none⟩) (by first | (rw [Zab]; exact hn204_2) | (show (Addr.add _ _).block ≠ _; rw [Zab]; exact hn204_2) | exact hn204_2) (.int .i64 ((rd_T110 l0 x17_1).f2))).trans hx204_3; replace hx204_4 := (cell_far (p := ⟨gb203, 2, none⟩) (by first | (rw [Zab]; exact hn204_2) | (show (Addr.add _ _).block ≠ _; rw [Zab]; exact hn204_2) | exact hn204_2) (.int .i64 ((rd_T110 l0 x17_1).f2))).trans hx204_4; replace hx204_0 := (cell_far (p := ⟨gb203, 3, none⟩) (by first | (rw [Zab]; exact hn204_3) | (show (Addr.add _ _).block ≠ _; rw [Zab]; exact hn204_3) | exact hn204_3) (.slice A202_3 ((rd_T110 l0 x17_1).f3).length c202_3)).trans hx204_0; replace hx204_1 := (cell_far (p := ⟨gb203, 3, none⟩) (by first | (rw [Zab]; exact hn204_3) | (show (Addr.add _ _).block ≠ _; rw [Zab]; exact hn204_3) | exact hn204_3) (.slice A202_3 ((rd_T110 l0 x17_1).f3).length c202_3)).trans hx204_1; replace hx204_2 := (cell_far (p := ⟨gb203, 3, none⟩) (by first | (rw [Zab]; exact hn204_3) | (show (Addr.add _ _).block ≠ _; rw [Zab]; exact hn204_3) | exact hn204_3) (.slice A202_3 ((rd_T110 l0 x17_1).f3).length c202_3)).trans hx204_2; replace hx204_3 := (cell_far (p := ⟨gb203, 3, none⟩) (by first | (rw [Zab]; exact hn204_3) | (show (Addr.add _ _).block ≠ _; rw [Zab]; exact hn204_3) | exact hn204_3) (.slice A202_3 ((rd_T110 l0 x17_1).f3).length c202_3)).trans hx204_3; replace hx204_4 := (cell_far (p := ⟨gb203, 3, none⟩) (by first | (rw [Zab]; exact hn204_3) | (show (Addr.add _ _).block ≠ _; rw [Zab]; exact hn204_3) | exact hn204_3) (.slice A202_3 ((rd_T110 l0 x17_1).f3).length c202_3)).trans hx204_4; replace hx204_0 := (cell_far (p := ⟨gb203, 4, none⟩) (by first | (rw [Zab]; exact hn204_4) | (show (Addr.add _ _).block ≠ _; rw [Zab]; exact hn204_4) | exact hn204_4) (.slice A202_4 ((rd_T110 l0 x17_1).f4).length c202_4)).trans hx204_0; replace hx204_1 := (cell_far (p := ⟨gb203, 4, none⟩) (by first | (rw [Zab]; exact hn204_4) | (show (Addr.add _ _).block ≠ _; rw [Zab]; exact hn204_4) | exact hn204_4) (.slice A202_4 ((rd_T110 l0 x17_1).f4).length c202_4)).trans hx204_1; replace hx204_2 := (cell_far (p := ⟨gb203, 4, none⟩) (by first | (rw [Zab]; exact hn204_4) | (show (Addr.add _ _).block ≠ _; rw [Zab]; exact hn204_4) | exact hn204_4) (.slice A202_4 ((rd_T110 l0 x17_1).f4).length c202_4)).trans hx204_2; replace hx204_3 := (cell_far (p := ⟨gb203, 4, none⟩) (by first | (rw [Zab]; exact hn204_4) | (show (Addr.add _ _).block ≠ _; rw [Zab]; exact hn204_4) | exact hn204_4) (.slice A202_4 ((rd_T110 l0 x17_1).f4).length c202_4)).trans hx204_3; replace hx204_4 := (cell_far (p := ⟨gb203, 4, none⟩) (by first | (rw [Zab]; exact hn204_4) | (show (Addr.add _ _).block ≠ _; rw [Zab]; exact hn204_4) | exact hn204_4) (.slice A202_4 ((rd_T110 l0 x17_1).f4).length c202_4)).trans hx204_4; clear hn204_0; clear hn204_1; clear hn204_2; clear hn204_3; clear hn204_4; replace p204 := eq_true p204; replace q204 := eq_true q204) | ((with_reducible refine gate_dst (N := 9) rfl ?_); refine box_event ?hg (N := 9) ?hd (cs := #[.int .i64 0, .int .i64 0, .int .i64 0, .slice none 0 0, .slice none 0 0]) (t := 110) ?hr ?_; (case hd => rfl); (case hg => rfl); (case hr => first | (go_simp; done) | (go_simp; rfl)); intro gb205 hg w20 hbox hb; have n0_ := Zm (Zkb (g := gb203) (o := .cells #[.int .i64 ((rd_T110 l0 x17_1).f0), .int .i64 ((rd_T110 l0 x17_1).f1), .int .i64 ((rd_T110 l0 x17_1).f2), .slice A202_3 ((rd_T110 l0 x17_1).f3).length c202_3, .slice A202_4 ((rd_T110 l0 x17_1).f4).length c202_4] 110 (0, 0)) (by (with_reducible repeat (first | refine Zkn ?_ _ | refine Zkd ?_ | refine Zka ?_ _)); refine Zkp (cs := #[.int .i64 ((rd_T110 l0 x17_1).f0), .int .i64 ((rd_T110 l0 x17_1).f1), .int .i64 ((rd_T110 l0 x17_1).f2), .slice A202_3 ((rd_T110 l0 x17_1).f3).length c202_3, .slice none 0 0]) ?_ 4 _ rfl; (with_reducible repeat (first | refine Zkn ?_ _ | refine Zkd ?_ | refine Zka ?_ _)); refine Zkp (cs := #[.int .i64 ((rd_T110 l0 x17_1).f0), .int .i64 ((rd_T110 l0 x17_1).f1), .int .i64 ((rd_T110 l0 x17_1).f2), .slice none 0 0, .slice none 0 0]) ?_ 3 _ rfl; (with_reducible repeat (first | refine Zkn ?_ _ | refine Zkd ?_ | refine Zka ?_ _)); refine Zkp (cs := #[.int .i64 ((rd_T110 l0 x17_1).f0), .int .i64 ((rd_T110 l0 x17_1).f1), .int .i64 0, .slice none 0 0, .slice none 0 0]) ?_ 2 _ rfl; (with_reducible repeat (first | refine Zkn ?_ _ | refine Zkd ?_ | refine Zka ?_ _)); refine Zkp (cs := #[.int .i64 ((rd_T110 l0 x17_1).f0), .int .i64 0, .int .i64 0, .slice none 0 0, .slice none 0 0]) ?_ 1 _ rfl; (with_reducible repeat (first | refine Zkn ?_ _ | refine Zkd ?_ | refine Zka ?_ _)); refine Zkp (cs := #[.int .i64 0, .int .i64 0, .int .i64 0, .slice none 0 0, .slice none 0 0]) ?_ 0 _ rfl; (with_reducible repeat (first | refine Zkn ?_ _ | refine Zkd ?_ | refine Zka ?_ _)); exact BK203.out) hb); have n1_ := Zm (Zbt (by repeat (first | (with_reducible first | exact HB.out | apply Zba | apply Zbn | apply Zbd | refine Zbs ?_ GE203.out) | exact HB.out)) hb); have n2_ := Zm (hbox); have n3_ := Zm ((by rw [hg]; exact (Zbz (by repeat (first | (with_reducible first | exact HB.out | apply Zba | apply Zbn | apply Zbd | refine Zbs ?_ GE203.out) | exact HB.out))) : w.heap.size ≤ gb205)); have n4_ := Zm ((by rw [hg]; exact (Zbz (by repeat (first | (with_reducible first | exact HB.out | apply Zba | apply Zbn | apply Zbd | refine Zbs ?_ GE203.out) | exact HB.out))) : w.heap.size ≤ gb205)); have n5_ := Zm ((by rw [hg]; exact Nat.ne_of_lt (blk_lt (g := gb203) (o := .cells #[.int .i64 ((rd_T110 l0 x17_1).f0), .int .i64 ((rd_T110 l0 x17_1).f1), .int .i64 ((rd_T110 l0 x17_1).f2), .slice A202_3 ((rd_T110 l0 x17_1).f3).length c202_3, .slice A202_4 ((rd_T110 l0 x17_1).f4).length c202_4] 110 (0, 0)) (by (with_reducible repeat (first | refine Zkn ?_ _ | refine Zkd ?_ | refine Zka ?_ _)); refine Zkp (cs := #[.int .i64 ((rd_T110 l0 x17_1).f0), .int .i64 ((rd_T110 l0 x17_1).f1), .int .i64 ((rd_T110 l0 x17_1).f2), .slice A202_3 ((rd_T110 l0 x17_1).f3).length c202_3, .slice none 0 0]) ?_ 4 _ rfl; (with_reducible repeat (first | refine Zkn ?_ _ | refine Zkd ?_ | refine Zka ?_ _)); refine Zkp (cs := #[.int .i64 ((rd_T110 l0 x17_1).f0), .int .i64 ((rd_T110 l0 x17_1).f1), .int .i64 ((rd_T110 l0 x17_1).f2), .slice none 0 0, .slice none 0 0]) ?_ 3 _ rfl; (with_reducible repeat (first | refine Zkn ?_ _ | refine Zkd ?_ | refine Zka ?_ _)); refine Zkp (cs := #[.int .i64 ((rd_T110 l0 x17_1).f0), .int .i64 ((rd_T110 l0 x17_1).f1), .int .i64 0, .slice none 0 0, .slice none 0 0]) ?_ 2 _ rfl; (with_reducible repeat (first | refine Zkn ?_ _ | refine Zkd ?_ | refine Zka ?_ _)); refine Zkp (cs := #[.int .i64 ((rd_T110 l0 x17_1).f0), .int .i64 0, .int .i64 0, .slice none 0 0, .slice none 0 0]) ?_ 1 _ rfl; (with_reducible repeat (first | refine Zkn ?_ _ | refine Zkd ?_ | refine Zka ?_ _)); refine Zkp (cs := #[.int .i64 0, .int .i64 0, .int .i64 0, .slice none 0 0, .slice none 0 0]) ?_ 0 _ rfl; (with_reducible repeat (first | refine Zkn ?_ _ | refine Zkd ?_ | refine Zka ?_ _)); exact BK203.out)) : gb203 ≠ gb205)); have n6_ := Zm ((by rw [hg]; exact Nat.ne_of_gt (blk_lt (g := gb203) (o := .cells #[.int .i64 ((rd_T110 l0 x17_1).f0), .int .i64 ((rd_T110 l0 x17_1).f1), .int .i64 ((rd_T110 l0 x17_1).f2), .slice A202_3 ((rd_T110 l0 x17_1).f3).length c202_3, .slice A202_4 ((rd_T110 l0 x17_1).f4).length c202_4] 110 (0, 0)) (by (with_reducible repeat (first | refine Zkn ?_ _ | refine Zkd ?_ | refine Zka ?_ _)); refine Zkp (cs := #[.int .i64 ((rd_T110 l0 x17_1).f0), .int .i64 ((rd_T110 l0 x17_1).f1), .int .i64 ((rd_T110 l0 x17_1).f2), .slice A202_3 ((rd_T110 l0 x17_1).f3).length c202_3, .slice none 0 0]) ?_ 4 _ rfl; (with_reducible repeat (first | refine Zkn ?_ _ | refine Zkd ?_ | refine Zka ?_ _)); refine Zkp (cs := #[.int .i64 ((rd_T110 l0 x17_1).f0), .int .i64 ((rd_T110 l0 x17_1).f1), .int .i64 ((rd_T110 l0 x17_1).f2), .slice none 0 0, .slice none 0 0]) ?_ 3 _ rfl; (with_reducible repeat (first | refine Zkn ?_ _ | refine Zkd ?_ | refine Zka ?_ _)); refine Zkp (cs := #[.int .i64 ((rd_T110 l0 x17_1).f0), .int .i64 ((rd_T110 l0 x17_1).f1), .int .i64 0, .slice none 0 0, .slice none 0 0]) ?_ 2 _ rfl; (with_reducible repeat (first | refine Zkn ?_ _ | refine Zkd ?_ | refine Zka ?_ _)); refine Zkp (cs := #[.int .i64 ((rd_T110 l0 x17_1).f0), .int .i64 0, .int .i64 0, .slice none 0 0, .slice none 0 0]) ?_ 1 _ rfl; (with_reducible repeat (first | refine Zkn ?_ _ | refine Zkd ?_ | refine Zka ?_ _)); refine Zkp (cs := #[.int .i64 0, .int .i64 0, .int .i64 0, .slice none 0 0, .slice none 0 0]) ?_ 0 _ rfl; (with_reducible repeat (first | refine Zkn ?_ _ | refine Zkd ?_ | refine Zka ?_ _)); exact BK203.out)) : gb205 ≠ gb203)); clear BK203; clear HB; have BK203 := n0_; have HB := n1_; have BK205 := n2_; have GW205 := n3_; have GE205 := n4_; have NB203_205 := n5_; have NB205_203 := n6_; clear n0_ n1_ n2_ n3_ n4_ n5_ n6_; clear hb hbox hg; have hnb21 := NB205_203.out; have hnc21 := NB203_205.out; have hcz22_0 : w20.cell? ⟨gb205, 0, none⟩ = some (.int .i64 0) := (Zkc BK205.out 0).trans rfl; have hcz22_1 : w20.cell? ⟨gb205, 1, none⟩ = some (.int .i64 0) := (Zkc BK205.out 1).trans rfl; have hcz22_2 : w20.cell? ⟨gb205, 2, none⟩ = some (.int .i64 0) := (Zkc BK205.out 2).trans rfl; have hcz22_3 : w20.cell? ⟨gb205, 3, none⟩ = some (.slice none 0 0) := (Zkc BK205.out 3).trans rfl; have hcz22_4 : w20.cell? ⟨gb205, 4, none⟩ = some (.slice none 0 0) := (Zkc BK205.out 4).trans rfl; have hfz22_0 := Zkf BK205.out 0; have hfz22_1 := Zkf BK205.out 1; have hfz22_2 := Zkf BK205.out 2; have hfz22_3 := Zkf BK205.out 3; have hfz22_4 := Zkf BK205.out 4; have hcz23_0 : w20.cell? ⟨gb203, 0, none⟩ = some (.int .i64 ((rd_T110 l0 x17_1).f0)) := (Zkc BK203.out 0).trans rfl; have hcz23_1 : w20.cell? ⟨gb203, 1, none⟩ = some (.int .i64 ((rd_T110 l0 x17_1).f1)) := (Zkc BK203.out 1).trans rfl; have hcz23_2 : w20.cell? ⟨gb203, 2, none⟩ = some (.int .i64 ((rd_T110 l0 x17_1).f2)) := (Zkc BK203.out 2).trans rfl; have hcz23_3 : w20.cell? ⟨gb203, 3, none⟩ = some (.slice A202_3 ((rd_T110 l0 x17_1).f3).length c202_3) := (Zkc BK203.out 3).trans rfl; have hcz23_4 : w20.cell? ⟨gb203, 4, none⟩ = some (.slice A202_4 ((rd_T110 l0 x17_1).f4).length c202_4) := (Zkc BK203.out 4).trans rfl; have hfz23_0 := Zkf BK203.out 0; have hfz23_1 := Zkf BK203.out 1; have hfz23_2 := Zkf BK203.out 2; have hfz23_3 := Zkf BK203.out 3; have hfz23_4 := Zkf BK203.out 4) | (go_at_call 60; (first | (with_reducible refine (impl_BareSame_2.calls k1 ((rd_T110 l0 x17_1).f0) ((rd_T110 l0 x17_1).f1) ((rd_T110 l0 x17_1).f2) _ _ ((rd_T110 l0 x17_1).f3) _ _ ((rd_T110 l0 x17_1).f4) ((rd_T110 l1 x17_1).f0) ((rd_T110 l1 x17_1).f1) ((rd_T110 l1 x17_1).f2) _ _ ((rd_T110 l1 x17_1).f3) _ _ ((rd_T110 l1 x17_1).f4) false _ ?side1 ?side2 ?side3 ?side4 ?side5 ?side6 ?side7 ?side8 A9.out).mono ?_) | (with_reducible refine (calls_of_args ?_ (impl_BareSame_2.calls k1 ((rd_T110 l0 x17_1).f0) ((rd_T110 l0 x17_1).f1) ((rd_T110 l0 x17_1).f2) _ _ ((rd_T110 l0 x17_1).f3) _ _ ((rd_T110 l0 x17_1).f4) ((rd_T110 l1 x17_1).f0) ((rd_T110 l1 x17_1).f1) ((rd_T110 l1 x17_1).f2) _ _ ((rd_T110 l1 x17_1).f3) _ _ ((rd_T110 l1 x17_1).f4) false _ ?side1 ?side2 ?side3 ?side4 ?side5 ?side6 ?side7 ?side8 A9.out)).mono ?_; focus (simp [*]; done))); (case side1 => exact Kd.C_below HR202_3.out (by repeat (first | (with_reducible first | exact HB.out | apply Zba | apply Zbn | apply Zbd | refine Zbs ?_ GE203.out | refine Zbs ?_ GE205.out) | exact HB.out))); (case side2 => exact HC202_3.out); (case side3 => exact Kd.C_below HR202_4.out (by repeat (first | (with_reducible first | exact HB.out | apply Zba | apply Zbn | apply Zbd | refine Zbs ?_ GE203.out | refine Zbs ?_ GE205.out) | exact HB.out))); (case side4 => exact HC202_4.out); (case side5 => exact Kd.C_below HR204_3.out (by repeat (first | (with_reducible first | exact HB.out | apply Zba | apply Zbn | apply Zbd | refine Zbs ?_ GE203.out | refine Zbs ?_ GE205.out) | exact HB.out))); (case side6 => exact HC204_3.out); (case side7 => exact Kd.C_below HR204_4.out (by repeat (first | (with_reducible first | exact HB.out | apply Zba | apply Zbn | apply Zbd | refine Zbs ?_ GE203.out | refine Zbs ?_ GE205.out) | exact HB.out))); (case side8 => exact HC204_4.out); rintro e w24 ⟨rfl, hb⟩; have n0_ := Zm (Zkb (g := gb203) (o := .cells #[.int .i64 ((rd_T110 l0 x17_1).f0), .int .i64 ((rd_T110 l0 x17_1).f1), .int .i64 ((rd_T110 l0 x17_1).f2), .slice A202_3 ((rd_T110 l0 x17_1).f3).length c202_3, .slice A202_4 ((rd_T110 l0 x17_1).f4).length c202_4] 110 (0, 0)) (by (with_reducible repeat (first | refine Zkn ?_ _ | refine Zkd ?_ | refine Zka ?_ _)); refine Zkr ?_ NB203_205.out _; (with_reducible repeat (first | refine Zkn ?_ _ | refine Zkd ?_ | refine Zka ?_ _)); refine Zkr ?_ NB203_205.out _; (with_reducible repeat (first | refine Zkn ?_ _ | refine Zkd ?_ | refine Zka ?_ _)); refine Zkr ?_ NB203_205.out _; (with_reducible repeat (first | refine Zkn ?_ _ | refine Zkd ?_ | refine Zka ?_ _)); refine Zkr ?_ NB203_205.out _; (with_reducible repeat (first | refine Zkn ?_ _ | refine Zkd ?_ | refine Zka ?_ _)); refine Zkr ?_ NB203_205.out _; (with_reducible repeat (first | refine Zkn ?_ _ | refine Zkd ?_ | refine Zka ?_ _)); exact BK203.out) hb); have n1_ := Zm (Zkb (g := gb205) (o := .cells #[.int .i64 ((rd_T110 l1 x17_1).f0), .int .i64 ((rd_T110 l1 x17_1).f1), .int .i64 ((rd_T110 l1 x17_1).f2), .slice A204_3 ((rd_T110 l1 x17_1).f3).length c204_3, .slice A204_4 ((rd_T110 l1 x17_1).f4).length c204_4] 110 (0, 0)) (by (with_reducible repeat (first | refine Zkn ?_ _ | refine Zkd ?_ | refine Zka ?_ _)); refine Zkp (cs := #[.int .i64 ((rd_T110 l1 x17_1).f0), .int .i64 ((rd_T110 l1 x17_1).f1), .int .i64 ((rd_T110 l1 x17_1).f2), .slice A204_3 ((rd_T110 l1 x17_1).f3).length c204_3, .slice none 0 0]) ?_ 4 _ rfl; (with_reducible repeat (first | refine Zkn ?_ _ | refine Zkd ?_ | refine Zka ?_ _)); refine Zkp (cs := #[.int .i64 ((rd_T110 l1 x17_1).f0), .int .i64 ((rd_T110 l1 x17_1).f1), .int .i64 ((rd_T110 l1 x17_1).f2), .slice none 0 0, .slice none 0 0]) ?_ 3 _ rfl; (with_reducible repeat (first | refine Zkn ?_ _ | refine Zkd ?_ | refine Zka ?_ _)); refine Zkp (cs := #[.int .i64 ((rd_T110 l1 x17_1).f0), .int .i64 ((rd_T110 l1 x17_1).f1), .int .i64 0, .slice none 0 0, .slice none 0 0]) ?_ 2 _ rfl; (with_reducible repeat (first | refine Zkn ?_ _ | refine Zkd ?_ | refine Zka ?_ _)); refine Zkp (cs := #[.int .i64 ((rd_T110 l1 x17_1).f0), .int .i64 0, .int .i64 0, .slice none 0 0, .slice none 0 0]) ?_ 1 _ rfl; (with_reducible repeat (first | refine Zkn ?_ _ | refine Zkd ?_ | refine Zka ?_ _)); refine Zkp (cs := #[.int .i64 0, .int .i64 0, .int .i64 0, .slice none 0 0, .slice none 0 0]) ?_ 0 _ rfl; (with_reducible repeat (first | refine Zkn ?_ _ | refine Zkd ?_ | refine Zka ?_ _)); exact BK205.out) hb); have n2_ := Zm (Zbt (by repeat (first | (with_reducible first | exact HB.out | apply Zba | apply Zbn | apply Zbd | refine Zbs ?_ GE203.out | refine Zbs ?_ GE205.out) | exact HB.out)) hb); clear BK203; clear BK205; clear HB; have BK203 := n0_; have BK205 := n1_; have HB := n2_; clear n0_ n1_ n2_; (try clear hb); (try clear hb2); (try clear hk); (try clear hi)))
        go_ret
        exact ⟨by first | rfl | (simp [errW_none, errW_some] <;> rfl) | (simp [*, errW_none, errW_some] <;> rfl), by repeat (first | (with_reducible first | exact HB.out | apply Zba | apply Zbn | apply Zbd | refine Zbs ?_ GE203.out | refine Zbs ?_ GE205.out) | exact HB.out)⟩
      subst c10
      have H1 : (impl_BareAct.l0 k1 l1 l0 (l0.length : Int) (wrap64 (x17_1 + 1))) = some r := by rw [if_pos rfl] at H; exact H
      clear H
      have H := H1
      clear H1
      have H' := Zm H
      clear H
      have p202 : 0 ≤ (x17_1 : Int) := of_decide_eq_true (by first | (with_reducible assumption) | assumption)
      have q202 : x17_1 < (l0.length : Int) := of_decide_eq_true (by first | (with_reducible assumption) | assumption)
      obtain ⟨ad202, A202_3, c202_3, A202_4, c202_4, e202, hx202_0, hx202_1, hx202_2, hx202_3, hx202_4, hl202_3, hi202_3, hl202_4, hi202_4⟩ := at_T110 HR0.out x17_1 p202 q202
      cases e202
      replace hx202_0 := (HB.out.cell (Zlt _ _ hx202_0)).trans hx202_0
      replace hx202_1 := (HB.out.cell (Zlt _ _ hx202_1)).trans hx202_1
      replace hx202_2 := (HB.out.cell (Zlt _ _ hx202_2)).trans hx202_2
      replace hx202_3 := (HB.out.cell (Zlt _ _ hx202_3)).trans hx202_3
      replace hx202_4 := (HB.out.cell (Zlt _ _ hx202_4)).trans hx202_4
      have HR202_3 := Zm hi202_3
      have HC202_3 := Zm hl202_3
      clear hi202_3 hl202_3
      have HR202_4 := Zm hi202_4
      have HC202_4 := Zm hl202_4
      clear hi202_4 hl202_4
      replace p202 := eq_true p202
      replace q202 := eq_true q202
      go_wp2_with (first | ((with_reducible refine gate_dst (N := 8) rfl ?_); refine box_event ?hg (N := 8) ?hd (cs := #[.int .i64 0, .int .i64 0, .int .i64 0, .slice none 0 0, .slice none 0 0]) (t := 110) ?hr ?_; (case hd => rfl); (case hg => rfl); (case hr => first | (go_simp; done) | (go_simp; rfl)); intro gb203 hg w11 hbox hb; have n0_ := Zm (Zbt (by repeat (first | (with_reducible first | exact HB.out | apply Zba | apply Zbn | apply Zbd) | exact HB.out)) hb); have n1_ := Zm (hbox); have n2_ := Zm ((by rw [hg]; exact (Zbz (by repeat (first | (with_reducible first | exact HB.out | apply Zba | apply Zbn | apply Zbd) | exact HB.out))) : w.heap.size ≤ gb203)); have n3_ := Zm ((by rw [hg]; exact (Zbz (by repeat (first | (with_reducible first | exact HB.out | apply Zba | apply Zbn | apply Zbd) | exact HB.out))) : w.heap.size ≤ gb203)); clear HB; have HB := n0_; have BK203 := n1_; have GW203 := n2_; have GE203 := n3_; clear n0_ n1_ n2_ n3_; clear hb hbox hg; have hcz12_0 : w11.cell? ⟨gb203, 0, none⟩ = some (.int .i64 0) := (Zkc BK203.out 0).trans rfl; have hcz12_1 : w11.cell? ⟨gb203, 1, none⟩ = some (.int .i64 0) := (Zkc BK203.out 1).trans rfl; have hcz12_2 : w11.cell? ⟨gb203, 2, none⟩ = some (.int .i64 0) := (Zkc BK203.out 2).trans rfl; have hcz12_3 : w11.cell? ⟨gb203, 3, none⟩ = some (.slice none 0 0) := (Zkc BK203.out 3).trans rfl; have hcz12_4 : w11.cell? ⟨gb203, 4, none⟩ = some (.slice none 0 0) := (Zkc BK203.out 4).trans rfl; have hfz12_0 := Zkf BK203.out 0; have hfz12_1 := Zkf BK203.out 1; have hfz12_2 := Zkf BK203.out 2; have hfz12_3 := Zkf BK203.out 3; have hfz12_4 := Zkf BK203.out 4; have p204 : 0 ≤ (x17_1 : Int) := of_decide_eq_true (by first | (with_reducible assumption) | assumption); have q204 : x17_1 < (l1.length : Int) := of_decide_eq_true (by first | (with_reducible assumption) | assumption); obtain ⟨ad204, A204_3, c204_3, A204_4, c204_4, e204, hx204_0, hx204_1, hx204_2, hx204_3, hx204_4, hl204_3, hi204_3, hl204_4, hi204_4⟩ := at_T110 HR1.out x17_1 p204 q204; cases e204; have hn204_0 : ad204.block ≠ gb203 := Nat.ne_of_lt (Nat.lt_of_lt_of_le (by have := Zlt _ _ hx204_0; first | rwa [Zab] at this | exact this) GW203.out); have hn204_1 : ad204.block ≠ gb203 := Nat.ne_of_lt (Nat.lt_of_lt_of_le (by have := Zlt _ _ hx204_0; first | rwa [Zab] at this | exact this) GW203.out); have hn204_2 : ad204.block ≠ gb203 := Nat.ne_of_lt (Nat.lt_of_lt_of_le (by have := Zlt _ _ hx204_0; first | rwa [Zab] at this | exact this) GW203.out); have hn204_3 : ad204.block ≠ gb203 := Nat.ne_of_lt (Nat.lt_of_lt_of_le (by have := Zlt _ _ hx204_0; first | rwa [Zab] at this | exact this) GW203.out); have hn204_4 : ad204.block ≠ gb203 := Nat.ne_of_lt (Nat.lt_of_lt_of_le (by have := Zlt _ _ hx204_0; first | rwa [Zab] at this | exact this) GW203.out); replace hx204_0 := (HB.out.cell (Zlt _ _ hx204_0)).trans hx204_0; replace hx204_1 := (HB.out.cell (Zlt _ _ hx204_1)).trans hx204_1; replace hx204_2 := (HB.out.cell (Zlt _ _ hx204_2)).trans hx204_2; replace hx204_3 := (HB.out.cell (Zlt _ _ hx204_3)).trans hx204_3; replace hx204_4 := (HB.out.cell (Zlt _ _ hx204_4)).trans hx204_4; have HR204_3 := Zm hi204_3; have HC204_3 := Zm hl204_3; clear hi204_3 hl204_3; have HR204_4 := Zm hi204_4; have HC204_4 := Zm hl204_4; clear hi204_4 hl204_4; replace hx204_0 := (cell_far (p := ⟨gb203, 0, none⟩) (by first | (rw [Zab]; exact hn204_0) | (show (Addr.add _ _).block ≠ _; rw [Zab]; exact hn204_0) | exact hn204_0) (.int .i64 ((rd_T110 l0 x17_1).f0))).trans hx204_0; replace hx204_1 := (cell_far (p := ⟨gb203, 0, none⟩) (by first | (rw [Zab]; exact hn204_0) | (show (Addr.add _ _).block ≠ _; rw [Zab]; exact hn204_0) | exact hn204_0) (.int .i64 ((rd_T110 l0 x17_1).f0))).trans hx204_1; replace hx204_2 := (cell_far (p := ⟨gb203, 0, none⟩) (by first | (rw [Zab]; exact hn204_0) | (show (Addr.add _ _).block ≠ _; rw [Zab]; exact hn204_0) | exact hn204_0) (.int .i64 ((rd_T110 l0 x17_1).f0))).trans hx204_2; replace hx204_3 := (cell_far (p := ⟨gb203, 0, none⟩) (by first | (rw [Zab]; exact hn204_0) | (show (Addr.add _ _).block ≠ _; rw [Zab]; exact hn204_0) | exact hn204_0) (.int .i64 ((rd_T110 l0 x17_1).f0))).trans hx204_3; replace hx204_4 := (cell_far (p := ⟨gb203, 0, none⟩) (by first | (rw [Zab]; exact hn204_0) | (show (Addr.add _ _).block ≠ _; rw [Zab]; exact hn204_0) | exact hn204_0) (.int .i64 ((rd_T110 l0 x17_1).f0))).trans hx204_4; replace hx204_0 := (cell_far (p := ⟨gb203, 1, none⟩) (by first | (rw [Zab]; exact hn204_1) | (show (Addr.add _ _).block ≠ _; rw [Zab]; exact hn204_1) | exact hn204_1) (.int .i64 ((rd_T110 l0 x17_1).f1))).trans hx204_0; replace hx204_1 := (cell_far (p := ⟨gb203, 1, none⟩) (by first | (rw [Zab]; exact hn204_1) | (show (Addr.add _ _).block ≠ _; rw [Zab]; exact hn204_1) | exact hn204_1) (.int .i64 ((rd_T110 l0 x17_1).f1))).trans hx204_1; replace hx204_2 := (cell_far (p := ⟨gb203, 1, none⟩) (by first | (rw [Zab]; exact hn204_1) | (show (Addr.add _ _).block ≠ _; rw [Zab]; exact hn204_1) | exact hn204_1) (.int .i64 ((rd_T110 l0 x17_1).f1))).trans hx204_2; replace hx204_3 := (cell_far (p := ⟨gb203, 1, none⟩) (by first | (rw [Zab]; exact hn204_1) | (show (Addr.add _ _).block ≠ _; rw [Zab]; exact hn204_1) | exact hn204_1) (.int .i64 ((rd_T110 l0 x17_1).f1))).trans hx204_3; replace hx204_4 := (cell_far (p := ⟨gb203, 1, none⟩) (by first | (rw [Zab]; exact hn204_1) | (show (Addr.add _ _).block ≠ _; rw [Zab]; exact hn204_1) | exact hn204_1) (.int .i64 ((rd_T110 l0 x17_1).f1))).trans hx204_4; replace hx204_0 := (cell_far (p := ⟨gb203, 2, none⟩) (by first | (rw [Zab]; exact hn204_2) | (show (Addr.add _ _).block ≠ _; rw [Zab]; exact hn204_2) | exact hn204_2) (.int .i64 ((rd_T110 l0 x17_1).f2))).trans hx204_0; replace hx204_1 := (cell_far (p := ⟨gb203, 2, none⟩) (by first | (rw [Zab]; exact hn204_2) | (show (Addr.add _ _).block ≠ _; rw [Zab]; exact hn204_2) | exact hn204_2) (.int .i64 ((rd_T110 l0 x17_1).f2))).trans hx204_1; replace hx204_2 := (cell_far (p := ⟨gb203, 2, none⟩) (by first | (rw [Zab]; exact hn204_2) | (show (Addr.add _ _).block ≠ _; rw [Zab]; exact hn204_2) | exact hn204_2) (.int .i64 ((rd_T110 l0 x17_1).f2))).trans hx204_2; replace hx204_3 := (cell_far (p := ⟨gb203, 2, none⟩) (by first | (rw [Zab]; exact hn204_2) | (show (Addr.add _ _).block ≠ _; rw [Zab]; exact hn204_2) | exact hn204_2) (.int .i64 ((rd_T110 l0 x17_1).f2))).trans hx204_3; replace hx204_4 := (cell_far (p := ⟨gb203, 2, none⟩) (by first | (rw [Zab]; exact hn204_2) | (show (Addr.add _ _).block ≠ _; rw [Zab]; exact hn204_2) | exact hn204_2) (.int .i64 ((rd_T110 l0 x17_1).f2))).trans hx204_4; replace hx204_0 := (cell_far (p := ⟨gb203, 3, none⟩) (by first | (rw [Zab]; exact hn204_3) | (show (Addr.add _ _).block ≠ _; rw [Zab]; exact hn204_3) | exact hn204_3) (.slice A202_3 ((rd_T110 l0 x17_1).f3).length c202_3)).trans hx204_0; replace hx204_1 := (cell_far (p := ⟨gb203, 3, none⟩) (by first | (rw [Zab]; exact hn204_3) | (show (Addr.add _ _).block ≠ _; rw [Zab]; exact hn204_3) | exact hn204_3) (.slice A202_3 ((rd_T110 l0 x17_1).f3).length c202_3)).trans hx204_1; replace hx204_2 := (cell_far (p := ⟨gb203, 3, none⟩) (by first | (rw [Zab]; exact hn204_3) | (show (Addr.add _ _).block ≠ _; rw [Zab]; exact hn204_3) | exact hn204_3) (.slice A202_3 ((rd_T110 l0 x17_1).f3).length c202_3)).trans hx204_2; replace hx204_3 := (cell_far (p := ⟨gb203, 3, none⟩) (by first | (rw [Zab]; exact hn204_3) | (show (Addr.add _ _).block ≠ _; rw [Zab]; exact hn204_3) | exact hn204_3) (.slice A202_3 ((rd_T110 l0 x17_1).f3).length c202_3)).trans hx204_3; replace hx204_4 := (cell_far (p := ⟨gb203, 3, none⟩) (by first | (rw [Zab]; exact hn204_3) | (show (Addr.add _ _).block ≠ _; rw [Zab]; exact hn204_3) | exact hn204_3) (.slice A202_3 ((rd_T110 l0 x17_1).f3).length c202_3)).trans hx204_4; replace hx204_0 := (cell_far (p := ⟨gb203, 4, none⟩) (by first | (rw [Zab]; exact hn204_4) | (show (Addr.add _ _).block ≠ _; rw [Zab]; exact hn204_4) | exact hn204_4) (.slice A202_4 ((rd_T110 l0 x17_1).f4).length c202_4)).trans hx204_0; replace hx204_1 := (cell_far (p := ⟨gb203, 4, none⟩) (by first | (rw [Zab]; exact hn204_4) | (show (Addr.add _ _).block ≠ _; rw [Zab]; exact hn204_4) | exact hn204_4) (.slice A202_4 ((rd_T110 l0 x17_1).f4).length c202_4)).trans hx204_1; replace hx204_2 := (cell_far (p := ⟨gb203, 4, none⟩) (by first | (rw [Zab]; exact hn204_4) | (show (Addr.add _ _).block ≠ _; rw [Zab]; exact hn204_4) | exact hn204_4) (.slice A202_4 ((rd_T110 l0 x17_1).f4).length c202_4)).trans hx204_2; replace hx204_3 := (cell_far (p := ⟨gb203, 4, none⟩) (by first | (rw [Zab]; exact hn204_4) | (show (Addr.add _ _).block ≠ _; rw [Zab]; exact hn204_4) | exact hn204_4) (.slice A202_4 ((rd_T110 l0 x17_1).f4).length c202_4)).trans hx204_3; replace hx204_4 := (cell_far (p := ⟨gb203, 4, none⟩) (by first | (rw [Zab]; exact hn204_4) | (show (Addr.add _ _).block ≠ _; rw [Zab]; exact hn204_4) | exact hn204_4) (.slice A202_4 ((rd_T110 l0 x17_1).f4).length c202_4)).trans hx204_4; clear hn204_0; clear hn204_1; clear hn204_2; clear hn204_3; clear hn204_4; replace p204 := eq_true p204; replace q204 := eq_true q204) | ((with_reducible refine gate_dst (N := 9) rfl ?_); refine box_event ?hg (N := 9) ?hd (cs := #[.int .i64 0, .int .i64 0, .int .i64 0, .slice none 0 0, .slice none 0 0]) (t := 110) ?hr ?_; (case hd => rfl); (case hg => rfl); (case hr => first | (go_simp; done) | (go_simp; rfl)); intro gb205 hg w13 hbox hb; have n0_ := Zm (Zkb (g := gb203) (o := .cells #[.int .i64 ((rd_T110 l0 x17_1).f0), .int .i64 ((rd_T110 l0 x17_1).f1), .int .i64 ((rd_T110 l0 x17_1).f2), .slice A202_3 ((rd_T110 l0 x17_1).f3).length c202_3, .slice A202_4 ((rd_T110 l0 x17_1).f4).length c202_4] 110 (0, 0)) (by (with_reducible repeat (first | refine Zkn ?_ _ | refine Zkd ?_ | refine Zka ?_ _)); refine Zkp (cs := #[.int .i64 ((rd_T110 l0 x17_1).f0), .int .i64 ((rd_T110 l0 x17_1).f1), .int .i64 ((rd_T110 l0 x17_1).f2), .slice A202_3 ((rd_T110 l0 x17_1).f3).length c202_3, .slice none 0 0]) ?_ 4 _ rfl; (with_reducible repeat (first | refine Zkn ?_ _ | refine Zkd ?_ | refine Zka ?_ _)); refine Zkp (cs := #[.int .i64 ((rd_T110 l0 x17_1).f0), .int .i64 ((rd_T110 l0 x17_1).f1), .int .i64 ((rd_T110 l0 x17_1).f2), .slice none 0 0, .slice none 0 0]) ?_ 3 _ rfl; (with_reducible repeat (first | refine Zkn ?_ _ | refine Zkd ?_ | refine Zka ?_ _)); refine Zkp (cs := #[.int .i64 ((rd_T110 l0 x17_1).f0), .int .i64 ((rd_T110 l0 x17_1).f1), .int .i64 0, .slice none 0 0, .slice none 0 0]) ?_ 2 _ rfl; (with_reducible repeat (first | refine Zkn ?_ _ | refine Zkd ?_ | refine Zka ?_ _)); refine Zkp (cs := #[.int .i64 ((rd_T110 l0 x17_1).f0), .int .i64 0, .int .i64 0, .slice none 0 0, .slice none 0 0]) ?_ 1 _ rfl; (with_reducible repeat (first | refine Zkn ?_ _ | refine Zkd ?_ | refine Zka ?_ _)); refine Zkp (cs := #[.int .i64 0, .int .i64 0, .int .i64 0, .slice none 0 0, .slice none 0 0]) ?_ 0 _ rfl; (with_reducible repeat (first | refine Zkn ?_ _ | refine Zkd ?_ | refine Zka ?_ _)); exact BK203.out) hb); have n1_ := Zm (Zbt (by repeat (first | (with_reducible first | exact HB.out | apply Zba | apply Zbn | apply Zbd | refine Zbs ?_ GE203.out) | exact HB.out)) hb); have n2_ := Zm (hbox); have n3_ := Zm ((by rw [hg]; exact (Zbz (by repeat (first | (with_reducible first | exact HB.out | apply Zba | apply Zbn | apply Zbd | refine Zbs ?_ GE203.out) | exact HB.out))) : w.heap.size ≤ gb205)); have n4_ := Zm ((by rw [hg]; exact (Zbz (by repeat (first | (with_reducible first | exact HB.out | apply Zba | apply Zbn | apply Zbd | refine Zbs ?_ GE203.out) | exact HB.out))) : w.heap.size ≤ gb205)); have n5_ := Zm ((by rw [hg]; exact Nat.ne_of_lt (blk_lt (g := gb203) (o := .cells #[.int .i64 ((rd_T110 l0 x17_1).f0), .int .i64 ((rd_T110 l0 x17_1).f1), .int .i64 ((rd_T110 l0 x17_1).f2), .slice A202_3 ((rd_T110 l0 x17_1).f3).length c202_3, .slice A202_4 ((rd_T110 l0 x17_1).f4).length c202_4] 110 (0, 0)) (by (with_reducible repeat (first | refine Zkn ?_ _ | refine Zkd ?_ | refine Zka ?_ _)); refine Zkp (cs := #[.int .i64 ((rd_T110 l0 x17_1).f0), .int .i64 ((rd_T110 l0 x17_1).f1), .int .i64 ((rd_T110 l0 x17_1).f2), .slice A202_3 ((rd_T110 l0 x17_1).f3).length c202_3, .slice none 0 0]) ?_ 4 _ rfl; (with_reducible repeat (first | refine Zkn ?_ _ | refine Zkd ?_ | refine Zka ?_ _)); refine Zkp (cs := #[.int .i64 ((rd_T110 l0 x17_1).f0), .int .i64 ((rd_T110 l0 x17_1).f1), .int .i64 ((rd_T110 l0 x17_1).f2), .slice none 0 0, .slice none 0 0]) ?_ 3 _ rfl; (with_reducible repeat (first | refine Zkn ?_ _ | refine Zkd ?_ | refine Zka ?_ _)); refine Zkp (cs := #[.int .i64 ((rd_T110 l0 x17_1).f0), .int .i64 ((rd_T110 l0 x17_1).f1), .int .i64 0, .slice none 0 0, .slice none 0 0]) ?_ 2 _ rfl; (with_reducible repeat (first | refine Zkn ?_ _ | refine Zkd ?_ | refine Zka ?_ _)); refine Zkp (cs := #[.int .i64 ((rd_T110 l0 x17_1).f0), .int .i64 0, .int .i64 0, .slice none 0 0, .slice none 0 0]) ?_ 1 _ rfl; (with_reducible repeat (first | refine Zkn ?_ _ | refine Zkd ?_ | refine Zka ?_ _)); refine Zkp (cs := #[.int .i64 0, .int .i64 0, .int .i64 0, .slice none 0 0, .slice none 0 0]) ?_ 0 _ rfl; (with_reducible repeat (first | refine Zkn ?_ _ | refine Zkd ?_ | refine Zka ?_ _)); exact BK203.out)) : gb203 ≠ gb205)); have n6_ := Zm ((by rw [hg]; exact Nat.ne_of_gt (blk_lt (g := gb203) (o := .cells #[.int .i64 ((rd_T110 l0 x17_1).f0), .int .i64 ((rd_T110 l0 x17_1).f1), .int .i64 ((rd_T110 l0 x17_1).f2), .slice A202_3 ((rd_T110 l0 x17_1).f3).length c202_3, .slice A202_4 ((rd_T110 l0 x17_1).f4).length c202_4] 110 (0, 0)) (by (with_reducible repeat (first | refine Zkn ?_ _ | refine Zkd ?_ | refine Zka ?_ _)); refine Zkp (cs := #[.int .i64 ((rd_T110 l0 x17_1).f0), .int .i64 ((rd_T110 l0 x17_1).f1), .int .i64 ((rd_T110 l0 x17_1).f2), .slice A202_3 ((rd_T110 l0 x17_1).f3).length c202_3, .slice none 0 0]) ?_ 4 _ rfl; (with_reducible repeat (first | refine Zkn ?_ _ | refine Zkd ?_ | refine Zka ?_ _)); refine Zkp (cs := #[.int .i64 ((rd_T110 l0 x17_1).f0), .int .i64 ((rd_T110 l0 x17_1).f1), .int .i64 ((rd_T110 l0 x17_1).f2), .slice none 0 0, .slice none 0 0]) ?_ 3 _ rfl; (with_reducible repeat (first | refine Zkn ?_ _ | refine Zkd ?_ | refine Zka ?_ _)); refine Zkp (cs := #[.int .i64 ((rd_T110 l0 x17_1).f0), .int .i64 ((rd_T110 l0 x17_1).f1), .int .i64 0, .slice none 0 0, .slice none 0 0]) ?_ 2 _ rfl; (with_reducible repeat (first | refine Zkn ?_ _ | refine Zkd ?_ | refine Zka ?_ _)); refine Zkp (cs := #[.int .i64 ((rd_T110 l0 x17_1).f0), .int .i64 0, .int .i64 0, .slice none 0 0, .slice none 0 0]) ?_ 1 _ rfl; (with_reducible repeat (first | refine Zkn ?_ _ | refine Zkd ?_ | refine Zka ?_ _)); refine Zkp (cs := #[.int .i64 0, .int .i64 0, .int .i64 0, .slice none 0 0, .slice none 0 0]) ?_ 0 _ rfl; (with_reducible repeat (first | refine Zkn ?_ _ | refine Zkd ?_ | refine Zka ?_ _)); exact BK203.out)) : gb205 ≠ gb203)); clear BK203; clear HB; have BK203 := n0_; have HB := n1_; have BK205 := n2_; have GW205 := n3_; have GE205 := n4_; have NB203_205 := n5_; have NB205_203 := n6_; clear n0_ n1_ n2_ n3_ n4_ n5_ n6_; clear hb hbox hg; have hnb14 := NB205_203.out; have hnc14 := NB203_205.out; have hcz15_0 : w13.cell? ⟨gb205, 0, none⟩ = some (.int .i64 0) := (Zkc BK205.out 0).trans rfl; have hcz15_1 : w13.cell? ⟨gb205, 1, none⟩ = some (.int .i64 0) := (Zkc BK205.out 1).trans rfl; have hcz15_2 : w13.cell? ⟨gb205, 2, none⟩ = some (.int .i64 0) := (Zkc BK205.out 2).trans rfl; have hcz15_3 : w13.cell? ⟨gb205, 3, none⟩ = some (.slice none 0 0) := (Zkc BK205.out 3).trans rfl; have hcz15_4 : w13.cell? ⟨gb205, 4, none⟩ = some (.slice none 0 0) := (Zkc BK205.out 4).trans rfl; have hfz15_0 := Zkf BK205.out 0; have hfz15_1 := Zkf BK205.out 1; have hfz15_2 := Zkf BK205.out 2; have hfz15_3 := Zkf BK205.out 3; have hfz15_4 := Zkf BK205.out 4; have hcz16_0 : w13.cell? ⟨gb203, 0, none⟩ = some (.int .i64 ((rd_T110 l0 x17_1).f0)) := (Zkc BK203.out 0).trans rfl; have hcz16_1 : w13.cell? ⟨gb203, 1, none⟩ = some (.int .i64 ((rd_T110 l0 x17_1).f1)) := (Zkc BK203.out 1).trans rfl; have hcz16_2 : w13.cell? ⟨gb203, 2, none⟩ = some (.int .i64 ((rd_T110 l0 x17_1).f2)) := (Zkc BK203.out 2).trans rfl; have hcz16_3 : w13.cell? ⟨gb203, 3, none⟩ = some (.slice A202_3 ((rd_T110 l0 x17_1).f3).length c202_3) := (Zkc BK203.out 3).trans rfl; have hcz16_4 : w13.cell? ⟨gb203, 4, none⟩ = some (.slice A202_4 ((rd_T110 l0 x17_1).f4).length c202_4) := (Zkc BK203.out 4).trans rfl; have hfz16_0 := Zkf BK203.out 0; have hfz16_1 := Zkf BK203.out 1; have hfz16_2 := Zkf BK203.out 2; have hfz16_3 := Zkf BK203.out 3; have hfz16_4 := Zkf BK203.out 4) | (go_at_call 60; (first | (with_reducible refine (impl_BareSame_2.calls k1 ((rd_T110 l0 x17_1).f0) ((rd_T110 l0 x17_1).f1) ((rd_T110 l0 x17_1).f2) _ _ ((rd_T110 l0 x17_1).f3) _ _ ((rd_T110 l0 x17_1).f4) ((rd_T110 l1 x17_1).f0) ((rd_T110 l1 x17_1).f1) ((rd_T110 l1 x17_1).f2) _ _ ((rd_T110 l1 x17_1).f3) _ _ ((rd_T110 l1 x17_1).f4) true _ ?side1 ?side2 ?side3 ?side4 ?side5 ?side6 ?side7 ?side8 A9.out).mono ?_) | (with_reducible refine (calls_of_args ?_ (impl_BareSame_2.calls k1 ((rd_T110 l0 x17_1).f0) ((rd_T110 l0 x17_1).f1) ((rd_T110 l0 x17_1).f2) _ _ ((rd_T110 l0 x17_1).f3) _ _ ((rd_T110 l0 x17_1).f4) ((rd_T110 l1 x17_1).f0) ((rd_T110 l1 x17_1).f1) ((rd_T110 l1 x17_1).f2) _ _ ((rd_T110 l1 x17_1).f3) _ _ ((rd_T110 l1 x17_1).f4) true _ ?side1 ?side2 ?side3 ?side4 ?side5 ?side6 ?side7 ?side8 A9.out)).mono ?_; focus (simp [*]; done))); (case side1 => exact Kd.C_below HR202_3.out (by repeat (first | (with_reducible first | exact HB.out | apply Zba | apply Zbn | apply Zbd | refine Zbs ?_ GE203.out | refine Zbs ?_ GE205.out) | exact HB.out))); (case side2 => exact HC202_3.out); (case side3 => exact Kd.C_below HR202_4.out (by repeat (first | (with_reducible first | exact HB.out | apply Zba | apply Zbn | apply Zbd | refine Zbs ?_ GE203.out | refine Zbs ?_ GE205.out) | exact HB.out))); (case side4 => exact HC202_4.out); (case side5 => exact Kd.C_below HR204_3.out (by repeat (first | (with_reducible first | exact HB.out | apply Zba | apply Zbn | apply Zbd | refine Zbs ?_ GE203.out | refine Zbs ?_ GE205.out) | exact HB.out))); (case side6 => exact HC204_3.out); (case side7 => exact Kd.C_below HR204_4.out (by repeat (first | (with_reducible first | exact HB.out | apply Zba | apply Zbn | apply Zbd | refine Zbs ?_ GE203.out | refine Zbs ?_ GE205.out) | exact HB.out))); (case side8 => exact HC204_4.out); rintro e w17 ⟨rfl, hb⟩; have n0_ := Zm (Zkb (g := gb203) (o := .cells #[.int .i64 ((rd_T110 l0 x17_1).f0), .int .i64 ((rd_T110 l0 x17_1).f1), .int .i64 ((rd_T110 l0 x17_1).f2), .slice A202_3 ((rd_T110 l0 x17_1).f3).length c202_3, .slice A202_4 ((rd_T110 l0 x17_1).f4).length c202_4] 110 (0, 0)) (by (with_reducible repeat (first | refine Zkn ?_ _ | refine Zkd ?_ | refine Zka ?_ _)); refine Zkr ?_ NB203_205.out _; (with_reducible repeat (first | refine Zkn ?_ _ | refine Zkd ?_ | refine Zka ?_ _)); refine Zkr ?_ NB203_205.out _; (with_reducible repeat (first | refine Zkn ?_ _ | refine Zkd ?_ | refine Zka ?_ _)); refine Zkr ?_ NB203_205.out _; (with_reducible repeat (first | refine Zkn ?_ _ | refine Zkd ?_ | refine Zka ?_ _)); refine Zkr ?_ NB203_205.out _; (with_reducible repeat (first | refine Zkn ?_ _ | refine Zkd ?_ | refine Zka ?_ _)); refine Zkr ?_ NB203_205.out _; (with_reducible repeat (first | refine Zkn ?_ _ | refine Zkd ?_ | refine Zka ?_ _)); exact BK203.out) hb); have n1_ := Zm (Zkb (g := gb205) (o := .cells #[.int .i64 ((rd_T110 l1 x17_1).f0), .int .i64 ((rd_T110 l1 x17_1).f1), .int .i64 ((rd_T110 l1 x17_1).f2), .slice A204_3 ((rd_T110 l1 x17_1).f3).length c204_3, .slice A204_4 ((rd_T110 l1 x17_1).f4).length c204_4] 110 (0, 0)) (by (with_reducible repeat (first | refine Zkn ?_ _ | refine Zkd ?_ | refine Zka ?_ _)); refine Zkp (cs := #[.int .i64 ((rd_T110 l1 x17_1).f0), .int .i64 ((rd_T110 l1 x17_1).f1), .int .i64 ((rd_T110 l1 x17_1).f2), .slice A204_3 ((rd_T110 l1 x17_1).f3).length c204_3, .slice none 0 0]) ?_ 4 _ rfl; (with_reducible repeat (first | refine Zkn ?_ _ | refine Zkd ?_ | refine Zka ?_ _)); refine Zkp (cs := #[.int .i64 ((rd_T110 l1 x17_1).f0), .int .i64 ((rd_T110 l1 x17_1).f1), .int .i64 ((rd_T110 l1 x17_1).f2), .slice none 0 0, .slice none 0 0]) ?_ 3 _ rfl; (with_reducible repeat (first | refine Zkn ?_ _ | refine Zkd ?_ | refine Zka ?_ _)); refine Zkp (cs := #[.int .i64 ((rd_T110 l1 x17_1).f0), .int .i64 ((rd_T110 l1 x17_1).f1), .int .i64 0, .slice none 0 0, .slice none 0 0]) ?_ 2 _ rfl; (with_reducible repeat (first | refine Zkn ?_ _ | refine Zkd ?_ | refine Zka ?_ _)); refine Zkp (cs := #[.int .i64 ((rd_T110 l1 x17_1).f0), .int .i64 0, .int .i64 0, .slice none 0 0, .slice none 0 0]) ?_ 1 _ rfl; (with_reducible repeat (first | refine Zkn ?_ _ | refine Zkd ?_ | refine Zka ?_ _)); refine Zkp (cs := #[.int .i64 0, .int .i64 0, .int .i64 0, .slice none 0 0, .slice none 0 0]) ?_ 0 _ rfl; (with_reducible repeat (first | refine Zkn ?_ _ | refine Zkd ?_ | refine Zka ?_ _)); exact BK205.out) hb); have n2_ := Zm (Zbt (by repeat (first | (with_reducible first | exact HB.out | apply Zba | apply Zbn | apply Zbd | refine Zbs ?_ GE203.out | refine Zbs ?_ GE205.out) | exact HB.out)) hb); clear BK203; clear BK205; clear HB; have BK203 := n0_; have BK205 := n1_; have HB := n2_; clear n0_ n1_ n2_; (try clear hb); (try clear hb2); (try clear hk); (try clear hi)))
      go_roundg k1
      case measure => have := HK1.out; omega
      case rel => exact ⟨(wrap64 (x17_1 + 1)), (by first | rfl | (simp; done) | (simp [*]; done)), H', ⟨by have := HK1.out; omega⟩, ⟨by repeat (first | (with_reducible first | exact HB.out | apply Zba | apply Zbn | apply Zbd | refine Zbs ?_ GE203.out | refine Zbs ?_ GE205.out) | exact HB.out)⟩⟩
/-! ### impl_BareSame: function 18 -/
def impl_BareSame.j0 : Nat → Bool → List (S108) → Int → List Int → List (S110) → Bool → Int → ByteArray → Int → List (S108) → Int → List Int → List (S110) → Bool → Int → ByteArray → Int → Option (Bool)
  | 0, _, _, _, _, _, _, _, _, _, _, _, _, _, _, _, _, _ => none
  | k + 1, x46, x208000, x208001, x208002, x208003, x208004, x208005, x208006, x208007, x209000, x209001, x209002, x209003, x209004, x209005, x209006, x209007 => if x46 = true then (some false) else ((impl_BareObj.f k x208000 x209000).bind fun t210 => (if t210 = true then ((impl_BareAct.f k x208003 x209003).bind fun t211 => (some t211)) else (some false)))
def impl_BareSame.f (k : Nat) (l0_0 : List (S108)) (a0_1 : Int) (l0_2 : List Int) (l0_3 : List (S110)) (a0_4 : Bool) (a0_5 : Int) (a0_6 : ByteArray) (a0_7 : Int) (l1_0 : List (S108)) (a1_1 : Int) (l1_2 : List Int) (l1_3 : List (S110)) (a1_4 : Bool) (a1_5 : Int) (a1_6 : ByteArray) (a1_7 : Int) : Option (Bool) := if a0_1 = a1_1 then (if (a0_4 != a1_4) = true then (impl_BareSame.j0 k true l0_0 a0_1 l0_2 l0_3 a0_4 a0_5 a0_6 a0_7 l1_0 a1_1 l1_2 l1_3 a1_4 a1_5 a1_6 a1_7) else (if a0_5 = a1_5 then (if a0_6.toList = a1_6.toList then (if a0_7 = a1_7 then ((slices_Equal_int64_int64.f k l0_2 l1_2).bind fun t209 => (impl_BareSame.j0 k (!t209) l0_0 a0_1 l0_2 l0_3 a0_4 a0_5 a0_6 a0_7 l1_0 a1_1 l1_2 l1_3 a1_4 a1_5 a1_6 a1_7)) else (impl_BareSame.j0 k true l0_0 a0_1 l0_2 l0_3 a0_4 a0_5 a0_6 a0_7 l1_0 a1_1 l1_2 l1_3 a1_4 a1_5 a1_6 a1_7)) else (impl_BareSame.j0 k true l0_0 a0_1 l0_2 l0_3 a0_4 a0_5 a0_6 a0_7 l1_0 a1_1 l1_2 l1_3 a1_4 a1_5 a1_6 a1_7)) else (impl_BareSame.j0 k true l0_0 a0_1 l0_2 l0_3 a0_4 a0_5 a0_6 a0_7 l1_0 a1_1 l1_2 l1_3 a1_4 a1_5 a1_6 a1_7))) else (impl_BareSame.j0 k true l0_0 a0_1 l0_2 l0_3 a0_4 a0_5 a0_6 a0_7 l1_0 a1_1 l1_2 l1_3 a1_4 a1_5 a1_6 a1_7)
theorem impl_BareSame.mono_l : ∀ k, (∀ y0 y1 y2 y3 y4 y5 y6 y7 y8 y9 y10 y11 y12 y13 y14 y15 y16, LeO (impl_BareSame.j0 k y0 y1 y2 y3 y4 y5 y6 y7 y8 y9 y10 y11 y12 y13 y14 y15 y16) (impl_BareSame.j0 (k + 1) y0 y1 y2 y3 y4 y5 y6 y7 y8 y9 y10 y11 y12 y13 y14 y15 y16))
  | 0 => fun _ _ _ _ _ _ _ _ _ _ _ _ _ _ _ _ _ r h => by simp [impl_BareSame.j0] at h
  | k + 1 => by
    have ih0 := impl_BareSame.mono_l k
    · intro y0 y1 y2 y3 y4 y5 y6 y7 y8 y9 y10 y11 y12 y13 y14 y15 y16
      unfold impl_BareSame.j0
      repeat' first
      | (with_reducible exact ih0 _ _ _ _ _ _ _ _ _ _ _ _ _ _ _ _ _)
      | (with_reducible exact impl_BareAct.mono _ _ _)
      | (with_reducible exact impl_BareObj.mono _ _ _)
      | (with_reducible exact slices_Equal_int64_int64.mono _ _ _)
      | (with_reducible exact LeO.refl _)
      | (with_reducible exact LeO.none _)
      | (with_reducible refine LeO.ite ?_ ?_)
      | (with_reducible refine LeO.bind ?_ (fun _ => ?_))
      | exact ih0 _ _ _ _ _ _ _ _ _ _ _ _ _ _ _ _ _
      | exact impl_BareAct.mono _ _ _
      | exact impl_BareObj.mono _ _ _
      | exact slices_Equal_int64_int64.mono _ _ _
      | exact LeO.none _
      | refine LeO.ite ?_ ?_
      | refine LeO.bind ?_ (fun _ => ?_)
theorem impl_BareSame.mono : ∀ a0 a1 a2 a3 a4 a5 a6 a7 a8 a9 a10 a11 a12 a13 a14 a15 k, LeO (impl_BareSame.f k a0 a1 a2 a3 a4 a5 a6 a7 a8 a9 a10 a11 a12 a13 a14 a15) (impl_BareSame.f (k + 1) a0 a1 a2 a3 a4 a5 a6 a7 a8 a9 a10 a11 a12 a13 a14 a15) := by
  intro a0 a1 a2 a3 a4 a5 a6 a7 a8 a9 a10 a11 a12 a13 a14 a15 k
  have ih0 := impl_BareSame.mono_l k
  unfold impl_BareSame.f
  repeat' first
      | (with_reducible exact ih0 _ _ _ _ _ _ _ _ _ _ _ _ _ _ _ _ _)
      | (with_reducible exact impl_BareAct.mono _ _ _)
      | (with_reducible exact impl_BareObj.mono _ _ _)
      | (with_reducible exact slices_Equal_int64_int64.mono _ _ _)
      | (with_reducible exact LeO.refl _)
      | (with_reducible exact LeO.none _)
      | (with_reducible refine LeO.ite ?_ ?_)
      | (with_reducible refine LeO.bind ?_ (fun _ => ?_))
      | exact ih0 _ _ _ _ _ _ _ _ _ _ _ _ _ _ _ _ _
      | exact impl_BareAct.mono _ _ _
      | exact impl_BareObj.mono _ _ _
      | exact slices_Equal_int64_int64.mono _ _ _
      | exact LeO.none _
      | refine LeO.ite ?_ ?_
      | refine LeO.bind ?_ (fun _ => ?_)
set_option maxHeartbeats 8000000 in
set_option maxRecDepth 100000 in
theorem impl_BareSame.calls (k : Nat) (A0_0 : Option Addr) (c0_0 : Nat) (l0_0 : List (S108)) (a0_1 : Int) (A0_2 : Option Addr) (c0_2 : Nat) (l0_2 : List Int) (A0_3 : Option Addr) (c0_3 : Nat) (l0_3 : List (S110)) (a0_4 : Bool) (a0_5 : Int) (a0_6 : ByteArray) (a0_7 : Int) (A1_0 : Option Addr) (c1_0 : Nat) (l1_0 : List (S108)) (a1_1 : Int) (A1_2 : Option Addr) (c1_2 : Nat) (l1_2 : List Int) (A1_3 : Option Addr) (c1_3 : Nat) (l1_3 : List (S110)) (a1_4 : Bool) (a1_5 : Int) (a1_6 : ByteArray) (a1_7 : Int) (r : Bool) (w : World) (hr0_0 : Kd.C k108 w A0_0 l0_0.length l0_0) (hc0_0 : l0_0.length ≤ c0_0) (hr0_2 : Kd.C (Kd.int .i64) w A0_2 l0_2.length l0_2) (hc0_2 : l0_2.length ≤ c0_2) (hr0_3 : Kd.C k110 w A0_3 l0_3.length l0_3) (hc0_3 : l0_3.length ≤ c0_3) (hr1_0 : Kd.C k108 w A1_0 l1_0.length l1_0) (hc1_0 : l1_0.length ≤ c1_0) (hr1_2 : Kd.C (Kd.int .i64) w A1_2 l1_2.length l1_2) (hc1_2 : l1_2.length ≤ c1_2) (hr1_3 : Kd.C k110 w A1_3 l1_3.length l1_3) (hc1_3 : l1_3.length ≤ c1_3) (h : impl_BareSame.f k l0_0 a0_1 l0_2 l0_3 a0_4 a0_5 a0_6 a0_7 l1_0 a1_1 l1_2 l1_3 a1_4 a1_5 a1_6 a1_7 = some r) :
    Calls Try.prog 18 #[.agg #[.slice A0_0 l0_0.length c0_0, .int .i64 a0_1, .slice A0_2 l0_2.length c0_2, .slice A0_3 l0_3.length c0_3, .bool a0_4, .int .i64 a0_5, .string a0_6, .int .i64 a0_7], .agg #[.slice A1_0 l1_0.length c1_0, .int .i64 a1_1, .slice A1_2 l1_2.length c1_2, .slice A1_3 l1_3.length c1_3, .bool a1_4, .int .i64 a1_5, .string a1_6, .int .i64 a1_7]] w fun e w' => e = .returned (.bool r) ∧ Below w.heap.size w w' := by
  have hu39 := Try.underlying39
  have HR0_0 := Zm hr0_0
  have HC0_0 := Zm hc0_0
  clear hr0_0 hc0_0
  have HR0_2 := Zm hr0_2
  have HC0_2 := Zm hc0_2
  clear hr0_2 hc0_2
  have HR0_3 := Zm hr0_3
  have HC0_3 := Zm hc0_3
  clear hr0_3 hc0_3
  have HR1_0 := Zm hr1_0
  have HC1_0 := Zm hc1_0
  clear hr1_0 hc1_0
  have HR1_2 := Zm hr1_2
  have HC1_2 := Zm hc1_2
  clear hr1_2 hc1_2
  have HR1_3 := Zm hr1_3
  have HC1_3 := Zm hc1_3
  clear hr1_3 hc1_3
  have HB := Zm (Below.refl w.heap.size w)
  have H : (if a0_1 = a1_1 then (if (a0_4 != a1_4) = true then (impl_BareSame.j0 k true l0_0 a0_1 l0_2 l0_3 a0_4 a0_5 a0_6 a0_7 l1_0 a1_1 l1_2 l1_3 a1_4 a1_5 a1_6 a1_7) else (if a0_5 = a1_5 then (if a0_6.toList = a1_6.toList then (if a0_7 = a1_7 then ((slices_Equal_int64_int64.f k l0_2 l1_2).bind fun t209 => (impl_BareSame.j0 k (!t209) l0_0 a0_1 l0_2 l0_3 a0_4 a0_5 a0_6 a0_7 l1_0 a1_1 l1_2 l1_3 a1_4 a1_5 a1_6 a1_7)) else (impl_BareSame.j0 k true l0_0 a0_1 l0_2 l0_3 a0_4 a0_5 a0_6 a0_7 l1_0 a1_1 l1_2 l1_3 a1_4 a1_5 a1_6 a1_7)) else (impl_BareSame.j0 k true l0_0 a0_1 l0_2 l0_3 a0_4 a0_5 a0_6 a0_7 l1_0 a1_1 l1_2 l1_3 a1_4 a1_5 a1_6 a1_7)) else (impl_BareSame.j0 k true l0_0 a0_1 l0_2 l0_3 a0_4 a0_5 a0_6 a0_7 l1_0 a1_1 l1_2 l1_3 a1_4 a1_5 a1_6 a1_7))) else (impl_BareSame.j0 k true l0_0 a0_1 l0_2 l0_3 a0_4 a0_5 a0_6 a0_7 l1_0 a1_1 l1_2 l1_3 a1_4 a1_5 a1_6 a1_7)) = some r := h
  clear h
  have HC3 := Zm H
  clear H
  go_enter Try.func18, Try.ntmps18
  go_upto_region 1 with (first | ((with_reducible refine gate_dst (N := 2) rfl ?_); refine box_event ?hg (N := 2) ?hd (cs := #[.slice A0_0 l0_0.length c0_0, .int .i64 a0_1, .slice A0_2 l0_2.length c0_2, .slice A0_3 l0_3.length c0_3, .bool a0_4, .int .i64 a0_5, .string a0_6, .int .i64 a0_7]) (t := 39) ?hr ?_; (case hd => rfl); (case hg => rfl); (case hr => first | (go_simp; done) | (go_simp; rfl)); intro gb207 hg w4 hbox hb; have n0_ := Zm (Zbt (by repeat (first | (with_reducible first | exact HB.out | apply Zba | apply Zbn | apply Zbd) | exact HB.out)) hb); have n1_ := Zm (hbox); have n2_ := Zm ((by rw [hg]; exact (Zbz (by repeat (first | (with_reducible first | exact HB.out | apply Zba | apply Zbn | apply Zbd) | exact HB.out))) : w.heap.size ≤ gb207)); have n3_ := Zm ((by rw [hg]; exact (Zbz (by repeat (first | (with_reducible first | exact HB.out | apply Zba | apply Zbn | apply Zbd) | exact HB.out))) : w.heap.size ≤ gb207)); clear HB; have HB := n0_; have BK207 := n1_; have GW207 := n2_; have GE207 := n3_; clear n0_ n1_ n2_ n3_; clear hb hbox hg) | ((with_reducible refine gate_dst (N := 3) rfl ?_); refine box_event ?hg (N := 3) ?hd (cs := #[.slice A1_0 l1_0.length c1_0, .int .i64 a1_1, .slice A1_2 l1_2.length c1_2, .slice A1_3 l1_3.length c1_3, .bool a1_4, .int .i64 a1_5, .string a1_6, .int .i64 a1_7]) (t := 39) ?hr ?_; (case hd => rfl); (case hg => rfl); (case hr => first | (go_simp; done) | (go_simp; rfl)); intro gb208 hg w5 hbox hb; have n0_ := Zm (Zkb (g := gb207) (o := .cells #[.slice A0_0 l0_0.length c0_0, .int .i64 a0_1, .slice A0_2 l0_2.length c0_2, .slice A0_3 l0_3.length c0_3, .bool a0_4, .int .i64 a0_5, .string a0_6, .int .i64 a0_7] 39 (0, 0)) (by (with_reducible repeat (first | refine Zkn ?_ _ | refine Zkd ?_ | refine Zka ?_ _)); exact BK207.out) hb); have n1_ := Zm (Zbt (by repeat (first | (with_reducible first | exact HB.out | apply Zba | apply Zbn | apply Zbd | refine Zbs ?_ GE207.out) | exact HB.out)) hb); have n2_ := Zm (hbox); have n3_ := Zm ((by rw [hg]; exact (Zbz (by repeat (first | (with_reducible first | exact HB.out | apply Zba | apply Zbn | apply Zbd | refine Zbs ?_ GE207.out) | exact HB.out))) : w.heap.size ≤ gb208)); have n4_ := Zm ((by rw [hg]; exact (Zbz (by repeat (first | (with_reducible first | exact HB.out | apply Zba | apply Zbn | apply Zbd | refine Zbs ?_ GE207.out) | exact HB.out))) : w.heap.size ≤ gb208)); have n5_ := Zm ((by rw [hg]; exact Nat.ne_of_lt (blk_lt (g := gb207) (o := .cells #[.slice A0_0 l0_0.length c0_0, .int .i64 a0_1, .slice A0_2 l0_2.length c0_2, .slice A0_3 l0_3.length c0_3, .bool a0_4, .int .i64 a0_5, .string a0_6, .int .i64 a0_7] 39 (0, 0)) (by (with_reducible repeat (first | refine Zkn ?_ _ | refine Zkd ?_ | refine Zka ?_ _)); exact BK207.out)) : gb207 ≠ gb208)); have n6_ := Zm ((by rw [hg]; exact Nat.ne_of_gt (blk_lt (g := gb207) (o := .cells #[.slice A0_0 l0_0.length c0_0, .int .i64 a0_1, .slice A0_2 l0_2.length c0_2, .slice A0_3 l0_3.length c0_3, .bool a0_4, .int .i64 a0_5, .string a0_6, .int .i64 a0_7] 39 (0, 0)) (by (with_reducible repeat (first | refine Zkn ?_ _ | refine Zkd ?_ | refine Zka ?_ _)); exact BK207.out)) : gb208 ≠ gb207)); clear BK207; clear HB; have BK207 := n0_; have HB := n1_; have BK208 := n2_; have GW208 := n3_; have GE208 := n4_; have NB207_208 := n5_; have NB208_207 := n6_; clear n0_ n1_ n2_ n3_ n4_ n5_ n6_; clear hb hbox hg))
  (try simp only [Act.put, List.setIfInBounds_toArray, List.set_cons_zero, List.set_cons_succ])
  go_cut [46] (fun v46 wc => ∃ (kq : Nat) (x46_2 : Bool), v46 = .bool x46_2 ∧ Aside0 (impl_BareSame.j0 kq x46_2 l0_0 a0_1 l0_2 l0_3 a0_4 a0_5 a0_6 a0_7 l1_0 a1_1 l1_2 l1_3 a1_4 a1_5 a1_6 a1_7 = some r) ∧ Aside0 (kq ≤ k) ∧ Aside0 (wc.heap[gb207]? = some (.cells #[(.slice A0_0 l0_0.length c0_0), .int .i64 a0_1, (.slice A0_2 l0_2.length c0_2), (.slice A0_3 l0_3.length c0_3), .bool a0_4, .int .i64 a0_5, .string a0_6, .int .i64 a0_7] 39 (0, 0))) ∧ Aside0 (wc.heap[gb208]? = some (.cells #[(.slice A1_0 l1_0.length c1_0), .int .i64 a1_1, (.slice A1_2 l1_2.length c1_2), (.slice A1_3 l1_3.length c1_3), .bool a1_4, .int .i64 a1_5, .string a1_6, .int .i64 a1_7] 39 (0, 0))) ∧ Aside0 (Below w.heap.size w wc))
  case first =>
    have H := HC3.out
    clear HC3
    by_cases c6 : a0_1 = a1_1
    rotate_left
    · rw [if_neg c6] at H
      have c6b0 : (a0_1 == a1_1) = false := beq_eq_false_iff_ne.mpr c6
      have c6b1 : (a0_1 != a1_1) = true := bne_iff_ne.mpr c6
      (first | rw [c6b0] | (simp only [i64_w, i32_w]; rw [c6b0]) | skip)
      have H' := Zm H
      clear H
      have hnb27 := NB207_208.out
      have hnc27 := NB208_207.out
      have hcz28_0 : w5.cell? ⟨gb207, 0, none⟩ = some (.slice A0_0 l0_0.length c0_0) := (Zkc BK207.out 0).trans rfl
      have hcz28_1 : w5.cell? ⟨gb207, 1, none⟩ = some (.int .i64 a0_1) := (Zkc BK207.out 1).trans rfl
      have hcz28_2 : w5.cell? ⟨gb207, 2, none⟩ = some (.slice A0_2 l0_2.length c0_2) := (Zkc BK207.out 2).trans rfl
      have hcz28_3 : w5.cell? ⟨gb207, 3, none⟩ = some (.slice A0_3 l0_3.length c0_3) := (Zkc BK207.out 3).trans rfl
      have hcz28_4 : w5.cell? ⟨gb207, 4, none⟩ = some (.bool a0_4) := (Zkc BK207.out 4).trans rfl
      have hcz28_5 : w5.cell? ⟨gb207, 5, none⟩ = some (.int .i64 a0_5) := (Zkc BK207.out 5).trans rfl
      have hcz28_6 : w5.cell? ⟨gb207, 6, none⟩ = some (.string a0_6) := (Zkc BK207.out 6).trans rfl
      have hcz28_7 : w5.cell? ⟨gb207, 7, none⟩ = some (.int .i64 a0_7) := (Zkc BK207.out 7).trans rfl
      have hcz29_0 : w5.cell? ⟨gb208, 0, none⟩ = some (.slice A1_0 l1_0.length c1_0) := (Zkc BK208.out 0).trans rfl
      have hcz29_1 : w5.cell? ⟨gb208, 1, none⟩ = some (.int .i64 a1_1) := (Zkc BK208.out 1).trans rfl
      have hcz29_2 : w5.cell? ⟨gb208, 2, none⟩ = some (.slice A1_2 l1_2.length c1_2) := (Zkc BK208.out 2).trans rfl
      have hcz29_3 : w5.cell? ⟨gb208, 3, none⟩ = some (.slice A1_3 l1_3.length c1_3) := (Zkc BK208.out 3).trans rfl
      have hcz29_4 : w5.cell? ⟨gb208, 4, none⟩ = some (.bool a1_4) := (Zkc BK208.out 4).trans rfl
      have hcz29_5 : w5.cell? ⟨gb208, 5, none⟩ = some (.int .i64 a1_5) := (Zkc BK208.out 5).trans rfl
      have hcz29_6 : w5.cell? ⟨gb208, 6, none⟩ = some (.string a1_6) := (Zkc BK208.out 6).trans rfl
      have hcz29_7 : w5.cell? ⟨gb208, 7, none⟩ = some (.int .i64 a1_7) := (Zkc BK208.out 7).trans rfl
      go_wp2
      go_meet
      case rel => exact ⟨_, (true), (by first | rfl | (simp; done) | (simp [*]; done)), H', ⟨by first | omega | exact Nat.le_refl _⟩, ⟨by (with_reducible repeat (first | refine Zkn ?_ _ | refine Zkd ?_ | refine Zka ?_ _)); exact BK207.out⟩, ⟨by (with_reducible repeat (first | refine Zkn ?_ _ | refine Zkd ?_ | refine Zka ?_ _)); exact BK208.out⟩, ⟨by repeat (first | (with_reducible first | exact HB.out | apply Zba | apply Zbn | apply Zbd | refine Zbs ?_ GE207.out | refine Zbs ?_ GE208.out) | exact HB.out)⟩⟩
    rw [if_pos c6] at H
    have c6b0 : (a0_1 == a1_1) = true := beq_iff_eq.mpr c6
    have c6b1 : (a0_1 != a1_1) = false := bne_eq_false_iff_eq.mpr c6
    clear c6
    (first | rw [c6b0] | (simp only [i64_w, i32_w]; rw [c6b0]) | skip)
    by_cases c7 : (a0_4 != a1_4) = true
    rotate_left
    · rw [if_neg c7] at H
      have c7b0 : (a0_4 != a1_4) = false := by simpa using c7
      (try (have c7b1 : decide (a0_4 = a1_4) = true := by simpa using c7))
      (try (have c7b2 : (a0_4 == a1_4) = true := by simpa using c7))
      clear c7
      by_cases c11 : a0_5 = a1_5
      rotate_left
      · rw [if_neg c11] at H
        have c11b0 : (a0_5 == a1_5) = false := beq_eq_false_iff_ne.mpr c11
        have c11b1 : (a0_5 != a1_5) = true := bne_iff_ne.mpr c11
        have H' := Zm H
        clear H
        have hnb24 := NB207_208.out
        have hnc24 := NB208_207.out
        have hcz25_0 : w5.cell? ⟨gb207, 0, none⟩ = some (.slice A0_0 l0_0.length c0_0) := (Zkc BK207.out 0).trans rfl
        have hcz25_1 : w5.cell? ⟨gb207, 1, none⟩ = some (.int .i64 a0_1) := (Zkc BK207.out 1).trans rfl
        have hcz25_2 : w5.cell? ⟨gb207, 2, none⟩ = some (.slice A0_2 l0_2.length c0_2) := (Zkc BK207.out 2).trans rfl
        have hcz25_3 : w5.cell? ⟨gb207, 3, none⟩ = some (.slice A0_3 l0_3.length c0_3) := (Zkc BK207.out 3).trans rfl
        have hcz25_4 : w5.cell? ⟨gb207, 4, none⟩ = some (.bool a0_4) := (Zkc BK207.out 4).trans rfl
        have hcz25_5 : w5.cell? ⟨gb207, 5, none⟩ = some (.int .i64 a0_5) := (Zkc BK207.out 5).trans rfl
        have hcz25_6 : w5.cell? ⟨gb207, 6, none⟩ = some (.string a0_6) := (Zkc BK207.out 6).trans rfl
        have hcz25_7 : w5.cell? ⟨gb207, 7, none⟩ = some (.int .i64 a0_7) := (Zkc BK207.out 7).trans rfl
        have hcz26_0 : w5.cell? ⟨gb208, 0, none⟩ = some (.slice A1_0 l1_0.length c1_0) := (Zkc BK208.out 0).trans rfl
        have hcz26_1 : w5.cell? ⟨gb208, 1, none⟩ = some (.int .i64 a1_1) := (Zkc BK208.out 1).trans rfl
        have hcz26_2 : w5.cell? ⟨gb208, 2, none⟩ = some (.slice A1_2 l1_2.length c1_2) := (Zkc BK208.out 2).trans rfl
        have hcz26_3 : w5.cell? ⟨gb208, 3, none⟩ = some (.slice A1_3 l1_3.length c1_3) := (Zkc BK208.out 3).trans rfl
        have hcz26_4 : w5.cell? ⟨gb208, 4, none⟩ = some (.bool a1_4) := (Zkc BK208.out 4).trans rfl
        have hcz26_5 : w5.cell? ⟨gb208, 5, none⟩ = some (.int .i64 a1_5) := (Zkc BK208.out 5).trans rfl
        have hcz26_6 : w5.cell? ⟨gb208, 6, none⟩ = some (.string a1_6) := (Zkc BK208.out 6).trans rfl
        have hcz26_7 : w5.cell? ⟨gb208, 7, none⟩ = some (.int .i64 a1_7) := (Zkc BK208.out 7).trans rfl
        go_wp2
        go_meet
        case rel => exact ⟨_, (true), (by first | rfl | (simp; done) | (simp [*]; done)), H', ⟨by first | omega | exact Nat.le_refl _⟩, ⟨by (with_reducible repeat (first | refine Zkn ?_ _ | refine Zkd ?_ | refine Zka ?_ _)); exact BK207.out⟩, ⟨by (with_reducible repeat (first | refine Zkn ?_ _ | refine Zkd ?_ | refine Zka ?_ _)); exact BK208.out⟩, ⟨by repeat (first | (with_reducible first | exact HB.out | apply Zba | apply Zbn | apply Zbd | refine Zbs ?_ GE207.out | refine Zbs ?_ GE208.out) | exact HB.out)⟩⟩
      rw [if_pos c11] at H
      have c11b0 : (a0_5 == a1_5) = true := beq_iff_eq.mpr c11
      have c11b1 : (a0_5 != a1_5) = false := bne_eq_false_iff_eq.mpr c11
      clear c11
      by_cases c12 : a0_6.toList = a1_6.toList
      rotate_left
      · rw [if_neg c12] at H
        have c12b0 : (a0_6.toList == a1_6.toList) = false := beq_eq_false_iff_ne.mpr c12
        have c12b1 : (a0_6.toList != a1_6.toList) = true := bne_iff_ne.mpr c12
        have H' := Zm H
        clear H
        have hnb21 := NB207_208.out
        have hnc21 := NB208_207.out
        have hcz22_0 : w5.cell? ⟨gb207, 0, none⟩ = some (.slice A0_0 l0_0.length c0_0) := (Zkc BK207.out 0).trans rfl
        have hcz22_1 : w5.cell? ⟨gb207, 1, none⟩ = some (.int .i64 a0_1) := (Zkc BK207.out 1).trans rfl
        have hcz22_2 : w5.cell? ⟨gb207, 2, none⟩ = some (.slice A0_2 l0_2.length c0_2) := (Zkc BK207.out 2).trans rfl
        have hcz22_3 : w5.cell? ⟨gb207, 3, none⟩ = some (.slice A0_3 l0_3.length c0_3) := (Zkc BK207.out 3).trans rfl
        have hcz22_4 : w5.cell? ⟨gb207, 4, none⟩ = some (.bool a0_4) := (Zkc BK207.out 4).trans rfl
        have hcz22_5 : w5.cell? ⟨gb207, 5, none⟩ = some (.int .i64 a0_5) := (Zkc BK207.out 5).trans rfl
        have hcz22_6 : w5.cell? ⟨gb207, 6, none⟩ = some (.string a0_6) := (Zkc BK207.out 6).trans rfl
        have hcz22_7 : w5.cell? ⟨gb207, 7, none⟩ = some (.int .i64 a0_7) := (Zkc BK207.out 7).trans rfl
        have hcz23_0 : w5.cell? ⟨gb208, 0, none⟩ = some (.slice A1_0 l1_0.length c1_0) := (Zkc BK208.out 0).trans rfl
        have hcz23_1 : w5.cell? ⟨gb208, 1, none⟩ = some (.int .i64 a1_1) := (Zkc BK208.out 1).trans rfl
        have hcz23_2 : w5.cell? ⟨gb208, 2, none⟩ = some (.slice A1_2 l1_2.length c1_2) := (Zkc BK208.out 2).trans rfl
        have hcz23_3 : w5.cell? ⟨gb208, 3, none⟩ = some (.slice A1_3 l1_3.length c1_3) := (Zkc BK208.out 3).trans rfl
        have hcz23_4 : w5.cell? ⟨gb208, 4, none⟩ = some (.bool a1_4) := (Zkc BK208.out 4).trans rfl
        have hcz23_5 : w5.cell? ⟨gb208, 5, none⟩ = some (.int .i64 a1_5) := (Zkc BK208.out 5).trans rfl
        have hcz23_6 : w5.cell? ⟨gb208, 6, none⟩ = some (.string a1_6) := (Zkc BK208.out 6).trans rfl
        have hcz23_7 : w5.cell? ⟨gb208, 7, none⟩ = some (.int .i64 a1_7) := (Zkc BK208.out 7).trans rfl
        go_wp2
        go_meet
        case rel => exact ⟨_, (true), (by first | rfl | (simp; done) | (simp [*]; done)), H', ⟨by first | omega | exact Nat.le_refl _⟩, ⟨by (with_reducible repeat (first | refine Zkn ?_ _ | refine Zkd ?_ | refine Zka ?_ _)); exact BK207.out⟩, ⟨by (with_reducible repeat (first | refine Zkn ?_ _ | refine Zkd ?_ | refine Zka ?_ _)); exact BK208.out⟩, ⟨by repeat (first | (with_reducible first | exact HB.out | apply Zba | apply Zbn | apply Zbd | refine Zbs ?_ GE207.out | refine Zbs ?_ GE208.out) | exact HB.out)⟩⟩
      rw [if_pos c12] at H
      have c12b0 : (a0_6.toList == a1_6.toList) = true := beq_iff_eq.mpr c12
      have c12b1 : (a0_6.toList != a1_6.toList) = false := bne_eq_false_iff_eq.mpr c12
      clear c12
      by_cases c13 : a0_7 = a1_7
      rotate_left
      · rw [if_neg c13] at H
        have c13b0 : (a0_7 == a1_7) = false := beq_eq_false_iff_ne.mpr c13
        have c13b1 : (a0_7 != a1_7) = true := bne_iff_ne.mpr c13
        have H' := Zm H
        clear H
        have hnb18 := NB207_208.out
        have hnc18 := NB208_207.out
        have hcz19_0 : w5.cell? ⟨gb207, 0, none⟩ = some (.slice A0_0 l0_0.length c0_0) := (Zkc BK207.out 0).trans rfl
        have hcz19_1 : w5.cell? ⟨gb207, 1, none⟩ = some (.int .i64 a0_1) := (Zkc BK207.out 1).trans rfl
        have hcz19_2 : w5.cell? ⟨gb207, 2, none⟩ = some (.slice A0_2 l0_2.length c0_2) := (Zkc BK207.out 2).trans rfl
        have hcz19_3 : w5.cell? ⟨gb207, 3, none⟩ = some (.slice A0_3 l0_3.length c0_3) := (Zkc BK207.out 3).trans rfl
        have hcz19_4 : w5.cell? ⟨gb207, 4, none⟩ = some (.bool a0_4) := (Zkc BK207.out 4).trans rfl
        have hcz19_5 : w5.cell? ⟨gb207, 5, none⟩ = some (.int .i64 a0_5) := (Zkc BK207.out 5).trans rfl
        have hcz19_6 : w5.cell? ⟨gb207, 6, none⟩ = some (.string a0_6) := (Zkc BK207.out 6).trans rfl
        have hcz19_7 : w5.cell? ⟨gb207, 7, none⟩ = some (.int .i64 a0_7) := (Zkc BK207.out 7).trans rfl
        have hcz20_0 : w5.cell? ⟨gb208, 0, none⟩ = some (.slice A1_0 l1_0.length c1_0) := (Zkc BK208.out 0).trans rfl
        have hcz20_1 : w5.cell? ⟨gb208, 1, none⟩ = some (.int .i64 a1_1) := (Zkc BK208.out 1).trans rfl
        have hcz20_2 : w5.cell? ⟨gb208, 2, none⟩ = some (.slice A1_2 l1_2.length c1_2) := (Zkc BK208.out 2).trans rfl
        have hcz20_3 : w5.cell? ⟨gb208, 3, none⟩ = some (.slice A1_3 l1_3.length c1_3) := (Zkc BK208.out 3).trans rfl
        have hcz20_4 : w5.cell? ⟨gb208, 4, none⟩ = some (.bool a1_4) := (Zkc BK208.out 4).trans rfl
        have hcz20_5 : w5.cell? ⟨gb208, 5, none⟩ = some (.int .i64 a1_5) := (Zkc BK208.out 5).trans rfl
        have hcz20_6 : w5.cell? ⟨gb208, 6, none⟩ = some (.string a1_6) := (Zkc BK208.out 6).trans rfl
        have hcz20_7 : w5.cell? ⟨gb208, 7, none⟩ = some (.int .i64 a1_7) := (Zkc BK208.out 7).trans rfl
        go_wp2
        go_meet
        case rel => exact ⟨_, (true), (by first | rfl | (simp; done) | (simp [*]; done)), H', ⟨by first | omega | exact Nat.le_refl _⟩, ⟨by (with_reducible repeat (first | refine Zkn ?_ _ | refine Zkd ?_ | refine Zka ?_ _)); exact BK207.out⟩, ⟨by (with_reducible repeat (first | refine Zkn ?_ _ | refine Zkd ?_ | refine Zka ?_ _)); exact BK208.out⟩, ⟨by repeat (first | (with_reducible first | exact HB.out | apply Zba | apply Zbn | apply Zbd | refine Zbs ?_ GE207.out | refine Zbs ?_ GE208.out) | exact HB.out)⟩⟩
      rw [if_pos c13] at H
      have c13b0 : (a0_7 == a1_7) = true := beq_iff_eq.mpr c13
      have c13b1 : (a0_7 != a1_7) = false := bne_eq_false_iff_eq.mpr c13
      clear c13
      replace H := Option.bind_eq_some_iff.mp H
      obtain ⟨t209, A140, H⟩ := H
      replace H : (impl_BareSame.j0 k (!t209) l0_0 a0_1 l0_2 l0_3 a0_4 a0_5 a0_6 a0_7 l1_0 a1_1 l1_2 l1_3 a1_4 a1_5 a1_6 a1_7) = some r := H
      have A14 := Zm A140
      clear A140
      have H' := Zm H
      clear H
      have hnb15 := NB207_208.out
      have hnc15 := NB208_207.out
      have hcz16_0 : w5.cell? ⟨gb207, 0, none⟩ = some (.slice A0_0 l0_0.length c0_0) := (Zkc BK207.out 0).trans rfl
      have hcz16_1 : w5.cell? ⟨gb207, 1, none⟩ = some (.int .i64 a0_1) := (Zkc BK207.out 1).trans rfl
      have hcz16_2 : w5.cell? ⟨gb207, 2, none⟩ = some (.slice A0_2 l0_2.length c0_2) := (Zkc BK207.out 2).trans rfl
      have hcz16_3 : w5.cell? ⟨gb207, 3, none⟩ = some (.slice A0_3 l0_3.length c0_3) := (Zkc BK207.out 3).trans rfl
      have hcz16_4 : w5.cell? ⟨gb207, 4, none⟩ = some (.bool a0_4) := (Zkc BK207.out 4).trans rfl
      have hcz16_5 : w5.cell? ⟨gb207, 5, none⟩ = some (.int .i64 a0_5) := (Zkc BK207.out 5).trans rfl
      have hcz16_6 : w5.cell? ⟨gb207, 6, none⟩ = some (.string a0_6) := (Zkc BK207.out 6).trans rfl
      have hcz16_7 : w5.cell? ⟨gb207, 7, none⟩ = some (.int .i64 a0_7) := (Zkc BK207.out 7).trans rfl
      have hcz17_0 : w5.cell? ⟨gb208, 0, none⟩ = some (.slice A1_0 l1_0.length c1_0) := (Zkc BK208.out 0).trans rfl
      have hcz17_1 : w5.cell? ⟨gb208, 1, none⟩ = some (.int .i64 a1_1) := (Zkc BK208.out 1).trans rfl
      have hcz17_2 : w5.cell? ⟨gb208, 2, none⟩ = some (.slice A1_2 l1_2.length c1_2) := (Zkc BK208.out 2).trans rfl
      have hcz17_3 : w5.cell? ⟨gb208, 3, none⟩ = some (.slice A1_3 l1_3.length c1_3) := (Zkc BK208.out 3).trans rfl
      have hcz17_4 : w5.cell? ⟨gb208, 4, none⟩ = some (.bool a1_4) := (Zkc BK208.out 4).trans rfl
      have hcz17_5 : w5.cell? ⟨gb208, 5, none⟩ = some (.int .i64 a1_5) := (Zkc BK208.out 5).trans rfl
      have hcz17_6 : w5.cell? ⟨gb208, 6, none⟩ = some (.string a1_6) := (Zkc BK208.out 6).trans rfl
      have hcz17_7 : w5.cell? ⟨gb208, 7, none⟩ = some (.int .i64 a1_7) := (Zkc BK208.out 7).trans rfl
      go_wp2_with (first | (go_at_call 56; (first | (with_reducible refine (slices_Equal_int64_int64.calls k _ _ l0_2 _ _ l1_2 t209 _ ?side1 ?side2 ?side3 ?side4 A14.out).mono ?_) | (with_reducible refine (calls_of_args ?_ (slices_Equal_int64_int64.calls k _ _ l0_2 _ _ l1_2 t209 _ ?side1 ?side2 ?side3 ?side4 A14.out)).mono ?_; focus (simp [*]; done))); (case side1 => repeat (first | exact (Kd.C_below HR0_2.out HB.out) | (with_reducible refine Kd.C_alloc ?_ _) | (with_reducible refine Kd.C_drewN ?_ _) | (with_reducible refine Kd.C_drew ?_))); (case side2 => exact HC0_2.out); (case side3 => repeat (first | exact (Kd.C_below HR1_2.out HB.out) | (with_reducible refine Kd.C_alloc ?_ _) | (with_reducible refine Kd.C_drewN ?_ _) | (with_reducible refine Kd.C_drew ?_))); (case side4 => exact HC1_2.out); rintro e w' ⟨rfl, ⟨nd, rfl⟩⟩))
      go_meet
      case rel => exact ⟨_, (!t209), (by first | rfl | (simp; done) | (simp [*]; done)), H', ⟨by first | omega | exact Nat.le_refl _⟩, ⟨by (with_reducible repeat (first | refine Zkn ?_ _ | refine Zkd ?_ | refine Zka ?_ _)); exact BK207.out⟩, ⟨by (with_reducible repeat (first | refine Zkn ?_ _ | refine Zkd ?_ | refine Zka ?_ _)); exact BK208.out⟩, ⟨by repeat (first | (with_reducible first | exact HB.out | apply Zba | apply Zbn | apply Zbd | refine Zbs ?_ GE207.out | refine Zbs ?_ GE208.out) | exact HB.out)⟩⟩
    rw [if_pos c7] at H
    have c7b0 : (a0_4 != a1_4) = true := c7
    (try (have c7b1 : decide (a0_4 = a1_4) = false := by simpa using c7))
    (try (have c7b2 : (a0_4 == a1_4) = false := by simpa using c7))
    (try (have c7b3 : ¬ (a0_4 = a1_4) := by simpa using c7))
    clear c7
    have H' := Zm H
    clear H
    have hnb8 := NB207_208.out
    have hnc8 := NB208_207.out
    have hcz9_0 : w5.cell? ⟨gb207, 0, none⟩ = some (.slice A0_0 l0_0.length c0_0) := (Zkc BK207.out 0).trans rfl
    have hcz9_1 : w5.cell? ⟨gb207, 1, none⟩ = some (.int .i64 a0_1) := (Zkc BK207.out 1).trans rfl
    have hcz9_2 : w5.cell? ⟨gb207, 2, none⟩ = some (.slice A0_2 l0_2.length c0_2) := (Zkc BK207.out 2).trans rfl
    have hcz9_3 : w5.cell? ⟨gb207, 3, none⟩ = some (.slice A0_3 l0_3.length c0_3) := (Zkc BK207.out 3).trans rfl
    have hcz9_4 : w5.cell? ⟨gb207, 4, none⟩ = some (.bool a0_4) := (Zkc BK207.out 4).trans rfl
    have hcz9_5 : w5.cell? ⟨gb207, 5, none⟩ = some (.int .i64 a0_5) := (Zkc BK207.out 5).trans rfl
    have hcz9_6 : w5.cell? ⟨gb207, 6, none⟩ = some (.string a0_6) := (Zkc BK207.out 6).trans rfl
    have hcz9_7 : w5.cell? ⟨gb207, 7, none⟩ = some (.int .i64 a0_7) := (Zkc BK207.out 7).trans rfl
    have hcz10_0 : w5.cell? ⟨gb208, 0, none⟩ = some (.slice A1_0 l1_0.length c1_0) := (Zkc BK208.out 0).trans rfl
    have hcz10_1 : w5.cell? ⟨gb208, 1, none⟩ = some (.int .i64 a1_1) := (Zkc BK208.out 1).trans rfl
    have hcz10_2 : w5.cell? ⟨gb208, 2, none⟩ = some (.slice A1_2 l1_2.length c1_2) := (Zkc BK208.out 2).trans rfl
    have hcz10_3 : w5.cell? ⟨gb208, 3, none⟩ = some (.slice A1_3 l1_3.length c1_3) := (Zkc BK208.out 3).trans rfl
    have hcz10_4 : w5.cell? ⟨gb208, 4, none⟩ = some (.bool a1_4) := (Zkc BK208.out 4).trans rfl
    have hcz10_5 : w5.cell? ⟨gb208, 5, none⟩ = some (.int .i64 a1_5) := (Zkc BK208.out 5).trans rfl
    have hcz10_6 : w5.cell? ⟨gb208, 6, none⟩ = some (.string a1_6) := (Zkc BK208.out 6).trans rfl
    have hcz10_7 : w5.cell? ⟨gb208, 7, none⟩ = some (.int .i64 a1_7) := (Zkc BK208.out 7).trans rfl
    go_wp2
    go_meet
    case rel => exact ⟨_, (true), (by first | rfl | (simp; done) | (simp [*]; done)), H', ⟨by first | omega | exact Nat.le_refl _⟩, ⟨by (with_reducible repeat (first | refine Zkn ?_ _ | refine Zkd ?_ | refine Zka ?_ _)); exact BK207.out⟩, ⟨by (with_reducible repeat (first | refine Zkn ?_ _ | refine Zkd ?_ | refine Zka ?_ _)); exact BK208.out⟩, ⟨by repeat (first | (with_reducible first | exact HB.out | apply Zba | apply Zbn | apply Zbd | refine Zbs ?_ GE207.out | refine Zbs ?_ GE208.out) | exact HB.out)⟩⟩
  case rest =>
    clear HC3
    (try clear c1); (try clear c2); (try clear p2); (try clear c6); (try clear c6b0); (try clear c6b1); (try clear c7); (try clear c7b0); (try clear c7b1); (try clear c7b2); (try clear c8); (try clear c11); (try clear c11b0); (try clear c11b1); (try clear c12); (try clear c12b0); (try clear c12b1); (try clear c13); (try clear c13b0); (try clear c13b1); (try clear c15); (try clear c18); (try clear c21); (try clear c24); (try clear c27); (try clear hcz10_0); (try clear hcz10_1); (try clear hcz10_2); (try clear hcz10_3); (try clear hcz10_4); (try clear hcz10_5); (try clear hcz10_6); (try clear hcz10_7); (try clear hcz16_0); (try clear hcz16_1); (try clear hcz16_2); (try clear hcz16_3); (try clear hcz16_4); (try clear hcz16_5); (try clear hcz16_6); (try clear hcz16_7); (try clear hcz17_0); (try clear hcz17_1); (try clear hcz17_2); (try clear hcz17_3); (try clear hcz17_4); (try clear hcz17_5); (try clear hcz17_6); (try clear hcz17_7); (try clear hcz19_0); (try clear hcz19_1); (try clear hcz19_2); (try clear hcz19_3); (try clear hcz19_4); (try clear hcz19_5); (try clear hcz19_6); (try clear hcz19_7); (try clear hcz20_0); (try clear hcz20_1); (try clear hcz20_2); (try clear hcz20_3); (try clear hcz20_4); (try clear hcz20_5); (try clear hcz20_6); (try clear hcz20_7); (try clear hcz22_0); (try clear hcz22_1); (try clear hcz22_2); (try clear hcz22_3); (try clear hcz22_4); (try clear hcz22_5); (try clear hcz22_6); (try clear hcz22_7); (try clear hcz23_0); (try clear hcz23_1); (try clear hcz23_2); (try clear hcz23_3); (try clear hcz23_4); (try clear hcz23_5); (try clear hcz23_6); (try clear hcz23_7); (try clear hcz25_0); (try clear hcz25_1); (try clear hcz25_2); (try clear hcz25_3); (try clear hcz25_4); (try clear hcz25_5); (try clear hcz25_6); (try clear hcz25_7); (try clear hcz26_0); (try clear hcz26_1); (try clear hcz26_2); (try clear hcz26_3); (try clear hcz26_4); (try clear hcz26_5); (try clear hcz26_6); (try clear hcz26_7); (try clear hcz28_0); (try clear hcz28_1); (try clear hcz28_2); (try clear hcz28_3); (try clear hcz28_4); (try clear hcz28_5); (try clear hcz28_6); (try clear hcz28_7); (try clear hcz29_0); (try clear hcz29_1); (try clear hcz29_2); (try clear hcz29_3); (try clear hcz29_4); (try clear hcz29_5); (try clear hcz29_6); (try clear hcz29_7); (try clear hcz9_0); (try clear hcz9_1); (try clear hcz9_2); (try clear hcz9_3); (try clear hcz9_4); (try clear hcz9_5); (try clear hcz9_6); (try clear hcz9_7)
    obtain ⟨kq, x46_2, rfl, HA, HJ2, BK207, BK208, HB⟩ := hcut
    cases kq with
    | zero => exact absurd HA.out (by simp [impl_BareSame.j0])
    | succ kj2 =>
      have H := HA.out
      clear HA
      simp only [impl_BareSame.j0] at H
      by_cases c30 : x46_2 = true
      rotate_left
      · replace c30 := Bool.eq_false_iff.mpr c30
        subst c30
        have H1 : ((impl_BareObj.f kj2 l0_0 l1_0).bind fun t210 => (if t210 = true then ((impl_BareAct.f kj2 l0_3 l1_3).bind fun t211 => (some t211)) else (some false))) = some r := by rw [if_neg (show ¬ (false = true) by decide)] at H; exact H
        clear H
        have H := H1
        clear H1
        replace H := Option.bind_eq_some_iff.mp H
        obtain ⟨t210, A310, H⟩ := H
        replace H : (if t210 = true then ((impl_BareAct.f kj2 l0_3 l1_3).bind fun t211 => (some t211)) else (some false)) = some r := H
        have A31 := Zm A310
        clear A310
        by_cases c32 : t210 = true
        rotate_left
        · replace c32 := Bool.eq_false_iff.mpr c32
          subst c32
          have H1 : (some false) = some r := by rw [if_neg (show ¬ (false = true) by decide)] at H; exact H
          clear H
          have H := H1
          clear H1
          obtain rfl := Option.some.inj H
          have hnb41 := NB207_208.out
          have hnc41 := NB208_207.out
          have hcz42_0 : wc.cell? ⟨gb207, 0, none⟩ = some (.slice A0_0 l0_0.length c0_0) := (Zkc BK207.out 0).trans rfl
          have hcz42_1 : wc.cell? ⟨gb207, 1, none⟩ = some (.int .i64 a0_1) := (Zkc BK207.out 1).trans rfl
          have hcz42_2 : wc.cell? ⟨gb207, 2, none⟩ = some (.slice A0_2 l0_2.length c0_2) := (Zkc BK207.out 2).trans rfl
          have hcz42_3 : wc.cell? ⟨gb207, 3, none⟩ = some (.slice A0_3 l0_3.length c0_3) := (Zkc BK207.out 3).trans rfl
          have hcz42_4 : wc.cell? ⟨gb207, 4, none⟩ = some (.bool a0_4) := (Zkc BK207.out 4).trans rfl
          have hcz42_5 : wc.cell? ⟨gb207, 5, none⟩ = some (.int .i64 a0_5) := (Zkc BK207.out 5).trans rfl
          have hcz42_6 : wc.cell? ⟨gb207, 6, none⟩ = some (.string a0_6) := (Zkc BK207.out 6).trans rfl
          have hcz42_7 : wc.cell? ⟨gb207, 7, none⟩ = some (.int .i64 a0_7) := (Zkc BK207.out 7).trans rfl
          have hcz43_0 : wc.cell? ⟨gb208, 0, none⟩ = some (.slice A1_0 l1_0.length c1_0) := (Zkc BK208.out 0).trans rfl
          have hcz43_1 : wc.cell? ⟨gb208, 1, none⟩ = some (.int .i64 a1_1) := (Zkc BK208.out 1).trans rfl
          have hcz43_2 : wc.cell? ⟨gb208, 2, none⟩ = some (.slice A1_2 l1_2.length c1_2) := (Zkc BK208.out 2).trans rfl
          have hcz43_3 : wc.cell? ⟨gb208, 3, none⟩ = some (.slice A1_3 l1_3.length c1_3) := (Zkc BK208.out 3).trans rfl
          have hcz43_4 : wc.cell? ⟨gb208, 4, none⟩ = some (.bool a1_4) := (Zkc BK208.out 4).trans rfl
          have hcz43_5 : wc.cell? ⟨gb208, 5, none⟩ = some (.int .i64 a1_5) := (Zkc BK208.out 5).trans rfl
          have hcz43_6 : wc.cell? ⟨gb208, 6, none⟩ = some (.string a1_6) := (Zkc BK208.out 6).trans rfl
          have hcz43_7 : wc.cell? ⟨gb208, 7, none⟩ = some (.int .i64 a1_7) := (Zkc BK208.out 7).trans rfl
          (try clear BK207)
          (try clear BK208)
          go_wp2_with (first | (go_at_call 57; (first | (with_reducible refine (impl_BareObj.calls kj2 _ _ l0_0 _ _ l1_0 false _ ?side1 ?side2 ?side3 ?side4 A31.out).mono ?_) | (with_reducible refine (calls_of_args ?_ (impl_BareObj.calls kj2 _ _ l0_0 _ _ l1_0 false _ ?side1 ?side2 ?side3 ?side4 A31.out)).mono ?_; focus (simp [*]; done))); (case side1 => repeat (first | exact (Kd.C_below HR0_0.out HB.out) | (with_reducible refine Kd.C_alloc ?_ _) | (with_reducible refine Kd.C_drewN ?_ _) | (with_reducible refine Kd.C_drew ?_))); (case side2 => exact HC0_0.out); (case side3 => repeat (first | exact (Kd.C_below HR1_0.out HB.out) | (with_reducible refine Kd.C_alloc ?_ _) | (with_reducible refine Kd.C_drewN ?_ _) | (with_reducible refine Kd.C_drew ?_))); (case side4 => exact HC1_0.out); rintro e w44 ⟨rfl, hb⟩; have n0_ := Zm (Zbt (by repeat (first | (with_reducible first | exact HB.out | apply Zba | apply Zbn | apply Zbd) | exact HB.out)) hb); clear HB; have HB := n0_; clear n0_; (try clear hb); (try clear hb2); (try clear hk); (try clear hi)))
          go_ret
          exact ⟨by first | rfl | (simp [errW_none, errW_some] <;> rfl) | (simp [*, errW_none, errW_some] <;> rfl), by repeat (first | (with_reducible first | exact HB.out | apply Zba | apply Zbn | apply Zbd) | exact HB.out)⟩

        subst c32
        have H1 : ((impl_BareAct.f kj2 l0_3 l1_3).bind fun t211 => (some t211)) = some r := by rw [if_pos rfl] at H; exact H
        clear H
        have H := H1
        clear H1
        replace H := Option.bind_eq_some_iff.mp H
        obtain ⟨t211, A330, H⟩ := H
        replace H : (some t211) = some r := H
        have A33 := Zm A330
        clear A330
        obtain rfl := Option.some.inj H
        have hnb34 := NB207_208.out
        have hnc34 := NB208_207.out
        have hcz35_0 : wc.cell? ⟨gb207, 0, none⟩ = some (.slice A0_0 l0_0.length c0_0) := (Zkc BK207.out 0).trans rfl
        have hcz35_1 : wc.cell? ⟨gb207, 1, none⟩ = some (.int .i64 a0_1) := (Zkc BK207.out 1).trans rfl
        have hcz35_2 : wc.cell? ⟨gb207, 2, none⟩ = some (.slice A0_2 l0_2.length c0_2) := (Zkc BK207.out 2).trans rfl
        have hcz35_3 : wc.cell? ⟨gb207, 3, none⟩ = some (.slice A0_3 l0_3.length c0_3) := (Zkc BK207.out 3).trans rfl
        have hcz35_4 : wc.cell? ⟨gb207, 4, none⟩ = some (.bool a0_4) := (Zkc BK207.out 4).trans rfl
        have hcz35_5 : wc.cell? ⟨gb207, 5, none⟩ = some (.int .i64 a0_5) := (Zkc BK207.out 5).trans rfl
        have hcz35_6 : wc.cell? ⟨gb207, 6, none⟩ = some (.string a0_6) := (Zkc BK207.out 6).trans rfl
        have hcz35_7 : wc.cell? ⟨gb207, 7, none⟩ = some (.int .i64 a0_7) := (Zkc BK207.out 7).trans rfl
        have hcz36_0 : wc.cell? ⟨gb208, 0, none⟩ = some (.slice A1_0 l1_0.length c1_0) := (Zkc BK208.out 0).trans rfl
        have hcz36_1 : wc.cell? ⟨gb208, 1, none⟩ = some (.int .i64 a1_1) := (Zkc BK208.out 1).trans rfl
        have hcz36_2 : wc.cell? ⟨gb208, 2, none⟩ = some (.slice A1_2 l1_2.length c1_2) := (Zkc BK208.out 2).trans rfl
        have hcz36_3 : wc.cell? ⟨gb208, 3, none⟩ = some (.slice A1_3 l1_3.length c1_3) := (Zkc BK208.out 3).trans rfl
        have hcz36_4 : wc.cell? ⟨gb208, 4, none⟩ = some (.bool a1_4) := (Zkc BK208.out 4).trans rfl
        have hcz36_5 : wc.cell? ⟨gb208, 5, none⟩ = some (.int .i64 a1_5) := (Zkc BK208.out 5).trans rfl
        have hcz36_6 : wc.cell? ⟨gb208, 6, none⟩ = some (.string a1_6) := (Zkc BK208.out 6).trans rfl
        have hcz36_7 : wc.cell? ⟨gb208, 7, none⟩ = some (.int .i64 a1_7) := (Zkc BK208.out 7).trans rfl
        go_wp2_with (first | (go_at_call 57; (first | (with_reducible refine (impl_BareObj.calls kj2 _ _ l0_0 _ _ l1_0 true _ ?side1 ?side2 ?side3 ?side4 A31.out).mono ?_) | (with_reducible refine (calls_of_args ?_ (impl_BareObj.calls kj2 _ _ l0_0 _ _ l1_0 true _ ?side1 ?side2 ?side3 ?side4 A31.out)).mono ?_; focus (simp [*]; done))); (case side1 => repeat (first | exact (Kd.C_below HR0_0.out HB.out) | (with_reducible refine Kd.C_alloc ?_ _) | (with_reducible refine Kd.C_drewN ?_ _) | (with_reducible refine Kd.C_drew ?_))); (case side2 => exact HC0_0.out); (case side3 => repeat (first | exact (Kd.C_below HR1_0.out HB.out) | (with_reducible refine Kd.C_alloc ?_ _) | (with_reducible refine Kd.C_drewN ?_ _) | (with_reducible refine Kd.C_drew ?_))); (case side4 => exact HC1_0.out); rintro e w37 ⟨rfl, hb⟩; have n0_ := Zm (Zkb (g := gb207) (o := .cells #[.slice A0_0 l0_0.length c0_0, .int .i64 a0_1, .slice A0_2 l0_2.length c0_2, .slice A0_3 l0_3.length c0_3, .bool a0_4, .int .i64 a0_5, .string a0_6, .int .i64 a0_7] 39 (0, 0)) (by (with_reducible repeat (first | refine Zkn ?_ _ | refine Zkd ?_ | refine Zka ?_ _)); exact BK207.out) hb); have n1_ := Zm (Zkb (g := gb208) (o := .cells #[.slice A1_0 l1_0.length c1_0, .int .i64 a1_1, .slice A1_2 l1_2.length c1_2, .slice A1_3 l1_3.length c1_3, .bool a1_4, .int .i64 a1_5, .string a1_6, .int .i64 a1_7] 39 (0, 0)) (by (with_reducible repeat (first | refine Zkn ?_ _ | refine Zkd ?_ | refine Zka ?_ _)); exact BK208.out) hb); have n2_ := Zm (Zbt (by repeat (first | (with_reducible first | exact HB.out | apply Zba | apply Zbn | apply Zbd | refine Zbs ?_ GE207.out | refine Zbs ?_ GE208.out) | exact HB.out)) hb); clear BK207; clear BK208; clear HB; have BK207 := n0_; have BK208 := n1_; have HB := n2_; clear n0_ n1_ n2_; (try clear hb); (try clear hb2); (try clear hk); (try clear hi); have hcz38_0 : w37.cell? ⟨gb207, 0, none⟩ = some (.slice A0_0 l0_0.length c0_0) := (Zkc BK207.out 0).trans rfl; have hcz38_1 : w37.cell? ⟨gb207, 1, none⟩ = some (.int .i64 a0_1) := (Zkc BK207.out 1).trans rfl; have hcz38_2 : w37.cell? ⟨gb207, 2, none⟩ = some (.slice A0_2 l0_2.length c0_2) := (Zkc BK207.out 2).trans rfl; have hcz38_3 : w37.cell? ⟨gb207, 3, none⟩ = some (.slice A0_3 l0_3.length c0_3) := (Zkc BK207.out 3).trans rfl; have hcz38_4 : w37.cell? ⟨gb207, 4, none⟩ = some (.bool a0_4) := (Zkc BK207.out 4).trans rfl; have hcz38_5 : w37.cell? ⟨gb207, 5, none⟩ = some (.int .i64 a0_5) := (Zkc BK207.out 5).trans rfl; have hcz38_6 : w37.cell? ⟨gb207, 6, none⟩ = some (.string a0_6) := (Zkc BK207.out 6).trans rfl; have hcz38_7 : w37.cell? ⟨gb207, 7, none⟩ = some (.int .i64 a0_7) := (Zkc BK207.out 7).trans rfl; have hcz39_0 : w37.cell? ⟨gb208, 0, none⟩ = some (.slice A1_0 l1_0.length c1_0) := (Zkc BK208.out 0).trans rfl; have hcz39_1 : w37.cell? ⟨gb208, 1, none⟩ = some (.int .i64 a1_1) := (Zkc BK208.out 1).trans rfl; have hcz39_2 : w37.cell? ⟨gb208, 2, none⟩ = some (.slice A1_2 l1_2.length c1_2) := (Zkc BK208.out 2).trans rfl; have hcz39_3 : w37.cell? ⟨gb208, 3, none⟩ = some (.slice A1_3 l1_3.length c1_3) := (Zkc BK208.out 3).trans rfl; have hcz39_4 : w37.cell? ⟨gb208, 4, none⟩ = some (.bool a1_4) := (Zkc BK208.out 4).trans rfl; have hcz39_5 : w37.cell? ⟨gb208, 5, none⟩ = some (.int .i64 a1_5) := (Zkc BK208.out 5).trans rfl; have hcz39_6 : w37.cell? ⟨gb208, 6, none⟩ = some (.string a1_6) := (Zkc BK208.out 6).trans rfl; have hcz39_7 : w37.cell? ⟨gb208, 7, none⟩ = some (.int .i64 a1_7) := (Zkc BK208.out 7).trans rfl; (try clear BK207); (try clear BK208)) | (go_at_call 59; (first | (with_reducible refine (impl_BareAct.calls kj2 _ _ l0_3 _ _ l1_3 t211 _ ?side1 ?side2 ?side3 ?side4 A33.out).mono ?_) | (with_reducible refine (calls_of_args ?_ (impl_BareAct.calls kj2 _ _ l0_3 _ _ l1_3 t211 _ ?side1 ?side2 ?side3 ?side4 A33.out)).mono ?_; focus (simp [*]; done))); (case side1 => repeat (first | exact (Kd.C_below HR0_3.out HB.out) | (with_reducible refine Kd.C_alloc ?_ _) | (with_reducible refine Kd.C_drewN ?_ _) | (with_reducible refine Kd.C_drew ?_))); (case side2 => exact HC0_3.out); (case side3 => repeat (first | exact (Kd.C_below HR1_3.out HB.out) | (with_reducible refine Kd.C_alloc ?_ _) | (with_reducible refine Kd.C_drewN ?_ _) | (with_reducible refine Kd.C_drew ?_))); (case side4 => exact HC1_3.out); rintro e w40 ⟨rfl, hb⟩; have n0_ := Zm (Zbt (by repeat (first | (with_reducible first | exact HB.out | apply Zba | apply Zbn | apply Zbd) | exact HB.out)) hb); clear HB; have HB := n0_; clear n0_; (try clear hb); (try clear hb2); (try clear hk); (try clear hi)))
        go_ret
        exact ⟨by first | rfl | (simp [errW_none, errW_some] <;> rfl) | (simp [*, errW_none, errW_some] <;> rfl), by repeat (first | (with_reducible first | exact HB.out | apply Zba | apply Zbn | apply Zbd) | exact HB.out)⟩
      subst c30
      have H1 : (some false) = some r := by rw [if_pos rfl] at H; exact H
      clear H
      have H := H1
      clear H1
      obtain rfl := Option.some.inj H
      go_wp2
      go_ret
      exact ⟨by first | rfl | (simp [errW_none, errW_some] <;> rfl) | (simp [*, errW_none, errW_some] <;> rfl), by repeat (first | (with_reducible first | exact HB.out | apply Zba | apply Zbn | apply Zbd | refine Zbs ?_ GE207.out | refine Zbs ?_ GE208.out) | exact HB.out)⟩
end Go.Proofs.Ytlflbmbcjjegaaa.PFnExactBareSame
