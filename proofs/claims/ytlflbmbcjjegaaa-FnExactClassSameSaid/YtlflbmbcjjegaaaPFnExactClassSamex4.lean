/- Functions of the program as plain Lean functions, each with a proof that the program's call comes to the same; no condition. Written by a program of this session. -/
import Derived.Test.YtlflbmbcjjegaaaPFnExactClassSamex0
namespace Go.Proofs.Ytlflbmbcjjegaaa.PFnExactClassSame
open Go.RowKit Go.Proofs.YtlflbmbcjjegaaaW.PrintWords Go.Proofs.YtlflbmbcjjegaaaW.PrintLast Go.Proofs.YtlflbmbcjjegaaaW.PrintMore
open Go.Proofs.YtlflbmbcjjegaaaW.PrintWords renaming below_alloc → Zba, pw_below_drewN → Zbn, below_drew1 → Zbd, below_set → Zbs, below_size → Zbz, below_step → Zbt, blk_drewN → Zkn, blk_drew → Zkd, blk_alloc → Zka, blk_cell → Zkc, blk_frozen → Zkf, blk_below → Zkb
open Go.World renaming block_lt_of_cell? → Zlt
open Go.Proofs.YtlflbmbcjjegaaaW.PrintWords.Aside0 renaming mk → Zm
attribute [local go_sem] max2_int min2_int max_two min_two max_three min_three max_four min_four   -- for this text's walks alone
set_option linter.unusedVariables false
set_option linter.unusedSimpArgs false

/-! ### laws_szField: function 129 -/
def laws_szField.f (a0_0 : ByteArray) (a0_1 : ByteArray) (a0_2 : Bool) (a1 : Int) : Option (Int) := if (wrap64 (a1 - (a0_0.size : Int))) < 0 then (some (-1)) else (if (wrap64 ((wrap64 (a1 - (a0_0.size : Int))) - (a0_1.size : Int))) < 0 then (some (-1)) else (some (wrap64 ((wrap64 (a1 - (a0_0.size : Int))) - (a0_1.size : Int)))))
set_option maxHeartbeats 8000000 in
set_option maxRecDepth 100000 in
theorem laws_szField.calls (a0_0 : ByteArray) (a0_1 : ByteArray) (a0_2 : Bool) (a1 : Int) (r : Int) (w : World) (h : laws_szField.f a0_0 a0_1 a0_2 a1 = some r) :
    Calls Try.prog 129 #[.agg #[.string a0_0, .string a0_1, .bool a0_2], .int .i64 a1] w fun e w' => e = .returned (.int .i64 r) ∧ Below w.heap.size w w' := by
  have hu188 := Try.underlying188
  have HB := Zm (Below.refl w.heap.size w)
  have H : (if (wrap64 (a1 - (a0_0.size : Int))) < 0 then (some (-1)) else (if (wrap64 ((wrap64 (a1 - (a0_0.size : Int))) - (a0_1.size : Int))) < 0 then (some (-1)) else (some (wrap64 ((wrap64 (a1 - (a0_0.size : Int))) - (a0_1.size : Int)))))) = some r := h
  clear h
  by_cases c3 : (wrap64 (a1 - (a0_0.size : Int))) < 0
  rotate_left
  · rw [if_neg c3] at H
    have c3b0 : decide ((wrap64 (a1 - (a0_0.size : Int))) < 0) = false := decide_eq_false c3
    (try (have c3b1 : decide ((IntKind.i64.wrap (a1 - (a0_0.size : Int))) < 0) = false := by simp only [i64_w]; exact (decide_eq_false c3)))
    clear c3
    by_cases c6 : (wrap64 ((wrap64 (a1 - (a0_0.size : Int))) - (a0_1.size : Int))) < 0
    rotate_left
    · rw [if_neg c6] at H
      have c6b0 : decide ((wrap64 ((wrap64 (a1 - (a0_0.size : Int))) - (a0_1.size : Int))) < 0) = false := decide_eq_false c6
      (try (have c6b1 : decide ((IntKind.i64.wrap ((IntKind.i64.wrap (a1 - (a0_0.size : Int))) - (a0_1.size : Int))) < 0) = false := by simp only [i64_w]; exact (decide_eq_false c6)))
      clear c6
      obtain rfl := Option.some.inj H
      go_enter Try.func129, Try.ntmps129
      go_wp2_with (first | ((with_reducible refine gate_dst (N := 2) rfl ?_); refine box_event ?hg (N := 2) ?hd (cs := #[.string a0_0, .string a0_1, .bool a0_2]) (t := 188) ?hr ?_; (case hd => rfl); (case hg => rfl); (case hr => first | (go_simp; done) | (go_simp; rfl)); intro gb101 hg w9 hbox hb; have n0_ := Zm (Zbt (by repeat (first | (with_reducible first | exact HB.out | apply Zba | apply Zbn | apply Zbd) | exact HB.out)) hb); have n1_ := Zm (hbox); have n2_ := Zm ((by rw [hg]; exact (Zbz (by repeat (first | (with_reducible first | exact HB.out | apply Zba | apply Zbn | apply Zbd) | exact HB.out))) : w.heap.size ≤ gb101)); have n3_ := Zm ((by rw [hg]; exact (Zbz (by repeat (first | (with_reducible first | exact HB.out | apply Zba | apply Zbn | apply Zbd) | exact HB.out))) : w.heap.size ≤ gb101)); clear HB; have HB := n0_; have BK101 := n1_; have GW101 := n2_; have GE101 := n3_; clear n0_ n1_ n2_ n3_; clear hb hbox hg; have hcz10_0 : w9.cell? ⟨gb101, 0, none⟩ = some (.string a0_0) := (Zkc BK101.out 0).trans rfl; have hcz10_1 : w9.cell? ⟨gb101, 1, none⟩ = some (.string a0_1) := (Zkc BK101.out 1).trans rfl; have hcz10_2 : w9.cell? ⟨gb101, 2, none⟩ = some (.bool a0_2) := (Zkc BK101.out 2).trans rfl; have hfz10_2 := Zkf BK101.out 2))
      go_ret
      exact ⟨by first | rfl | (simp [errW_none, errW_some] <;> rfl) | (simp [*, errW_none, errW_some] <;> rfl), by repeat (first | (with_reducible first | exact HB.out | apply Zba | apply Zbn | apply Zbd | refine Zbs ?_ GE101.out) | exact HB.out)⟩

    rw [if_pos c6] at H
    have c6b0 : decide ((wrap64 ((wrap64 (a1 - (a0_0.size : Int))) - (a0_1.size : Int))) < 0) = true := decide_eq_true c6
    (try (have c6b1 : decide ((IntKind.i64.wrap ((IntKind.i64.wrap (a1 - (a0_0.size : Int))) - (a0_1.size : Int))) < 0) = true := by simp only [i64_w]; exact (decide_eq_true c6)))
    clear c6
    obtain rfl := Option.some.inj H
    go_enter Try.func129, Try.ntmps129
    go_wp2_with (first | ((with_reducible refine gate_dst (N := 2) rfl ?_); refine box_event ?hg (N := 2) ?hd (cs := #[.string a0_0, .string a0_1, .bool a0_2]) (t := 188) ?hr ?_; (case hd => rfl); (case hg => rfl); (case hr => first | (go_simp; done) | (go_simp; rfl)); intro gb101 hg w7 hbox hb; have n0_ := Zm (Zbt (by repeat (first | (with_reducible first | exact HB.out | apply Zba | apply Zbn | apply Zbd) | exact HB.out)) hb); have n1_ := Zm (hbox); have n2_ := Zm ((by rw [hg]; exact (Zbz (by repeat (first | (with_reducible first | exact HB.out | apply Zba | apply Zbn | apply Zbd) | exact HB.out))) : w.heap.size ≤ gb101)); have n3_ := Zm ((by rw [hg]; exact (Zbz (by repeat (first | (with_reducible first | exact HB.out | apply Zba | apply Zbn | apply Zbd) | exact HB.out))) : w.heap.size ≤ gb101)); clear HB; have HB := n0_; have BK101 := n1_; have GW101 := n2_; have GE101 := n3_; clear n0_ n1_ n2_ n3_; clear hb hbox hg; have hcz8_0 : w7.cell? ⟨gb101, 0, none⟩ = some (.string a0_0) := (Zkc BK101.out 0).trans rfl; have hcz8_1 : w7.cell? ⟨gb101, 1, none⟩ = some (.string a0_1) := (Zkc BK101.out 1).trans rfl; have hcz8_2 : w7.cell? ⟨gb101, 2, none⟩ = some (.bool a0_2) := (Zkc BK101.out 2).trans rfl; have hfz8_2 := Zkf BK101.out 2))
    go_ret
    exact ⟨by first | rfl | (simp [errW_none, errW_some] <;> rfl) | (simp [*, errW_none, errW_some] <;> rfl), by repeat (first | (with_reducible first | exact HB.out | apply Zba | apply Zbn | apply Zbd | refine Zbs ?_ GE101.out) | exact HB.out)⟩
  rw [if_pos c3] at H
  have c3b0 : decide ((wrap64 (a1 - (a0_0.size : Int))) < 0) = true := decide_eq_true c3
  (try (have c3b1 : decide ((IntKind.i64.wrap (a1 - (a0_0.size : Int))) < 0) = true := by simp only [i64_w]; exact (decide_eq_true c3)))
  clear c3
  obtain rfl := Option.some.inj H
  go_enter Try.func129, Try.ntmps129
  go_wp2_with (first | ((with_reducible refine gate_dst (N := 2) rfl ?_); refine box_event ?hg (N := 2) ?hd (cs := #[.string a0_0, .string a0_1, .bool a0_2]) (t := 188) ?hr ?_; (case hd => rfl); (case hg => rfl); (case hr => first | (go_simp; done) | (go_simp; rfl)); intro gb101 hg w4 hbox hb; have n0_ := Zm (Zbt (by repeat (first | (with_reducible first | exact HB.out | apply Zba | apply Zbn | apply Zbd) | exact HB.out)) hb); have n1_ := Zm (hbox); have n2_ := Zm ((by rw [hg]; exact (Zbz (by repeat (first | (with_reducible first | exact HB.out | apply Zba | apply Zbn | apply Zbd) | exact HB.out))) : w.heap.size ≤ gb101)); have n3_ := Zm ((by rw [hg]; exact (Zbz (by repeat (first | (with_reducible first | exact HB.out | apply Zba | apply Zbn | apply Zbd) | exact HB.out))) : w.heap.size ≤ gb101)); clear HB; have HB := n0_; have BK101 := n1_; have GW101 := n2_; have GE101 := n3_; clear n0_ n1_ n2_ n3_; clear hb hbox hg; have hcz5_0 : w4.cell? ⟨gb101, 0, none⟩ = some (.string a0_0) := (Zkc BK101.out 0).trans rfl; have hcz5_1 : w4.cell? ⟨gb101, 1, none⟩ = some (.string a0_1) := (Zkc BK101.out 1).trans rfl; have hcz5_2 : w4.cell? ⟨gb101, 2, none⟩ = some (.bool a0_2) := (Zkc BK101.out 2).trans rfl; have hfz5_2 := Zkf BK101.out 2))
  go_ret
  exact ⟨by first | rfl | (simp [errW_none, errW_some] <;> rfl) | (simp [*, errW_none, errW_some] <;> rfl), by repeat (first | (with_reducible first | exact HB.out | apply Zba | apply Zbn | apply Zbd | refine Zbs ?_ GE101.out) | exact HB.out)⟩
/-! ### laws_szFieldS: function 64 -/
def laws_szFieldS.l0 : Nat → List (S188) → Int → Int → Option (Int)
  | 0, _, _, _ => none
  | k + 1, x0, x1, x5 => if x5 < (x0.length : Int) then (if 0 ≤ x5 then ((laws_szField.f ((rd_T188 x0 x5).f0) ((rd_T188 x0 x5).f1) ((rd_T188 x0 x5).f2) x1).bind fun t103 => (if t103 < 0 then (some (-1)) else (laws_szFieldS.l0 k x0 t103 (wrap64 (x5 + 1))))) else (none)) else (some x1)
def laws_szFieldS.f (k : Nat) (l0 : List (S188)) (a1 : Int) : Option (Int) := if (wrap64 (a1 - (l0.length : Int))) < 0 then (some (-1)) else (laws_szFieldS.l0 k l0 (wrap64 (a1 - (l0.length : Int))) 0)
theorem laws_szFieldS.mono_l : ∀ k, (∀ y0 y1 y2, LeO (laws_szFieldS.l0 k y0 y1 y2) (laws_szFieldS.l0 (k + 1) y0 y1 y2))
  | 0 => fun _ _ _ r h => by simp [laws_szFieldS.l0] at h
  | k + 1 => by
    have ih0 := laws_szFieldS.mono_l k
    · intro y0 y1 y2
      unfold laws_szFieldS.l0
      repeat' first
      | (with_reducible exact ih0 _ _ _)
      | (with_reducible exact LeO.refl _)
      | (with_reducible exact LeO.none _)
      | (with_reducible refine LeO.ite ?_ ?_)
      | (with_reducible refine LeO.bind ?_ (fun _ => ?_))
      | exact ih0 _ _ _
      | exact LeO.none _
      | refine LeO.ite ?_ ?_
      | refine LeO.bind ?_ (fun _ => ?_)
theorem laws_szFieldS.mono : ∀ a0 a1 k, LeO (laws_szFieldS.f k a0 a1) (laws_szFieldS.f (k + 1) a0 a1) := by
  intro a0 a1 k
  have ih0 := laws_szFieldS.mono_l k
  unfold laws_szFieldS.f
  repeat' first
      | (with_reducible exact ih0 _ _ _)
      | (with_reducible exact LeO.refl _)
      | (with_reducible exact LeO.none _)
      | (with_reducible refine LeO.ite ?_ ?_)
      | (with_reducible refine LeO.bind ?_ (fun _ => ?_))
      | exact ih0 _ _ _
      | exact LeO.none _
      | refine LeO.ite ?_ ?_
      | refine LeO.bind ?_ (fun _ => ?_)
set_option maxHeartbeats 8000000 in
set_option maxRecDepth 100000 in
theorem laws_szFieldS.calls (k : Nat) (A0 : Option Addr) (c0 : Nat) (l0 : List (S188)) (a1 : Int) (r : Int) (w : World) (hr0 : Kd.C k188 w A0 l0.length l0) (hc0 : l0.length ≤ c0) (h : laws_szFieldS.f k l0 a1 = some r) :
    Calls Try.prog 64 #[.slice A0 l0.length c0, .int .i64 a1] w fun e w' => e = .returned (.int .i64 r) ∧ Below w.heap.size w w' := by
  have hu188 := Try.underlying188
  have HR0 := Zm hr0
  have HC0 := Zm hc0
  clear hr0 hc0
  have HB := Zm (Below.refl w.heap.size w)
  have H : (if (wrap64 (a1 - (l0.length : Int))) < 0 then (some (-1)) else (laws_szFieldS.l0 k l0 (wrap64 (a1 - (l0.length : Int))) 0)) = some r := h
  clear h
  by_cases c3 : (wrap64 (a1 - (l0.length : Int))) < 0
  rotate_left
  · rw [if_neg c3] at H
    have c3b0 : decide ((wrap64 (a1 - (l0.length : Int))) < 0) = false := decide_eq_false c3
    (try (have c3b1 : decide ((IntKind.i64.wrap (a1 - (l0.length : Int))) < 0) = false := by simp only [i64_w]; exact (decide_eq_false c3)))
    clear c3
    have H' := Zm H
    clear H
    go_enter Try.func64, Try.ntmps64
    go_wp2
    go_loopg [1, 5] k (fun kq v1 v5 w' => ∃ (x1_1 : Int) (x5_1 : Int), v1 = .int .i64 x1_1 ∧ v5 = .int .i64 x5_1 ∧ Aside0 (laws_szFieldS.l0 kq l0 x1_1 x5_1 = some r) ∧ Aside0 (kq ≤ k) ∧ Aside0 (Below w.heap.size w w'))
    case atStart => exact ⟨(wrap64 (a1 - (l0.length : Int))), (0), (by first | rfl | (simp; done) | (simp [*]; done)), (by first | rfl | (simp; done) | (simp [*]; done)), H', ⟨Nat.le_refl _⟩, ⟨by repeat (first | (with_reducible first | exact HB.out | apply Zba | apply Zbn | apply Zbd) | exact HB.out)⟩⟩
    case round =>
      clear H'
      (try clear p2); (try clear c3); (try clear c3b0); (try clear c3b1)
      obtain ⟨x1_1, x5_1, rfl, rfl, HA, HK1, HB⟩ := hrel
      cases gk with
      | zero => exact absurd HA.out (by simp [laws_szFieldS.l0])
      | succ k1 =>
        have H := HA.out
        clear HA
        simp only [laws_szFieldS.l0] at H
        by_cases c4 : x5_1 < (l0.length : Int)
        rotate_left
        · rw [if_neg c4] at H
          have c4b0 : decide (x5_1 < (l0.length : Int)) = false := decide_eq_false c4
          clear c4
          obtain rfl := Option.some.inj H
          go_wp2
          go_ret
          exact ⟨by first | rfl | (simp [errW_none, errW_some] <;> rfl) | (simp [*, errW_none, errW_some] <;> rfl), by repeat (first | (with_reducible first | exact HB.out | apply Zba | apply Zbn | apply Zbd) | exact HB.out)⟩

        rw [if_pos c4] at H
        have c4b0 : decide (x5_1 < (l0.length : Int)) = true := decide_eq_true c4
        clear c4
        by_cases c5 : 0 ≤ x5_1
        rotate_left
        · rw [if_neg c5] at H
          exact absurd H (by simp)
        rw [if_pos c5] at H
        have c5b0 : decide (0 ≤ x5_1) = true := decide_eq_true c5
        clear c5
        replace H := Option.bind_eq_some_iff.mp H
        obtain ⟨t103, A60, H⟩ := H
        replace H : (if t103 < 0 then (some (-1)) else (laws_szFieldS.l0 k1 l0 t103 (wrap64 (x5_1 + 1)))) = some r := H
        have A6 := Zm A60
        clear A60
        by_cases c7 : t103 < 0
        rotate_left
        · rw [if_neg c7] at H
          have c7b0 : decide (t103 < 0) = false := decide_eq_false c7
          clear c7
          have H' := Zm H
          clear H
          have p102 : 0 ≤ (x5_1 : Int) := of_decide_eq_true (by first | (with_reducible assumption) | assumption)
          have q102 : x5_1 < (l0.length : Int) := of_decide_eq_true (by first | (with_reducible assumption) | assumption)
          obtain ⟨ad102, e102, hx102_0, hx102_1, hx102_2⟩ := at_T188 HR0.out x5_1 p102 q102
          cases e102
          replace hx102_0 := (HB.out.cell (Zlt _ _ hx102_0)).trans hx102_0
          replace hx102_1 := (HB.out.cell (Zlt _ _ hx102_1)).trans hx102_1
          replace hx102_2 := (HB.out.cell (Zlt _ _ hx102_2)).trans hx102_2
          replace p102 := eq_true p102
          replace q102 := eq_true q102
          go_wp2_with (first | ((with_reducible refine gate_callee (f := 129) rfl ?_); refine goesL_ (some 23) rfl rfl Try.func129 (by kernel_rfl) rfl #[.agg #[.string ((rd_T188 l0 x5_1).f0), .string ((rd_T188 l0 x5_1).f1), .bool ((rd_T188 l0 x5_1).f2)], .int .i64 x1_1] rfl (by (try simp only [List.map_toArray, List.map_cons, List.map_nil]); first | done | rfl | (simp only [List.length_drop, List.length_take]; rfl)) ?_; (with_reducible refine (laws_szField.calls ((rd_T188 l0 x5_1).f0) ((rd_T188 l0 x5_1).f1) ((rd_T188 l0 x5_1).f2) x1_1 t103 _ A6.out).mono ?_); rintro e w9 ⟨rfl, hb⟩; refine ⟨_, rfl, ?_⟩; have n0_ := Zm (Zbt (by repeat (first | (with_reducible first | exact HB.out | apply Zba | apply Zbn | apply Zbd) | exact HB.out)) hb); clear HB; have HB := n0_; clear n0_; (try clear hb); (try clear hb2); (try clear hk); (try clear hi)))
          go_roundg k1
          case measure => have := HK1.out; omega
          case rel => exact ⟨(t103), (wrap64 (x5_1 + 1)), (by first | rfl | (simp; done) | (simp [*]; done)), (by first | rfl | (simp; done) | (simp [*]; done)), H', ⟨by have := HK1.out; omega⟩, ⟨by repeat (first | (with_reducible first | exact HB.out | apply Zba | apply Zbn | apply Zbd) | exact HB.out)⟩⟩
        rw [if_pos c7] at H
        have c7b0 : decide (t103 < 0) = true := decide_eq_true c7
        clear c7
        obtain rfl := Option.some.inj H
        have p102 : 0 ≤ (x5_1 : Int) := of_decide_eq_true (by first | (with_reducible assumption) | assumption)
        have q102 : x5_1 < (l0.length : Int) := of_decide_eq_true (by first | (with_reducible assumption) | assumption)
        obtain ⟨ad102, e102, hx102_0, hx102_1, hx102_2⟩ := at_T188 HR0.out x5_1 p102 q102
        cases e102
        replace hx102_0 := (HB.out.cell (Zlt _ _ hx102_0)).trans hx102_0
        replace hx102_1 := (HB.out.cell (Zlt _ _ hx102_1)).trans hx102_1
        replace hx102_2 := (HB.out.cell (Zlt _ _ hx102_2)).trans hx102_2
        replace p102 := eq_true p102
        replace q102 := eq_true q102
        go_wp2_with (first | ((with_reducible refine gate_callee (f := 129) rfl ?_); refine goesL_ (some 23) rfl rfl Try.func129 (by kernel_rfl) rfl #[.agg #[.string ((rd_T188 l0 x5_1).f0), .string ((rd_T188 l0 x5_1).f1), .bool ((rd_T188 l0 x5_1).f2)], .int .i64 x1_1] rfl (by (try simp only [List.map_toArray, List.map_cons, List.map_nil]); first | done | rfl | (simp only [List.length_drop, List.length_take]; rfl)) ?_; (with_reducible refine (laws_szField.calls ((rd_T188 l0 x5_1).f0) ((rd_T188 l0 x5_1).f1) ((rd_T188 l0 x5_1).f2) x1_1 t103 _ A6.out).mono ?_); rintro e w8 ⟨rfl, hb⟩; refine ⟨_, rfl, ?_⟩; have n0_ := Zm (Zbt (by repeat (first | (with_reducible first | exact HB.out | apply Zba | apply Zbn | apply Zbd) | exact HB.out)) hb); clear HB; have HB := n0_; clear n0_; (try clear hb); (try clear hb2); (try clear hk); (try clear hi)))
        go_ret
        exact ⟨by first | rfl | (simp [errW_none, errW_some] <;> rfl) | (simp [*, errW_none, errW_some] <;> rfl), by repeat (first | (with_reducible first | exact HB.out | apply Zba | apply Zbn | apply Zbd) | exact HB.out)⟩
  rw [if_pos c3] at H
  have c3b0 : decide ((wrap64 (a1 - (l0.length : Int))) < 0) = true := decide_eq_true c3
  (try (have c3b1 : decide ((IntKind.i64.wrap (a1 - (l0.length : Int))) < 0) = true := by simp only [i64_w]; exact (decide_eq_true c3)))
  clear c3
  obtain rfl := Option.some.inj H
  go_enter Try.func64, Try.ntmps64
  go_wp2
  go_ret
  exact ⟨by first | rfl | (simp [errW_none, errW_some] <;> rfl) | (simp [*, errW_none, errW_some] <;> rfl), by repeat (first | (with_reducible first | exact HB.out | apply Zba | apply Zbn | apply Zbd) | exact HB.out)⟩
/-! ### laws_szIns: function 139 -/
def laws_szIns.f (a0_0 : Int) (a0_1 : Int) (a0_2 : ByteArray) (a0_3 : ByteArray) (a0_4 : ByteArray) (a1 : Int) : Option (Int) := if (wrap64 (a1 - (a0_2.size : Int))) < 0 then (some (-1)) else (if (wrap64 ((wrap64 (a1 - (a0_2.size : Int))) - (a0_3.size : Int))) < 0 then (some (-1)) else (if (wrap64 ((wrap64 ((wrap64 (a1 - (a0_2.size : Int))) - (a0_3.size : Int))) - (a0_4.size : Int))) < 0 then (some (-1)) else (some (wrap64 ((wrap64 ((wrap64 (a1 - (a0_2.size : Int))) - (a0_3.size : Int))) - (a0_4.size : Int))))))
set_option maxHeartbeats 8000000 in
set_option maxRecDepth 100000 in
theorem laws_szIns.calls (a0_0 : Int) (a0_1 : Int) (a0_2 : ByteArray) (a0_3 : ByteArray) (a0_4 : ByteArray) (a1 : Int) (r : Int) (w : World) (h : laws_szIns.f a0_0 a0_1 a0_2 a0_3 a0_4 a1 = some r) :
    Calls Try.prog 139 #[.agg #[.int .i64 a0_0, .int .i64 a0_1, .string a0_2, .string a0_3, .string a0_4], .int .i64 a1] w fun e w' => e = .returned (.int .i64 r) ∧ Below w.heap.size w w' := by
  have hu199 := Try.underlying199
  have HB := Zm (Below.refl w.heap.size w)
  have H : (if (wrap64 (a1 - (a0_2.size : Int))) < 0 then (some (-1)) else (if (wrap64 ((wrap64 (a1 - (a0_2.size : Int))) - (a0_3.size : Int))) < 0 then (some (-1)) else (if (wrap64 ((wrap64 ((wrap64 (a1 - (a0_2.size : Int))) - (a0_3.size : Int))) - (a0_4.size : Int))) < 0 then (some (-1)) else (some (wrap64 ((wrap64 ((wrap64 (a1 - (a0_2.size : Int))) - (a0_3.size : Int))) - (a0_4.size : Int))))))) = some r := h
  clear h
  by_cases c3 : (wrap64 (a1 - (a0_2.size : Int))) < 0
  rotate_left
  · rw [if_neg c3] at H
    have c3b0 : decide ((wrap64 (a1 - (a0_2.size : Int))) < 0) = false := decide_eq_false c3
    (try (have c3b1 : decide ((IntKind.i64.wrap (a1 - (a0_2.size : Int))) < 0) = false := by simp only [i64_w]; exact (decide_eq_false c3)))
    clear c3
    by_cases c6 : (wrap64 ((wrap64 (a1 - (a0_2.size : Int))) - (a0_3.size : Int))) < 0
    rotate_left
    · rw [if_neg c6] at H
      have c6b0 : decide ((wrap64 ((wrap64 (a1 - (a0_2.size : Int))) - (a0_3.size : Int))) < 0) = false := decide_eq_false c6
      (try (have c6b1 : decide ((IntKind.i64.wrap ((IntKind.i64.wrap (a1 - (a0_2.size : Int))) - (a0_3.size : Int))) < 0) = false := by simp only [i64_w]; exact (decide_eq_false c6)))
      clear c6
      by_cases c9 : (wrap64 ((wrap64 ((wrap64 (a1 - (a0_2.size : Int))) - (a0_3.size : Int))) - (a0_4.size : Int))) < 0
      rotate_left
      · rw [if_neg c9] at H
        have c9b0 : decide ((wrap64 ((wrap64 ((wrap64 (a1 - (a0_2.size : Int))) - (a0_3.size : Int))) - (a0_4.size : Int))) < 0) = false := decide_eq_false c9
        (try (have c9b1 : decide ((IntKind.i64.wrap ((IntKind.i64.wrap ((IntKind.i64.wrap (a1 - (a0_2.size : Int))) - (a0_3.size : Int))) - (a0_4.size : Int))) < 0) = false := by simp only [i64_w]; exact (decide_eq_false c9)))
        clear c9
        obtain rfl := Option.some.inj H
        go_enter Try.func139, Try.ntmps139
        go_wp2_with (first | ((with_reducible refine gate_dst (N := 2) rfl ?_); refine box_event ?hg (N := 2) ?hd (cs := #[.int .i64 a0_0, .int .i64 a0_1, .string a0_2, .string a0_3, .string a0_4]) (t := 199) ?hr ?_; (case hd => rfl); (case hg => rfl); (case hr => first | (go_simp; done) | (go_simp; rfl)); intro gb104 hg w12 hbox hb; have n0_ := Zm (Zbt (by repeat (first | (with_reducible first | exact HB.out | apply Zba | apply Zbn | apply Zbd) | exact HB.out)) hb); have n1_ := Zm (hbox); have n2_ := Zm ((by rw [hg]; exact (Zbz (by repeat (first | (with_reducible first | exact HB.out | apply Zba | apply Zbn | apply Zbd) | exact HB.out))) : w.heap.size ≤ gb104)); have n3_ := Zm ((by rw [hg]; exact (Zbz (by repeat (first | (with_reducible first | exact HB.out | apply Zba | apply Zbn | apply Zbd) | exact HB.out))) : w.heap.size ≤ gb104)); clear HB; have HB := n0_; have BK104 := n1_; have GW104 := n2_; have GE104 := n3_; clear n0_ n1_ n2_ n3_; clear hb hbox hg; have hcz13_0 : w12.cell? ⟨gb104, 0, none⟩ = some (.int .i64 a0_0) := (Zkc BK104.out 0).trans rfl; have hcz13_1 : w12.cell? ⟨gb104, 1, none⟩ = some (.int .i64 a0_1) := (Zkc BK104.out 1).trans rfl; have hcz13_2 : w12.cell? ⟨gb104, 2, none⟩ = some (.string a0_2) := (Zkc BK104.out 2).trans rfl; have hcz13_3 : w12.cell? ⟨gb104, 3, none⟩ = some (.string a0_3) := (Zkc BK104.out 3).trans rfl; have hcz13_4 : w12.cell? ⟨gb104, 4, none⟩ = some (.string a0_4) := (Zkc BK104.out 4).trans rfl; have hfz13_4 := Zkf BK104.out 4))
        go_ret
        exact ⟨by first | rfl | (simp [errW_none, errW_some] <;> rfl) | (simp [*, errW_none, errW_some] <;> rfl), by repeat (first | (with_reducible first | exact HB.out | apply Zba | apply Zbn | apply Zbd | refine Zbs ?_ GE104.out) | exact HB.out)⟩

      rw [if_pos c9] at H
      have c9b0 : decide ((wrap64 ((wrap64 ((wrap64 (a1 - (a0_2.size : Int))) - (a0_3.size : Int))) - (a0_4.size : Int))) < 0) = true := decide_eq_true c9
      (try (have c9b1 : decide ((IntKind.i64.wrap ((IntKind.i64.wrap ((IntKind.i64.wrap (a1 - (a0_2.size : Int))) - (a0_3.size : Int))) - (a0_4.size : Int))) < 0) = true := by simp only [i64_w]; exact (decide_eq_true c9)))
      clear c9
      obtain rfl := Option.some.inj H
      go_enter Try.func139, Try.ntmps139
      go_wp2_with (first | ((with_reducible refine gate_dst (N := 2) rfl ?_); refine box_event ?hg (N := 2) ?hd (cs := #[.int .i64 a0_0, .int .i64 a0_1, .string a0_2, .string a0_3, .string a0_4]) (t := 199) ?hr ?_; (case hd => rfl); (case hg => rfl); (case hr => first | (go_simp; done) | (go_simp; rfl)); intro gb104 hg w10 hbox hb; have n0_ := Zm (Zbt (by repeat (first | (with_reducible first | exact HB.out | apply Zba | apply Zbn | apply Zbd) | exact HB.out)) hb); have n1_ := Zm (hbox); have n2_ := Zm ((by rw [hg]; exact (Zbz (by repeat (first | (with_reducible first | exact HB.out | apply Zba | apply Zbn | apply Zbd) | exact HB.out))) : w.heap.size ≤ gb104)); have n3_ := Zm ((by rw [hg]; exact (Zbz (by repeat (first | (with_reducible first | exact HB.out | apply Zba | apply Zbn | apply Zbd) | exact HB.out))) : w.heap.size ≤ gb104)); clear HB; have HB := n0_; have BK104 := n1_; have GW104 := n2_; have GE104 := n3_; clear n0_ n1_ n2_ n3_; clear hb hbox hg; have hcz11_0 : w10.cell? ⟨gb104, 0, none⟩ = some (.int .i64 a0_0) := (Zkc BK104.out 0).trans rfl; have hcz11_1 : w10.cell? ⟨gb104, 1, none⟩ = some (.int .i64 a0_1) := (Zkc BK104.out 1).trans rfl; have hcz11_2 : w10.cell? ⟨gb104, 2, none⟩ = some (.string a0_2) := (Zkc BK104.out 2).trans rfl; have hcz11_3 : w10.cell? ⟨gb104, 3, none⟩ = some (.string a0_3) := (Zkc BK104.out 3).trans rfl; have hcz11_4 : w10.cell? ⟨gb104, 4, none⟩ = some (.string a0_4) := (Zkc BK104.out 4).trans rfl; have hfz11_4 := Zkf BK104.out 4))
      go_ret
      exact ⟨by first | rfl | (simp [errW_none, errW_some] <;> rfl) | (simp [*, errW_none, errW_some] <;> rfl), by repeat (first | (with_reducible first | exact HB.out | apply Zba | apply Zbn | apply Zbd | refine Zbs ?_ GE104.out) | exact HB.out)⟩
    rw [if_pos c6] at H
    have c6b0 : decide ((wrap64 ((wrap64 (a1 - (a0_2.size : Int))) - (a0_3.size : Int))) < 0) = true := decide_eq_true c6
    (try (have c6b1 : decide ((IntKind.i64.wrap ((IntKind.i64.wrap (a1 - (a0_2.size : Int))) - (a0_3.size : Int))) < 0) = true := by simp only [i64_w]; exact (decide_eq_true c6)))
    clear c6
    obtain rfl := Option.some.inj H
    go_enter Try.func139, Try.ntmps139
    go_wp2_with (first | ((with_reducible refine gate_dst (N := 2) rfl ?_); refine box_event ?hg (N := 2) ?hd (cs := #[.int .i64 a0_0, .int .i64 a0_1, .string a0_2, .string a0_3, .string a0_4]) (t := 199) ?hr ?_; (case hd => rfl); (case hg => rfl); (case hr => first | (go_simp; done) | (go_simp; rfl)); intro gb104 hg w7 hbox hb; have n0_ := Zm (Zbt (by repeat (first | (with_reducible first | exact HB.out | apply Zba | apply Zbn | apply Zbd) | exact HB.out)) hb); have n1_ := Zm (hbox); have n2_ := Zm ((by rw [hg]; exact (Zbz (by repeat (first | (with_reducible first | exact HB.out | apply Zba | apply Zbn | apply Zbd) | exact HB.out))) : w.heap.size ≤ gb104)); have n3_ := Zm ((by rw [hg]; exact (Zbz (by repeat (first | (with_reducible first | exact HB.out | apply Zba | apply Zbn | apply Zbd) | exact HB.out))) : w.heap.size ≤ gb104)); clear HB; have HB := n0_; have BK104 := n1_; have GW104 := n2_; have GE104 := n3_; clear n0_ n1_ n2_ n3_; clear hb hbox hg; have hcz8_0 : w7.cell? ⟨gb104, 0, none⟩ = some (.int .i64 a0_0) := (Zkc BK104.out 0).trans rfl; have hcz8_1 : w7.cell? ⟨gb104, 1, none⟩ = some (.int .i64 a0_1) := (Zkc BK104.out 1).trans rfl; have hcz8_2 : w7.cell? ⟨gb104, 2, none⟩ = some (.string a0_2) := (Zkc BK104.out 2).trans rfl; have hcz8_3 : w7.cell? ⟨gb104, 3, none⟩ = some (.string a0_3) := (Zkc BK104.out 3).trans rfl; have hcz8_4 : w7.cell? ⟨gb104, 4, none⟩ = some (.string a0_4) := (Zkc BK104.out 4).trans rfl; have hfz8_4 := Zkf BK104.out 4))
    go_ret
    exact ⟨by first | rfl | (simp [errW_none, errW_some] <;> rfl) | (simp [*, errW_none, errW_some] <;> rfl), by repeat (first | (with_reducible first | exact HB.out | apply Zba | apply Zbn | apply Zbd | refine Zbs ?_ GE104.out) | exact HB.out)⟩
  rw [if_pos c3] at H
  have c3b0 : decide ((wrap64 (a1 - (a0_2.size : Int))) < 0) = true := decide_eq_true c3
  (try (have c3b1 : decide ((IntKind.i64.wrap (a1 - (a0_2.size : Int))) < 0) = true := by simp only [i64_w]; exact (decide_eq_true c3)))
  clear c3
  obtain rfl := Option.some.inj H
  go_enter Try.func139, Try.ntmps139
  go_wp2_with (first | ((with_reducible refine gate_dst (N := 2) rfl ?_); refine box_event ?hg (N := 2) ?hd (cs := #[.int .i64 a0_0, .int .i64 a0_1, .string a0_2, .string a0_3, .string a0_4]) (t := 199) ?hr ?_; (case hd => rfl); (case hg => rfl); (case hr => first | (go_simp; done) | (go_simp; rfl)); intro gb104 hg w4 hbox hb; have n0_ := Zm (Zbt (by repeat (first | (with_reducible first | exact HB.out | apply Zba | apply Zbn | apply Zbd) | exact HB.out)) hb); have n1_ := Zm (hbox); have n2_ := Zm ((by rw [hg]; exact (Zbz (by repeat (first | (with_reducible first | exact HB.out | apply Zba | apply Zbn | apply Zbd) | exact HB.out))) : w.heap.size ≤ gb104)); have n3_ := Zm ((by rw [hg]; exact (Zbz (by repeat (first | (with_reducible first | exact HB.out | apply Zba | apply Zbn | apply Zbd) | exact HB.out))) : w.heap.size ≤ gb104)); clear HB; have HB := n0_; have BK104 := n1_; have GW104 := n2_; have GE104 := n3_; clear n0_ n1_ n2_ n3_; clear hb hbox hg; have hcz5_0 : w4.cell? ⟨gb104, 0, none⟩ = some (.int .i64 a0_0) := (Zkc BK104.out 0).trans rfl; have hcz5_1 : w4.cell? ⟨gb104, 1, none⟩ = some (.int .i64 a0_1) := (Zkc BK104.out 1).trans rfl; have hcz5_2 : w4.cell? ⟨gb104, 2, none⟩ = some (.string a0_2) := (Zkc BK104.out 2).trans rfl; have hcz5_3 : w4.cell? ⟨gb104, 3, none⟩ = some (.string a0_3) := (Zkc BK104.out 3).trans rfl; have hcz5_4 : w4.cell? ⟨gb104, 4, none⟩ = some (.string a0_4) := (Zkc BK104.out 4).trans rfl; have hfz5_4 := Zkf BK104.out 4))
  go_ret
  exact ⟨by first | rfl | (simp [errW_none, errW_some] <;> rfl) | (simp [*, errW_none, errW_some] <;> rfl), by repeat (first | (with_reducible first | exact HB.out | apply Zba | apply Zbn | apply Zbd | refine Zbs ?_ GE104.out) | exact HB.out)⟩
/-! ### laws_szInsS: function 94 -/
def laws_szInsS.l0 : Nat → List (S199) → Int → Int → Option (Int)
  | 0, _, _, _ => none
  | k + 1, x0, x1, x5 => if x5 < (x0.length : Int) then (if 0 ≤ x5 then ((laws_szIns.f ((rd_T199 x0 x5).f0) ((rd_T199 x0 x5).f1) ((rd_T199 x0 x5).f2) ((rd_T199 x0 x5).f3) ((rd_T199 x0 x5).f4) x1).bind fun t106 => (if t106 < 0 then (some (-1)) else (laws_szInsS.l0 k x0 t106 (wrap64 (x5 + 1))))) else (none)) else (some x1)
def laws_szInsS.f (k : Nat) (l0 : List (S199)) (a1 : Int) : Option (Int) := if (wrap64 (a1 - (l0.length : Int))) < 0 then (some (-1)) else (laws_szInsS.l0 k l0 (wrap64 (a1 - (l0.length : Int))) 0)
theorem laws_szInsS.mono_l : ∀ k, (∀ y0 y1 y2, LeO (laws_szInsS.l0 k y0 y1 y2) (laws_szInsS.l0 (k + 1) y0 y1 y2))
  | 0 => fun _ _ _ r h => by simp [laws_szInsS.l0] at h
  | k + 1 => by
    have ih0 := laws_szInsS.mono_l k
    · intro y0 y1 y2
      unfold laws_szInsS.l0
      repeat' first
      | (with_reducible exact ih0 _ _ _)
      | (with_reducible exact LeO.refl _)
      | (with_reducible exact LeO.none _)
      | (with_reducible refine LeO.ite ?_ ?_)
      | (with_reducible refine LeO.bind ?_ (fun _ => ?_))
      | exact ih0 _ _ _
      | exact LeO.none _
      | refine LeO.ite ?_ ?_
      | refine LeO.bind ?_ (fun _ => ?_)
theorem laws_szInsS.mono : ∀ a0 a1 k, LeO (laws_szInsS.f k a0 a1) (laws_szInsS.f (k + 1) a0 a1) := by
  intro a0 a1 k
  have ih0 := laws_szInsS.mono_l k
  unfold laws_szInsS.f
  repeat' first
      | (with_reducible exact ih0 _ _ _)
      | (with_reducible exact LeO.refl _)
      | (with_reducible exact LeO.none _)
      | (with_reducible refine LeO.ite ?_ ?_)
      | (with_reducible refine LeO.bind ?_ (fun _ => ?_))
      | exact ih0 _ _ _
      | exact LeO.none _
      | refine LeO.ite ?_ ?_
      | refine LeO.bind ?_ (fun _ => ?_)
set_option maxHeartbeats 8000000 in
set_option maxRecDepth 100000 in
theorem laws_szInsS.calls (k : Nat) (A0 : Option Addr) (c0 : Nat) (l0 : List (S199)) (a1 : Int) (r : Int) (w : World) (hr0 : Kd.C k199 w A0 l0.length l0) (hc0 : l0.length ≤ c0) (h : laws_szInsS.f k l0 a1 = some r) :
    Calls Try.prog 94 #[.slice A0 l0.length c0, .int .i64 a1] w fun e w' => e = .returned (.int .i64 r) ∧ Below w.heap.size w w' := by
  have hu199 := Try.underlying199
  have HR0 := Zm hr0
  have HC0 := Zm hc0
  clear hr0 hc0
  have HB := Zm (Below.refl w.heap.size w)
  have H : (if (wrap64 (a1 - (l0.length : Int))) < 0 then (some (-1)) else (laws_szInsS.l0 k l0 (wrap64 (a1 - (l0.length : Int))) 0)) = some r := h
  clear h
  by_cases c3 : (wrap64 (a1 - (l0.length : Int))) < 0
  rotate_left
  · rw [if_neg c3] at H
    have c3b0 : decide ((wrap64 (a1 - (l0.length : Int))) < 0) = false := decide_eq_false c3
    (try (have c3b1 : decide ((IntKind.i64.wrap (a1 - (l0.length : Int))) < 0) = false := by simp only [i64_w]; exact (decide_eq_false c3)))
    clear c3
    have H' := Zm H
    clear H
    go_enter Try.func94, Try.ntmps94
    go_wp2
    go_loopg [1, 5] k (fun kq v1 v5 w' => ∃ (x1_1 : Int) (x5_1 : Int), v1 = .int .i64 x1_1 ∧ v5 = .int .i64 x5_1 ∧ Aside0 (laws_szInsS.l0 kq l0 x1_1 x5_1 = some r) ∧ Aside0 (kq ≤ k) ∧ Aside0 (Below w.heap.size w w'))
    case atStart => exact ⟨(wrap64 (a1 - (l0.length : Int))), (0), (by first | rfl | (simp; done) | (simp [*]; done)), (by first | rfl | (simp; done) | (simp [*]; done)), H', ⟨Nat.le_refl _⟩, ⟨by repeat (first | (with_reducible first | exact HB.out | apply Zba | apply Zbn | apply Zbd) | exact HB.out)⟩⟩
    case round =>
      clear H'
      (try clear p2); (try clear c3); (try clear c3b0); (try clear c3b1)
      obtain ⟨x1_1, x5_1, rfl, rfl, HA, HK1, HB⟩ := hrel
      cases gk with
      | zero => exact absurd HA.out (by simp [laws_szInsS.l0])
      | succ k1 =>
        have H := HA.out
        clear HA
        simp only [laws_szInsS.l0] at H
        by_cases c4 : x5_1 < (l0.length : Int)
        rotate_left
        · rw [if_neg c4] at H
          have c4b0 : decide (x5_1 < (l0.length : Int)) = false := decide_eq_false c4
          clear c4
          obtain rfl := Option.some.inj H
          go_wp2
          go_ret
          exact ⟨by first | rfl | (simp [errW_none, errW_some] <;> rfl) | (simp [*, errW_none, errW_some] <;> rfl), by repeat (first | (with_reducible first | exact HB.out | apply Zba | apply Zbn | apply Zbd) | exact HB.out)⟩

        rw [if_pos c4] at H
        have c4b0 : decide (x5_1 < (l0.length : Int)) = true := decide_eq_true c4
        clear c4
        by_cases c5 : 0 ≤ x5_1
        rotate_left
        · rw [if_neg c5] at H
          exact absurd H (by simp)
        rw [if_pos c5] at H
        have c5b0 : decide (0 ≤ x5_1) = true := decide_eq_true c5
        clear c5
        replace H := Option.bind_eq_some_iff.mp H
        obtain ⟨t106, A60, H⟩ := H
        replace H : (if t106 < 0 then (some (-1)) else (laws_szInsS.l0 k1 l0 t106 (wrap64 (x5_1 + 1)))) = some r := H
        have A6 := Zm A60
        clear A60
        by_cases c7 : t106 < 0
        rotate_left
        · rw [if_neg c7] at H
          have c7b0 : decide (t106 < 0) = false := decide_eq_false c7
          clear c7
          have H' := Zm H
          clear H
          have p105 : 0 ≤ (x5_1 : Int) := of_decide_eq_true (by first | (with_reducible assumption) | assumption)
          have q105 : x5_1 < (l0.length : Int) := of_decide_eq_true (by first | (with_reducible assumption) | assumption)
          obtain ⟨ad105, e105, hx105_0, hx105_1, hx105_2, hx105_3, hx105_4⟩ := at_T199 HR0.out x5_1 p105 q105
          cases e105
          replace hx105_0 := (HB.out.cell (Zlt _ _ hx105_0)).trans hx105_0
          replace hx105_1 := (HB.out.cell (Zlt _ _ hx105_1)).trans hx105_1
          replace hx105_2 := (HB.out.cell (Zlt _ _ hx105_2)).trans hx105_2
          replace hx105_3 := (HB.out.cell (Zlt _ _ hx105_3)).trans hx105_3
          replace hx105_4 := (HB.out.cell (Zlt _ _ hx105_4)).trans hx105_4
          replace p105 := eq_true p105
          replace q105 := eq_true q105
          go_wp2_with (first | ((with_reducible refine gate_callee (f := 139) rfl ?_); refine goesL_ (some 23) rfl rfl Try.func139 (by kernel_rfl) rfl #[.agg #[.int .i64 ((rd_T199 l0 x5_1).f0), .int .i64 ((rd_T199 l0 x5_1).f1), .string ((rd_T199 l0 x5_1).f2), .string ((rd_T199 l0 x5_1).f3), .string ((rd_T199 l0 x5_1).f4)], .int .i64 x1_1] rfl (by (try simp only [List.map_toArray, List.map_cons, List.map_nil]); first | done | rfl | (simp only [List.length_drop, List.length_take]; rfl)) ?_; (with_reducible refine (laws_szIns.calls ((rd_T199 l0 x5_1).f0) ((rd_T199 l0 x5_1).f1) ((rd_T199 l0 x5_1).f2) ((rd_T199 l0 x5_1).f3) ((rd_T199 l0 x5_1).f4) x1_1 t106 _ A6.out).mono ?_); rintro e w9 ⟨rfl, hb⟩; refine ⟨_, rfl, ?_⟩; have n0_ := Zm (Zbt (by repeat (first | (with_reducible first | exact HB.out | apply Zba | apply Zbn | apply Zbd) | exact HB.out)) hb); clear HB; have HB := n0_; clear n0_; (try clear hb); (try clear hb2); (try clear hk); (try clear hi)))
          go_roundg k1
          case measure => have := HK1.out; omega
          case rel => exact ⟨(t106), (wrap64 (x5_1 + 1)), (by first | rfl | (simp; done) | (simp [*]; done)), (by first | rfl | (simp; done) | (simp [*]; done)), H', ⟨by have := HK1.out; omega⟩, ⟨by repeat (first | (with_reducible first | exact HB.out | apply Zba | apply Zbn | apply Zbd) | exact HB.out)⟩⟩
        rw [if_pos c7] at H
        have c7b0 : decide (t106 < 0) = true := decide_eq_true c7
        clear c7
        obtain rfl := Option.some.inj H
        have p105 : 0 ≤ (x5_1 : Int) := of_decide_eq_true (by first | (with_reducible assumption) | assumption)
        have q105 : x5_1 < (l0.length : Int) := of_decide_eq_true (by first | (with_reducible assumption) | assumption)
        obtain ⟨ad105, e105, hx105_0, hx105_1, hx105_2, hx105_3, hx105_4⟩ := at_T199 HR0.out x5_1 p105 q105
        cases e105
        replace hx105_0 := (HB.out.cell (Zlt _ _ hx105_0)).trans hx105_0
        replace hx105_1 := (HB.out.cell (Zlt _ _ hx105_1)).trans hx105_1
        replace hx105_2 := (HB.out.cell (Zlt _ _ hx105_2)).trans hx105_2
        replace hx105_3 := (HB.out.cell (Zlt _ _ hx105_3)).trans hx105_3
        replace hx105_4 := (HB.out.cell (Zlt _ _ hx105_4)).trans hx105_4
        replace p105 := eq_true p105
        replace q105 := eq_true q105
        go_wp2_with (first | ((with_reducible refine gate_callee (f := 139) rfl ?_); refine goesL_ (some 23) rfl rfl Try.func139 (by kernel_rfl) rfl #[.agg #[.int .i64 ((rd_T199 l0 x5_1).f0), .int .i64 ((rd_T199 l0 x5_1).f1), .string ((rd_T199 l0 x5_1).f2), .string ((rd_T199 l0 x5_1).f3), .string ((rd_T199 l0 x5_1).f4)], .int .i64 x1_1] rfl (by (try simp only [List.map_toArray, List.map_cons, List.map_nil]); first | done | rfl | (simp only [List.length_drop, List.length_take]; rfl)) ?_; (with_reducible refine (laws_szIns.calls ((rd_T199 l0 x5_1).f0) ((rd_T199 l0 x5_1).f1) ((rd_T199 l0 x5_1).f2) ((rd_T199 l0 x5_1).f3) ((rd_T199 l0 x5_1).f4) x1_1 t106 _ A6.out).mono ?_); rintro e w8 ⟨rfl, hb⟩; refine ⟨_, rfl, ?_⟩; have n0_ := Zm (Zbt (by repeat (first | (with_reducible first | exact HB.out | apply Zba | apply Zbn | apply Zbd) | exact HB.out)) hb); clear HB; have HB := n0_; clear n0_; (try clear hb); (try clear hb2); (try clear hk); (try clear hi)))
        go_ret
        exact ⟨by first | rfl | (simp [errW_none, errW_some] <;> rfl) | (simp [*, errW_none, errW_some] <;> rfl), by repeat (first | (with_reducible first | exact HB.out | apply Zba | apply Zbn | apply Zbd) | exact HB.out)⟩
  rw [if_pos c3] at H
  have c3b0 : decide ((wrap64 (a1 - (l0.length : Int))) < 0) = true := decide_eq_true c3
  (try (have c3b1 : decide ((IntKind.i64.wrap (a1 - (l0.length : Int))) < 0) = true := by simp only [i64_w]; exact (decide_eq_true c3)))
  clear c3
  obtain rfl := Option.some.inj H
  go_enter Try.func94, Try.ntmps94
  go_wp2
  go_ret
  exact ⟨by first | rfl | (simp [errW_none, errW_some] <;> rfl) | (simp [*, errW_none, errW_some] <;> rfl), by repeat (first | (with_reducible first | exact HB.out | apply Zba | apply Zbn | apply Zbd) | exact HB.out)⟩
/-! ### laws_szHandler: function 140 -/
def laws_szHandler.f (a0_0 : Int) (a0_1 : Int) (a0_2 : Int) (a0_3 : ByteArray) (a1 : Int) : Option (Int) := if (wrap64 (a1 - (a0_3.size : Int))) < 0 then (some (-1)) else (some (wrap64 (a1 - (a0_3.size : Int))))
set_option maxHeartbeats 8000000 in
set_option maxRecDepth 100000 in
theorem laws_szHandler.calls (a0_0 : Int) (a0_1 : Int) (a0_2 : Int) (a0_3 : ByteArray) (a1 : Int) (r : Int) (w : World) (h : laws_szHandler.f a0_0 a0_1 a0_2 a0_3 a1 = some r) :
    Calls Try.prog 140 #[.agg #[.int .i64 a0_0, .int .i64 a0_1, .int .i64 a0_2, .string a0_3], .int .i64 a1] w fun e w' => e = .returned (.int .i64 r) ∧ Below w.heap.size w w' := by
  have hu201 := Try.underlying201
  have HB := Zm (Below.refl w.heap.size w)
  have H : (if (wrap64 (a1 - (a0_3.size : Int))) < 0 then (some (-1)) else (some (wrap64 (a1 - (a0_3.size : Int))))) = some r := h
  clear h
  by_cases c3 : (wrap64 (a1 - (a0_3.size : Int))) < 0
  rotate_left
  · rw [if_neg c3] at H
    have c3b0 : decide ((wrap64 (a1 - (a0_3.size : Int))) < 0) = false := decide_eq_false c3
    (try (have c3b1 : decide ((IntKind.i64.wrap (a1 - (a0_3.size : Int))) < 0) = false := by simp only [i64_w]; exact (decide_eq_false c3)))
    clear c3
    obtain rfl := Option.some.inj H
    go_enter Try.func140, Try.ntmps140
    go_wp2_with (first | ((with_reducible refine gate_dst (N := 2) rfl ?_); refine box_event ?hg (N := 2) ?hd (cs := #[.int .i64 a0_0, .int .i64 a0_1, .int .i64 a0_2, .string a0_3]) (t := 201) ?hr ?_; (case hd => rfl); (case hg => rfl); (case hr => first | (go_simp; done) | (go_simp; rfl)); intro gb107 hg w6 hbox hb; have n0_ := Zm (Zbt (by repeat (first | (with_reducible first | exact HB.out | apply Zba | apply Zbn | apply Zbd) | exact HB.out)) hb); have n1_ := Zm (hbox); have n2_ := Zm ((by rw [hg]; exact (Zbz (by repeat (first | (with_reducible first | exact HB.out | apply Zba | apply Zbn | apply Zbd) | exact HB.out))) : w.heap.size ≤ gb107)); have n3_ := Zm ((by rw [hg]; exact (Zbz (by repeat (first | (with_reducible first | exact HB.out | apply Zba | apply Zbn | apply Zbd) | exact HB.out))) : w.heap.size ≤ gb107)); clear HB; have HB := n0_; have BK107 := n1_; have GW107 := n2_; have GE107 := n3_; clear n0_ n1_ n2_ n3_; clear hb hbox hg; have hcz7_0 : w6.cell? ⟨gb107, 0, none⟩ = some (.int .i64 a0_0) := (Zkc BK107.out 0).trans rfl; have hcz7_1 : w6.cell? ⟨gb107, 1, none⟩ = some (.int .i64 a0_1) := (Zkc BK107.out 1).trans rfl; have hcz7_2 : w6.cell? ⟨gb107, 2, none⟩ = some (.int .i64 a0_2) := (Zkc BK107.out 2).trans rfl; have hcz7_3 : w6.cell? ⟨gb107, 3, none⟩ = some (.string a0_3) := (Zkc BK107.out 3).trans rfl; have hfz7_3 := Zkf BK107.out 3))
    go_ret
    exact ⟨by first | rfl | (simp [errW_none, errW_some] <;> rfl) | (simp [*, errW_none, errW_some] <;> rfl), by repeat (first | (with_reducible first | exact HB.out | apply Zba | apply Zbn | apply Zbd | refine Zbs ?_ GE107.out) | exact HB.out)⟩

  rw [if_pos c3] at H
  have c3b0 : decide ((wrap64 (a1 - (a0_3.size : Int))) < 0) = true := decide_eq_true c3
  (try (have c3b1 : decide ((IntKind.i64.wrap (a1 - (a0_3.size : Int))) < 0) = true := by simp only [i64_w]; exact (decide_eq_true c3)))
  clear c3
  obtain rfl := Option.some.inj H
  go_enter Try.func140, Try.ntmps140
  go_wp2_with (first | ((with_reducible refine gate_dst (N := 2) rfl ?_); refine box_event ?hg (N := 2) ?hd (cs := #[.int .i64 a0_0, .int .i64 a0_1, .int .i64 a0_2, .string a0_3]) (t := 201) ?hr ?_; (case hd => rfl); (case hg => rfl); (case hr => first | (go_simp; done) | (go_simp; rfl)); intro gb107 hg w4 hbox hb; have n0_ := Zm (Zbt (by repeat (first | (with_reducible first | exact HB.out | apply Zba | apply Zbn | apply Zbd) | exact HB.out)) hb); have n1_ := Zm (hbox); have n2_ := Zm ((by rw [hg]; exact (Zbz (by repeat (first | (with_reducible first | exact HB.out | apply Zba | apply Zbn | apply Zbd) | exact HB.out))) : w.heap.size ≤ gb107)); have n3_ := Zm ((by rw [hg]; exact (Zbz (by repeat (first | (with_reducible first | exact HB.out | apply Zba | apply Zbn | apply Zbd) | exact HB.out))) : w.heap.size ≤ gb107)); clear HB; have HB := n0_; have BK107 := n1_; have GW107 := n2_; have GE107 := n3_; clear n0_ n1_ n2_ n3_; clear hb hbox hg; have hcz5_0 : w4.cell? ⟨gb107, 0, none⟩ = some (.int .i64 a0_0) := (Zkc BK107.out 0).trans rfl; have hcz5_1 : w4.cell? ⟨gb107, 1, none⟩ = some (.int .i64 a0_1) := (Zkc BK107.out 1).trans rfl; have hcz5_2 : w4.cell? ⟨gb107, 2, none⟩ = some (.int .i64 a0_2) := (Zkc BK107.out 2).trans rfl; have hcz5_3 : w4.cell? ⟨gb107, 3, none⟩ = some (.string a0_3) := (Zkc BK107.out 3).trans rfl; have hfz5_3 := Zkf BK107.out 3))
  go_ret
  exact ⟨by first | rfl | (simp [errW_none, errW_some] <;> rfl) | (simp [*, errW_none, errW_some] <;> rfl), by repeat (first | (with_reducible first | exact HB.out | apply Zba | apply Zbn | apply Zbd | refine Zbs ?_ GE107.out) | exact HB.out)⟩
/-! ### laws_szHandlerS: function 95 -/
def laws_szHandlerS.l0 : Nat → List (S201) → Int → Int → Option (Int)
  | 0, _, _, _ => none
  | k + 1, x0, x1, x5 => if x5 < (x0.length : Int) then (if 0 ≤ x5 then ((laws_szHandler.f ((rd_T201 x0 x5).f0) ((rd_T201 x0 x5).f1) ((rd_T201 x0 x5).f2) ((rd_T201 x0 x5).f3) x1).bind fun t109 => (if t109 < 0 then (some (-1)) else (laws_szHandlerS.l0 k x0 t109 (wrap64 (x5 + 1))))) else (none)) else (some x1)
def laws_szHandlerS.f (k : Nat) (l0 : List (S201)) (a1 : Int) : Option (Int) := if (wrap64 (a1 - (l0.length : Int))) < 0 then (some (-1)) else (laws_szHandlerS.l0 k l0 (wrap64 (a1 - (l0.length : Int))) 0)
theorem laws_szHandlerS.mono_l : ∀ k, (∀ y0 y1 y2, LeO (laws_szHandlerS.l0 k y0 y1 y2) (laws_szHandlerS.l0 (k + 1) y0 y1 y2))
  | 0 => fun _ _ _ r h => by simp [laws_szHandlerS.l0] at h
  | k + 1 => by
    have ih0 := laws_szHandlerS.mono_l k
    · intro y0 y1 y2
      unfold laws_szHandlerS.l0
      repeat' first
      | (with_reducible exact ih0 _ _ _)
      | (with_reducible exact LeO.refl _)
      | (with_reducible exact LeO.none _)
      | (with_reducible refine LeO.ite ?_ ?_)
      | (with_reducible refine LeO.bind ?_ (fun _ => ?_))
      | exact ih0 _ _ _
      | exact LeO.none _
      | refine LeO.ite ?_ ?_
      | refine LeO.bind ?_ (fun _ => ?_)
theorem laws_szHandlerS.mono : ∀ a0 a1 k, LeO (laws_szHandlerS.f k a0 a1) (laws_szHandlerS.f (k + 1) a0 a1) := by
  intro a0 a1 k
  have ih0 := laws_szHandlerS.mono_l k
  unfold laws_szHandlerS.f
  repeat' first
      | (with_reducible exact ih0 _ _ _)
      | (with_reducible exact LeO.refl _)
      | (with_reducible exact LeO.none _)
      | (with_reducible refine LeO.ite ?_ ?_)
      | (with_reducible refine LeO.bind ?_ (fun _ => ?_))
      | exact ih0 _ _ _
      | exact LeO.none _
      | refine LeO.ite ?_ ?_
      | refine LeO.bind ?_ (fun _ => ?_)
set_option maxHeartbeats 8000000 in
set_option maxRecDepth 100000 in
theorem laws_szHandlerS.calls (k : Nat) (A0 : Option Addr) (c0 : Nat) (l0 : List (S201)) (a1 : Int) (r : Int) (w : World) (hr0 : Kd.C k201 w A0 l0.length l0) (hc0 : l0.length ≤ c0) (h : laws_szHandlerS.f k l0 a1 = some r) :
    Calls Try.prog 95 #[.slice A0 l0.length c0, .int .i64 a1] w fun e w' => e = .returned (.int .i64 r) ∧ Below w.heap.size w w' := by
  have hu201 := Try.underlying201
  have HR0 := Zm hr0
  have HC0 := Zm hc0
  clear hr0 hc0
  have HB := Zm (Below.refl w.heap.size w)
  have H : (if (wrap64 (a1 - (l0.length : Int))) < 0 then (some (-1)) else (laws_szHandlerS.l0 k l0 (wrap64 (a1 - (l0.length : Int))) 0)) = some r := h
  clear h
  by_cases c3 : (wrap64 (a1 - (l0.length : Int))) < 0
  rotate_left
  · rw [if_neg c3] at H
    have c3b0 : decide ((wrap64 (a1 - (l0.length : Int))) < 0) = false := decide_eq_false c3
    (try (have c3b1 : decide ((IntKind.i64.wrap (a1 - (l0.length : Int))) < 0) = false := by simp only [i64_w]; exact (decide_eq_false c3)))
    clear c3
    have H' := Zm H
    clear H
    go_enter Try.func95, Try.ntmps95
    go_wp2
    go_loopg [1, 5] k (fun kq v1 v5 w' => ∃ (x1_1 : Int) (x5_1 : Int), v1 = .int .i64 x1_1 ∧ v5 = .int .i64 x5_1 ∧ Aside0 (laws_szHandlerS.l0 kq l0 x1_1 x5_1 = some r) ∧ Aside0 (kq ≤ k) ∧ Aside0 (Below w.heap.size w w'))
    case atStart => exact ⟨(wrap64 (a1 - (l0.length : Int))), (0), (by first | rfl | (simp; done) | (simp [*]; done)), (by first | rfl | (simp; done) | (simp [*]; done)), H', ⟨Nat.le_refl _⟩, ⟨by repeat (first | (with_reducible first | exact HB.out | apply Zba | apply Zbn | apply Zbd) | exact HB.out)⟩⟩
    case round =>
      clear H'
      (try clear p2); (try clear c3); (try clear c3b0); (try clear c3b1)
      obtain ⟨x1_1, x5_1, rfl, rfl, HA, HK1, HB⟩ := hrel
      cases gk with
      | zero => exact absurd HA.out (by simp [laws_szHandlerS.l0])
      | succ k1 =>
        have H := HA.out
        clear HA
        simp only [laws_szHandlerS.l0] at H
        by_cases c4 : x5_1 < (l0.length : Int)
        rotate_left
        · rw [if_neg c4] at H
          have c4b0 : decide (x5_1 < (l0.length : Int)) = false := decide_eq_false c4
          clear c4
          obtain rfl := Option.some.inj H
          go_wp2
          go_ret
          exact ⟨by first | rfl | (simp [errW_none, errW_some] <;> rfl) | (simp [*, errW_none, errW_some] <;> rfl), by repeat (first | (with_reducible first | exact HB.out | apply Zba | apply Zbn | apply Zbd) | exact HB.out)⟩

        rw [if_pos c4] at H
        have c4b0 : decide (x5_1 < (l0.length : Int)) = true := decide_eq_true c4
        clear c4
        by_cases c5 : 0 ≤ x5_1
        rotate_left
        · rw [if_neg c5] at H
          exact absurd H (by simp)
        rw [if_pos c5] at H
        have c5b0 : decide (0 ≤ x5_1) = true := decide_eq_true c5
        clear c5
        replace H := Option.bind_eq_some_iff.mp H
        obtain ⟨t109, A60, H⟩ := H
        replace H : (if t109 < 0 then (some (-1)) else (laws_szHandlerS.l0 k1 l0 t109 (wrap64 (x5_1 + 1)))) = some r := H
        have A6 := Zm A60
        clear A60
        by_cases c7 : t109 < 0
        rotate_left
        · rw [if_neg c7] at H
          have c7b0 : decide (t109 < 0) = false := decide_eq_false c7
          clear c7
          have H' := Zm H
          clear H
          have p108 : 0 ≤ (x5_1 : Int) := of_decide_eq_true (by first | (with_reducible assumption) | assumption)
          have q108 : x5_1 < (l0.length : Int) := of_decide_eq_true (by first | (with_reducible assumption) | assumption)
          obtain ⟨ad108, e108, hx108_0, hx108_1, hx108_2, hx108_3⟩ := at_T201 HR0.out x5_1 p108 q108
          cases e108
          replace hx108_0 := (HB.out.cell (Zlt _ _ hx108_0)).trans hx108_0
          replace hx108_1 := (HB.out.cell (Zlt _ _ hx108_1)).trans hx108_1
          replace hx108_2 := (HB.out.cell (Zlt _ _ hx108_2)).trans hx108_2
          replace hx108_3 := (HB.out.cell (Zlt _ _ hx108_3)).trans hx108_3
          replace p108 := eq_true p108
          replace q108 := eq_true q108
          go_wp2_with (first | ((with_reducible refine gate_callee (f := 140) rfl ?_); refine goesL_ (some 23) rfl rfl Try.func140 (by kernel_rfl) rfl #[.agg #[.int .i64 ((rd_T201 l0 x5_1).f0), .int .i64 ((rd_T201 l0 x5_1).f1), .int .i64 ((rd_T201 l0 x5_1).f2), .string ((rd_T201 l0 x5_1).f3)], .int .i64 x1_1] rfl (by (try simp only [List.map_toArray, List.map_cons, List.map_nil]); first | done | rfl | (simp only [List.length_drop, List.length_take]; rfl)) ?_; (with_reducible refine (laws_szHandler.calls ((rd_T201 l0 x5_1).f0) ((rd_T201 l0 x5_1).f1) ((rd_T201 l0 x5_1).f2) ((rd_T201 l0 x5_1).f3) x1_1 t109 _ A6.out).mono ?_); rintro e w9 ⟨rfl, hb⟩; refine ⟨_, rfl, ?_⟩; have n0_ := Zm (Zbt (by repeat (first | (with_reducible first | exact HB.out | apply Zba | apply Zbn | apply Zbd) | exact HB.out)) hb); clear HB; have HB := n0_; clear n0_; (try clear hb); (try clear hb2); (try clear hk); (try clear hi)))
          go_roundg k1
          case measure => have := HK1.out; omega
          case rel => exact ⟨(t109), (wrap64 (x5_1 + 1)), (by first | rfl | (simp; done) | (simp [*]; done)), (by first | rfl | (simp; done) | (simp [*]; done)), H', ⟨by have := HK1.out; omega⟩, ⟨by repeat (first | (with_reducible first | exact HB.out | apply Zba | apply Zbn | apply Zbd) | exact HB.out)⟩⟩
        rw [if_pos c7] at H
        have c7b0 : decide (t109 < 0) = true := decide_eq_true c7
        clear c7
        obtain rfl := Option.some.inj H
        have p108 : 0 ≤ (x5_1 : Int) := of_decide_eq_true (by first | (with_reducible assumption) | assumption)
        have q108 : x5_1 < (l0.length : Int) := of_decide_eq_true (by first | (with_reducible assumption) | assumption)
        obtain ⟨ad108, e108, hx108_0, hx108_1, hx108_2, hx108_3⟩ := at_T201 HR0.out x5_1 p108 q108
        cases e108
        replace hx108_0 := (HB.out.cell (Zlt _ _ hx108_0)).trans hx108_0
        replace hx108_1 := (HB.out.cell (Zlt _ _ hx108_1)).trans hx108_1
        replace hx108_2 := (HB.out.cell (Zlt _ _ hx108_2)).trans hx108_2
        replace hx108_3 := (HB.out.cell (Zlt _ _ hx108_3)).trans hx108_3
        replace p108 := eq_true p108
        replace q108 := eq_true q108
        go_wp2_with (first | ((with_reducible refine gate_callee (f := 140) rfl ?_); refine goesL_ (some 23) rfl rfl Try.func140 (by kernel_rfl) rfl #[.agg #[.int .i64 ((rd_T201 l0 x5_1).f0), .int .i64 ((rd_T201 l0 x5_1).f1), .int .i64 ((rd_T201 l0 x5_1).f2), .string ((rd_T201 l0 x5_1).f3)], .int .i64 x1_1] rfl (by (try simp only [List.map_toArray, List.map_cons, List.map_nil]); first | done | rfl | (simp only [List.length_drop, List.length_take]; rfl)) ?_; (with_reducible refine (laws_szHandler.calls ((rd_T201 l0 x5_1).f0) ((rd_T201 l0 x5_1).f1) ((rd_T201 l0 x5_1).f2) ((rd_T201 l0 x5_1).f3) x1_1 t109 _ A6.out).mono ?_); rintro e w8 ⟨rfl, hb⟩; refine ⟨_, rfl, ?_⟩; have n0_ := Zm (Zbt (by repeat (first | (with_reducible first | exact HB.out | apply Zba | apply Zbn | apply Zbd) | exact HB.out)) hb); clear HB; have HB := n0_; clear n0_; (try clear hb); (try clear hb2); (try clear hk); (try clear hi)))
        go_ret
        exact ⟨by first | rfl | (simp [errW_none, errW_some] <;> rfl) | (simp [*, errW_none, errW_some] <;> rfl), by repeat (first | (with_reducible first | exact HB.out | apply Zba | apply Zbn | apply Zbd) | exact HB.out)⟩
  rw [if_pos c3] at H
  have c3b0 : decide ((wrap64 (a1 - (l0.length : Int))) < 0) = true := decide_eq_true c3
  (try (have c3b1 : decide ((IntKind.i64.wrap (a1 - (l0.length : Int))) < 0) = true := by simp only [i64_w]; exact (decide_eq_true c3)))
  clear c3
  obtain rfl := Option.some.inj H
  go_enter Try.func95, Try.ntmps95
  go_wp2
  go_ret
  exact ⟨by first | rfl | (simp [errW_none, errW_some] <;> rfl) | (simp [*, errW_none, errW_some] <;> rfl), by repeat (first | (with_reducible first | exact HB.out | apply Zba | apply Zbn | apply Zbd) | exact HB.out)⟩
/-! ### laws_szMethod: function 33 -/
def laws_szMethod.f (k : Nat) (a0_0 : ByteArray) (a0_1 : ByteArray) (a0_2 : Bool) (a0_3 : Bool) (a0_4 : Bool) (a0_5 : Int) (a0_6 : Int) (l0_7 : List (S199)) (l0_8 : List (S201)) (a1 : Int) : Option (Int) := if (wrap64 (a1 - (a0_0.size : Int))) < 0 then (some (-1)) else (if (wrap64 ((wrap64 (a1 - (a0_0.size : Int))) - (a0_1.size : Int))) < 0 then (some (-1)) else ((laws_szInsS.f k l0_7 (wrap64 ((wrap64 (a1 - (a0_0.size : Int))) - (a0_1.size : Int)))).bind fun t111 => (if t111 < 0 then (some (-1)) else ((laws_szHandlerS.f k l0_8 t111).bind fun t112 => (if t112 < 0 then (some (-1)) else (some t112))))))
theorem laws_szMethod.mono : ∀ a0 a1 a2 a3 a4 a5 a6 a7 a8 a9 k, LeO (laws_szMethod.f k a0 a1 a2 a3 a4 a5 a6 a7 a8 a9) (laws_szMethod.f (k + 1) a0 a1 a2 a3 a4 a5 a6 a7 a8 a9) := by
  intro a0 a1 a2 a3 a4 a5 a6 a7 a8 a9 k
  unfold laws_szMethod.f
  repeat' first
      | (with_reducible exact laws_szHandlerS.mono _ _ _)
      | (with_reducible exact laws_szInsS.mono _ _ _)
      | (with_reducible exact LeO.refl _)
      | (with_reducible exact LeO.none _)
      | (with_reducible refine LeO.ite ?_ ?_)
      | (with_reducible refine LeO.bind ?_ (fun _ => ?_))
      | exact laws_szHandlerS.mono _ _ _
      | exact laws_szInsS.mono _ _ _
      | exact LeO.none _
      | refine LeO.ite ?_ ?_
      | refine LeO.bind ?_ (fun _ => ?_)
set_option maxHeartbeats 8000000 in
set_option maxRecDepth 100000 in
theorem laws_szMethod.calls (k : Nat) (a0_0 : ByteArray) (a0_1 : ByteArray) (a0_2 : Bool) (a0_3 : Bool) (a0_4 : Bool) (a0_5 : Int) (a0_6 : Int) (A0_7 : Option Addr) (c0_7 : Nat) (l0_7 : List (S199)) (A0_8 : Option Addr) (c0_8 : Nat) (l0_8 : List (S201)) (a1 : Int) (r : Int) (w : World) (hr0_7 : Kd.C k199 w A0_7 l0_7.length l0_7) (hc0_7 : l0_7.length ≤ c0_7) (hr0_8 : Kd.C k201 w A0_8 l0_8.length l0_8) (hc0_8 : l0_8.length ≤ c0_8) (h : laws_szMethod.f k a0_0 a0_1 a0_2 a0_3 a0_4 a0_5 a0_6 l0_7 l0_8 a1 = some r) :
    Calls Try.prog 33 #[.agg #[.string a0_0, .string a0_1, .bool a0_2, .bool a0_3, .bool a0_4, .int .i64 a0_5, .int .i64 a0_6, .slice A0_7 l0_7.length c0_7, .slice A0_8 l0_8.length c0_8], .int .i64 a1] w fun e w' => e = .returned (.int .i64 r) ∧ Below w.heap.size w w' := by
  have hu78 := Try.underlying78
  have HR0_7 := Zm hr0_7
  have HC0_7 := Zm hc0_7
  clear hr0_7 hc0_7
  have HR0_8 := Zm hr0_8
  have HC0_8 := Zm hc0_8
  clear hr0_8 hc0_8
  have HB := Zm (Below.refl w.heap.size w)
  have H : (if (wrap64 (a1 - (a0_0.size : Int))) < 0 then (some (-1)) else (if (wrap64 ((wrap64 (a1 - (a0_0.size : Int))) - (a0_1.size : Int))) < 0 then (some (-1)) else ((laws_szInsS.f k l0_7 (wrap64 ((wrap64 (a1 - (a0_0.size : Int))) - (a0_1.size : Int)))).bind fun t111 => (if t111 < 0 then (some (-1)) else ((laws_szHandlerS.f k l0_8 t111).bind fun t112 => (if t112 < 0 then (some (-1)) else (some t112))))))) = some r := h
  clear h
  by_cases c3 : (wrap64 (a1 - (a0_0.size : Int))) < 0
  rotate_left
  · rw [if_neg c3] at H
    have c3b0 : decide ((wrap64 (a1 - (a0_0.size : Int))) < 0) = false := decide_eq_false c3
    (try (have c3b1 : decide ((IntKind.i64.wrap (a1 - (a0_0.size : Int))) < 0) = false := by simp only [i64_w]; exact (decide_eq_false c3)))
    clear c3
    by_cases c6 : (wrap64 ((wrap64 (a1 - (a0_0.size : Int))) - (a0_1.size : Int))) < 0
    rotate_left
    · rw [if_neg c6] at H
      have c6b0 : decide ((wrap64 ((wrap64 (a1 - (a0_0.size : Int))) - (a0_1.size : Int))) < 0) = false := decide_eq_false c6
      (try (have c6b1 : decide ((IntKind.i64.wrap ((IntKind.i64.wrap (a1 - (a0_0.size : Int))) - (a0_1.size : Int))) < 0) = false := by simp only [i64_w]; exact (decide_eq_false c6)))
      clear c6
      replace H := Option.bind_eq_some_iff.mp H
      obtain ⟨t111, A90, H⟩ := H
      replace H : (if t111 < 0 then (some (-1)) else ((laws_szHandlerS.f k l0_8 t111).bind fun t112 => (if t112 < 0 then (some (-1)) else (some t112)))) = some r := H
      have A9 := Zm A90
      clear A90
      by_cases c10 : t111 < 0
      rotate_left
      · rw [if_neg c10] at H
        have c10b0 : decide (t111 < 0) = false := decide_eq_false c10
        clear c10
        replace H := Option.bind_eq_some_iff.mp H
        obtain ⟨t112, A140, H⟩ := H
        replace H : (if t112 < 0 then (some (-1)) else (some t112)) = some r := H
        have A14 := Zm A140
        clear A140
        by_cases c15 : t112 < 0
        rotate_left
        · rw [if_neg c15] at H
          have c15b0 : decide (t112 < 0) = false := decide_eq_false c15
          clear c15
          obtain rfl := Option.some.inj H
          go_enter Try.func33, Try.ntmps33
          go_wp2_with (first | ((with_reducible refine gate_dst (N := 2) rfl ?_); refine box_event ?hg (N := 2) ?hd (cs := #[.string a0_0, .string a0_1, .bool a0_2, .bool a0_3, .bool a0_4, .int .i64 a0_5, .int .i64 a0_6, .slice A0_7 l0_7.length c0_7, .slice A0_8 l0_8.length c0_8]) (t := 78) ?hr ?_; (case hd => rfl); (case hg => rfl); (case hr => first | (go_simp; done) | (go_simp; rfl)); intro gb110 hg w21 hbox hb; have n0_ := Zm (Zbt (by repeat (first | (with_reducible first | exact HB.out | apply Zba | apply Zbn | apply Zbd) | exact HB.out)) hb); have n1_ := Zm (hbox); have n2_ := Zm ((by rw [hg]; exact (Zbz (by repeat (first | (with_reducible first | exact HB.out | apply Zba | apply Zbn | apply Zbd) | exact HB.out))) : w.heap.size ≤ gb110)); have n3_ := Zm ((by rw [hg]; exact (Zbz (by repeat (first | (with_reducible first | exact HB.out | apply Zba | apply Zbn | apply Zbd) | exact HB.out))) : w.heap.size ≤ gb110)); clear HB; have HB := n0_; have BK110 := n1_; have GW110 := n2_; have GE110 := n3_; clear n0_ n1_ n2_ n3_; clear hb hbox hg; have hcz22_0 : w21.cell? ⟨gb110, 0, none⟩ = some (.string a0_0) := (Zkc BK110.out 0).trans rfl; have hcz22_1 : w21.cell? ⟨gb110, 1, none⟩ = some (.string a0_1) := (Zkc BK110.out 1).trans rfl; have hcz22_2 : w21.cell? ⟨gb110, 2, none⟩ = some (.bool a0_2) := (Zkc BK110.out 2).trans rfl; have hcz22_3 : w21.cell? ⟨gb110, 3, none⟩ = some (.bool a0_3) := (Zkc BK110.out 3).trans rfl; have hcz22_4 : w21.cell? ⟨gb110, 4, none⟩ = some (.bool a0_4) := (Zkc BK110.out 4).trans rfl; have hcz22_5 : w21.cell? ⟨gb110, 5, none⟩ = some (.int .i64 a0_5) := (Zkc BK110.out 5).trans rfl; have hcz22_6 : w21.cell? ⟨gb110, 6, none⟩ = some (.int .i64 a0_6) := (Zkc BK110.out 6).trans rfl; have hcz22_7 : w21.cell? ⟨gb110, 7, none⟩ = some (.slice A0_7 l0_7.length c0_7) := (Zkc BK110.out 7).trans rfl; have hcz22_8 : w21.cell? ⟨gb110, 8, none⟩ = some (.slice A0_8 l0_8.length c0_8) := (Zkc BK110.out 8).trans rfl; have hfz22_8 := Zkf BK110.out 8) | ((with_reducible refine gate_callee (f := 94) rfl ?_); refine goesL_ (some 22) rfl rfl Try.func94 (by kernel_rfl) rfl #[.slice A0_7 l0_7.length c0_7, .int .i64 (wrap64 ((wrap64 (a1 - (a0_0.size : Int))) - (a0_1.size : Int)))] rfl (by (try simp only [List.map_toArray, List.map_cons, List.map_nil]); first | done | rfl | (simp only [List.length_drop, List.length_take]; rfl)) ?_; (with_reducible refine (laws_szInsS.calls k _ _ l0_7 (wrap64 ((wrap64 (a1 - (a0_0.size : Int))) - (a0_1.size : Int))) t111 _ ?side1 ?side2 A9.out).mono ?_); (case side1 => repeat (first | exact (Kd.C_below HR0_7.out HB.out) | (with_reducible refine Kd.C_alloc ?_ _) | (with_reducible refine Kd.C_drewN ?_ _) | (with_reducible refine Kd.C_drew ?_))); (case side2 => exact HC0_7.out); rintro e w23 ⟨rfl, hb⟩; refine ⟨_, rfl, ?_⟩; have n0_ := Zm (Zkb (g := gb110) (o := .cells #[.string a0_0, .string a0_1, .bool a0_2, .bool a0_3, .bool a0_4, .int .i64 a0_5, .int .i64 a0_6, .slice A0_7 l0_7.length c0_7, .slice A0_8 l0_8.length c0_8] 78 (0, 0)) (by (with_reducible repeat (first | refine Zkn ?_ _ | refine Zkd ?_ | refine Zka ?_ _)); exact BK110.out) hb); have n1_ := Zm (Zbt (by repeat (first | (with_reducible first | exact HB.out | apply Zba | apply Zbn | apply Zbd | refine Zbs ?_ GE110.out) | exact HB.out)) hb); clear BK110; clear HB; have BK110 := n0_; have HB := n1_; clear n0_ n1_; (try clear hb); (try clear hb2); (try clear hk); (try clear hi); have hcz24_0 : w23.cell? ⟨gb110, 0, none⟩ = some (.string a0_0) := (Zkc BK110.out 0).trans rfl; have hcz24_1 : w23.cell? ⟨gb110, 1, none⟩ = some (.string a0_1) := (Zkc BK110.out 1).trans rfl; have hcz24_2 : w23.cell? ⟨gb110, 2, none⟩ = some (.bool a0_2) := (Zkc BK110.out 2).trans rfl; have hcz24_3 : w23.cell? ⟨gb110, 3, none⟩ = some (.bool a0_3) := (Zkc BK110.out 3).trans rfl; have hcz24_4 : w23.cell? ⟨gb110, 4, none⟩ = some (.bool a0_4) := (Zkc BK110.out 4).trans rfl; have hcz24_5 : w23.cell? ⟨gb110, 5, none⟩ = some (.int .i64 a0_5) := (Zkc BK110.out 5).trans rfl; have hcz24_6 : w23.cell? ⟨gb110, 6, none⟩ = some (.int .i64 a0_6) := (Zkc BK110.out 6).trans rfl; have hcz24_7 : w23.cell? ⟨gb110, 7, none⟩ = some (.slice A0_7 l0_7.length c0_7) := (Zkc BK110.out 7).trans rfl; have hcz24_8 : w23.cell? ⟨gb110, 8, none⟩ = some (.slice A0_8 l0_8.length c0_8) := (Zkc BK110.out 8).trans rfl; (try clear BK110)) | ((with_reducible refine gate_callee (f := 95) rfl ?_); refine goesL_ (some 28) rfl rfl Try.func95 (by kernel_rfl) rfl #[.slice A0_8 l0_8.length c0_8, .int .i64 t111] rfl (by (try simp only [List.map_toArray, List.map_cons, List.map_nil]); first | done | rfl | (simp only [List.length_drop, List.length_take]; rfl)) ?_; (with_reducible refine (laws_szHandlerS.calls k _ _ l0_8 t111 t112 _ ?side1 ?side2 A14.out).mono ?_); (case side1 => repeat (first | exact (Kd.C_below HR0_8.out HB.out) | (with_reducible refine Kd.C_alloc ?_ _) | (with_reducible refine Kd.C_drewN ?_ _) | (with_reducible refine Kd.C_drew ?_))); (case side2 => exact HC0_8.out); rintro e w25 ⟨rfl, hb⟩; refine ⟨_, rfl, ?_⟩; have n0_ := Zm (Zbt (by repeat (first | (with_reducible first | exact HB.out | apply Zba | apply Zbn | apply Zbd) | exact HB.out)) hb); clear HB; have HB := n0_; clear n0_; (try clear hb); (try clear hb2); (try clear hk); (try clear hi)))
          go_ret
          exact ⟨by first | rfl | (simp [errW_none, errW_some] <;> rfl) | (simp [*, errW_none, errW_some] <;> rfl), by repeat (first | (with_reducible first | exact HB.out | apply Zba | apply Zbn | apply Zbd) | exact HB.out)⟩

        rw [if_pos c15] at H
        have c15b0 : decide (t112 < 0) = true := decide_eq_true c15
        clear c15
        obtain rfl := Option.some.inj H
        go_enter Try.func33, Try.ntmps33
        go_wp2_with (first | ((with_reducible refine gate_dst (N := 2) rfl ?_); refine box_event ?hg (N := 2) ?hd (cs := #[.string a0_0, .string a0_1, .bool a0_2, .bool a0_3, .bool a0_4, .int .i64 a0_5, .int .i64 a0_6, .slice A0_7 l0_7.length c0_7, .slice A0_8 l0_8.length c0_8]) (t := 78) ?hr ?_; (case hd => rfl); (case hg => rfl); (case hr => first | (go_simp; done) | (go_simp; rfl)); intro gb110 hg w16 hbox hb; have n0_ := Zm (Zbt (by repeat (first | (with_reducible first | exact HB.out | apply Zba | apply Zbn | apply Zbd) | exact HB.out)) hb); have n1_ := Zm (hbox); have n2_ := Zm ((by rw [hg]; exact (Zbz (by repeat (first | (with_reducible first | exact HB.out | apply Zba | apply Zbn | apply Zbd) | exact HB.out))) : w.heap.size ≤ gb110)); have n3_ := Zm ((by rw [hg]; exact (Zbz (by repeat (first | (with_reducible first | exact HB.out | apply Zba | apply Zbn | apply Zbd) | exact HB.out))) : w.heap.size ≤ gb110)); clear HB; have HB := n0_; have BK110 := n1_; have GW110 := n2_; have GE110 := n3_; clear n0_ n1_ n2_ n3_; clear hb hbox hg; have hcz17_0 : w16.cell? ⟨gb110, 0, none⟩ = some (.string a0_0) := (Zkc BK110.out 0).trans rfl; have hcz17_1 : w16.cell? ⟨gb110, 1, none⟩ = some (.string a0_1) := (Zkc BK110.out 1).trans rfl; have hcz17_2 : w16.cell? ⟨gb110, 2, none⟩ = some (.bool a0_2) := (Zkc BK110.out 2).trans rfl; have hcz17_3 : w16.cell? ⟨gb110, 3, none⟩ = some (.bool a0_3) := (Zkc BK110.out 3).trans rfl; have hcz17_4 : w16.cell? ⟨gb110, 4, none⟩ = some (.bool a0_4) := (Zkc BK110.out 4).trans rfl; have hcz17_5 : w16.cell? ⟨gb110, 5, none⟩ = some (.int .i64 a0_5) := (Zkc BK110.out 5).trans rfl; have hcz17_6 : w16.cell? ⟨gb110, 6, none⟩ = some (.int .i64 a0_6) := (Zkc BK110.out 6).trans rfl; have hcz17_7 : w16.cell? ⟨gb110, 7, none⟩ = some (.slice A0_7 l0_7.length c0_7) := (Zkc BK110.out 7).trans rfl; have hcz17_8 : w16.cell? ⟨gb110, 8, none⟩ = some (.slice A0_8 l0_8.length c0_8) := (Zkc BK110.out 8).trans rfl; have hfz17_8 := Zkf BK110.out 8) | ((with_reducible refine gate_callee (f := 94) rfl ?_); refine goesL_ (some 22) rfl rfl Try.func94 (by kernel_rfl) rfl #[.slice A0_7 l0_7.length c0_7, .int .i64 (wrap64 ((wrap64 (a1 - (a0_0.size : Int))) - (a0_1.size : Int)))] rfl (by (try simp only [List.map_toArray, List.map_cons, List.map_nil]); first | done | rfl | (simp only [List.length_drop, List.length_take]; rfl)) ?_; (with_reducible refine (laws_szInsS.calls k _ _ l0_7 (wrap64 ((wrap64 (a1 - (a0_0.size : Int))) - (a0_1.size : Int))) t111 _ ?side1 ?side2 A9.out).mono ?_); (case side1 => repeat (first | exact (Kd.C_below HR0_7.out HB.out) | (with_reducible refine Kd.C_alloc ?_ _) | (with_reducible refine Kd.C_drewN ?_ _) | (with_reducible refine Kd.C_drew ?_))); (case side2 => exact HC0_7.out); rintro e w18 ⟨rfl, hb⟩; refine ⟨_, rfl, ?_⟩; have n0_ := Zm (Zkb (g := gb110) (o := .cells #[.string a0_0, .string a0_1, .bool a0_2, .bool a0_3, .bool a0_4, .int .i64 a0_5, .int .i64 a0_6, .slice A0_7 l0_7.length c0_7, .slice A0_8 l0_8.length c0_8] 78 (0, 0)) (by (with_reducible repeat (first | refine Zkn ?_ _ | refine Zkd ?_ | refine Zka ?_ _)); exact BK110.out) hb); have n1_ := Zm (Zbt (by repeat (first | (with_reducible first | exact HB.out | apply Zba | apply Zbn | apply Zbd | refine Zbs ?_ GE110.out) | exact HB.out)) hb); clear BK110; clear HB; have BK110 := n0_; have HB := n1_; clear n0_ n1_; (try clear hb); (try clear hb2); (try clear hk); (try clear hi); have hcz19_0 : w18.cell? ⟨gb110, 0, none⟩ = some (.string a0_0) := (Zkc BK110.out 0).trans rfl; have hcz19_1 : w18.cell? ⟨gb110, 1, none⟩ = some (.string a0_1) := (Zkc BK110.out 1).trans rfl; have hcz19_2 : w18.cell? ⟨gb110, 2, none⟩ = some (.bool a0_2) := (Zkc BK110.out 2).trans rfl; have hcz19_3 : w18.cell? ⟨gb110, 3, none⟩ = some (.bool a0_3) := (Zkc BK110.out 3).trans rfl; have hcz19_4 : w18.cell? ⟨gb110, 4, none⟩ = some (.bool a0_4) := (Zkc BK110.out 4).trans rfl; have hcz19_5 : w18.cell? ⟨gb110, 5, none⟩ = some (.int .i64 a0_5) := (Zkc BK110.out 5).trans rfl; have hcz19_6 : w18.cell? ⟨gb110, 6, none⟩ = some (.int .i64 a0_6) := (Zkc BK110.out 6).trans rfl; have hcz19_7 : w18.cell? ⟨gb110, 7, none⟩ = some (.slice A0_7 l0_7.length c0_7) := (Zkc BK110.out 7).trans rfl; have hcz19_8 : w18.cell? ⟨gb110, 8, none⟩ = some (.slice A0_8 l0_8.length c0_8) := (Zkc BK110.out 8).trans rfl; (try clear BK110)) | ((with_reducible refine gate_callee (f := 95) rfl ?_); refine goesL_ (some 28) rfl rfl Try.func95 (by kernel_rfl) rfl #[.slice A0_8 l0_8.length c0_8, .int .i64 t111] rfl (by (try simp only [List.map_toArray, List.map_cons, List.map_nil]); first | done | rfl | (simp only [List.length_drop, List.length_take]; rfl)) ?_; (with_reducible refine (laws_szHandlerS.calls k _ _ l0_8 t111 t112 _ ?side1 ?side2 A14.out).mono ?_); (case side1 => repeat (first | exact (Kd.C_below HR0_8.out HB.out) | (with_reducible refine Kd.C_alloc ?_ _) | (with_reducible refine Kd.C_drewN ?_ _) | (with_reducible refine Kd.C_drew ?_))); (case side2 => exact HC0_8.out); rintro e w20 ⟨rfl, hb⟩; refine ⟨_, rfl, ?_⟩; have n0_ := Zm (Zbt (by repeat (first | (with_reducible first | exact HB.out | apply Zba | apply Zbn | apply Zbd) | exact HB.out)) hb); clear HB; have HB := n0_; clear n0_; (try clear hb); (try clear hb2); (try clear hk); (try clear hi)))
        go_ret
        exact ⟨by first | rfl | (simp [errW_none, errW_some] <;> rfl) | (simp [*, errW_none, errW_some] <;> rfl), by repeat (first | (with_reducible first | exact HB.out | apply Zba | apply Zbn | apply Zbd) | exact HB.out)⟩
      rw [if_pos c10] at H
      have c10b0 : decide (t111 < 0) = true := decide_eq_true c10
      clear c10
      obtain rfl := Option.some.inj H
      go_enter Try.func33, Try.ntmps33
      go_wp2_with (first | ((with_reducible refine gate_dst (N := 2) rfl ?_); refine box_event ?hg (N := 2) ?hd (cs := #[.string a0_0, .string a0_1, .bool a0_2, .bool a0_3, .bool a0_4, .int .i64 a0_5, .int .i64 a0_6, .slice A0_7 l0_7.length c0_7, .slice A0_8 l0_8.length c0_8]) (t := 78) ?hr ?_; (case hd => rfl); (case hg => rfl); (case hr => first | (go_simp; done) | (go_simp; rfl)); intro gb110 hg w11 hbox hb; have n0_ := Zm (Zbt (by repeat (first | (with_reducible first | exact HB.out | apply Zba | apply Zbn | apply Zbd) | exact HB.out)) hb); have n1_ := Zm (hbox); have n2_ := Zm ((by rw [hg]; exact (Zbz (by repeat (first | (with_reducible first | exact HB.out | apply Zba | apply Zbn | apply Zbd) | exact HB.out))) : w.heap.size ≤ gb110)); have n3_ := Zm ((by rw [hg]; exact (Zbz (by repeat (first | (with_reducible first | exact HB.out | apply Zba | apply Zbn | apply Zbd) | exact HB.out))) : w.heap.size ≤ gb110)); clear HB; have HB := n0_; have BK110 := n1_; have GW110 := n2_; have GE110 := n3_; clear n0_ n1_ n2_ n3_; clear hb hbox hg; have hcz12_0 : w11.cell? ⟨gb110, 0, none⟩ = some (.string a0_0) := (Zkc BK110.out 0).trans rfl; have hcz12_1 : w11.cell? ⟨gb110, 1, none⟩ = some (.string a0_1) := (Zkc BK110.out 1).trans rfl; have hcz12_2 : w11.cell? ⟨gb110, 2, none⟩ = some (.bool a0_2) := (Zkc BK110.out 2).trans rfl; have hcz12_3 : w11.cell? ⟨gb110, 3, none⟩ = some (.bool a0_3) := (Zkc BK110.out 3).trans rfl; have hcz12_4 : w11.cell? ⟨gb110, 4, none⟩ = some (.bool a0_4) := (Zkc BK110.out 4).trans rfl; have hcz12_5 : w11.cell? ⟨gb110, 5, none⟩ = some (.int .i64 a0_5) := (Zkc BK110.out 5).trans rfl; have hcz12_6 : w11.cell? ⟨gb110, 6, none⟩ = some (.int .i64 a0_6) := (Zkc BK110.out 6).trans rfl; have hcz12_7 : w11.cell? ⟨gb110, 7, none⟩ = some (.slice A0_7 l0_7.length c0_7) := (Zkc BK110.out 7).trans rfl; have hcz12_8 : w11.cell? ⟨gb110, 8, none⟩ = some (.slice A0_8 l0_8.length c0_8) := (Zkc BK110.out 8).trans rfl; (try clear BK110)) | ((with_reducible refine gate_callee (f := 94) rfl ?_); refine goesL_ (some 22) rfl rfl Try.func94 (by kernel_rfl) rfl #[.slice A0_7 l0_7.length c0_7, .int .i64 (wrap64 ((wrap64 (a1 - (a0_0.size : Int))) - (a0_1.size : Int)))] rfl (by (try simp only [List.map_toArray, List.map_cons, List.map_nil]); first | done | rfl | (simp only [List.length_drop, List.length_take]; rfl)) ?_; (with_reducible refine (laws_szInsS.calls k _ _ l0_7 (wrap64 ((wrap64 (a1 - (a0_0.size : Int))) - (a0_1.size : Int))) t111 _ ?side1 ?side2 A9.out).mono ?_); (case side1 => repeat (first | exact (Kd.C_below HR0_7.out HB.out) | (with_reducible refine Kd.C_alloc ?_ _) | (with_reducible refine Kd.C_drewN ?_ _) | (with_reducible refine Kd.C_drew ?_))); (case side2 => exact HC0_7.out); rintro e w13 ⟨rfl, hb⟩; refine ⟨_, rfl, ?_⟩; have n0_ := Zm (Zbt (by repeat (first | (with_reducible first | exact HB.out | apply Zba | apply Zbn | apply Zbd) | exact HB.out)) hb); clear HB; have HB := n0_; clear n0_; (try clear hb); (try clear hb2); (try clear hk); (try clear hi)))
      go_ret
      exact ⟨by first | rfl | (simp [errW_none, errW_some] <;> rfl) | (simp [*, errW_none, errW_some] <;> rfl), by repeat (first | (with_reducible first | exact HB.out | apply Zba | apply Zbn | apply Zbd) | exact HB.out)⟩
    rw [if_pos c6] at H
    have c6b0 : decide ((wrap64 ((wrap64 (a1 - (a0_0.size : Int))) - (a0_1.size : Int))) < 0) = true := decide_eq_true c6
    (try (have c6b1 : decide ((IntKind.i64.wrap ((IntKind.i64.wrap (a1 - (a0_0.size : Int))) - (a0_1.size : Int))) < 0) = true := by simp only [i64_w]; exact (decide_eq_true c6)))
    clear c6
    obtain rfl := Option.some.inj H
    go_enter Try.func33, Try.ntmps33
    go_wp2_with (first | ((with_reducible refine gate_dst (N := 2) rfl ?_); refine box_event ?hg (N := 2) ?hd (cs := #[.string a0_0, .string a0_1, .bool a0_2, .bool a0_3, .bool a0_4, .int .i64 a0_5, .int .i64 a0_6, .slice A0_7 l0_7.length c0_7, .slice A0_8 l0_8.length c0_8]) (t := 78) ?hr ?_; (case hd => rfl); (case hg => rfl); (case hr => first | (go_simp; done) | (go_simp; rfl)); intro gb110 hg w7 hbox hb; have n0_ := Zm (Zbt (by repeat (first | (with_reducible first | exact HB.out | apply Zba | apply Zbn | apply Zbd) | exact HB.out)) hb); have n1_ := Zm (hbox); have n2_ := Zm ((by rw [hg]; exact (Zbz (by repeat (first | (with_reducible first | exact HB.out | apply Zba | apply Zbn | apply Zbd) | exact HB.out))) : w.heap.size ≤ gb110)); have n3_ := Zm ((by rw [hg]; exact (Zbz (by repeat (first | (with_reducible first | exact HB.out | apply Zba | apply Zbn | apply Zbd) | exact HB.out))) : w.heap.size ≤ gb110)); clear HB; have HB := n0_; have BK110 := n1_; have GW110 := n2_; have GE110 := n3_; clear n0_ n1_ n2_ n3_; clear hb hbox hg; have hcz8_0 : w7.cell? ⟨gb110, 0, none⟩ = some (.string a0_0) := (Zkc BK110.out 0).trans rfl; have hcz8_1 : w7.cell? ⟨gb110, 1, none⟩ = some (.string a0_1) := (Zkc BK110.out 1).trans rfl; have hcz8_2 : w7.cell? ⟨gb110, 2, none⟩ = some (.bool a0_2) := (Zkc BK110.out 2).trans rfl; have hcz8_3 : w7.cell? ⟨gb110, 3, none⟩ = some (.bool a0_3) := (Zkc BK110.out 3).trans rfl; have hcz8_4 : w7.cell? ⟨gb110, 4, none⟩ = some (.bool a0_4) := (Zkc BK110.out 4).trans rfl; have hcz8_5 : w7.cell? ⟨gb110, 5, none⟩ = some (.int .i64 a0_5) := (Zkc BK110.out 5).trans rfl; have hcz8_6 : w7.cell? ⟨gb110, 6, none⟩ = some (.int .i64 a0_6) := (Zkc BK110.out 6).trans rfl; have hcz8_7 : w7.cell? ⟨gb110, 7, none⟩ = some (.slice A0_7 l0_7.length c0_7) := (Zkc BK110.out 7).trans rfl; have hcz8_8 : w7.cell? ⟨gb110, 8, none⟩ = some (.slice A0_8 l0_8.length c0_8) := (Zkc BK110.out 8).trans rfl; have hfz8_8 := Zkf BK110.out 8))
    go_ret
    exact ⟨by first | rfl | (simp [errW_none, errW_some] <;> rfl) | (simp [*, errW_none, errW_some] <;> rfl), by repeat (first | (with_reducible first | exact HB.out | apply Zba | apply Zbn | apply Zbd | refine Zbs ?_ GE110.out) | exact HB.out)⟩
  rw [if_pos c3] at H
  have c3b0 : decide ((wrap64 (a1 - (a0_0.size : Int))) < 0) = true := decide_eq_true c3
  (try (have c3b1 : decide ((IntKind.i64.wrap (a1 - (a0_0.size : Int))) < 0) = true := by simp only [i64_w]; exact (decide_eq_true c3)))
  clear c3
  obtain rfl := Option.some.inj H
  go_enter Try.func33, Try.ntmps33
  go_wp2_with (first | ((with_reducible refine gate_dst (N := 2) rfl ?_); refine box_event ?hg (N := 2) ?hd (cs := #[.string a0_0, .string a0_1, .bool a0_2, .bool a0_3, .bool a0_4, .int .i64 a0_5, .int .i64 a0_6, .slice A0_7 l0_7.length c0_7, .slice A0_8 l0_8.length c0_8]) (t := 78) ?hr ?_; (case hd => rfl); (case hg => rfl); (case hr => first | (go_simp; done) | (go_simp; rfl)); intro gb110 hg w4 hbox hb; have n0_ := Zm (Zbt (by repeat (first | (with_reducible first | exact HB.out | apply Zba | apply Zbn | apply Zbd) | exact HB.out)) hb); have n1_ := Zm (hbox); have n2_ := Zm ((by rw [hg]; exact (Zbz (by repeat (first | (with_reducible first | exact HB.out | apply Zba | apply Zbn | apply Zbd) | exact HB.out))) : w.heap.size ≤ gb110)); have n3_ := Zm ((by rw [hg]; exact (Zbz (by repeat (first | (with_reducible first | exact HB.out | apply Zba | apply Zbn | apply Zbd) | exact HB.out))) : w.heap.size ≤ gb110)); clear HB; have HB := n0_; have BK110 := n1_; have GW110 := n2_; have GE110 := n3_; clear n0_ n1_ n2_ n3_; clear hb hbox hg; have hcz5_0 : w4.cell? ⟨gb110, 0, none⟩ = some (.string a0_0) := (Zkc BK110.out 0).trans rfl; have hcz5_1 : w4.cell? ⟨gb110, 1, none⟩ = some (.string a0_1) := (Zkc BK110.out 1).trans rfl; have hcz5_2 : w4.cell? ⟨gb110, 2, none⟩ = some (.bool a0_2) := (Zkc BK110.out 2).trans rfl; have hcz5_3 : w4.cell? ⟨gb110, 3, none⟩ = some (.bool a0_3) := (Zkc BK110.out 3).trans rfl; have hcz5_4 : w4.cell? ⟨gb110, 4, none⟩ = some (.bool a0_4) := (Zkc BK110.out 4).trans rfl; have hcz5_5 : w4.cell? ⟨gb110, 5, none⟩ = some (.int .i64 a0_5) := (Zkc BK110.out 5).trans rfl; have hcz5_6 : w4.cell? ⟨gb110, 6, none⟩ = some (.int .i64 a0_6) := (Zkc BK110.out 6).trans rfl; have hcz5_7 : w4.cell? ⟨gb110, 7, none⟩ = some (.slice A0_7 l0_7.length c0_7) := (Zkc BK110.out 7).trans rfl; have hcz5_8 : w4.cell? ⟨gb110, 8, none⟩ = some (.slice A0_8 l0_8.length c0_8) := (Zkc BK110.out 8).trans rfl; have hfz5_8 := Zkf BK110.out 8))
  go_ret
  exact ⟨by first | rfl | (simp [errW_none, errW_some] <;> rfl) | (simp [*, errW_none, errW_some] <;> rfl), by repeat (first | (with_reducible first | exact HB.out | apply Zba | apply Zbn | apply Zbd | refine Zbs ?_ GE110.out) | exact HB.out)⟩
/-! ### laws_szMethodS: function 65 -/
def laws_szMethodS.l0 : Nat → List (S78) → Int → Int → Option (Int)
  | 0, _, _, _ => none
  | k + 1, x0, x1, x5 => if x5 < (x0.length : Int) then (if 0 ≤ x5 then ((laws_szMethod.f k ((rd_T78 x0 x5).f0) ((rd_T78 x0 x5).f1) ((rd_T78 x0 x5).f2) ((rd_T78 x0 x5).f3) ((rd_T78 x0 x5).f4) ((rd_T78 x0 x5).f5) ((rd_T78 x0 x5).f6) ((rd_T78 x0 x5).f7) ((rd_T78 x0 x5).f8) x1).bind fun t114 => (if t114 < 0 then (some (-1)) else (laws_szMethodS.l0 k x0 t114 (wrap64 (x5 + 1))))) else (none)) else (some x1)
def laws_szMethodS.f (k : Nat) (l0 : List (S78)) (a1 : Int) : Option (Int) := if (wrap64 (a1 - (l0.length : Int))) < 0 then (some (-1)) else (laws_szMethodS.l0 k l0 (wrap64 (a1 - (l0.length : Int))) 0)
theorem laws_szMethodS.mono_l : ∀ k, (∀ y0 y1 y2, LeO (laws_szMethodS.l0 k y0 y1 y2) (laws_szMethodS.l0 (k + 1) y0 y1 y2))
  | 0 => fun _ _ _ r h => by simp [laws_szMethodS.l0] at h
  | k + 1 => by
    have ih0 := laws_szMethodS.mono_l k
    · intro y0 y1 y2
      unfold laws_szMethodS.l0
      repeat' first
      | (with_reducible exact ih0 _ _ _)
      | (with_reducible exact laws_szMethod.mono _ _ _ _ _ _ _ _ _ _ _)
      | (with_reducible exact LeO.refl _)
      | (with_reducible exact LeO.none _)
      | (with_reducible refine LeO.ite ?_ ?_)
      | (with_reducible refine LeO.bind ?_ (fun _ => ?_))
      | exact ih0 _ _ _
      | exact laws_szMethod.mono _ _ _ _ _ _ _ _ _ _ _
      | exact LeO.none _
      | refine LeO.ite ?_ ?_
      | refine LeO.bind ?_ (fun _ => ?_)
theorem laws_szMethodS.mono : ∀ a0 a1 k, LeO (laws_szMethodS.f k a0 a1) (laws_szMethodS.f (k + 1) a0 a1) := by
  intro a0 a1 k
  have ih0 := laws_szMethodS.mono_l k
  unfold laws_szMethodS.f
  repeat' first
      | (with_reducible exact ih0 _ _ _)
      | (with_reducible exact laws_szMethod.mono _ _ _ _ _ _ _ _ _ _ _)
      | (with_reducible exact LeO.refl _)
      | (with_reducible exact LeO.none _)
      | (with_reducible refine LeO.ite ?_ ?_)
      | (with_reducible refine LeO.bind ?_ (fun _ => ?_))
      | exact ih0 _ _ _
      | exact laws_szMethod.mono _ _ _ _ _ _ _ _ _ _ _
      | exact LeO.none _
      | refine LeO.ite ?_ ?_
      | refine LeO.bind ?_ (fun _ => ?_)
set_option maxHeartbeats 8000000 in
set_option maxRecDepth 100000 in
theorem laws_szMethodS.calls (k : Nat) (A0 : Option Addr) (c0 : Nat) (l0 : List (S78)) (a1 : Int) (r : Int) (w : World) (hr0 : Kd.C k78 w A0 l0.length l0) (hc0 : l0.length ≤ c0) (h : laws_szMethodS.f k l0 a1 = some r) :
    Calls Try.prog 65 #[.slice A0 l0.length c0, .int .i64 a1] w fun e w' => e = .returned (.int .i64 r) ∧ Below w.heap.size w w' := by
  have hu78 := Try.underlying78
  have HR0 := Zm hr0
  have HC0 := Zm hc0
  clear hr0 hc0
  have HB := Zm (Below.refl w.heap.size w)
  have H : (if (wrap64 (a1 - (l0.length : Int))) < 0 then (some (-1)) else (laws_szMethodS.l0 k l0 (wrap64 (a1 - (l0.length : Int))) 0)) = some r := h
  clear h
  by_cases c3 : (wrap64 (a1 - (l0.length : Int))) < 0
  rotate_left
  · rw [if_neg c3] at H
    have c3b0 : decide ((wrap64 (a1 - (l0.length : Int))) < 0) = false := decide_eq_false c3
    (try (have c3b1 : decide ((IntKind.i64.wrap (a1 - (l0.length : Int))) < 0) = false := by simp only [i64_w]; exact (decide_eq_false c3)))
    clear c3
    have H' := Zm H
    clear H
    go_enter Try.func65, Try.ntmps65
    go_wp2
    go_loopg [1, 5] k (fun kq v1 v5 w' => ∃ (x1_1 : Int) (x5_1 : Int), v1 = .int .i64 x1_1 ∧ v5 = .int .i64 x5_1 ∧ Aside0 (laws_szMethodS.l0 kq l0 x1_1 x5_1 = some r) ∧ Aside0 (kq ≤ k) ∧ Aside0 (Below w.heap.size w w'))
    case atStart => exact ⟨(wrap64 (a1 - (l0.length : Int))), (0), (by first | rfl | (simp; done) | (simp [*]; done)), (by first | rfl | (simp; done) | (simp [*]; done)), H', ⟨Nat.le_refl _⟩, ⟨by repeat (first | (with_reducible first | exact HB.out | apply Zba | apply Zbn | apply Zbd) | exact HB.out)⟩⟩
    case round =>
      clear H'
      (try clear p2); (try clear c3); (try clear c3b0); (try clear c3b1)
      obtain ⟨x1_1, x5_1, rfl, rfl, HA, HK1, HB⟩ := hrel
      cases gk with
      | zero => exact absurd HA.out (by simp [laws_szMethodS.l0])
      | succ k1 =>
        have H := HA.out
        clear HA
        simp only [laws_szMethodS.l0] at H
        by_cases c4 : x5_1 < (l0.length : Int)
        rotate_left
        · rw [if_neg c4] at H
          have c4b0 : decide (x5_1 < (l0.length : Int)) = false := decide_eq_false c4
          clear c4
          obtain rfl := Option.some.inj H
          go_wp2
          go_ret
          exact ⟨by first | rfl | (simp [errW_none, errW_some] <;> rfl) | (simp [*, errW_none, errW_some] <;> rfl), by repeat (first | (with_reducible first | exact HB.out | apply Zba | apply Zbn | apply Zbd) | exact HB.out)⟩

        rw [if_pos c4] at H
        have c4b0 : decide (x5_1 < (l0.length : Int)) = true := decide_eq_true c4
        clear c4
        by_cases c5 : 0 ≤ x5_1
        rotate_left
        · rw [if_neg c5] at H
          exact absurd H (by simp)
        rw [if_pos c5] at H
        have c5b0 : decide (0 ≤ x5_1) = true := decide_eq_true c5
        clear c5
        replace H := Option.bind_eq_some_iff.mp H
        obtain ⟨t114, A60, H⟩ := H
        replace H : (if t114 < 0 then (some (-1)) else (laws_szMethodS.l0 k1 l0 t114 (wrap64 (x5_1 + 1)))) = some r := H
        have A6 := Zm A60
        clear A60
        by_cases c7 : t114 < 0
        rotate_left
        · rw [if_neg c7] at H
          have c7b0 : decide (t114 < 0) = false := decide_eq_false c7
          clear c7
          have H' := Zm H
          clear H
          have p113 : 0 ≤ (x5_1 : Int) := of_decide_eq_true (by first | (with_reducible assumption) | assumption)
          have q113 : x5_1 < (l0.length : Int) := of_decide_eq_true (by first | (with_reducible assumption) | assumption)
          obtain ⟨ad113, A113_7, c113_7, A113_8, c113_8, e113, hx113_0, hx113_1, hx113_2, hx113_3, hx113_4, hx113_5, hx113_6, hx113_7, hx113_8, hl113_7, hi113_7, hl113_8, hi113_8⟩ := at_T78 HR0.out x5_1 p113 q113
          cases e113
          replace hx113_0 := (HB.out.cell (Zlt _ _ hx113_0)).trans hx113_0
          replace hx113_1 := (HB.out.cell (Zlt _ _ hx113_1)).trans hx113_1
          replace hx113_2 := (HB.out.cell (Zlt _ _ hx113_2)).trans hx113_2
          replace hx113_3 := (HB.out.cell (Zlt _ _ hx113_3)).trans hx113_3
          replace hx113_4 := (HB.out.cell (Zlt _ _ hx113_4)).trans hx113_4
          replace hx113_5 := (HB.out.cell (Zlt _ _ hx113_5)).trans hx113_5
          replace hx113_6 := (HB.out.cell (Zlt _ _ hx113_6)).trans hx113_6
          replace hx113_7 := (HB.out.cell (Zlt _ _ hx113_7)).trans hx113_7
          replace hx113_8 := (HB.out.cell (Zlt _ _ hx113_8)).trans hx113_8
          have HR113_7 := Zm hi113_7
          have HC113_7 := Zm hl113_7
          clear hi113_7 hl113_7
          have HR113_8 := Zm hi113_8
          have HC113_8 := Zm hl113_8
          clear hi113_8 hl113_8
          replace p113 := eq_true p113
          replace q113 := eq_true q113
          go_wp2_with (first | ((with_reducible refine gate_callee (f := 33) rfl ?_); refine goesL_ (some 23) rfl rfl Try.func33 (by kernel_rfl) rfl #[.agg #[.string ((rd_T78 l0 x5_1).f0), .string ((rd_T78 l0 x5_1).f1), .bool ((rd_T78 l0 x5_1).f2), .bool ((rd_T78 l0 x5_1).f3), .bool ((rd_T78 l0 x5_1).f4), .int .i64 ((rd_T78 l0 x5_1).f5), .int .i64 ((rd_T78 l0 x5_1).f6), .slice A113_7 ((rd_T78 l0 x5_1).f7).length c113_7, .slice A113_8 ((rd_T78 l0 x5_1).f8).length c113_8], .int .i64 x1_1] rfl (by (try simp only [List.map_toArray, List.map_cons, List.map_nil]); first | done | rfl | (simp only [List.length_drop, List.length_take]; rfl)) ?_; (with_reducible refine (laws_szMethod.calls k1 ((rd_T78 l0 x5_1).f0) ((rd_T78 l0 x5_1).f1) ((rd_T78 l0 x5_1).f2) ((rd_T78 l0 x5_1).f3) ((rd_T78 l0 x5_1).f4) ((rd_T78 l0 x5_1).f5) ((rd_T78 l0 x5_1).f6) _ _ ((rd_T78 l0 x5_1).f7) _ _ ((rd_T78 l0 x5_1).f8) x1_1 t114 _ ?side1 ?side2 ?side3 ?side4 A6.out).mono ?_); (case side1 => repeat (first | exact (Kd.C_below HR113_7.out HB.out) | (with_reducible refine Kd.C_alloc ?_ _) | (with_reducible refine Kd.C_drewN ?_ _) | (with_reducible refine Kd.C_drew ?_))); (case side2 => exact HC113_7.out); (case side3 => repeat (first | exact (Kd.C_below HR113_8.out HB.out) | (with_reducible refine Kd.C_alloc ?_ _) | (with_reducible refine Kd.C_drewN ?_ _) | (with_reducible refine Kd.C_drew ?_))); (case side4 => exact HC113_8.out); rintro e w9 ⟨rfl, hb⟩; refine ⟨_, rfl, ?_⟩; have n0_ := Zm (Zbt (by repeat (first | (with_reducible first | exact HB.out | apply Zba | apply Zbn | apply Zbd) | exact HB.out)) hb); clear HB; have HB := n0_; clear n0_; (try clear hb); (try clear hb2); (try clear hk); (try clear hi)))
          go_roundg k1
          case measure => have := HK1.out; omega
          case rel => exact ⟨(t114), (wrap64 (x5_1 + 1)), (by first | rfl | (simp; done) | (simp [*]; done)), (by first | rfl | (simp; done) | (simp [*]; done)), H', ⟨by have := HK1.out; omega⟩, ⟨by repeat (first | (with_reducible first | exact HB.out | apply Zba | apply Zbn | apply Zbd) | exact HB.out)⟩⟩
        rw [if_pos c7] at H
        have c7b0 : decide (t114 < 0) = true := decide_eq_true c7
        clear c7
        obtain rfl := Option.some.inj H
        have p113 : 0 ≤ (x5_1 : Int) := of_decide_eq_true (by first | (with_reducible assumption) | assumption)
        have q113 : x5_1 < (l0.length : Int) := of_decide_eq_true (by first | (with_reducible assumption) | assumption)
        obtain ⟨ad113, A113_7, c113_7, A113_8, c113_8, e113, hx113_0, hx113_1, hx113_2, hx113_3, hx113_4, hx113_5, hx113_6, hx113_7, hx113_8, hl113_7, hi113_7, hl113_8, hi113_8⟩ := at_T78 HR0.out x5_1 p113 q113
        cases e113
        replace hx113_0 := (HB.out.cell (Zlt _ _ hx113_0)).trans hx113_0
        replace hx113_1 := (HB.out.cell (Zlt _ _ hx113_1)).trans hx113_1
        replace hx113_2 := (HB.out.cell (Zlt _ _ hx113_2)).trans hx113_2
        replace hx113_3 := (HB.out.cell (Zlt _ _ hx113_3)).trans hx113_3
        replace hx113_4 := (HB.out.cell (Zlt _ _ hx113_4)).trans hx113_4
        replace hx113_5 := (HB.out.cell (Zlt _ _ hx113_5)).trans hx113_5
        replace hx113_6 := (HB.out.cell (Zlt _ _ hx113_6)).trans hx113_6
        replace hx113_7 := (HB.out.cell (Zlt _ _ hx113_7)).trans hx113_7
        replace hx113_8 := (HB.out.cell (Zlt _ _ hx113_8)).trans hx113_8
        have HR113_7 := Zm hi113_7
        have HC113_7 := Zm hl113_7
        clear hi113_7 hl113_7
        have HR113_8 := Zm hi113_8
        have HC113_8 := Zm hl113_8
        clear hi113_8 hl113_8
        replace p113 := eq_true p113
        replace q113 := eq_true q113
        go_wp2_with (first | ((with_reducible refine gate_callee (f := 33) rfl ?_); refine goesL_ (some 23) rfl rfl Try.func33 (by kernel_rfl) rfl #[.agg #[.string ((rd_T78 l0 x5_1).f0), .string ((rd_T78 l0 x5_1).f1), .bool ((rd_T78 l0 x5_1).f2), .bool ((rd_T78 l0 x5_1).f3), .bool ((rd_T78 l0 x5_1).f4), .int .i64 ((rd_T78 l0 x5_1).f5), .int .i64 ((rd_T78 l0 x5_1).f6), .slice A113_7 ((rd_T78 l0 x5_1).f7).length c113_7, .slice A113_8 ((rd_T78 l0 x5_1).f8).length c113_8], .int .i64 x1_1] rfl (by (try simp only [List.map_toArray, List.map_cons, List.map_nil]); first | done | rfl | (simp only [List.length_drop, List.length_take]; rfl)) ?_; (with_reducible refine (laws_szMethod.calls k1 ((rd_T78 l0 x5_1).f0) ((rd_T78 l0 x5_1).f1) ((rd_T78 l0 x5_1).f2) ((rd_T78 l0 x5_1).f3) ((rd_T78 l0 x5_1).f4) ((rd_T78 l0 x5_1).f5) ((rd_T78 l0 x5_1).f6) _ _ ((rd_T78 l0 x5_1).f7) _ _ ((rd_T78 l0 x5_1).f8) x1_1 t114 _ ?side1 ?side2 ?side3 ?side4 A6.out).mono ?_); (case side1 => repeat (first | exact (Kd.C_below HR113_7.out HB.out) | (with_reducible refine Kd.C_alloc ?_ _) | (with_reducible refine Kd.C_drewN ?_ _) | (with_reducible refine Kd.C_drew ?_))); (case side2 => exact HC113_7.out); (case side3 => repeat (first | exact (Kd.C_below HR113_8.out HB.out) | (with_reducible refine Kd.C_alloc ?_ _) | (with_reducible refine Kd.C_drewN ?_ _) | (with_reducible refine Kd.C_drew ?_))); (case side4 => exact HC113_8.out); rintro e w8 ⟨rfl, hb⟩; refine ⟨_, rfl, ?_⟩; have n0_ := Zm (Zbt (by repeat (first | (with_reducible first | exact HB.out | apply Zba | apply Zbn | apply Zbd) | exact HB.out)) hb); clear HB; have HB := n0_; clear n0_; (try clear hb); (try clear hb2); (try clear hk); (try clear hi)))
        go_ret
        exact ⟨by first | rfl | (simp [errW_none, errW_some] <;> rfl) | (simp [*, errW_none, errW_some] <;> rfl), by repeat (first | (with_reducible first | exact HB.out | apply Zba | apply Zbn | apply Zbd) | exact HB.out)⟩
  rw [if_pos c3] at H
  have c3b0 : decide ((wrap64 (a1 - (l0.length : Int))) < 0) = true := decide_eq_true c3
  (try (have c3b1 : decide ((IntKind.i64.wrap (a1 - (l0.length : Int))) < 0) = true := by simp only [i64_w]; exact (decide_eq_true c3)))
  clear c3
  obtain rfl := Option.some.inj H
  go_enter Try.func65, Try.ntmps65
  go_wp2
  go_ret
  exact ⟨by first | rfl | (simp [errW_none, errW_some] <;> rfl) | (simp [*, errW_none, errW_some] <;> rfl), by repeat (first | (with_reducible first | exact HB.out | apply Zba | apply Zbn | apply Zbd) | exact HB.out)⟩
end Go.Proofs.Ytlflbmbcjjegaaa.PFnExactClassSame
