/- Functions of the program as plain Lean functions, each with a proof that the program's call comes to the same; no condition. Written by a program of this session. -/
import Derived.Test.YtkijcgeicdldgaaPFnNumsx0
import Derived.Test.YtkijcgeicdldgaaPFnNumsx1
import Derived.Test.YtkijcgeicdldgaaPFnNumsx2
import Derived.Test.YtkijcgeicdldgaaPFnNumsx3
namespace Go.Proofs.Ytkijcgeicdldgaa.PFnNums
open Go.RowKit Go.Proofs.YtkijcgeicdldgaaW.PrintWords Go.Proofs.YtkijcgeicdldgaaW.PrintLast Go.Proofs.YtkijcgeicdldgaaW.PrintMore
attribute [local go_sem] max2_int min2_int max_two min_two max_three min_three max_four min_four   -- for this text's walks alone
set_option linter.unusedVariables false
set_option linter.unusedSimpArgs false

attribute [local go_sem high] eqA35
/-! ### laws_FnNums: function 13 -/
mutual
def laws_FnNums.j0 : Nat → Int → Bool → Option (Bool)
  | 0, _, _ => none
  | k + 1, x3, x15 => if x15 = true then ((impl_Put4.f k x3).bind fun t173 => (if (t173.size : Int) = 4 then (if 1 + t173.size ≤ 9223372036854775807 then ((impl_Get4.f k ((⟨#[120]⟩ : ByteArray) ++ t173) 1).bind fun bt174 => (if (!(bt174.1 == x3) || (!(bt174.2.1 == 5) || (!(bt174.2.2 == 0)))) = true then (some false) else ((impl_Get4.f k t173 1).bind fun bt177 => (if bt177.2.2 = 4 then (laws_FnNums.j1 k x3) else (some false))))) else (none)) else (some false))) else ((impl_Put4.f k x3).bind fun t180 => (if t180.toList = ([] : List UInt8) then (laws_FnNums.j1 k x3) else (some false)))
def laws_FnNums.j1 : Nat → Int → Option (Bool)
  | 0, _ => none
  | k + 1, x3 => if x3 ≥ 0 then (laws_FnNums.j2 k x3 (decide (x3 ≤ 65535))) else (laws_FnNums.j2 k x3 false)
def laws_FnNums.j2 : Nat → Int → Bool → Option (Bool)
  | 0, _, _ => none
  | k + 1, x3, x43 => if x43 = true then ((impl_Put2.f k x3).bind fun t181 => (if (t181.size : Int) = 2 then (if t181.size + 1 ≤ 9223372036854775807 then ((impl_Get2.f k (t181 ++ (⟨#[120]⟩ : ByteArray)) 0).bind fun bt182 => (if (!(bt182.1 == x3) || (!(bt182.2.1 == 2) || (!(bt182.2.2 == 0)))) = true then (some false) else (laws_FnNums.j3 k x3))) else (none)) else (some false))) else ((impl_Put2.f k x3).bind fun t185 => (if t185.toList = ([] : List UInt8) then (laws_FnNums.j3 k x3) else (some false)))
def laws_FnNums.j3 : Nat → Int → Option (Bool)
  | 0, _ => none
  | k + 1, x3 => if x3 < 0 then (laws_FnNums.j4 k x3 true) else (laws_FnNums.j4 k x3 (decide (x3 > 255)))
def laws_FnNums.j4 : Nat → Int → Bool → Option (Bool)
  | 0, _, _ => none
  | k + 1, x3, x65 => if x65 = true then ((impl_Put1.f k x3).bind fun t186 => (some (t186.toList == ([] : List UInt8)))) else ((impl_Put1.f k x3).bind fun t187 => ((impl_Get1.f k t187 0).bind fun bt188 => (some (bt188.1 == x3 && (bt188.2.1 == 1 && (bt188.2.2 == 0))))))
end
def laws_FnNums.f (k : Nat) (l0 : List Int) : Option (Bool) := if (l0.length : Int) > 1048576 then (some true) else ((spec_DrawPut4.f k l0).bind fun t172 => (if t172 ≥ (-2147483648) then (laws_FnNums.j0 k t172 (decide (t172 ≤ 2147483647))) else (laws_FnNums.j0 k t172 false)))
theorem laws_FnNums.mono_l : ∀ k, (∀ y0 y1, LeO (laws_FnNums.j0 k y0 y1) (laws_FnNums.j0 (k + 1) y0 y1)) ∧ (∀ y0, LeO (laws_FnNums.j1 k y0) (laws_FnNums.j1 (k + 1) y0)) ∧ (∀ y0 y1, LeO (laws_FnNums.j2 k y0 y1) (laws_FnNums.j2 (k + 1) y0 y1)) ∧ (∀ y0, LeO (laws_FnNums.j3 k y0) (laws_FnNums.j3 (k + 1) y0)) ∧ (∀ y0 y1, LeO (laws_FnNums.j4 k y0 y1) (laws_FnNums.j4 (k + 1) y0 y1))
  | 0 => ⟨fun _ _ r h => by simp [laws_FnNums.j0] at h, fun _ r h => by simp [laws_FnNums.j1] at h, fun _ _ r h => by simp [laws_FnNums.j2] at h, fun _ r h => by simp [laws_FnNums.j3] at h, fun _ _ r h => by simp [laws_FnNums.j4] at h⟩
  | k + 1 => by
    obtain ⟨ih0, ih1, ih2, ih3, ih4⟩ := laws_FnNums.mono_l k
    refine ⟨?_, ?_, ?_, ?_, ?_⟩
    · intro y0 y1
      unfold laws_FnNums.j0
      repeat' first
      | (with_reducible exact ih0 _ _)
      | (with_reducible exact ih1 _)
      | (with_reducible exact ih2 _ _)
      | (with_reducible exact ih3 _)
      | (with_reducible exact ih4 _ _)
      | (with_reducible exact impl_Get1.mono _ _ _)
      | (with_reducible exact impl_Get2.mono _ _ _)
      | (with_reducible exact impl_Get4.mono _ _ _)
      | (with_reducible exact impl_Put1.mono _ _)
      | (with_reducible exact impl_Put2.mono _ _)
      | (with_reducible exact impl_Put4.mono _ _)
      | (with_reducible exact spec_DrawPut4.mono _ _)
      | (with_reducible exact LeO.refl _)
      | (with_reducible exact LeO.none _)
      | (with_reducible refine LeO.ite ?_ ?_)
      | (with_reducible refine LeO.bind ?_ (fun _ => ?_))
      | exact ih0 _ _
      | exact ih1 _
      | exact ih2 _ _
      | exact ih3 _
      | exact ih4 _ _
      | exact impl_Get1.mono _ _ _
      | exact impl_Get2.mono _ _ _
      | exact impl_Get4.mono _ _ _
      | exact impl_Put1.mono _ _
      | exact impl_Put2.mono _ _
      | exact impl_Put4.mono _ _
      | exact spec_DrawPut4.mono _ _
      | exact LeO.none _
      | refine LeO.ite ?_ ?_
      | refine LeO.bind ?_ (fun _ => ?_)
    · intro y0
      unfold laws_FnNums.j1
      repeat' first
      | (with_reducible exact ih0 _ _)
      | (with_reducible exact ih1 _)
      | (with_reducible exact ih2 _ _)
      | (with_reducible exact ih3 _)
      | (with_reducible exact ih4 _ _)
      | (with_reducible exact impl_Get1.mono _ _ _)
      | (with_reducible exact impl_Get2.mono _ _ _)
      | (with_reducible exact impl_Get4.mono _ _ _)
      | (with_reducible exact impl_Put1.mono _ _)
      | (with_reducible exact impl_Put2.mono _ _)
      | (with_reducible exact impl_Put4.mono _ _)
      | (with_reducible exact spec_DrawPut4.mono _ _)
      | (with_reducible exact LeO.refl _)
      | (with_reducible exact LeO.none _)
      | (with_reducible refine LeO.ite ?_ ?_)
      | (with_reducible refine LeO.bind ?_ (fun _ => ?_))
      | exact ih0 _ _
      | exact ih1 _
      | exact ih2 _ _
      | exact ih3 _
      | exact ih4 _ _
      | exact impl_Get1.mono _ _ _
      | exact impl_Get2.mono _ _ _
      | exact impl_Get4.mono _ _ _
      | exact impl_Put1.mono _ _
      | exact impl_Put2.mono _ _
      | exact impl_Put4.mono _ _
      | exact spec_DrawPut4.mono _ _
      | exact LeO.none _
      | refine LeO.ite ?_ ?_
      | refine LeO.bind ?_ (fun _ => ?_)
    · intro y0 y1
      unfold laws_FnNums.j2
      repeat' first
      | (with_reducible exact ih0 _ _)
      | (with_reducible exact ih1 _)
      | (with_reducible exact ih2 _ _)
      | (with_reducible exact ih3 _)
      | (with_reducible exact ih4 _ _)
      | (with_reducible exact impl_Get1.mono _ _ _)
      | (with_reducible exact impl_Get2.mono _ _ _)
      | (with_reducible exact impl_Get4.mono _ _ _)
      | (with_reducible exact impl_Put1.mono _ _)
      | (with_reducible exact impl_Put2.mono _ _)
      | (with_reducible exact impl_Put4.mono _ _)
      | (with_reducible exact spec_DrawPut4.mono _ _)
      | (with_reducible exact LeO.refl _)
      | (with_reducible exact LeO.none _)
      | (with_reducible refine LeO.ite ?_ ?_)
      | (with_reducible refine LeO.bind ?_ (fun _ => ?_))
      | exact ih0 _ _
      | exact ih1 _
      | exact ih2 _ _
      | exact ih3 _
      | exact ih4 _ _
      | exact impl_Get1.mono _ _ _
      | exact impl_Get2.mono _ _ _
      | exact impl_Get4.mono _ _ _
      | exact impl_Put1.mono _ _
      | exact impl_Put2.mono _ _
      | exact impl_Put4.mono _ _
      | exact spec_DrawPut4.mono _ _
      | exact LeO.none _
      | refine LeO.ite ?_ ?_
      | refine LeO.bind ?_ (fun _ => ?_)
    · intro y0
      unfold laws_FnNums.j3
      repeat' first
      | (with_reducible exact ih0 _ _)
      | (with_reducible exact ih1 _)
      | (with_reducible exact ih2 _ _)
      | (with_reducible exact ih3 _)
      | (with_reducible exact ih4 _ _)
      | (with_reducible exact impl_Get1.mono _ _ _)
      | (with_reducible exact impl_Get2.mono _ _ _)
      | (with_reducible exact impl_Get4.mono _ _ _)
      | (with_reducible exact impl_Put1.mono _ _)
      | (with_reducible exact impl_Put2.mono _ _)
      | (with_reducible exact impl_Put4.mono _ _)
      | (with_reducible exact spec_DrawPut4.mono _ _)
      | (with_reducible exact LeO.refl _)
      | (with_reducible exact LeO.none _)
      | (with_reducible refine LeO.ite ?_ ?_)
      | (with_reducible refine LeO.bind ?_ (fun _ => ?_))
      | exact ih0 _ _
      | exact ih1 _
      | exact ih2 _ _
      | exact ih3 _
      | exact ih4 _ _
      | exact impl_Get1.mono _ _ _
      | exact impl_Get2.mono _ _ _
      | exact impl_Get4.mono _ _ _
      | exact impl_Put1.mono _ _
      | exact impl_Put2.mono _ _
      | exact impl_Put4.mono _ _
      | exact spec_DrawPut4.mono _ _
      | exact LeO.none _
      | refine LeO.ite ?_ ?_
      | refine LeO.bind ?_ (fun _ => ?_)
    · intro y0 y1
      unfold laws_FnNums.j4
      repeat' first
      | (with_reducible exact ih0 _ _)
      | (with_reducible exact ih1 _)
      | (with_reducible exact ih2 _ _)
      | (with_reducible exact ih3 _)
      | (with_reducible exact ih4 _ _)
      | (with_reducible exact impl_Get1.mono _ _ _)
      | (with_reducible exact impl_Get2.mono _ _ _)
      | (with_reducible exact impl_Get4.mono _ _ _)
      | (with_reducible exact impl_Put1.mono _ _)
      | (with_reducible exact impl_Put2.mono _ _)
      | (with_reducible exact impl_Put4.mono _ _)
      | (with_reducible exact spec_DrawPut4.mono _ _)
      | (with_reducible exact LeO.refl _)
      | (with_reducible exact LeO.none _)
      | (with_reducible refine LeO.ite ?_ ?_)
      | (with_reducible refine LeO.bind ?_ (fun _ => ?_))
      | exact ih0 _ _
      | exact ih1 _
      | exact ih2 _ _
      | exact ih3 _
      | exact ih4 _ _
      | exact impl_Get1.mono _ _ _
      | exact impl_Get2.mono _ _ _
      | exact impl_Get4.mono _ _ _
      | exact impl_Put1.mono _ _
      | exact impl_Put2.mono _ _
      | exact impl_Put4.mono _ _
      | exact spec_DrawPut4.mono _ _
      | exact LeO.none _
      | refine LeO.ite ?_ ?_
      | refine LeO.bind ?_ (fun _ => ?_)
theorem laws_FnNums.mono : ∀ a0 k, LeO (laws_FnNums.f k a0) (laws_FnNums.f (k + 1) a0) := by
  intro a0 k
  obtain ⟨ih0, ih1, ih2, ih3, ih4⟩ := laws_FnNums.mono_l k
  unfold laws_FnNums.f
  repeat' first
      | (with_reducible exact ih0 _ _)
      | (with_reducible exact ih1 _)
      | (with_reducible exact ih2 _ _)
      | (with_reducible exact ih3 _)
      | (with_reducible exact ih4 _ _)
      | (with_reducible exact impl_Get1.mono _ _ _)
      | (with_reducible exact impl_Get2.mono _ _ _)
      | (with_reducible exact impl_Get4.mono _ _ _)
      | (with_reducible exact impl_Put1.mono _ _)
      | (with_reducible exact impl_Put2.mono _ _)
      | (with_reducible exact impl_Put4.mono _ _)
      | (with_reducible exact spec_DrawPut4.mono _ _)
      | (with_reducible exact LeO.refl _)
      | (with_reducible exact LeO.none _)
      | (with_reducible refine LeO.ite ?_ ?_)
      | (with_reducible refine LeO.bind ?_ (fun _ => ?_))
      | exact ih0 _ _
      | exact ih1 _
      | exact ih2 _ _
      | exact ih3 _
      | exact ih4 _ _
      | exact impl_Get1.mono _ _ _
      | exact impl_Get2.mono _ _ _
      | exact impl_Get4.mono _ _ _
      | exact impl_Put1.mono _ _
      | exact impl_Put2.mono _ _
      | exact impl_Put4.mono _ _
      | exact spec_DrawPut4.mono _ _
      | exact LeO.none _
      | refine LeO.ite ?_ ?_
      | refine LeO.bind ?_ (fun _ => ?_)
set_option maxHeartbeats 8000000 in
set_option maxRecDepth 100000 in
theorem laws_FnNums.calls (k : Nat) (A0 : Option Addr) (c0 : Nat) (l0 : List Int) (r : Bool) (w : World) (hr0 : Kd.C (Kd.int .u8) w A0 l0.length l0) (hc0 : l0.length ≤ c0) (h : laws_FnNums.f k l0 = some r) :
    Calls Try.prog 13 #[.slice A0 l0.length c0] w fun e w' => e = .returned (.bool r) ∧ Below w.heap.size w w' := by
  have hu35 := Try.underlying35
  have hf35_2 : ∀ (a0_ a1_ a2_ : Value) (W_ : World), (Instr.field 35 (.agg #[a0_, a1_, a2_]) 2).run Try.prog W_ = .ok (a2_) W_ := fun _ _ _ _ => by rfl
  have HR0 := Aside0.mk hr0
  have HC0 := Aside0.mk hc0
  clear hr0 hc0
  have HB := Aside0.mk (Below.refl w.heap.size w)
  have H : (if (l0.length : Int) > 1048576 then (some true) else ((spec_DrawPut4.f k l0).bind fun t172 => (if t172 ≥ (-2147483648) then (laws_FnNums.j0 k t172 (decide (t172 ≤ 2147483647))) else (laws_FnNums.j0 k t172 false)))) = some r := h
  clear h
  by_cases c2 : (l0.length : Int) > 1048576
  · rw [if_pos c2] at H
    have c2b0 : decide (1048576 < (l0.length : Int)) = true := decide_eq_true c2
    have c2b1 : decide (1048576 < l0.length) = true := decide_eq_true (by omega)
    clear c2
    obtain rfl := Option.some.inj H
    go_enter Try.func13, Try.ntmps13
    go_wp2
    go_ret
    exact ⟨by first | rfl | (simp [errW_none, errW_some] <;> rfl) | (simp [*, errW_none, errW_some] <;> rfl), by repeat (first | (with_reducible first | exact HB.out | apply below_alloc | apply pw_below_drewN | apply below_drew1) | exact HB.out)⟩
  · rw [if_neg c2] at H
    have c2b0 : decide (1048576 < (l0.length : Int)) = false := decide_eq_false c2
    have c2b1 : decide (1048576 < l0.length) = false := decide_eq_false (by omega)
    clear c2
    replace H := Option.bind_eq_some_iff.mp H
    obtain ⟨t172, A30, H⟩ := H
    replace H : (if t172 ≥ (-2147483648) then (laws_FnNums.j0 k t172 (decide (t172 ≤ 2147483647))) else (laws_FnNums.j0 k t172 false)) = some r := H
    have A3 := Aside0.mk A30
    clear A30
    have HC4 := Aside0.mk H
    clear H
    go_enter Try.func13, Try.ntmps13
    go_upto_region 5 with (first | ((with_reducible refine gate_callee (f := 41) rfl ?_); refine goesL_ (some 9) rfl rfl Try.func41 (by kernel_rfl) rfl #[.slice A0 l0.length c0] rfl (by (try simp only [List.map_toArray, List.map_cons, List.map_nil]); first | done | rfl | (simp only [List.length_drop, List.length_take]; rfl)) ?_; (with_reducible refine (spec_DrawPut4.calls k _ _ l0 t172 _ ?side1 ?side2 A3.out).mono ?_); (case side1 => repeat (first | exact HR0.out | (with_reducible refine Kd.C_alloc ?_ _) | (with_reducible refine Kd.C_drewN ?_ _) | (with_reducible refine Kd.C_drew ?_))); (case side2 => exact HC0.out); rintro e w5 ⟨rfl, hb⟩; refine ⟨_, rfl, ?_⟩; have n0_ := Aside0.mk (below_step (by repeat (first | (with_reducible first | exact HB.out | apply below_alloc | apply pw_below_drewN | apply below_drew1) | exact HB.out)) hb); clear HB; have HB := n0_; clear n0_; (try clear hb); (try clear hb2); (try clear hk); (try clear hi)))
    (try simp only [Act.put, List.setIfInBounds_toArray, List.set_cons_zero, List.set_cons_succ])
    go_cut [15] (fun v15 wc => ∃ (kq : Nat) (x15_3 : Bool), v15 = .bool x15_3 ∧ Aside0 (laws_FnNums.j0 kq t172 x15_3 = some r) ∧ Aside0 (kq ≤ k) ∧ Aside0 (Below w.heap.size w wc))
    case first =>
      have H := HC4.out
      clear HC4
      by_cases c6 : t172 ≥ (-2147483648)
      · rw [if_pos c6] at H
        have c6b0 : decide ((-2147483648) ≤ t172) = true := decide_eq_true c6
        clear c6
        (first | rw [c6b0] | (simp only [i64_w, i32_w]; rw [c6b0]) | skip)
        have H' := Aside0.mk H
        clear H
        go_wp2
        go_meet
        case rel => exact ⟨_, (decide (t172 ≤ 2147483647)), (by first | rfl | (simp; done) | (simp [*]; done)), H', ⟨by first | omega | exact Nat.le_refl _⟩, ⟨by repeat (first | (with_reducible first | exact HB.out | apply below_alloc | apply pw_below_drewN | apply below_drew1) | exact HB.out)⟩⟩
      · rw [if_neg c6] at H
        have c6b0 : decide ((-2147483648) ≤ t172) = false := decide_eq_false c6
        clear c6
        (first | rw [c6b0] | (simp only [i64_w, i32_w]; rw [c6b0]) | skip)
        have H' := Aside0.mk H
        clear H
        go_wp2
        go_meet
        case rel => exact ⟨_, (false), (by first | rfl | (simp; done) | (simp [*]; done)), H', ⟨by first | omega | exact Nat.le_refl _⟩, ⟨by repeat (first | (with_reducible first | exact HB.out | apply below_alloc | apply pw_below_drewN | apply below_drew1) | exact HB.out)⟩⟩
    case rest =>
      clear HC4
      try clear c1
      try clear c2
      try clear c2b0
      try clear c2b1
      try clear p2
      try clear c4
      try clear c6
      try clear c6b0
      obtain ⟨kq, x15_3, rfl, HA, HJ3, HB⟩ := hcut
      cases kq with
      | zero => exact absurd HA.out (by simp [laws_FnNums.j0])
      | succ kj3 =>
        have H := HA.out
        clear HA
        simp only [laws_FnNums.j0] at H
        have HC7 := Aside0.mk H
        clear H
        go_upto_if 15 with (fail)
        go_cut [] (fun wc => ∃ (kq : Nat), Aside0 (laws_FnNums.j1 kq t172 = some r) ∧ Aside0 (kq ≤ kj3) ∧ Aside0 (Below w.heap.size w wc))
        case first =>
          have H := HC7.out
          clear HC7
          by_cases c8 : x15_3 = true
          · subst c8
            have H1 : ((impl_Put4.f kj3 t172).bind fun t173 => (if (t173.size : Int) = 4 then (if 1 + t173.size ≤ 9223372036854775807 then ((impl_Get4.f kj3 ((⟨#[120]⟩ : ByteArray) ++ t173) 1).bind fun bt174 => (if (!(bt174.1 == t172) || (!(bt174.2.1 == 5) || (!(bt174.2.2 == 0)))) = true then (some false) else ((impl_Get4.f kj3 t173 1).bind fun bt177 => (if bt177.2.2 = 4 then (laws_FnNums.j1 kj3 t172) else (some false))))) else (none)) else (some false))) = some r := by rw [if_pos rfl] at H; exact H
            clear H
            have H := H1
            clear H1
            replace H := Option.bind_eq_some_iff.mp H
            obtain ⟨t173, A90, H⟩ := H
            replace H : (if (t173.size : Int) = 4 then (if 1 + t173.size ≤ 9223372036854775807 then ((impl_Get4.f kj3 ((⟨#[120]⟩ : ByteArray) ++ t173) 1).bind fun bt174 => (if (!(bt174.1 == t172) || (!(bt174.2.1 == 5) || (!(bt174.2.2 == 0)))) = true then (some false) else ((impl_Get4.f kj3 t173 1).bind fun bt177 => (if bt177.2.2 = 4 then (laws_FnNums.j1 kj3 t172) else (some false))))) else (none)) else (some false)) = some r := H
            have A9 := Aside0.mk A90
            clear A90
            by_cases c10 : (t173.size : Int) = 4
            · rw [if_pos c10] at H
              have c10b0 : ((t173.size : Int) == 4) = true := beq_iff_eq.mpr c10
              have c10b1 : ((t173.size : Int) != 4) = false := bne_eq_false_iff_eq.mpr c10
              clear c10
              (first | rw [c10b0] | (simp only [i64_w, i32_w]; rw [c10b0]) | skip)
              by_cases c11 : 1 + t173.size ≤ 9223372036854775807
              · rw [if_pos c11] at H
                have c11b0 := eq_true c11
                have c11b1 : decide (1 + t173.size ≤ 9223372036854775807) = true := decide_eq_true c11
                try have c11b2 : (9223372036854775807 < 1 + t173.size) = False := eq_false (Nat.not_lt.2 c11)
                replace H := Option.bind_eq_some_iff.mp H
                obtain ⟨⟨t174, t175, t176⟩, A120, H⟩ := H
                replace H : (if (!(t174 == t172) || (!(t175 == 5) || (!(t176 == 0)))) = true then (some false) else ((impl_Get4.f kj3 t173 1).bind fun bt177 => (if bt177.2.2 = 4 then (laws_FnNums.j1 kj3 t172) else (some false)))) = some r := H
                have A12 := Aside0.mk A120
                clear A120
                by_cases c13 : (!(t174 == t172) || (!(t175 == 5) || (!(t176 == 0)))) = true
                · rw [if_pos c13] at H
                  have c13b0 : (!(t174 == t172) || (!(t175 == 5) || (!(t176 == 0)))) = true := c13
                  clear c13
                  obtain rfl := Option.some.inj H
                  go_wp2_with (first | ((with_reducible refine gate_callee (f := 42) rfl ?_); refine goesL_ (some 17) rfl rfl Try.func42 (by kernel_rfl) rfl #[.int .i64 t172] rfl (by (try simp only [List.map_toArray, List.map_cons, List.map_nil]); first | done | rfl | (simp only [List.length_drop, List.length_take]; rfl)) ?_; (with_reducible refine (impl_Put4.calls kj3 t172 t173 _ A9.out).mono ?_); rintro e w14 ⟨rfl, hb⟩; refine ⟨_, rfl, ?_⟩; have n0_ := Aside0.mk (below_step (by repeat (first | (with_reducible first | exact HB.out | apply below_alloc | apply pw_below_drewN | apply below_drew1) | exact HB.out)) hb); clear HB; have HB := n0_; clear n0_; (try clear hb); (try clear hb2); (try clear hk); (try clear hi)) | (go_at_call 40; (first | (with_reducible refine (impl_Get4.calls kj3 ((⟨#[120]⟩ : ByteArray) ++ t173) 1 t174 t175 t176 _ A12.out).mono ?_) | (with_reducible refine (calls_of_args ?_ (impl_Get4.calls kj3 ((⟨#[120]⟩ : ByteArray) ++ t173) 1 t174 t175 t176 _ A12.out)).mono ?_; focus (simp [*]; done))); rintro e w15 ⟨rfl, hb⟩; have n0_ := Aside0.mk (below_step (by repeat (first | (with_reducible first | exact HB.out | apply below_alloc | apply pw_below_drewN | apply below_drew1) | exact HB.out)) hb); clear HB; have HB := n0_; clear n0_; (try clear hb); (try clear hb2); (try clear hk); (try clear hi)))
                  go_ret
                  exact ⟨by first | rfl | (simp [errW_none, errW_some] <;> rfl) | (simp [*, errW_none, errW_some] <;> rfl), by repeat (first | (with_reducible first | exact HB.out | apply below_alloc | apply pw_below_drewN | apply below_drew1) | exact HB.out)⟩
                · rw [if_neg c13] at H
                  have c13b0 : (!(t174 == t172) || (!(t175 == 5) || (!(t176 == 0)))) = false := by simpa using c13
                  clear c13
                  replace H := Option.bind_eq_some_iff.mp H
                  obtain ⟨⟨t177, t178, t179⟩, A160, H⟩ := H
                  replace H : (if t179 = 4 then (laws_FnNums.j1 kj3 t172) else (some false)) = some r := H
                  have A16 := Aside0.mk A160
                  clear A160
                  by_cases c17 : t179 = 4
                  · rw [if_pos c17] at H
                    have c17b0 : (t179 == 4) = true := beq_iff_eq.mpr c17
                    have c17b1 : (t179 != 4) = false := bne_eq_false_iff_eq.mpr c17
                    clear c17
                    have H' := Aside0.mk H
                    clear H
                    go_wp2_with (first | ((with_reducible refine gate_callee (f := 42) rfl ?_); refine goesL_ (some 17) rfl rfl Try.func42 (by kernel_rfl) rfl #[.int .i64 t172] rfl (by (try simp only [List.map_toArray, List.map_cons, List.map_nil]); first | done | rfl | (simp only [List.length_drop, List.length_take]; rfl)) ?_; (with_reducible refine (impl_Put4.calls kj3 t172 t173 _ A9.out).mono ?_); rintro e w18 ⟨rfl, hb⟩; refine ⟨_, rfl, ?_⟩; have n0_ := Aside0.mk (below_step (by repeat (first | (with_reducible first | exact HB.out | apply below_alloc | apply pw_below_drewN | apply below_drew1) | exact HB.out)) hb); clear HB; have HB := n0_; clear n0_; (try clear hb); (try clear hb2); (try clear hk); (try clear hi)) | (go_at_call 40; (first | (with_reducible refine (impl_Get4.calls kj3 ((⟨#[120]⟩ : ByteArray) ++ t173) 1 t174 t175 t176 _ A12.out).mono ?_) | (with_reducible refine (calls_of_args ?_ (impl_Get4.calls kj3 ((⟨#[120]⟩ : ByteArray) ++ t173) 1 t174 t175 t176 _ A12.out)).mono ?_; focus (simp [*]; done))); rintro e w19 ⟨rfl, hb⟩; have n0_ := Aside0.mk (below_step (by repeat (first | (with_reducible first | exact HB.out | apply below_alloc | apply pw_below_drewN | apply below_drew1) | exact HB.out)) hb); clear HB; have HB := n0_; clear n0_; (try clear hb); (try clear hb2); (try clear hk); (try clear hi)) | (go_at_call 40; (first | (with_reducible refine (impl_Get4.calls kj3 t173 1 t177 t178 t179 _ A16.out).mono ?_) | (with_reducible refine (calls_of_args ?_ (impl_Get4.calls kj3 t173 1 t177 t178 t179 _ A16.out)).mono ?_; focus (simp [*]; done))); rintro e w20 ⟨rfl, hb⟩; have n0_ := Aside0.mk (below_step (by repeat (first | (with_reducible first | exact HB.out | apply below_alloc | apply pw_below_drewN | apply below_drew1) | exact HB.out)) hb); clear HB; have HB := n0_; clear n0_; (try clear hb); (try clear hb2); (try clear hk); (try clear hi)))
                    go_meet
                    case rel => exact ⟨_, H', ⟨by have := HJ3.out; first | omega | exact Nat.le_refl _⟩, ⟨by repeat (first | (with_reducible first | exact HB.out | apply below_alloc | apply pw_below_drewN | apply below_drew1) | exact HB.out)⟩⟩
                  · rw [if_neg c17] at H
                    have c17b0 : (t179 == 4) = false := beq_eq_false_iff_ne.mpr c17
                    have c17b1 : (t179 != 4) = true := bne_iff_ne.mpr c17
                    obtain rfl := Option.some.inj H
                    go_wp2_with (first | ((with_reducible refine gate_callee (f := 42) rfl ?_); refine goesL_ (some 17) rfl rfl Try.func42 (by kernel_rfl) rfl #[.int .i64 t172] rfl (by (try simp only [List.map_toArray, List.map_cons, List.map_nil]); first | done | rfl | (simp only [List.length_drop, List.length_take]; rfl)) ?_; (with_reducible refine (impl_Put4.calls kj3 t172 t173 _ A9.out).mono ?_); rintro e w21 ⟨rfl, hb⟩; refine ⟨_, rfl, ?_⟩; have n0_ := Aside0.mk (below_step (by repeat (first | (with_reducible first | exact HB.out | apply below_alloc | apply pw_below_drewN | apply below_drew1) | exact HB.out)) hb); clear HB; have HB := n0_; clear n0_; (try clear hb); (try clear hb2); (try clear hk); (try clear hi)) | (go_at_call 40; (first | (with_reducible refine (impl_Get4.calls kj3 ((⟨#[120]⟩ : ByteArray) ++ t173) 1 t174 t175 t176 _ A12.out).mono ?_) | (with_reducible refine (calls_of_args ?_ (impl_Get4.calls kj3 ((⟨#[120]⟩ : ByteArray) ++ t173) 1 t174 t175 t176 _ A12.out)).mono ?_; focus (simp [*]; done))); rintro e w22 ⟨rfl, hb⟩; have n0_ := Aside0.mk (below_step (by repeat (first | (with_reducible first | exact HB.out | apply below_alloc | apply pw_below_drewN | apply below_drew1) | exact HB.out)) hb); clear HB; have HB := n0_; clear n0_; (try clear hb); (try clear hb2); (try clear hk); (try clear hi)) | (go_at_call 40; (first | (with_reducible refine (impl_Get4.calls kj3 t173 1 t177 t178 t179 _ A16.out).mono ?_) | (with_reducible refine (calls_of_args ?_ (impl_Get4.calls kj3 t173 1 t177 t178 t179 _ A16.out)).mono ?_; focus (simp [*]; done))); rintro e w23 ⟨rfl, hb⟩; have n0_ := Aside0.mk (below_step (by repeat (first | (with_reducible first | exact HB.out | apply below_alloc | apply pw_below_drewN | apply below_drew1) | exact HB.out)) hb); clear HB; have HB := n0_; clear n0_; (try clear hb); (try clear hb2); (try clear hk); (try clear hi)))
                    go_ret
                    exact ⟨by first | rfl | (simp [errW_none, errW_some] <;> rfl) | (simp [*, errW_none, errW_some] <;> rfl), by repeat (first | (with_reducible first | exact HB.out | apply below_alloc | apply pw_below_drewN | apply below_drew1) | exact HB.out)⟩
              · rw [if_neg c11] at H
                exact absurd H (by simp)
            · rw [if_neg c10] at H
              have c10b0 : ((t173.size : Int) == 4) = false := beq_eq_false_iff_ne.mpr c10
              have c10b1 : ((t173.size : Int) != 4) = true := bne_iff_ne.mpr c10
              (first | rw [c10b0] | (simp only [i64_w, i32_w]; rw [c10b0]) | skip)
              obtain rfl := Option.some.inj H
              go_wp2_with (first | ((with_reducible refine gate_callee (f := 42) rfl ?_); refine goesL_ (some 17) rfl rfl Try.func42 (by kernel_rfl) rfl #[.int .i64 t172] rfl (by (try simp only [List.map_toArray, List.map_cons, List.map_nil]); first | done | rfl | (simp only [List.length_drop, List.length_take]; rfl)) ?_; (with_reducible refine (impl_Put4.calls kj3 t172 t173 _ A9.out).mono ?_); rintro e w24 ⟨rfl, hb⟩; refine ⟨_, rfl, ?_⟩; have n0_ := Aside0.mk (below_step (by repeat (first | (with_reducible first | exact HB.out | apply below_alloc | apply pw_below_drewN | apply below_drew1) | exact HB.out)) hb); clear HB; have HB := n0_; clear n0_; (try clear hb); (try clear hb2); (try clear hk); (try clear hi)))
              go_ret
              exact ⟨by first | rfl | (simp [errW_none, errW_some] <;> rfl) | (simp [*, errW_none, errW_some] <;> rfl), by repeat (first | (with_reducible first | exact HB.out | apply below_alloc | apply pw_below_drewN | apply below_drew1) | exact HB.out)⟩
          · replace c8 := Bool.eq_false_iff.mpr c8
            subst c8
            have H1 : ((impl_Put4.f kj3 t172).bind fun t180 => (if t180.toList = ([] : List UInt8) then (laws_FnNums.j1 kj3 t172) else (some false))) = some r := by rw [if_neg (show ¬ (false = true) by decide)] at H; exact H
            clear H
            have H := H1
            clear H1
            replace H := Option.bind_eq_some_iff.mp H
            obtain ⟨t180, A250, H⟩ := H
            replace H : (if t180.toList = ([] : List UInt8) then (laws_FnNums.j1 kj3 t172) else (some false)) = some r := H
            have A25 := Aside0.mk A250
            clear A250
            by_cases c26 : t180.toList = ([] : List UInt8)
            · rw [if_pos c26] at H
              have c26b0 : (t180.toList == ([] : List UInt8)) = true := beq_iff_eq.mpr c26
              have c26b1 : (t180.toList != ([] : List UInt8)) = false := bne_eq_false_iff_eq.mpr c26
              clear c26
              have H' := Aside0.mk H
              clear H
              go_wp2_with (first | ((with_reducible refine gate_callee (f := 42) rfl ?_); refine goesL_ (some 36) rfl rfl Try.func42 (by kernel_rfl) rfl #[.int .i64 t172] rfl (by (try simp only [List.map_toArray, List.map_cons, List.map_nil]); first | done | rfl | (simp only [List.length_drop, List.length_take]; rfl)) ?_; (with_reducible refine (impl_Put4.calls kj3 t172 t180 _ A25.out).mono ?_); rintro e w27 ⟨rfl, hb⟩; refine ⟨_, rfl, ?_⟩; have n0_ := Aside0.mk (below_step (by repeat (first | (with_reducible first | exact HB.out | apply below_alloc | apply pw_below_drewN | apply below_drew1) | exact HB.out)) hb); clear HB; have HB := n0_; clear n0_; (try clear hb); (try clear hb2); (try clear hk); (try clear hi)))
              go_meet
              case rel => exact ⟨_, H', ⟨by have := HJ3.out; first | omega | exact Nat.le_refl _⟩, ⟨by repeat (first | (with_reducible first | exact HB.out | apply below_alloc | apply pw_below_drewN | apply below_drew1) | exact HB.out)⟩⟩
            · rw [if_neg c26] at H
              have c26b0 : (t180.toList == ([] : List UInt8)) = false := beq_eq_false_iff_ne.mpr c26
              have c26b1 : (t180.toList != ([] : List UInt8)) = true := bne_iff_ne.mpr c26
              obtain rfl := Option.some.inj H
              go_wp2_with (first | ((with_reducible refine gate_callee (f := 42) rfl ?_); refine goesL_ (some 36) rfl rfl Try.func42 (by kernel_rfl) rfl #[.int .i64 t172] rfl (by (try simp only [List.map_toArray, List.map_cons, List.map_nil]); first | done | rfl | (simp only [List.length_drop, List.length_take]; rfl)) ?_; (with_reducible refine (impl_Put4.calls kj3 t172 t180 _ A25.out).mono ?_); rintro e w28 ⟨rfl, hb⟩; refine ⟨_, rfl, ?_⟩; have n0_ := Aside0.mk (below_step (by repeat (first | (with_reducible first | exact HB.out | apply below_alloc | apply pw_below_drewN | apply below_drew1) | exact HB.out)) hb); clear HB; have HB := n0_; clear n0_; (try clear hb); (try clear hb2); (try clear hk); (try clear hi)))
              go_ret
              exact ⟨by first | rfl | (simp [errW_none, errW_some] <;> rfl) | (simp [*, errW_none, errW_some] <;> rfl), by repeat (first | (with_reducible first | exact HB.out | apply below_alloc | apply pw_below_drewN | apply below_drew1) | exact HB.out)⟩
        case rest =>
          clear HC7
          try clear c1
          try clear c2
          try clear c2b0
          try clear c2b1
          try clear p2
          try clear c4
          try clear c6
          try clear c6b0
          try clear c8
          try clear c10
          try clear c10b0
          try clear c10b1
          try clear c11
          try clear c11b0
          try clear c11b1
          try clear c11b2
          try clear c13
          try clear c13b0
          try clear c17
          try clear c17b0
          try clear c17b1
          try clear c26
          try clear c26b0
          try clear c26b1
          try clear p2
          obtain ⟨kq, HA, HJ6, HB⟩ := hcut
          cases kq with
          | zero => exact absurd HA.out (by simp [laws_FnNums.j1])
          | succ kj6 =>
            have H := HA.out
            clear HA
            simp only [laws_FnNums.j1] at H
            have HC29 := Aside0.mk H
            clear H
            go_upto_region 11 with (fail)
            go_cut [43] (fun v43 wc => ∃ (kq : Nat) (x43_28 : Bool), v43 = .bool x43_28 ∧ Aside0 (laws_FnNums.j2 kq t172 x43_28 = some r) ∧ Aside0 (kq ≤ kj6) ∧ Aside0 (Below w.heap.size w wc))
            case first =>
              have H := HC29.out
              clear HC29
              by_cases c30 : t172 ≥ 0
              · rw [if_pos c30] at H
                have c30b0 : decide (0 ≤ t172) = true := decide_eq_true c30
                clear c30
                (first | rw [c30b0] | (simp only [i64_w, i32_w]; rw [c30b0]) | skip)
                have H' := Aside0.mk H
                clear H
                go_wp2
                go_meet
                case rel => exact ⟨_, (decide (t172 ≤ 65535)), (by first | rfl | (simp; done) | (simp [*]; done)), H', ⟨by have := HJ3.out; have := HJ6.out; first | omega | exact Nat.le_refl _⟩, ⟨by repeat (first | (with_reducible first | exact HB.out | apply below_alloc | apply pw_below_drewN | apply below_drew1) | exact HB.out)⟩⟩
              · rw [if_neg c30] at H
                have c30b0 : decide (0 ≤ t172) = false := decide_eq_false c30
                clear c30
                (first | rw [c30b0] | (simp only [i64_w, i32_w]; rw [c30b0]) | skip)
                have H' := Aside0.mk H
                clear H
                go_wp2
                go_meet
                case rel => exact ⟨_, (false), (by first | rfl | (simp; done) | (simp [*]; done)), H', ⟨by have := HJ3.out; have := HJ6.out; first | omega | exact Nat.le_refl _⟩, ⟨by repeat (first | (with_reducible first | exact HB.out | apply below_alloc | apply pw_below_drewN | apply below_drew1) | exact HB.out)⟩⟩
            case rest =>
              clear HC29
              try clear c1
              try clear c2
              try clear c2b0
              try clear c2b1
              try clear p2
              try clear c3
              try clear c4
              try clear c6
              try clear c6b0
              try clear c8
              try clear c10
              try clear c10b0
              try clear c10b1
              try clear c11
              try clear c11b0
              try clear c11b1
              try clear c11b2
              try clear c13
              try clear c13b0
              try clear c17
              try clear c17b0
              try clear c17b1
              try clear c26
              try clear c26b0
              try clear c26b1
              try clear c30
              try clear c30b0
              try clear p2
              obtain ⟨kq, x43_28, rfl, HA, HJ28, HB⟩ := hcut
              cases kq with
              | zero => exact absurd HA.out (by simp [laws_FnNums.j2])
              | succ kj28 =>
                have H := HA.out
                clear HA
                simp only [laws_FnNums.j2] at H
                have HC31 := Aside0.mk H
                clear H
                go_upto_if 43 with (fail)
                go_cut [] (fun wc => ∃ (kq : Nat), Aside0 (laws_FnNums.j3 kq t172 = some r) ∧ Aside0 (kq ≤ kj28) ∧ Aside0 (Below w.heap.size w wc))
                case first =>
                  have H := HC31.out
                  clear HC31
                  by_cases c32 : x43_28 = true
                  · subst c32
                    have H1 : ((impl_Put2.f kj28 t172).bind fun t181 => (if (t181.size : Int) = 2 then (if t181.size + 1 ≤ 9223372036854775807 then ((impl_Get2.f kj28 (t181 ++ (⟨#[120]⟩ : ByteArray)) 0).bind fun bt182 => (if (!(bt182.1 == t172) || (!(bt182.2.1 == 2) || (!(bt182.2.2 == 0)))) = true then (some false) else (laws_FnNums.j3 kj28 t172))) else (none)) else (some false))) = some r := by rw [if_pos rfl] at H; exact H
                    clear H
                    have H := H1
                    clear H1
                    replace H := Option.bind_eq_some_iff.mp H
                    obtain ⟨t181, A330, H⟩ := H
                    replace H : (if (t181.size : Int) = 2 then (if t181.size + 1 ≤ 9223372036854775807 then ((impl_Get2.f kj28 (t181 ++ (⟨#[120]⟩ : ByteArray)) 0).bind fun bt182 => (if (!(bt182.1 == t172) || (!(bt182.2.1 == 2) || (!(bt182.2.2 == 0)))) = true then (some false) else (laws_FnNums.j3 kj28 t172))) else (none)) else (some false)) = some r := H
                    have A33 := Aside0.mk A330
                    clear A330
                    by_cases c34 : (t181.size : Int) = 2
                    · rw [if_pos c34] at H
                      have c34b0 : ((t181.size : Int) == 2) = true := beq_iff_eq.mpr c34
                      have c34b1 : ((t181.size : Int) != 2) = false := bne_eq_false_iff_eq.mpr c34
                      clear c34
                      (first | rw [c34b0] | (simp only [i64_w, i32_w]; rw [c34b0]) | skip)
                      by_cases c35 : t181.size + 1 ≤ 9223372036854775807
                      · rw [if_pos c35] at H
                        have c35b0 := eq_true c35
                        have c35b1 : decide (t181.size + 1 ≤ 9223372036854775807) = true := decide_eq_true c35
                        try have c35b2 : (9223372036854775807 < t181.size + 1) = False := eq_false (Nat.not_lt.2 c35)
                        replace H := Option.bind_eq_some_iff.mp H
                        obtain ⟨⟨t182, t183, t184⟩, A360, H⟩ := H
                        replace H : (if (!(t182 == t172) || (!(t183 == 2) || (!(t184 == 0)))) = true then (some false) else (laws_FnNums.j3 kj28 t172)) = some r := H
                        have A36 := Aside0.mk A360
                        clear A360
                        by_cases c37 : (!(t182 == t172) || (!(t183 == 2) || (!(t184 == 0)))) = true
                        · rw [if_pos c37] at H
                          have c37b0 : (!(t182 == t172) || (!(t183 == 2) || (!(t184 == 0)))) = true := c37
                          clear c37
                          obtain rfl := Option.some.inj H
                          go_wp2_with (first | ((with_reducible refine gate_callee (f := 43) rfl ?_); refine goesL_ (some 45) rfl rfl Try.func43 (by kernel_rfl) rfl #[.int .i64 t172] rfl (by (try simp only [List.map_toArray, List.map_cons, List.map_nil]); first | done | rfl | (simp only [List.length_drop, List.length_take]; rfl)) ?_; (with_reducible refine (impl_Put2.calls kj28 t172 t181 _ A33.out).mono ?_); rintro e w38 ⟨rfl, hb⟩; refine ⟨_, rfl, ?_⟩; have n0_ := Aside0.mk (below_step (by repeat (first | (with_reducible first | exact HB.out | apply below_alloc | apply pw_below_drewN | apply below_drew1) | exact HB.out)) hb); clear HB; have HB := n0_; clear n0_; (try clear hb); (try clear hb2); (try clear hk); (try clear hi)) | (go_at_call 38; (first | (with_reducible refine (impl_Get2.calls kj28 (t181 ++ (⟨#[120]⟩ : ByteArray)) 0 t182 t183 t184 _ A36.out).mono ?_) | (with_reducible refine (calls_of_args ?_ (impl_Get2.calls kj28 (t181 ++ (⟨#[120]⟩ : ByteArray)) 0 t182 t183 t184 _ A36.out)).mono ?_; focus (simp [*]; done))); rintro e w39 ⟨rfl, hb⟩; have n0_ := Aside0.mk (below_step (by repeat (first | (with_reducible first | exact HB.out | apply below_alloc | apply pw_below_drewN | apply below_drew1) | exact HB.out)) hb); clear HB; have HB := n0_; clear n0_; (try clear hb); (try clear hb2); (try clear hk); (try clear hi)))
                          go_ret
                          exact ⟨by first | rfl | (simp [errW_none, errW_some] <;> rfl) | (simp [*, errW_none, errW_some] <;> rfl), by repeat (first | (with_reducible first | exact HB.out | apply below_alloc | apply pw_below_drewN | apply below_drew1) | exact HB.out)⟩
                        · rw [if_neg c37] at H
                          have c37b0 : (!(t182 == t172) || (!(t183 == 2) || (!(t184 == 0)))) = false := by simpa using c37
                          clear c37
                          have H' := Aside0.mk H
                          clear H
                          go_wp2_with (first | ((with_reducible refine gate_callee (f := 43) rfl ?_); refine goesL_ (some 45) rfl rfl Try.func43 (by kernel_rfl) rfl #[.int .i64 t172] rfl (by (try simp only [List.map_toArray, List.map_cons, List.map_nil]); first | done | rfl | (simp only [List.length_drop, List.length_take]; rfl)) ?_; (with_reducible refine (impl_Put2.calls kj28 t172 t181 _ A33.out).mono ?_); rintro e w40 ⟨rfl, hb⟩; refine ⟨_, rfl, ?_⟩; have n0_ := Aside0.mk (below_step (by repeat (first | (with_reducible first | exact HB.out | apply below_alloc | apply pw_below_drewN | apply below_drew1) | exact HB.out)) hb); clear HB; have HB := n0_; clear n0_; (try clear hb); (try clear hb2); (try clear hk); (try clear hi)) | (go_at_call 38; (first | (with_reducible refine (impl_Get2.calls kj28 (t181 ++ (⟨#[120]⟩ : ByteArray)) 0 t182 t183 t184 _ A36.out).mono ?_) | (with_reducible refine (calls_of_args ?_ (impl_Get2.calls kj28 (t181 ++ (⟨#[120]⟩ : ByteArray)) 0 t182 t183 t184 _ A36.out)).mono ?_; focus (simp [*]; done))); rintro e w41 ⟨rfl, hb⟩; have n0_ := Aside0.mk (below_step (by repeat (first | (with_reducible first | exact HB.out | apply below_alloc | apply pw_below_drewN | apply below_drew1) | exact HB.out)) hb); clear HB; have HB := n0_; clear n0_; (try clear hb); (try clear hb2); (try clear hk); (try clear hi)))
                          go_meet
                          case rel => exact ⟨_, H', ⟨by have := HJ3.out; have := HJ6.out; have := HJ28.out; first | omega | exact Nat.le_refl _⟩, ⟨by repeat (first | (with_reducible first | exact HB.out | apply below_alloc | apply pw_below_drewN | apply below_drew1) | exact HB.out)⟩⟩
                      · rw [if_neg c35] at H
                        exact absurd H (by simp)
                    · rw [if_neg c34] at H
                      have c34b0 : ((t181.size : Int) == 2) = false := beq_eq_false_iff_ne.mpr c34
                      have c34b1 : ((t181.size : Int) != 2) = true := bne_iff_ne.mpr c34
                      (first | rw [c34b0] | (simp only [i64_w, i32_w]; rw [c34b0]) | skip)
                      obtain rfl := Option.some.inj H
                      go_wp2_with (first | ((with_reducible refine gate_callee (f := 43) rfl ?_); refine goesL_ (some 45) rfl rfl Try.func43 (by kernel_rfl) rfl #[.int .i64 t172] rfl (by (try simp only [List.map_toArray, List.map_cons, List.map_nil]); first | done | rfl | (simp only [List.length_drop, List.length_take]; rfl)) ?_; (with_reducible refine (impl_Put2.calls kj28 t172 t181 _ A33.out).mono ?_); rintro e w42 ⟨rfl, hb⟩; refine ⟨_, rfl, ?_⟩; have n0_ := Aside0.mk (below_step (by repeat (first | (with_reducible first | exact HB.out | apply below_alloc | apply pw_below_drewN | apply below_drew1) | exact HB.out)) hb); clear HB; have HB := n0_; clear n0_; (try clear hb); (try clear hb2); (try clear hk); (try clear hi)))
                      go_ret
                      exact ⟨by first | rfl | (simp [errW_none, errW_some] <;> rfl) | (simp [*, errW_none, errW_some] <;> rfl), by repeat (first | (with_reducible first | exact HB.out | apply below_alloc | apply pw_below_drewN | apply below_drew1) | exact HB.out)⟩
                  · replace c32 := Bool.eq_false_iff.mpr c32
                    subst c32
                    have H1 : ((impl_Put2.f kj28 t172).bind fun t185 => (if t185.toList = ([] : List UInt8) then (laws_FnNums.j3 kj28 t172) else (some false))) = some r := by rw [if_neg (show ¬ (false = true) by decide)] at H; exact H
                    clear H
                    have H := H1
                    clear H1
                    replace H := Option.bind_eq_some_iff.mp H
                    obtain ⟨t185, A430, H⟩ := H
                    replace H : (if t185.toList = ([] : List UInt8) then (laws_FnNums.j3 kj28 t172) else (some false)) = some r := H
                    have A43 := Aside0.mk A430
                    clear A430
                    by_cases c44 : t185.toList = ([] : List UInt8)
                    · rw [if_pos c44] at H
                      have c44b0 : (t185.toList == ([] : List UInt8)) = true := beq_iff_eq.mpr c44
                      have c44b1 : (t185.toList != ([] : List UInt8)) = false := bne_eq_false_iff_eq.mpr c44
                      clear c44
                      have H' := Aside0.mk H
                      clear H
                      go_wp2_with (first | ((with_reducible refine gate_callee (f := 43) rfl ?_); refine goesL_ (some 58) rfl rfl Try.func43 (by kernel_rfl) rfl #[.int .i64 t172] rfl (by (try simp only [List.map_toArray, List.map_cons, List.map_nil]); first | done | rfl | (simp only [List.length_drop, List.length_take]; rfl)) ?_; (with_reducible refine (impl_Put2.calls kj28 t172 t185 _ A43.out).mono ?_); rintro e w45 ⟨rfl, hb⟩; refine ⟨_, rfl, ?_⟩; have n0_ := Aside0.mk (below_step (by repeat (first | (with_reducible first | exact HB.out | apply below_alloc | apply pw_below_drewN | apply below_drew1) | exact HB.out)) hb); clear HB; have HB := n0_; clear n0_; (try clear hb); (try clear hb2); (try clear hk); (try clear hi)))
                      go_meet
                      case rel => exact ⟨_, H', ⟨by have := HJ3.out; have := HJ6.out; have := HJ28.out; first | omega | exact Nat.le_refl _⟩, ⟨by repeat (first | (with_reducible first | exact HB.out | apply below_alloc | apply pw_below_drewN | apply below_drew1) | exact HB.out)⟩⟩
                    · rw [if_neg c44] at H
                      have c44b0 : (t185.toList == ([] : List UInt8)) = false := beq_eq_false_iff_ne.mpr c44
                      have c44b1 : (t185.toList != ([] : List UInt8)) = true := bne_iff_ne.mpr c44
                      obtain rfl := Option.some.inj H
                      go_wp2_with (first | ((with_reducible refine gate_callee (f := 43) rfl ?_); refine goesL_ (some 58) rfl rfl Try.func43 (by kernel_rfl) rfl #[.int .i64 t172] rfl (by (try simp only [List.map_toArray, List.map_cons, List.map_nil]); first | done | rfl | (simp only [List.length_drop, List.length_take]; rfl)) ?_; (with_reducible refine (impl_Put2.calls kj28 t172 t185 _ A43.out).mono ?_); rintro e w46 ⟨rfl, hb⟩; refine ⟨_, rfl, ?_⟩; have n0_ := Aside0.mk (below_step (by repeat (first | (with_reducible first | exact HB.out | apply below_alloc | apply pw_below_drewN | apply below_drew1) | exact HB.out)) hb); clear HB; have HB := n0_; clear n0_; (try clear hb); (try clear hb2); (try clear hk); (try clear hi)))
                      go_ret
                      exact ⟨by first | rfl | (simp [errW_none, errW_some] <;> rfl) | (simp [*, errW_none, errW_some] <;> rfl), by repeat (first | (with_reducible first | exact HB.out | apply below_alloc | apply pw_below_drewN | apply below_drew1) | exact HB.out)⟩
                case rest =>
                  clear HC31
                  try clear c1
                  try clear c2
                  try clear c2b0
                  try clear c2b1
                  try clear p2
                  try clear c3
                  try clear c4
                  try clear c6
                  try clear c6b0
                  try clear c8
                  try clear c10
                  try clear c10b0
                  try clear c10b1
                  try clear c11
                  try clear c11b0
                  try clear c11b1
                  try clear c11b2
                  try clear c13
                  try clear c13b0
                  try clear c17
                  try clear c17b0
                  try clear c17b1
                  try clear c26
                  try clear c26b0
                  try clear c26b1
                  try clear c30
                  try clear c30b0
                  try clear c32
                  try clear c34
                  try clear c34b0
                  try clear c34b1
                  try clear c35
                  try clear c35b0
                  try clear c35b1
                  try clear c35b2
                  try clear c37
                  try clear c37b0
                  try clear c41
                  try clear c42
                  try clear c43
                  try clear c44
                  try clear c44b0
                  try clear c44b1
                  try clear p2
                  obtain ⟨kq, HA, HJ30, HB⟩ := hcut
                  cases kq with
                  | zero => exact absurd HA.out (by simp [laws_FnNums.j3])
                  | succ kj30 =>
                    have H := HA.out
                    clear HA
                    simp only [laws_FnNums.j3] at H
                    have HC47 := Aside0.mk H
                    clear H
                    go_upto_region 17 with (fail)
                    go_cut [65] (fun v65 wc => ∃ (kq : Nat) (x65_46 : Bool), v65 = .bool x65_46 ∧ Aside0 (laws_FnNums.j4 kq t172 x65_46 = some r) ∧ Aside0 (kq ≤ kj30) ∧ Aside0 (Below w.heap.size w wc))
                    case first =>
                      have H := HC47.out
                      clear HC47
                      by_cases c48 : t172 < 0
                      · rw [if_pos c48] at H
                        have c48b0 : decide (t172 < 0) = true := decide_eq_true c48
                        clear c48
                        (first | rw [c48b0] | (simp only [i64_w, i32_w]; rw [c48b0]) | skip)
                        have H' := Aside0.mk H
                        clear H
                        go_wp2
                        go_meet
                        case rel => exact ⟨_, (true), (by first | rfl | (simp; done) | (simp [*]; done)), H', ⟨by have := HJ3.out; have := HJ6.out; have := HJ28.out; have := HJ30.out; first | omega | exact Nat.le_refl _⟩, ⟨by repeat (first | (with_reducible first | exact HB.out | apply below_alloc | apply pw_below_drewN | apply below_drew1) | exact HB.out)⟩⟩
                      · rw [if_neg c48] at H
                        have c48b0 : decide (t172 < 0) = false := decide_eq_false c48
                        clear c48
                        (first | rw [c48b0] | (simp only [i64_w, i32_w]; rw [c48b0]) | skip)
                        have H' := Aside0.mk H
                        clear H
                        go_wp2
                        go_meet
                        case rel => exact ⟨_, (decide (t172 > 255)), (by first | rfl | (simp; done) | (simp [*]; done)), H', ⟨by have := HJ3.out; have := HJ6.out; have := HJ28.out; have := HJ30.out; first | omega | exact Nat.le_refl _⟩, ⟨by repeat (first | (with_reducible first | exact HB.out | apply below_alloc | apply pw_below_drewN | apply below_drew1) | exact HB.out)⟩⟩
                    case rest =>
                      clear HC47
                      try clear c1
                      try clear c2
                      try clear c2b0
                      try clear c2b1
                      try clear p2
                      try clear c3
                      try clear c4
                      try clear c6
                      try clear c6b0
                      try clear c8
                      try clear c10
                      try clear c10b0
                      try clear c10b1
                      try clear c11
                      try clear c11b0
                      try clear c11b1
                      try clear c11b2
                      try clear c13
                      try clear c13b0
                      try clear c17
                      try clear c17b0
                      try clear c17b1
                      try clear c26
                      try clear c26b0
                      try clear c26b1
                      try clear c30
                      try clear c30b0
                      try clear c32
                      try clear c34
                      try clear c34b0
                      try clear c34b1
                      try clear c35
                      try clear c35b0
                      try clear c35b1
                      try clear c35b2
                      try clear c37
                      try clear c37b0
                      try clear c41
                      try clear c42
                      try clear c43
                      try clear c44
                      try clear c44b0
                      try clear c44b1
                      try clear c48
                      try clear c48b0
                      try clear p2
                      obtain ⟨kq, x65_46, rfl, HA, HJ46, HB⟩ := hcut
                      cases kq with
                      | zero => exact absurd HA.out (by simp [laws_FnNums.j4])
                      | succ kj46 =>
                        have H := HA.out
                        clear HA
                        simp only [laws_FnNums.j4] at H
                        by_cases c49 : x65_46 = true
                        · subst c49
                          have H1 : ((impl_Put1.f kj46 t172).bind fun t186 => (some (t186.toList == ([] : List UInt8)))) = some r := by rw [if_pos rfl] at H; exact H
                          clear H
                          have H := H1
                          clear H1
                          replace H := Option.bind_eq_some_iff.mp H
                          obtain ⟨t186, A500, H⟩ := H
                          replace H : (some (t186.toList == ([] : List UInt8))) = some r := H
                          have A50 := Aside0.mk A500
                          clear A500
                          obtain rfl := Option.some.inj H
                          go_wp2_with (first | ((with_reducible refine gate_callee (f := 44) rfl ?_); refine goesL_ (some 67) rfl rfl Try.func44 (by kernel_rfl) rfl #[.int .i64 t172] rfl (by (try simp only [List.map_toArray, List.map_cons, List.map_nil]); first | done | rfl | (simp only [List.length_drop, List.length_take]; rfl)) ?_; (with_reducible refine (impl_Put1.calls kj46 t172 t186 _ A50.out).mono ?_); rintro e w51 ⟨rfl, hb⟩; refine ⟨_, rfl, ?_⟩; have n0_ := Aside0.mk (below_step (by repeat (first | (with_reducible first | exact HB.out | apply below_alloc | apply pw_below_drewN | apply below_drew1) | exact HB.out)) hb); clear HB; have HB := n0_; clear n0_; (try clear hb); (try clear hb2); (try clear hk); (try clear hi)))
                          go_ret
                          exact ⟨by first | rfl | (simp [errW_none, errW_some] <;> rfl) | (simp [*, errW_none, errW_some] <;> rfl), by repeat (first | (with_reducible first | exact HB.out | apply below_alloc | apply pw_below_drewN | apply below_drew1) | exact HB.out)⟩
                        · replace c49 := Bool.eq_false_iff.mpr c49
                          subst c49
                          have H1 : ((impl_Put1.f kj46 t172).bind fun t187 => ((impl_Get1.f kj46 t187 0).bind fun bt188 => (some (bt188.1 == t172 && (bt188.2.1 == 1 && (bt188.2.2 == 0)))))) = some r := by rw [if_neg (show ¬ (false = true) by decide)] at H; exact H
                          clear H
                          have H := H1
                          clear H1
                          replace H := Option.bind_eq_some_iff.mp H
                          obtain ⟨t187, A520, H⟩ := H
                          replace H : ((impl_Get1.f kj46 t187 0).bind fun bt188 => (some (bt188.1 == t172 && (bt188.2.1 == 1 && (bt188.2.2 == 0))))) = some r := H
                          have A52 := Aside0.mk A520
                          clear A520
                          replace H := Option.bind_eq_some_iff.mp H
                          obtain ⟨⟨t188, t189, t190⟩, A530, H⟩ := H
                          replace H : (some (t188 == t172 && (t189 == 1 && (t190 == 0)))) = some r := H
                          have A53 := Aside0.mk A530
                          clear A530
                          obtain rfl := Option.some.inj H
                          go_wp2_with (first | ((with_reducible refine gate_callee (f := 44) rfl ?_); refine goesL_ (some 70) rfl rfl Try.func44 (by kernel_rfl) rfl #[.int .i64 t172] rfl (by (try simp only [List.map_toArray, List.map_cons, List.map_nil]); first | done | rfl | (simp only [List.length_drop, List.length_take]; rfl)) ?_; (with_reducible refine (impl_Put1.calls kj46 t172 t187 _ A52.out).mono ?_); rintro e w54 ⟨rfl, hb⟩; refine ⟨_, rfl, ?_⟩; have n0_ := Aside0.mk (below_step (by repeat (first | (with_reducible first | exact HB.out | apply below_alloc | apply pw_below_drewN | apply below_drew1) | exact HB.out)) hb); clear HB; have HB := n0_; clear n0_; (try clear hb); (try clear hb2); (try clear hk); (try clear hi)) | ((with_reducible refine gate_callee (f := 35) rfl ?_); refine goesL_ (some 71) rfl rfl Try.func35 (by kernel_rfl) rfl #[.string t187, .int .i64 0] rfl (by (try simp only [List.map_toArray, List.map_cons, List.map_nil]); first | done | rfl | (simp only [List.length_drop, List.length_take]; rfl)) ?_; (with_reducible refine (impl_Get1.calls kj46 t187 0 t188 t189 t190 _ A53.out).mono ?_); rintro e w55 ⟨rfl, hb⟩; refine ⟨_, rfl, ?_⟩; have n0_ := Aside0.mk (below_step (by repeat (first | (with_reducible first | exact HB.out | apply below_alloc | apply pw_below_drewN | apply below_drew1) | exact HB.out)) hb); clear HB; have HB := n0_; clear n0_; (try clear hb); (try clear hb2); (try clear hk); (try clear hi)))
                          go_ret
                          exact ⟨by first | rfl | (simp [errW_none, errW_some] <;> rfl) | (simp [*, errW_none, errW_some] <;> rfl), by repeat (first | (with_reducible first | exact HB.out | apply below_alloc | apply pw_below_drewN | apply below_drew1) | exact HB.out)⟩

/-- THE ONE PURE STATEMENT of laws_FnNums: yours. -/
def laws_FnNums.Pure : Prop := ∀ (l0 : List Int), l0.length ≤ maxLen → l0.length * 1 ≤ 140737488351232 → (∀ x ∈ l0, (Lit.int .u8 x).wf = true) → ∃ k, laws_FnNums.f k l0 = some true
theorem laws_FnNums.walk (P : laws_FnNums.Pure) (a0 : Option Addr) (len0 cap0 : Nat) (z0 : List Int) (w : World) (w0 : (a0 = none ∧ len0 = 0 ∧ cap0 = 0 ∧ z0 = []) ∨ ∃ x, a0 = some x ∧ len0 ≤ cap0 ∧ cap0 ≤ maxLen ∧ z0.length = cap0 ∧ (∀ i, i < z0.length → w.cell? (x.add i) = some (.int .u8 (z0.getD i 0))) ∧ ∀ n ∈ z0, (Lit.int .u8 n).wf = true) (y0 : len0 * 1 ≤ 140737488351232) :
    Calls Try.prog 13 #[.slice a0 len0 cap0] w fun e w' => e = .returned (.bool true) ∧ Below w.heap.size w w' := by
  obtain ⟨l0, rfl, hr0, hm0, hw0, hc0⟩ := ReadsInt.ofRowC w0
  obtain ⟨k, h⟩ := P l0 hm0 y0 hw0
  refine (laws_FnNums.calls k _ _ l0 true w (Kd.C_of_reads (d := (0 : Int)) (h1 := fun _ => rfl) hr0) hc0 h).mono ?_
  rintro e w' ⟨rfl, hd⟩
  exact ⟨rfl, hd⟩

end Go.Proofs.Ytkijcgeicdldgaa.PFnNums
