/- Functions of the program as plain Lean functions, each with a proof that the program's call comes to the same; no condition. Written by a program of this session. -/
import Derived.Test.YtdfnljchoomliaaDoorPFnExactInsParsex0
import Derived.Test.YtdfnljchoomliaaDoorPFnExactInsParsex1
import Derived.Test.YtdfnljchoomliaaDoorPFnExactInsParsex4
namespace Go.Proofs.YtdfnljchoomliaaDoor.PFnExactInsParse
open Go.RowKit Go.Proofs.YtdfnljchoomliaaDoorW.PrintWords Go.Proofs.YtdfnljchoomliaaDoorW.PrintLast Go.Proofs.YtdfnljchoomliaaDoorW.PrintMore
open Go.Proofs.YtdfnljchoomliaaDoorW.PrintWords renaming below_size → Zbz, below_step → Zbt, blk_frozen → Zkf, blk_below → Zkb
open Go.Proofs.YtdfnljchoomliaaDoorW.PrintWords.Aside0 renaming mk → Zm
attribute [local go_sem] max2_int min2_int max_two min_two max_three min_three max_four min_four   -- for this text's walks alone
set_option linter.unusedVariables false
set_option linter.unusedSimpArgs false

/-! ### spec_l14Ins: function 31 -/
def spec_l14Ins.j0 : Nat → ByteArray → ByteArray → Bool → Int → Int → ByteArray → ByteArray → ByteArray → Option (ByteArray)
 | 0, _, _, _, _, _, _, _, _ => none
 | k + 1, x3, x9, x10, x221000, x221001, x221002, x221003, x221004 => if x10 = true then (if x3.size + 1 ≤ 9223372036854775807 then ((spec_l01Dec.f k x221001).bind fun t223 => (if (x3 ++ (⟨#[32]⟩ : ByteArray)).size + t223.size ≤ 9223372036854775807 then (some ((x3 ++ (⟨#[32]⟩ : ByteArray)) ++ t223)) else (none))) else (none)) else (if x9.toList = ([99] : List UInt8) then (if x3.size + 1 ≤ 9223372036854775807 then (if (x3 ++ (⟨#[32]⟩ : ByteArray)).size + x221002.size ≤ 9223372036854775807 then (some ((x3 ++ (⟨#[32]⟩ : ByteArray)) ++ x221002)) else (none)) else (none)) else (if x9.toList = ([121] : List UInt8) then (if x3.size + 1 ≤ 9223372036854775807 then (if (x3 ++ (⟨#[32]⟩ : ByteArray)).size + x221004.size ≤ 9223372036854775807 then (some ((x3 ++ (⟨#[32]⟩ : ByteArray)) ++ x221004)) else (none)) else (none)) else (if x9.toList = ([102] : List UInt8) then (if x3.size + 1 ≤ 9223372036854775807 then (if (x3 ++ (⟨#[32]⟩ : ByteArray)).size + x221002.size ≤ 9223372036854775807 then (if ((x3 ++ (⟨#[32]⟩ : ByteArray)) ++ x221002).size + 1 ≤ 9223372036854775807 then (if (((x3 ++ (⟨#[32]⟩ : ByteArray)) ++ x221002) ++ (⟨#[32]⟩ : ByteArray)).size + x221003.size ≤ 9223372036854775807 then (if ((((x3 ++ (⟨#[32]⟩ : ByteArray)) ++ x221002) ++ (⟨#[32]⟩ : ByteArray)) ++ x221003).size + 1 ≤ 9223372036854775807 then (if (((((x3 ++ (⟨#[32]⟩ : ByteArray)) ++ x221002) ++ (⟨#[32]⟩ : ByteArray)) ++ x221003) ++ (⟨#[32]⟩ : ByteArray)).size + x221004.size ≤ 9223372036854775807 then (some ((((((x3 ++ (⟨#[32]⟩ : ByteArray)) ++ x221002) ++ (⟨#[32]⟩ : ByteArray)) ++ x221003) ++ (⟨#[32]⟩ : ByteArray)) ++ x221004)) else (none)) else (none)) else (none)) else (none)) else (none)) else (none)) else (if x9.toList = ([109] : List UInt8) then (if x3.size + 1 ≤ 9223372036854775807 then (if (x3 ++ (⟨#[32]⟩ : ByteArray)).size + x221002.size ≤ 9223372036854775807 then (if ((x3 ++ (⟨#[32]⟩ : ByteArray)) ++ x221002).size + 1 ≤ 9223372036854775807 then (if (((x3 ++ (⟨#[32]⟩ : ByteArray)) ++ x221002) ++ (⟨#[32]⟩ : ByteArray)).size + x221003.size ≤ 9223372036854775807 then (if ((((x3 ++ (⟨#[32]⟩ : ByteArray)) ++ x221002) ++ (⟨#[32]⟩ : ByteArray)) ++ x221003).size + 1 ≤ 9223372036854775807 then (if (((((x3 ++ (⟨#[32]⟩ : ByteArray)) ++ x221002) ++ (⟨#[32]⟩ : ByteArray)) ++ x221003) ++ (⟨#[32]⟩ : ByteArray)).size + x221004.size ≤ 9223372036854775807 then (some ((((((x3 ++ (⟨#[32]⟩ : ByteArray)) ++ x221002) ++ (⟨#[32]⟩ : ByteArray)) ++ x221003) ++ (⟨#[32]⟩ : ByteArray)) ++ x221004)) else (none)) else (none)) else (none)) else (none)) else (none)) else (none)) else (some x3)))))
def spec_l14Ins.f (k : Nat) (a0_0 : Int) (a0_1 : Int) (a0_2 : ByteArray) (a0_3 : ByteArray) (a0_4 : ByteArray) : Option (ByteArray) := (spec_OpName.f k a0_0).bind fun t221 => ((spec_OpForm.f k a0_0).bind fun t222 => (if t222.toList = ([110] : List UInt8) then (spec_l14Ins.j0 k t221 t222 (t222.toList == ([110] : List UInt8)) a0_0 a0_1 a0_2 a0_3 a0_4) else (if t222.toList = ([105] : List UInt8) then (spec_l14Ins.j0 k t221 t222 (t222.toList == ([105] : List UInt8)) a0_0 a0_1 a0_2 a0_3 a0_4) else (spec_l14Ins.j0 k t221 t222 (t222.toList == ([116] : List UInt8)) a0_0 a0_1 a0_2 a0_3 a0_4))))
set_option maxHeartbeats 8000000 in
set_option maxRecDepth 100000 in
theorem spec_l14Ins.calls (k : Nat) (a0_0 : Int) (a0_1 : Int) (a0_2 : ByteArray) (a0_3 : ByteArray) (a0_4 : ByteArray) (r : ByteArray) (w : World) (h : spec_l14Ins.f k a0_0 a0_1 a0_2 a0_3 a0_4 = some r) :
 Calls Tryd.prog 31 #[.agg #[.int .i64 a0_0, .int .i64 a0_1, .string a0_2, .string a0_3, .string a0_4]] w fun e w' => e = .returned (.string r) ∧ Below w.heap.size w w' := by
 have hu44 := Tryd.underlying44; have HB := Zm (Below.refl w.heap.size w); have H : ((spec_OpName.f k a0_0).bind fun t221 => ((spec_OpForm.f k a0_0).bind fun t222 => (if t222.toList = ([110] : List UInt8) then (spec_l14Ins.j0 k t221 t222 (t222.toList == ([110] : List UInt8)) a0_0 a0_1 a0_2 a0_3 a0_4) else (if t222.toList = ([105] : List UInt8) then (spec_l14Ins.j0 k t221 t222 (t222.toList == ([105] : List UInt8)) a0_0 a0_1 a0_2 a0_3 a0_4) else (spec_l14Ins.j0 k t221 t222 (t222.toList == ([116] : List UInt8)) a0_0 a0_1 a0_2 a0_3 a0_4))))) = some r := h; clear h; replace H := Option.bind_eq_some_iff.mp H; obtain ⟨t221, A20, H⟩ := H; (try dsimp only at H); have A2 := Zm A20; clear A20; replace H := Option.bind_eq_some_iff.mp H; obtain ⟨t222, A30, H⟩ := H; (try dsimp only at H); have A3 := Zm A30; clear A30; have HC4 := Zm H; clear H; go_enter Tryd.func31, Tryd.ntmps31; go_upto_if 10 with (first | ((with_reducible refine gate_dst (N := 1) rfl ?_); refine box_event ?hg (N := 1) ?hd (cs := #[.int .i64 a0_0, .int .i64 a0_1, .string a0_2, .string a0_3, .string a0_4]) (t := 44) ?hr ?_; (case hd => rfl); (case hg => rfl); (case hr => first | (go_simp; done) | (go_simp; rfl)); intro gb220 hg w5 hbox hb; have n0_ := (⟨Zm (Zbt (bk HB.out) hb), Zm (hbox), Zm ((by rw [hg]; exact (Zbz (bk HB.out)) : w.heap.size ≤ gb220)), Zm ((by rw [hg]; exact (Zbz (bk HB.out)) : w.heap.size ≤ gb220))⟩ : _ ∧ _ ∧ _ ∧ _); clear HB; obtain ⟨HB, BK220, GW220, GE220⟩ := n0_; clear hb hbox hg; obtain ⟨hcz6_0, hcz6_1, hcz6_2, hcz6_3, hcz6_4⟩ := cz5 BK220.out; have hfz6_4 := Zkf BK220.out 4) | ((with_reducible refine gate_callee (f := 47) rfl ?_); refine ge_ (some 6) Tryd.func47 #[.int .i64 a0_0] ?_; (with_reducible refine (spec_OpName.calls _ _ _ _ A2.out).mono ?_); rintro e w7 ⟨rfl, hb⟩; refine ⟨_, rfl, ?_⟩; have n0_ := (⟨Zm (Zkb (pk BK220.out) hb), Zm (Zbt (bk HB.out) hb)⟩ : _ ∧ _); clear BK220 HB; obtain ⟨BK220, HB⟩ := n0_; (try clear hb); (try clear hb2); (try clear hk); (try clear hi); obtain ⟨hcz8_0, hcz8_1, hcz8_2, hcz8_3, hcz8_4⟩ := cz5 BK220.out; have hfz8_4 := Zkf BK220.out 4) | ((with_reducible refine gate_callee (f := 41) rfl ?_); refine ge_ (some 9) Tryd.func41 #[.int .i64 a0_0] ?_; (with_reducible refine (spec_OpForm.calls _ _ _ _ A3.out).mono ?_); rintro e w9 ⟨rfl, hb⟩; refine ⟨_, rfl, ?_⟩; have n0_ := (⟨Zm (Zkb (pk BK220.out) hb), Zm (Zbt (bk HB.out) hb)⟩ : _ ∧ _); clear BK220 HB; obtain ⟨BK220, HB⟩ := n0_; (try clear hb); (try clear hb2); (try clear hk); (try clear hi))); (try simp only [Act.put, List.setIfInBounds_toArray, List.set_cons_zero, List.set_cons_succ]); go_cut [10] (fun v10 wc => ∃ (kq : Nat) (x10_3 : Bool), v10 = .bool x10_3 ∧ Aside0 (spec_l14Ins.j0 kq t221 t222 x10_3 a0_0 a0_1 a0_2 a0_3 a0_4 = some r) ∧ Aside0 (kq ≤ k) ∧ Aside0 (wc.heap[gb220]? = some (.cells #[.int .i64 a0_0, .int .i64 a0_1, .string a0_2, .string a0_3, .string a0_4] 44 (0, 0))) ∧ Aside0 (Below w.heap.size w wc))
 case first =>
  have H := HC4.out; clear HC4; by_cases c10 : t222.toList = ([110] : List UInt8); rotate_left
  · rw [if_neg c10] at H; have c10b0 : (t222.toList == ([110] : List UInt8)) = false := beq_eq_false_iff_ne.mpr c10; have c10b1 : (t222.toList != ([110] : List UInt8)) = true := bne_iff_ne.mpr c10; (first | rw [c10b0] | (simp only [i64_w, i32_w]; rw [c10b0]) | skip); by_cases c11 : t222.toList = ([105] : List UInt8); rotate_left
    · rw [if_neg c11] at H; have c11b0 : (t222.toList == ([105] : List UInt8)) = false := beq_eq_false_iff_ne.mpr c11; have c11b1 : (t222.toList != ([105] : List UInt8)) = true := bne_iff_ne.mpr c11; have H' := Zm H; clear H; go_wp2; go_meet
      case rel => exact ⟨_, ((t222.toList == ([116] : List UInt8))), (by first | rfl | (simp; done) | (simp [*]; done)), H', ⟨by first | omega | exact Nat.le_refl _⟩, ⟨pk BK220.out⟩, ⟨bk HB.out⟩⟩
    rw [if_pos c11] at H; have c11b0 : (t222.toList == ([105] : List UInt8)) = true := beq_iff_eq.mpr c11; have c11b1 : (t222.toList != ([105] : List UInt8)) = false := bne_eq_false_iff_eq.mpr c11; clear c11; have H' := Zm H; clear H; go_wp2; go_meet
    case rel => exact ⟨_, ((t222.toList == ([105] : List UInt8))), (by first | rfl | (simp; done) | (simp [*]; done)), H', ⟨by first | omega | exact Nat.le_refl _⟩, ⟨pk BK220.out⟩, ⟨bk HB.out⟩⟩
  rw [if_pos c10] at H; have c10b0 : (t222.toList == ([110] : List UInt8)) = true := beq_iff_eq.mpr c10; have c10b1 : (t222.toList != ([110] : List UInt8)) = false := bne_eq_false_iff_eq.mpr c10; clear c10; (first | rw [c10b0] | (simp only [i64_w, i32_w]; rw [c10b0]) | skip); have H' := Zm H; clear H; go_wp2; go_meet
  case rel => exact ⟨_, ((t222.toList == ([110] : List UInt8))), (by first | rfl | (simp; done) | (simp [*]; done)), H', ⟨by first | omega | exact Nat.le_refl _⟩, ⟨pk BK220.out⟩, ⟨bk HB.out⟩⟩
 case rest =>
  clear HC4; (try clear hcz6_0); (try clear hcz6_1); (try clear hcz6_2); (try clear hcz6_3); (try clear hcz6_4); (try clear hcz8_0); (try clear hcz8_1); (try clear hcz8_2); (try clear hcz8_3); (try clear hcz8_4); (try clear hfz6_4); (try clear hfz8_4); obtain ⟨kq, x10_3, rfl, HA, HJ3, BK220, HB⟩ := hcut
  cases kq with
  | zero => exact absurd HA.out (by simp [spec_l14Ins.j0])
  | succ kj3 =>
   have H := HA.out; clear HA; simp only [spec_l14Ins.j0] at H; by_cases c12 : x10_3 = true; rotate_left
   · replace c12 := Bool.eq_false_iff.mpr c12; subst c12; rw [if_neg (show ¬ (false = true) by decide)] at H; by_cases c18 : t222.toList = ([99] : List UInt8); rotate_left
     · rw [if_neg c18] at H; have c18b0 : (t222.toList == ([99] : List UInt8)) = false := beq_eq_false_iff_ne.mpr c18; have c18b1 : (t222.toList != ([99] : List UInt8)) = true := bne_iff_ne.mpr c18; by_cases c22 : t222.toList = ([121] : List UInt8); rotate_left
       · rw [if_neg c22] at H; have c22b0 : (t222.toList == ([121] : List UInt8)) = false := beq_eq_false_iff_ne.mpr c22; have c22b1 : (t222.toList != ([121] : List UInt8)) = true := bne_iff_ne.mpr c22; by_cases c26 : t222.toList = ([102] : List UInt8); rotate_left
         · rw [if_neg c26] at H; have c26b0 : (t222.toList == ([102] : List UInt8)) = false := beq_eq_false_iff_ne.mpr c26; have c26b1 : (t222.toList != ([102] : List UInt8)) = true := bne_iff_ne.mpr c26; by_cases c34 : t222.toList = ([109] : List UInt8); rotate_left
           · rw [if_neg c34] at H; have c34b0 : (t222.toList == ([109] : List UInt8)) = false := beq_eq_false_iff_ne.mpr c34; have c34b1 : (t222.toList != ([109] : List UInt8)) = true := bne_iff_ne.mpr c34; obtain rfl := Option.some.inj H; go_wp2; go_ret; exact fin_ HB

           rw [if_pos c34] at H
           have c34b0 : (t222.toList == ([109] : List UInt8)) = true := beq_iff_eq.mpr c34
           have c34b1 : (t222.toList != ([109] : List UInt8)) = false := bne_eq_false_iff_eq.mpr c34
           clear c34
           by_cases c35 : t221.size + 1 ≤ 9223372036854775807
           rotate_left
           · rw [if_neg c35] at H
             exact absurd H (by simp)
           rw [if_pos c35] at H
           have c35b0 := eq_true c35
           have c35b1 := decide_eq_true c35
           try have c35b2 : (9223372036854775807 < t221.size + 1) = False := eq_false (Nat.not_lt.2 c35)
           by_cases c36 : (t221 ++ (⟨#[32]⟩ : ByteArray)).size + a0_2.size ≤ 9223372036854775807
           rotate_left
           · rw [if_neg c36] at H
             exact absurd H (by simp)
           rw [if_pos c36] at H
           have c36b0 := eq_true c36
           have c36b1 := decide_eq_true c36
           try have c36b2 : (9223372036854775807 < (t221 ++ (⟨#[32]⟩ : ByteArray)).size + a0_2.size) = False := eq_false (Nat.not_lt.2 c36)
           try have c36b9 : (9223372036854775807 < t221.size + 1 + a0_2.size) = False := eq_false (by have h_ := c36; simp only [ByteArray.size_append] at h_; have z0_ : (⟨#[32]⟩ : ByteArray).size = 1 := rfl; omega)
           by_cases c37 : ((t221 ++ (⟨#[32]⟩ : ByteArray)) ++ a0_2).size + 1 ≤ 9223372036854775807
           rotate_left
           · rw [if_neg c37] at H
             exact absurd H (by simp)
           rw [if_pos c37] at H
           have c37b0 := eq_true c37
           have c37b1 := decide_eq_true c37
           try have c37b2 : (9223372036854775807 < ((t221 ++ (⟨#[32]⟩ : ByteArray)) ++ a0_2).size + 1) = False := eq_false (Nat.not_lt.2 c37)
           try have c37b9 : (9223372036854775807 < t221.size + 1 + a0_2.size + 1) = False := eq_false (by have h_ := c37; simp only [ByteArray.size_append] at h_; have z0_ : (⟨#[32]⟩ : ByteArray).size = 1 := rfl; omega)
           by_cases c38 : (((t221 ++ (⟨#[32]⟩ : ByteArray)) ++ a0_2) ++ (⟨#[32]⟩ : ByteArray)).size + a0_3.size ≤ 9223372036854775807
           rotate_left
           · rw [if_neg c38] at H
             exact absurd H (by simp)
           rw [if_pos c38] at H
           have c38b0 := eq_true c38
           have c38b1 := decide_eq_true c38
           try have c38b2 : (9223372036854775807 < (((t221 ++ (⟨#[32]⟩ : ByteArray)) ++ a0_2) ++ (⟨#[32]⟩ : ByteArray)).size + a0_3.size) = False := eq_false (Nat.not_lt.2 c38)
           try have c38b9 : (9223372036854775807 < t221.size + 1 + a0_2.size + 1 + a0_3.size) = False := eq_false (by have h_ := c38; simp only [ByteArray.size_append] at h_; have z0_ : (⟨#[32]⟩ : ByteArray).size = 1 := rfl; omega)
           by_cases c39 : ((((t221 ++ (⟨#[32]⟩ : ByteArray)) ++ a0_2) ++ (⟨#[32]⟩ : ByteArray)) ++ a0_3).size + 1 ≤ 9223372036854775807
           rotate_left
           · rw [if_neg c39] at H
             exact absurd H (by simp)
           rw [if_pos c39] at H
           have c39b0 := eq_true c39
           have c39b1 := decide_eq_true c39
           try have c39b2 : (9223372036854775807 < ((((t221 ++ (⟨#[32]⟩ : ByteArray)) ++ a0_2) ++ (⟨#[32]⟩ : ByteArray)) ++ a0_3).size + 1) = False := eq_false (Nat.not_lt.2 c39)
           try have c39b9 : (9223372036854775807 < t221.size + 1 + a0_2.size + 1 + a0_3.size + 1) = False := eq_false (by have h_ := c39; simp only [ByteArray.size_append] at h_; have z0_ : (⟨#[32]⟩ : ByteArray).size = 1 := rfl; omega)
           by_cases c40 : (((((t221 ++ (⟨#[32]⟩ : ByteArray)) ++ a0_2) ++ (⟨#[32]⟩ : ByteArray)) ++ a0_3) ++ (⟨#[32]⟩ : ByteArray)).size + a0_4.size ≤ 9223372036854775807
           rotate_left
           · rw [if_neg c40] at H
             exact absurd H (by simp)
           rw [if_pos c40] at H
           have c40b0 := eq_true c40
           have c40b1 := decide_eq_true c40
           try have c40b2 : (9223372036854775807 < (((((t221 ++ (⟨#[32]⟩ : ByteArray)) ++ a0_2) ++ (⟨#[32]⟩ : ByteArray)) ++ a0_3) ++ (⟨#[32]⟩ : ByteArray)).size + a0_4.size) = False := eq_false (Nat.not_lt.2 c40)
           try have c40b9 : (9223372036854775807 < t221.size + 1 + a0_2.size + 1 + a0_3.size + 1 + a0_4.size) = False := eq_false (by have h_ := c40; simp only [ByteArray.size_append] at h_; have z0_ : (⟨#[32]⟩ : ByteArray).size = 1 := rfl; omega)
           obtain rfl := Option.some.inj H
           obtain ⟨hcz41_0, hcz41_1, hcz41_2, hcz41_3, hcz41_4⟩ := cz5 BK220.out
           go_wp2
           go_ret
           exact fin_ HB
         rw [if_pos c26] at H
         have c26b0 : (t222.toList == ([102] : List UInt8)) = true := beq_iff_eq.mpr c26
         have c26b1 : (t222.toList != ([102] : List UInt8)) = false := bne_eq_false_iff_eq.mpr c26
         clear c26
         by_cases c27 : t221.size + 1 ≤ 9223372036854775807
         rotate_left
         · rw [if_neg c27] at H
           exact absurd H (by simp)
         rw [if_pos c27] at H
         have c27b0 := eq_true c27
         have c27b1 := decide_eq_true c27
         try have c27b2 : (9223372036854775807 < t221.size + 1) = False := eq_false (Nat.not_lt.2 c27)
         by_cases c28 : (t221 ++ (⟨#[32]⟩ : ByteArray)).size + a0_2.size ≤ 9223372036854775807
         rotate_left
         · rw [if_neg c28] at H
           exact absurd H (by simp)
         rw [if_pos c28] at H
         have c28b0 := eq_true c28
         have c28b1 := decide_eq_true c28
         try have c28b2 : (9223372036854775807 < (t221 ++ (⟨#[32]⟩ : ByteArray)).size + a0_2.size) = False := eq_false (Nat.not_lt.2 c28)
         try have c28b9 : (9223372036854775807 < t221.size + 1 + a0_2.size) = False := eq_false (by have h_ := c28; simp only [ByteArray.size_append] at h_; have z0_ : (⟨#[32]⟩ : ByteArray).size = 1 := rfl; omega)
         by_cases c29 : ((t221 ++ (⟨#[32]⟩ : ByteArray)) ++ a0_2).size + 1 ≤ 9223372036854775807
         rotate_left
         · rw [if_neg c29] at H
           exact absurd H (by simp)
         rw [if_pos c29] at H
         have c29b0 := eq_true c29
         have c29b1 := decide_eq_true c29
         try have c29b2 : (9223372036854775807 < ((t221 ++ (⟨#[32]⟩ : ByteArray)) ++ a0_2).size + 1) = False := eq_false (Nat.not_lt.2 c29)
         try have c29b9 : (9223372036854775807 < t221.size + 1 + a0_2.size + 1) = False := eq_false (by have h_ := c29; simp only [ByteArray.size_append] at h_; have z0_ : (⟨#[32]⟩ : ByteArray).size = 1 := rfl; omega)
         by_cases c30 : (((t221 ++ (⟨#[32]⟩ : ByteArray)) ++ a0_2) ++ (⟨#[32]⟩ : ByteArray)).size + a0_3.size ≤ 9223372036854775807
         rotate_left
         · rw [if_neg c30] at H
           exact absurd H (by simp)
         rw [if_pos c30] at H
         have c30b0 := eq_true c30
         have c30b1 := decide_eq_true c30
         try have c30b2 : (9223372036854775807 < (((t221 ++ (⟨#[32]⟩ : ByteArray)) ++ a0_2) ++ (⟨#[32]⟩ : ByteArray)).size + a0_3.size) = False := eq_false (Nat.not_lt.2 c30)
         try have c30b9 : (9223372036854775807 < t221.size + 1 + a0_2.size + 1 + a0_3.size) = False := eq_false (by have h_ := c30; simp only [ByteArray.size_append] at h_; have z0_ : (⟨#[32]⟩ : ByteArray).size = 1 := rfl; omega)
         by_cases c31 : ((((t221 ++ (⟨#[32]⟩ : ByteArray)) ++ a0_2) ++ (⟨#[32]⟩ : ByteArray)) ++ a0_3).size + 1 ≤ 9223372036854775807
         rotate_left
         · rw [if_neg c31] at H
           exact absurd H (by simp)
         rw [if_pos c31] at H
         have c31b0 := eq_true c31
         have c31b1 := decide_eq_true c31
         try have c31b2 : (9223372036854775807 < ((((t221 ++ (⟨#[32]⟩ : ByteArray)) ++ a0_2) ++ (⟨#[32]⟩ : ByteArray)) ++ a0_3).size + 1) = False := eq_false (Nat.not_lt.2 c31)
         try have c31b9 : (9223372036854775807 < t221.size + 1 + a0_2.size + 1 + a0_3.size + 1) = False := eq_false (by have h_ := c31; simp only [ByteArray.size_append] at h_; have z0_ : (⟨#[32]⟩ : ByteArray).size = 1 := rfl; omega)
         by_cases c32 : (((((t221 ++ (⟨#[32]⟩ : ByteArray)) ++ a0_2) ++ (⟨#[32]⟩ : ByteArray)) ++ a0_3) ++ (⟨#[32]⟩ : ByteArray)).size + a0_4.size ≤ 9223372036854775807
         rotate_left
         · rw [if_neg c32] at H
           exact absurd H (by simp)
         rw [if_pos c32] at H
         have c32b0 := eq_true c32
         have c32b1 := decide_eq_true c32
         try have c32b2 : (9223372036854775807 < (((((t221 ++ (⟨#[32]⟩ : ByteArray)) ++ a0_2) ++ (⟨#[32]⟩ : ByteArray)) ++ a0_3) ++ (⟨#[32]⟩ : ByteArray)).size + a0_4.size) = False := eq_false (Nat.not_lt.2 c32)
         try have c32b9 : (9223372036854775807 < t221.size + 1 + a0_2.size + 1 + a0_3.size + 1 + a0_4.size) = False := eq_false (by have h_ := c32; simp only [ByteArray.size_append] at h_; have z0_ : (⟨#[32]⟩ : ByteArray).size = 1 := rfl; omega)
         obtain rfl := Option.some.inj H
         obtain ⟨hcz33_0, hcz33_1, hcz33_2, hcz33_3, hcz33_4⟩ := cz5 BK220.out
         go_wp2
         go_ret
         exact fin_ HB
       rw [if_pos c22] at H
       have c22b0 : (t222.toList == ([121] : List UInt8)) = true := beq_iff_eq.mpr c22
       have c22b1 : (t222.toList != ([121] : List UInt8)) = false := bne_eq_false_iff_eq.mpr c22
       clear c22
       by_cases c23 : t221.size + 1 ≤ 9223372036854775807
       rotate_left
       · rw [if_neg c23] at H
         exact absurd H (by simp)
       rw [if_pos c23] at H
       have c23b0 := eq_true c23
       have c23b1 := decide_eq_true c23
       try have c23b2 : (9223372036854775807 < t221.size + 1) = False := eq_false (Nat.not_lt.2 c23)
       by_cases c24 : (t221 ++ (⟨#[32]⟩ : ByteArray)).size + a0_4.size ≤ 9223372036854775807
       rotate_left
       · rw [if_neg c24] at H
         exact absurd H (by simp)
       rw [if_pos c24] at H
       have c24b0 := eq_true c24
       have c24b1 := decide_eq_true c24
       try have c24b2 : (9223372036854775807 < (t221 ++ (⟨#[32]⟩ : ByteArray)).size + a0_4.size) = False := eq_false (Nat.not_lt.2 c24)
       try have c24b9 : (9223372036854775807 < t221.size + 1 + a0_4.size) = False := eq_false (by have h_ := c24; simp only [ByteArray.size_append] at h_; have z0_ : (⟨#[32]⟩ : ByteArray).size = 1 := rfl; omega)
       obtain rfl := Option.some.inj H
       obtain ⟨hcz25_0, hcz25_1, hcz25_2, hcz25_3, hcz25_4⟩ := cz5 BK220.out
       go_wp2
       go_ret
       exact fin_ HB
     rw [if_pos c18] at H
     have c18b0 : (t222.toList == ([99] : List UInt8)) = true := beq_iff_eq.mpr c18
     have c18b1 : (t222.toList != ([99] : List UInt8)) = false := bne_eq_false_iff_eq.mpr c18
     clear c18
     by_cases c19 : t221.size + 1 ≤ 9223372036854775807
     rotate_left
     · rw [if_neg c19] at H
       exact absurd H (by simp)
     rw [if_pos c19] at H
     have c19b0 := eq_true c19
     have c19b1 := decide_eq_true c19
     try have c19b2 : (9223372036854775807 < t221.size + 1) = False := eq_false (Nat.not_lt.2 c19)
     by_cases c20 : (t221 ++ (⟨#[32]⟩ : ByteArray)).size + a0_2.size ≤ 9223372036854775807
     rotate_left
     · rw [if_neg c20] at H
       exact absurd H (by simp)
     rw [if_pos c20] at H
     have c20b0 := eq_true c20
     have c20b1 := decide_eq_true c20
     try have c20b2 : (9223372036854775807 < (t221 ++ (⟨#[32]⟩ : ByteArray)).size + a0_2.size) = False := eq_false (Nat.not_lt.2 c20)
     try have c20b9 : (9223372036854775807 < t221.size + 1 + a0_2.size) = False := eq_false (by have h_ := c20; simp only [ByteArray.size_append] at h_; have z0_ : (⟨#[32]⟩ : ByteArray).size = 1 := rfl; omega)
     obtain rfl := Option.some.inj H
     obtain ⟨hcz21_0, hcz21_1, hcz21_2, hcz21_3, hcz21_4⟩ := cz5 BK220.out
     go_wp2
     go_ret
     exact fin_ HB
   subst c12
   rw [if_pos rfl] at H
   by_cases c13 : t221.size + 1 ≤ 9223372036854775807
   rotate_left
   · rw [if_neg c13] at H
     exact absurd H (by simp)
   rw [if_pos c13] at H
   have c13b0 := eq_true c13
   have c13b1 := decide_eq_true c13
   try have c13b2 : (9223372036854775807 < t221.size + 1) = False := eq_false (Nat.not_lt.2 c13)
   replace H := Option.bind_eq_some_iff.mp H
   obtain ⟨t223, A140, H⟩ := H
   (try dsimp only at H)
   have A14 := Zm A140
   clear A140
   by_cases c15 : (t221 ++ (⟨#[32]⟩ : ByteArray)).size + t223.size ≤ 9223372036854775807
   rotate_left
   · rw [if_neg c15] at H
     exact absurd H (by simp)
   rw [if_pos c15] at H
   have c15b0 := eq_true c15
   have c15b1 := decide_eq_true c15
   try have c15b2 : (9223372036854775807 < (t221 ++ (⟨#[32]⟩ : ByteArray)).size + t223.size) = False := eq_false (Nat.not_lt.2 c15)
   try have c15b9 : (9223372036854775807 < t221.size + 1 + t223.size) = False := eq_false (by have h_ := c15; simp only [ByteArray.size_append] at h_; have z0_ : (⟨#[32]⟩ : ByteArray).size = 1 := rfl; omega)
   obtain rfl := Option.some.inj H
   obtain ⟨hcz16_0, hcz16_1, hcz16_2, hcz16_3, hcz16_4⟩ := cz5 BK220.out
   (try clear BK220)
   go_wp2_with (first | ((with_reducible refine gate_callee (f := 23) rfl ?_); refine ge_ (some 18) Tryd.func23 #[.int .i64 a0_1] ?_; (with_reducible refine (spec_l01Dec.calls _ _ _ _ A14.out).mono ?_); rintro e w17 ⟨rfl, hb⟩; refine ⟨_, rfl, ?_⟩; have n0_ := Zm (Zbt (bk HB.out) hb); clear HB; have HB := n0_; clear n0_; (try clear hb); (try clear hb2); (try clear hk); (try clear hi)))
   go_ret
   exact fin_ HB
/-! ### spec_l14Op: function 57 -/
def spec_l14Op.l0 : Nat → ByteArray → Int → Option (Int)
 | 0, _, _ => none
 | k + 1, x0, x3 => if x3 ≤ 44 then ((spec_OpName.f k x3).bind fun t224 => (if t224.toList = x0.toList then (some x3) else (spec_l14Op.l0 k x0 (wrap64 (x3 + 1))))) else (some 0)
def spec_l14Op.f (k : Nat) (a0 : ByteArray) : Option (Int) := spec_l14Op.l0 k a0 1
set_option maxHeartbeats 8000000 in
set_option maxRecDepth 100000 in
theorem spec_l14Op.calls (k : Nat) (a0 : ByteArray) (r : Int) (w : World) (h : spec_l14Op.f k a0 = some r) :
 Calls Tryd.prog 57 #[.string a0] w fun e w' => e = .returned (.int .i64 r) ∧ Below w.heap.size w w' := by
 have HB := Zm (Below.refl w.heap.size w); have H : (spec_l14Op.l0 k a0 1) = some r := h; clear h; have H' := Zm H; clear H; go_enter Tryd.func57, Tryd.ntmps57; go_wp2; go_loopg [3] k (fun kq v3 w' => ∃ (x3_1 : Int), v3 = .int .i64 x3_1 ∧ Aside0 (spec_l14Op.l0 kq a0 x3_1 = some r) ∧ Aside0 (kq ≤ k) ∧ Aside0 (Below w.heap.size w w'))
 case atStart => exact ⟨(1), (by first | rfl | (simp; done) | (simp [*]; done)), H', ⟨Nat.le_refl _⟩, ⟨bk HB.out⟩⟩
 case round =>
  clear H'; obtain ⟨x3_1, rfl, HA, HK1, HB⟩ := hrel
  cases gk with
  | zero => exact absurd HA.out (by simp [spec_l14Op.l0])
  | succ k1 =>
   have H := HA.out; clear HA; simp only [spec_l14Op.l0] at H; by_cases c2 : x3_1 ≤ 44; rotate_left
   · rw [if_neg c2] at H; have c2b0 := decide_eq_false c2; clear c2; obtain rfl := Option.some.inj H; go_wp2; go_ret; exact fin_ HB

   rw [if_pos c2] at H
   have c2b0 := decide_eq_true c2
   clear c2
   replace H := Option.bind_eq_some_iff.mp H
   obtain ⟨t224, A30, H⟩ := H
   (try dsimp only at H)
   have A3 := Zm A30
   clear A30
   have HC4 := Zm H
   clear H
   go_upto_if 11 with (first | ((with_reducible refine gate_callee (f := 47) rfl ?_); refine ge_ (some 9) Tryd.func47 #[.int .i64 x3_1] ?_; (with_reducible refine (spec_OpName.calls _ _ _ _ A3.out).mono ?_); rintro e w5 ⟨rfl, hb⟩; refine ⟨_, rfl, ?_⟩; have n0_ := Zm (Zbt (bk HB.out) hb); clear HB; have HB := n0_; clear n0_; (try clear hb); (try clear hb2); (try clear hk); (try clear hi)))
   have H := HC4.out
   clear HC4
   by_cases c6 : t224.toList = a0.toList
   rotate_left
   · rw [if_neg c6] at H
     have c6b0 : (t224.toList == a0.toList) = false := beq_eq_false_iff_ne.mpr c6
     have c6b1 : (t224.toList != a0.toList) = true := bne_iff_ne.mpr c6
     (first | rw [c6b0] | (simp only [i64_w, i32_w]; rw [c6b0]) | skip)
     have H' := Zm H
     clear H
     go_wp2
     go_roundg k1
     case measure => have := HK1.out; omega
     case rel => exact ⟨(wrap64 (x3_1 + 1)), (by first | rfl | (simp; done) | (simp [*]; done)), H', ⟨by have := HK1.out; omega⟩, ⟨bk HB.out⟩⟩
   rw [if_pos c6] at H
   have c6b0 : (t224.toList == a0.toList) = true := beq_iff_eq.mpr c6
   have c6b1 : (t224.toList != a0.toList) = false := bne_eq_false_iff_eq.mpr c6
   clear c6
   (first | rw [c6b0] | (simp only [i64_w, i32_w]; rw [c6b0]) | skip)
   obtain rfl := Option.some.inj H
   go_wp2
   go_ret
   exact fin_ HB
/-! ### spec_l01Num: function 58 -/
mutual
def spec_l01Num.j0 : Nat → ByteArray → Bool → Option (Int × Bool)
 | 0, _, _ => none
 | k + 1, x0, x4 => if x4 = true then (if 1 ≤ (x0.size : Int) then (spec_l01Num.j1 k x0 x4 (x0.extract 1 x0.size)) else (none)) else (spec_l01Num.j1 k x0 x4 x0)
def spec_l01Num.j1 : Nat → ByteArray → Bool → ByteArray → Option (Int × Bool)
 | 0, _, _, _ => none
 | k + 1, x0, x4, x5 => if (x5.size : Int) < 1 then (spec_l01Num.j2 k x0 x4 x5 true) else (spec_l01Num.j2 k x0 x4 x5 (decide ((x5.size : Int) > 10)))
def spec_l01Num.j2 : Nat → ByteArray → Bool → ByteArray → Bool → Option (Int × Bool)
 | 0, _, _, _, _ => none
 | k + 1, x0, x4, x5, x27 => if x27 = true then (some (0, false)) else (spec_l01Num.l0 k x0 x4 x5 0 0)
def spec_l01Num.l0 : Nat → ByteArray → Bool → ByteArray → Int → Int → Option (Int × Bool)
 | 0, _, _, _, _, _ => none
 | k + 1, x0, x4, x5, x6, x7 => if x7 < (x5.size : Int) then (if 0 ≤ x7 then (if (bt x5 x7) < 48 then (some (0, false)) else (if (bt x5 x7) > 57 then (some (0, false)) else (spec_l01Num.l0 k x0 x4 x5 (wrap64 ((wrap64 (10 * x6)) + (((bt x5 x7) - 48) % 256))) (wrap64 (x7 + 1))))) else (none)) else (if x4 = true then ((spec_l01Dec.f k (wrap64 (-x6))).bind fun t225 => (if t225.toList = x0.toList then ((spec_l01Int.f (wrap64 (-x6))).bind fun t226 => (some (wrap64 (-x6), t226))) else (some (wrap64 (-x6), false)))) else ((spec_l01Dec.f k x6).bind fun t227 => (if t227.toList = x0.toList then ((spec_l01Int.f x6).bind fun t228 => (some (x6, t228))) else (some (x6, false)))))
end
def spec_l01Num.f (k : Nat) (a0 : ByteArray) : Option (Int × Bool) := if (a0.size : Int) > 0 then (if 0 < (a0.size : Int) then (spec_l01Num.j0 k a0 ((bt a0 0) == 45)) else (none)) else (spec_l01Num.j0 k a0 false)
set_option maxHeartbeats 8000000 in
set_option maxRecDepth 100000 in
theorem spec_l01Num.calls (k : Nat) (a0 : ByteArray) (r1 : Int) (r2 : Bool) (w : World) (h : spec_l01Num.f k a0 = some (r1, r2)) :
 Calls Tryd.prog 58 #[.string a0] w fun e w' => e = .returned (.tuple #[.int .i64 r1, .bool r2]) ∧ Below w.heap.size w w' := by
 have HB := Zm (Below.refl w.heap.size w); have H : (if (a0.size : Int) > 0 then (if 0 < (a0.size : Int) then (spec_l01Num.j0 k a0 ((bt a0 0) == 45)) else (none)) else (spec_l01Num.j0 k a0 false)) = some (r1, r2) := h; clear h; have HC2 := Zm H; clear H; go_enter Tryd.func58, Tryd.ntmps58; go_upto_region 1 with (fail); go_cut [4] (fun v4 wc => ∃ (kq : Nat) (x4_1 : Bool), v4 = .bool x4_1 ∧ Aside0 (spec_l01Num.j0 kq a0 x4_1 = some (r1, r2)) ∧ Aside0 (kq ≤ k) ∧ Aside0 (Below w.heap.size w wc))
 case first =>
  have H := HC2.out; clear HC2; by_cases c3 : (a0.size : Int) > 0; rotate_left
  · rw [if_neg c3] at H; have c3b0 : decide (0 < (a0.size : Int)) = false := decide_eq_false c3; have c3b1 : decide (0 < a0.size) = false := decide_eq_false (by omega); clear c3; (first | rw [c3b0] | (simp only [i64_w, i32_w]; rw [c3b0]) | skip); have H' := Zm H; clear H; go_wp2; go_meet
    case rel => exact ⟨_, (false), (by first | rfl | (simp; done) | (simp [*]; done)), H', ⟨by first | omega | exact Nat.le_refl _⟩, ⟨bk HB.out⟩⟩
  rw [if_pos c3] at H; have c3b0 : decide (0 < (a0.size : Int)) = true := decide_eq_true c3; have c3b1 : decide (0 < a0.size) = true := decide_eq_true (by omega); clear c3; (first | rw [c3b0] | (simp only [i64_w, i32_w]; rw [c3b0]) | skip); by_cases c4 : 0 < (a0.size : Int); rotate_left
  · rw [if_neg c4] at H; exact absurd H (by simp)
  rw [if_pos c4] at H; have c4b0 := decide_eq_true c4; have c4b1 : decide (0 < a0.size) = true := decide_eq_true (by omega); clear c4; have H' := Zm H; clear H; have p5 : 0 ≤ (0 : Int) := (by omega); have q5 : 0 < a0.size := (by have : (0 : Int) < (a0.size : Int) := of_decide_eq_true (by first | (with_reducible assumption) | assumption); omega); have hx5 : ∀ h : 0 < a0.size, ((a0[0]'h).toNat : Int) = bt a0 0 := bt_at a0 0; clear p5; have qi5 : (0 < (a0.size : Int)) = True := eq_true (of_decide_eq_true (by first | (with_reducible assumption) | assumption)); replace q5 := eq_true q5; go_wp2; go_meet
  case rel => exact ⟨_, (((bt a0 0) == 45)), (by first | rfl | (simp; done) | (simp [*]; done)), H', ⟨by first | omega | exact Nat.le_refl _⟩, ⟨bk HB.out⟩⟩
 case rest =>
  clear HC2; obtain ⟨kq, x4_1, rfl, HA, HJ1, HB⟩ := hcut
  cases kq with
  | zero => exact absurd HA.out (by simp [spec_l01Num.j0])
  | succ kj1 =>
   have H := HA.out; clear HA; simp only [spec_l01Num.j0] at H; have HC6 := Zm H; clear H; go_upto_if 17 with (fail); go_cut [5] (fun v5 wc => ∃ (kq : Nat) (x5_5 : ByteArray), v5 = .string x5_5 ∧ Aside0 (spec_l01Num.j1 kq a0 x4_1 x5_5 = some (r1, r2)) ∧ Aside0 (kq ≤ kj1) ∧ Aside0 (Below w.heap.size w wc))
   case first =>
    have H := HC6.out; clear HC6; by_cases c7 : x4_1 = true; rotate_left
    · replace c7 := Bool.eq_false_iff.mpr c7; subst c7; rw [if_neg (show ¬ (false = true) by decide)] at H; have H' := Zm H; clear H; go_wp2; go_meet
      case rel => exact ⟨_, (a0), (by first | rfl | (simp; done) | (simp [*]; done)), H', ⟨by have := HJ1.out; first | omega | exact Nat.le_refl _⟩, ⟨bk HB.out⟩⟩
    subst c7; rw [if_pos rfl] at H; by_cases c8 : 1 ≤ (a0.size : Int); rotate_left
    · rw [if_neg c8] at H; exact absurd H (by simp)
    rw [if_pos c8] at H; have c8b0 := eq_true c8; have c8b1 := decide_eq_true c8; clear c8; have H' := Zm H; clear H; go_wp2; go_meet
    case rel => exact ⟨_, (a0.extract 1 a0.size), (by first | rfl | (simp; done) | (simp [*]; done)), H', ⟨by have := HJ1.out; first | omega | exact Nat.le_refl _⟩, ⟨bk HB.out⟩⟩
   case rest =>
    clear HC6; obtain ⟨kq, x5_5, rfl, HA, HJ5, HB⟩ := hcut
    cases kq with
    | zero => exact absurd HA.out (by simp [spec_l01Num.j1])
    | succ kj5 =>
     have H := HA.out; clear HA; simp only [spec_l01Num.j1] at H; have HC9 := Zm H; clear H; go_upto_region 5 with (fail); go_cut [27] (fun v27 wc => ∃ (kq : Nat) (x27_8 : Bool), v27 = .bool x27_8 ∧ Aside0 (spec_l01Num.j2 kq a0 x4_1 x5_5 x27_8 = some (r1, r2)) ∧ Aside0 (kq ≤ kj5) ∧ Aside0 (Below w.heap.size w wc))
     case first =>
      have H := HC9.out; clear HC9; by_cases c10 : (x5_5.size : Int) < 1; rotate_left
      · rw [if_neg c10] at H; have c10b0 := decide_eq_false c10; have c10b1 : decide (x5_5.size < 1) = false := decide_eq_false (by omega); clear c10; (first | rw [c10b0] | (simp only [i64_w, i32_w]; rw [c10b0]) | skip); have H' := Zm H; clear H; go_wp2; go_meet
        case rel => exact ⟨_, (decide ((x5_5.size : Int) > 10)), (by first | rfl | (simp; done) | (simp [*]; done)), H', ⟨by have := HJ1.out; have := HJ5.out; first | omega | exact Nat.le_refl _⟩, ⟨bk HB.out⟩⟩
      rw [if_pos c10] at H; have c10b0 := decide_eq_true c10; have c10b1 : decide (x5_5.size < 1) = true := decide_eq_true (by omega); clear c10; (first | rw [c10b0] | (simp only [i64_w, i32_w]; rw [c10b0]) | skip); have H' := Zm H; clear H; go_wp2; go_meet
      case rel => exact ⟨_, (true), (by first | rfl | (simp; done) | (simp [*]; done)), H', ⟨by have := HJ1.out; have := HJ5.out; first | omega | exact Nat.le_refl _⟩, ⟨bk HB.out⟩⟩
     case rest =>
      clear HC9; obtain ⟨kq, x27_8, rfl, HA, HJ8, HB⟩ := hcut
      cases kq with
      | zero => exact absurd HA.out (by simp [spec_l01Num.j2])
      | succ kj8 =>
       have H := HA.out; clear HA; simp only [spec_l01Num.j2] at H; by_cases c11 : x27_8 = true; rotate_left
       · replace c11 := Bool.eq_false_iff.mpr c11; subst c11; rw [if_neg (show ¬ (false = true) by decide)] at H; have H' := Zm H; clear H; go_wp2; go_loopg [6, 7] kj8 (fun kq v6 v7 w' => ∃ (x6_4 : Int) (x7_4 : Int), v6 = .int .i64 x6_4 ∧ v7 = .int .i64 x7_4 ∧ Aside0 (spec_l01Num.l0 kq a0 x4_1 x5_5 x6_4 x7_4 = some (r1, r2)) ∧ Aside0 (kq ≤ kj8) ∧ Aside0 (Below w.heap.size w w'))
         case atStart => exact ⟨(0), (0), (by first | rfl | (simp; done) | (simp [*]; done)), (by first | rfl | (simp; done) | (simp [*]; done)), H', ⟨Nat.le_refl _⟩, ⟨bk HB.out⟩⟩
         case round =>
          clear H'; (try clear c11); obtain ⟨x6_4, x7_4, rfl, rfl, HA, HK4, HB⟩ := hrel
          cases gk with
          | zero => exact absurd HA.out (by simp [spec_l01Num.l0])
          | succ k4 =>
           have H := HA.out; clear HA; simp only [spec_l01Num.l0] at H; by_cases c12 : x7_4 < (x5_5.size : Int); rotate_left
           · rw [if_neg c12] at H; have c12b0 := decide_eq_false c12; clear c12; by_cases c19 : x4_1 = true; rotate_left
             · replace c19 := Bool.eq_false_iff.mpr c19; subst c19; rw [if_neg (show ¬ (false = true) by decide)] at H; replace H := Option.bind_eq_some_iff.mp H; obtain ⟨t227, A250, H⟩ := H; replace H : (if t227.toList = a0.toList then ((spec_l01Int.f x6_4).bind fun t228 => (some (x6_4, t228))) else (some (x6_4, false))) = some (r1, r2) := H; have A25 := Zm A250; clear A250; by_cases c26 : t227.toList = a0.toList; rotate_left
               · rw [if_neg c26] at H; have c26b0 : (t227.toList == a0.toList) = false := beq_eq_false_iff_ne.mpr c26; have c26b1 : (t227.toList != a0.toList) = true := bne_iff_ne.mpr c26; simp only [Option.some.injEq, Prod.mk.injEq] at H; obtain ⟨rfl, rfl⟩ := H; go_wp2_with (first | ((with_reducible refine gate_callee (f := 23) rfl ?_); refine ge_ (some 57) Tryd.func23 #[.int .i64 x6_4] ?_; (with_reducible refine (spec_l01Dec.calls _ _ _ _ A25.out).mono ?_); rintro e w29 ⟨rfl, hb⟩; refine ⟨_, rfl, ?_⟩; have n0_ := Zm (Zbt (bk HB.out) hb); clear HB; have HB := n0_; clear n0_; (try clear hb); (try clear hb2); (try clear hk); (try clear hi))); go_ret2; exact fin_ HB

               rw [if_pos c26] at H
               have c26b0 : (t227.toList == a0.toList) = true := beq_iff_eq.mpr c26
               have c26b1 : (t227.toList != a0.toList) = false := bne_eq_false_iff_eq.mpr c26
               clear c26
               replace H := Option.bind_eq_some_iff.mp H
               obtain ⟨t228, A270, H⟩ := H
               replace H : (some (x6_4, t228)) = some (r1, r2) := H
               have A27 := Zm A270
               clear A270
               simp only [Option.some.injEq, Prod.mk.injEq] at H
               obtain ⟨rfl, rfl⟩ := H
               go_wp2_with (first | ((with_reducible refine gate_callee (f := 23) rfl ?_); refine ge_ (some 57) Tryd.func23 #[.int .i64 x6_4] ?_; (with_reducible refine (spec_l01Dec.calls _ _ _ _ A25.out).mono ?_); rintro e w28 ⟨rfl, hb⟩; refine ⟨_, rfl, ?_⟩; have n0_ := Zm (Zbt (bk HB.out) hb); clear HB; have HB := n0_; clear n0_; (try clear hb); (try clear hb2); (try clear hk); (try clear hi)) | (go_at_call 43; (first | (with_reducible refine (spec_l01Int.calls _ _ _ A27.out).mono ?_) | (with_reducible refine (calls_of_args ?_ (spec_l01Int.calls _ _ _ A27.out)).mono ?_; focus (simp [*]; done))); rintro e w' ⟨rfl, ⟨nd, rfl⟩⟩))
               go_ret2
               exact fin_ HB
             subst c19
             rw [if_pos rfl] at H
             replace H := Option.bind_eq_some_iff.mp H
             obtain ⟨t225, A200, H⟩ := H
             replace H : (if t225.toList = a0.toList then ((spec_l01Int.f (wrap64 (-x6_4))).bind fun t226 => (some (wrap64 (-x6_4), t226))) else (some (wrap64 (-x6_4), false))) = some (r1, r2) := H
             have A20 := Zm A200
             clear A200
             by_cases c21 : t225.toList = a0.toList
             rotate_left
             · rw [if_neg c21] at H
               have c21b0 : (t225.toList == a0.toList) = false := beq_eq_false_iff_ne.mpr c21
               have c21b1 : (t225.toList != a0.toList) = true := bne_iff_ne.mpr c21
               simp only [Option.some.injEq, Prod.mk.injEq] at H
               obtain ⟨rfl, rfl⟩ := H
               go_wp2_with (first | ((with_reducible refine gate_callee (f := 23) rfl ?_); refine ge_ (some 57) Tryd.func23 #[.int .i64 (wrap64 (-x6_4))] ?_; (with_reducible refine (spec_l01Dec.calls _ _ _ _ A20.out).mono ?_); rintro e w24 ⟨rfl, hb⟩; refine ⟨_, rfl, ?_⟩; have n0_ := Zm (Zbt (bk HB.out) hb); clear HB; have HB := n0_; clear n0_; (try clear hb); (try clear hb2); (try clear hk); (try clear hi)))
               go_ret2
               exact fin_ HB
             rw [if_pos c21] at H
             have c21b0 : (t225.toList == a0.toList) = true := beq_iff_eq.mpr c21
             have c21b1 : (t225.toList != a0.toList) = false := bne_eq_false_iff_eq.mpr c21
             clear c21
             replace H := Option.bind_eq_some_iff.mp H
             obtain ⟨t226, A220, H⟩ := H
             replace H : (some (wrap64 (-x6_4), t226)) = some (r1, r2) := H
             have A22 := Zm A220
             clear A220
             simp only [Option.some.injEq, Prod.mk.injEq] at H
             obtain ⟨rfl, rfl⟩ := H
             go_wp2_with (first | ((with_reducible refine gate_callee (f := 23) rfl ?_); refine ge_ (some 57) Tryd.func23 #[.int .i64 (wrap64 (-x6_4))] ?_; (with_reducible refine (spec_l01Dec.calls _ _ _ _ A20.out).mono ?_); rintro e w23 ⟨rfl, hb⟩; refine ⟨_, rfl, ?_⟩; have n0_ := Zm (Zbt (bk HB.out) hb); clear HB; have HB := n0_; clear n0_; (try clear hb); (try clear hb2); (try clear hk); (try clear hi)) | (go_at_call 43; (first | (with_reducible refine (spec_l01Int.calls _ _ _ A22.out).mono ?_) | (with_reducible refine (calls_of_args ?_ (spec_l01Int.calls _ _ _ A22.out)).mono ?_; focus (simp [*]; done))); rintro e w' ⟨rfl, ⟨nd, rfl⟩⟩))
             go_ret2
             exact fin_ HB
           rw [if_pos c12] at H
           have c12b0 := decide_eq_true c12
           clear c12
           by_cases c13 : 0 ≤ x7_4
           rotate_left
           · rw [if_neg c13] at H
             exact absurd H (by simp)
           rw [if_pos c13] at H
           have c13b0 := decide_eq_true c13
           clear c13
           by_cases c15 : (bt x5_5 x7_4) < 48
           rotate_left
           · rw [if_neg c15] at H
             have c15b0 := decide_eq_false c15
             clear c15
             by_cases c17 : (bt x5_5 x7_4) > 57
             rotate_left
             · rw [if_neg c17] at H
               have c17b0 : decide (57 < (bt x5_5 x7_4)) = false := decide_eq_false c17
               clear c17
               have H' := Zm H
               clear H
               have p14 : 0 ≤ (x7_4 : Int) := of_decide_eq_true (by first | (with_reducible assumption) | assumption)
               have q14 : x7_4 < (x5_5.size : Int) := of_decide_eq_true (by first | (with_reducible assumption) | assumption)
               have hx14 := bt_at x5_5 x7_4
               replace p14 := eq_true p14
               replace q14 := eq_true q14
               have p16 : 0 ≤ (x7_4 : Int) := of_decide_eq_true (by first | (with_reducible assumption) | assumption)
               have q16 : x7_4 < (x5_5.size : Int) := of_decide_eq_true (by first | (with_reducible assumption) | assumption)
               have hx16 := bt_at x5_5 x7_4
               replace p16 := eq_true p16
               replace q16 := eq_true q16
               have p18 : 0 ≤ (x7_4 : Int) := of_decide_eq_true (by first | (with_reducible assumption) | assumption)
               have q18 : x7_4 < (x5_5.size : Int) := of_decide_eq_true (by first | (with_reducible assumption) | assumption)
               have hx18 := bt_at x5_5 x7_4
               replace p18 := eq_true p18
               replace q18 := eq_true q18
               go_wp2
               go_roundg k4
               case measure => have := HJ1.out; have := HJ5.out; have := HJ8.out; have := HK4.out; omega
               case rel => exact ⟨(wrap64 ((wrap64 (10 * x6_4)) + (((bt x5_5 x7_4) - 48) % 256))), (wrap64 (x7_4 + 1)), (by first | rfl | (simp; done) | (simp [*]; done)), (by first | rfl | (simp; done) | (simp [*]; done)), H', ⟨by have := HJ1.out; have := HJ5.out; have := HJ8.out; have := HK4.out; omega⟩, ⟨bk HB.out⟩⟩
             rw [if_pos c17] at H
             have c17b0 : decide (57 < (bt x5_5 x7_4)) = true := decide_eq_true c17
             clear c17
             simp only [Option.some.injEq, Prod.mk.injEq] at H
             obtain ⟨rfl, rfl⟩ := H
             have p14 : 0 ≤ (x7_4 : Int) := of_decide_eq_true (by first | (with_reducible assumption) | assumption)
             have q14 : x7_4 < (x5_5.size : Int) := of_decide_eq_true (by first | (with_reducible assumption) | assumption)
             have hx14 := bt_at x5_5 x7_4
             replace p14 := eq_true p14
             replace q14 := eq_true q14
             have p16 : 0 ≤ (x7_4 : Int) := of_decide_eq_true (by first | (with_reducible assumption) | assumption)
             have q16 : x7_4 < (x5_5.size : Int) := of_decide_eq_true (by first | (with_reducible assumption) | assumption)
             have hx16 := bt_at x5_5 x7_4
             replace p16 := eq_true p16
             replace q16 := eq_true q16
             go_wp2
             go_ret2
             exact fin_ HB
           rw [if_pos c15] at H
           have c15b0 := decide_eq_true c15
           clear c15
           simp only [Option.some.injEq, Prod.mk.injEq] at H
           obtain ⟨rfl, rfl⟩ := H
           have p14 : 0 ≤ (x7_4 : Int) := of_decide_eq_true (by first | (with_reducible assumption) | assumption)
           have q14 : x7_4 < (x5_5.size : Int) := of_decide_eq_true (by first | (with_reducible assumption) | assumption)
           have hx14 := bt_at x5_5 x7_4
           replace p14 := eq_true p14
           replace q14 := eq_true q14
           go_wp2
           go_ret2
           exact fin_ HB
       subst c11
       rw [if_pos rfl] at H
       simp only [Option.some.injEq, Prod.mk.injEq] at H
       obtain ⟨rfl, rfl⟩ := H
       go_wp2
       go_ret2
       exact fin_ HB
end Go.Proofs.YtdfnljchoomliaaDoor.PFnExactInsParse
