/- Functions of the program as plain Lean functions, each with a proof that the program's call comes to the same; no condition. Written by a program of this session. -/
import Derived.Test.YtcpnlfkmfpmkdaaGreatDoorPFnInsTextx0
import Derived.Test.YtcpnlfkmfpmkdaaGreatDoorPFnInsTextx3
import Derived.Test.YtcpnlfkmfpmkdaaGreatDoorPFnInsTextx4
import Derived.Test.YtcpnlfkmfpmkdaaGreatDoorPFnInsTextx5
namespace Go.Proofs.YtcpnlfkmfpmkdaaGreatDoor.PFnInsText
open Go.RowKit Go.Proofs.YtcpnlfkmfpmkdaaGreatDoorW.PrintWords Go.Proofs.YtcpnlfkmfpmkdaaGreatDoorW.PrintLast Go.Proofs.YtcpnlfkmfpmkdaaGreatDoorW.PrintMore
open Go.Proofs.YtcpnlfkmfpmkdaaGreatDoorW.PrintWords renaming below_size → Zbz, below_step → Zbt, blk_below → Zkb
open Go.World renaming block_lt_of_cell? → Zlt
open Go.Proofs.YtcpnlfkmfpmkdaaGreatDoorW.PrintWords.Aside0 renaming mk → Zm
attribute [local go_sem] max2_int min2_int max_two min_two max_three min_three max_four min_four   -- for this text's walks alone
set_option linter.unusedVariables false
set_option linter.unusedSimpArgs false

/-! ### impl_isDesc: function 54 -/
def impl_isDesc.f (k : Nat) (a0 : ByteArray) : Option (Bool) := (impl_isText.f k (([a0] : List ByteArray))).bind fun t375 => (if t375 = true then ((impl_descRead.f k a0).bind fun bt376 => (some (bt376.2.2.2 == 0))) else (some false))
theorem impl_isDesc.mono : ∀ a0 k, LeO (impl_isDesc.f k a0) (impl_isDesc.f (k + 1) a0) := by
 intro a0 k; unfold impl_isDesc.f
 repeat' first
  | (with_reducible exact impl_descRead.mono _ _)
  | (with_reducible exact impl_isText.mono _ _)
  | (with_reducible exact LeO.refl _)
  | (with_reducible exact LeO.none _)
  | (with_reducible refine LeO.ite ?_ ?_)
  | (with_reducible refine LeO.bind ?_ (fun _ => ?_))
  | exact impl_descRead.mono _ _
  | exact impl_isText.mono _ _
  | exact LeO.none _
  | refine LeO.ite ?_ ?_
  | refine LeO.bind ?_ (fun _ => ?_)
set_option maxHeartbeats 8000000 in
set_option maxRecDepth 100000 in
theorem impl_isDesc.calls (k : Nat) (a0 : ByteArray) (r : Bool) (w : World) (h : impl_isDesc.f k a0 = some r) :
 Calls Tryz.prog 54 #[.string a0] w fun e w' => e = .returned (.bool r) ∧ Below w.heap.size w w' := by
 have hf76_2 : ∀ (a0_ a1_ a2_ a3_ : Value) (W_ : World), (Instr.field 76 (.agg #[a0_, a1_, a2_, a3_]) 2).run Tryz.prog W_ = .ok (a3_) W_ := fun _ _ _ _ _ => by rfl
 have HB := Zm (Below.refl w.heap.size w); have H : ((impl_isText.f k (([a0] : List ByteArray))).bind fun t375 => (if t375 = true then ((impl_descRead.f k a0).bind fun bt376 => (some (bt376.2.2.2 == 0))) else (some false))) = some r := h; clear h; obtain ⟨y372, hy372⟩ : ∃ y_ : List ByteArray, y_ = (([a0] : List ByteArray)) := ⟨_, rfl⟩; replace H : ((impl_isText.f k y372).bind fun t375 => (if t375 = true then ((impl_descRead.f k a0).bind fun bt376 => (some (bt376.2.2.2 == 0))) else (some false))) = some r := by first | (rw [hy372]; with_reducible exact H) | (have H2_ := (Option.bind_some _ _).symm.trans H; rw [hy372]; with_reducible exact H2_) | (have H2_ := (Option.bind_some _ _).symm.trans H; with_reducible exact H2_) | with_reducible exact H | (rw [hy372]; exact H) | exact H
 have Ny372 := Zm hy372; clear hy372; replace H := Option.bind_eq_some_iff.mp H; obtain ⟨t375, A20, H⟩ := H; (try dsimp only at H); have A2 := Zm A20; clear A20; by_cases c3 : t375 = true; rotate_left
 · replace c3 := Bool.eq_false_iff.mpr c3; subst c3; rw [if_neg (show ¬ (false = true) by decide)] at H; obtain rfl := Option.some.inj H; go_enter Tryz.func54, Tryz.ntmps54; go_wp2_with (first | ((with_reducible refine gate_dst (N := 4) rfl ?_); refine Kd.R_lit Kd.string _ 9 ?hg (N := 4) ?hd (xs := ([a0] : List ByteArray)) (inner := [.string a0]) (ok := fun _ => True) (okp := fun _ => True) ?hr ?hp (fun _ hk => hk) trivial (Below.refl _ _) (Nat.le_refl _) (by simp) ?_; (case hd => rfl); (case hg => rfl); (case hr => first | (go_simp; done) | (go_simp; rfl)); (case hp => exact (Reps.one (show Kd.M Kd.string _ _ _ a0 [.string a0] from rfl) (Reps.none _ _))); intro v373 w9 ho10 hb hg_ hnew_; clear hg_ hnew_; (first | rw [← Ny372.out] at ho10 | (simp only [Int.reduceToNat] at ho10; rw [← Ny372.out] at ho10)); have n0_ := (⟨Zm (Kd.R_lower ho10 (Zbz (bk HB.out))), Zm (Zbt (bk HB.out) hb)⟩ : _ ∧ _); clear HB; obtain ⟨HO374, HB⟩ := n0_; clear hb ho10; obtain ⟨Ao11, co11, eo11⟩ := Kd.R_slice HO374.out; subst eo11) | ((with_reducible refine gate_callee (f := 45) rfl ?_); refine ge_ (some 5) Tryz.func45 #[.slice Ao11 y372.length co11] ?_; (with_reducible refine (impl_isText.calls _ _ _ _ _ _ ?side1 ?side2 A2.out).mono ?_); (case side1 => exact pc (Kd.R_reads' HO374.out).2.2); (case side2 => exact (Kd.R_reads' HO374.out).2.1); rintro e w' ⟨rfl, ⟨nd, rfl⟩⟩; refine ⟨_, rfl, ?_⟩)); go_ret; exact fin_ HB

 subst c3
 rw [if_pos rfl] at H
 replace H := Option.bind_eq_some_iff.mp H
 obtain ⟨⟨t376, t379, t380, t381⟩, A40, H⟩ := H
 (try dsimp only at H)
 have A4 := Zm A40
 clear A40
 obtain rfl := Option.some.inj H
 go_enter Tryz.func54, Tryz.ntmps54
 go_wp2_with (first | ((with_reducible refine gate_dst (N := 4) rfl ?_); refine Kd.R_lit Kd.string _ 9 ?hg (N := 4) ?hd (xs := ([a0] : List ByteArray)) (inner := [.string a0]) (ok := fun _ => True) (okp := fun _ => True) ?hr ?hp (fun _ hk => hk) trivial (Below.refl _ _) (Nat.le_refl _) (by simp) ?_; (case hd => rfl); (case hg => rfl); (case hr => first | (go_simp; done) | (go_simp; rfl)); (case hp => exact (Reps.one (show Kd.M Kd.string _ _ _ a0 [.string a0] from rfl) (Reps.none _ _))); intro v373 w5 ho6 hb hg_ hnew_; clear hg_ hnew_; (first | rw [← Ny372.out] at ho6 | (simp only [Int.reduceToNat] at ho6; rw [← Ny372.out] at ho6)); have n0_ := (⟨Zm (Kd.R_lower ho6 (Zbz (bk HB.out))), Zm (Zbt (bk HB.out) hb)⟩ : _ ∧ _); clear HB; obtain ⟨HO374, HB⟩ := n0_; clear hb ho6; obtain ⟨Ao7, co7, eo7⟩ := Kd.R_slice HO374.out; subst eo7) | ((with_reducible refine gate_callee (f := 45) rfl ?_); refine ge_ (some 5) Tryz.func45 #[.slice Ao7 y372.length co7] ?_; (with_reducible refine (impl_isText.calls _ _ _ _ _ _ ?side1 ?side2 A2.out).mono ?_); (case side1 => exact pc (Kd.R_reads' HO374.out).2.2); (case side2 => exact (Kd.R_reads' HO374.out).2.1); rintro e w' ⟨rfl, ⟨nd, rfl⟩⟩; refine ⟨_, rfl, ?_⟩; (try clear HO374)) | (go_at_call 93; (first | (with_reducible refine (impl_descRead.calls _ _ _ _ _ _ _ A4.out).mono ?_) | (with_reducible refine (calls_of_args ?_ (impl_descRead.calls _ _ _ _ _ _ _ A4.out)).mono ?_; focus (simp [*]; done))); rintro e w8 ⟨v377, rfl, ho0, hb⟩; have n0_ := (⟨Zm (Kd.R_lower ho0 (Zbz (bk HB.out))), Zm (Zbt (bk HB.out) hb)⟩ : _ ∧ _); clear HB; obtain ⟨HO378, HB⟩ := n0_; (try clear hb); (try clear hb2); (try clear hk); (try clear hi); (try clear ho0)))
 go_ret
 exact fin_ HB
/-! ### impl_InsRight: function 20 -/
def impl_InsRight.j0 : Nat → Bool → Int → Int → ByteArray → ByteArray → ByteArray → Option (Bool)
 | 0, _, _, _, _, _, _ => none
 | k + 1, x3, x383000, x383001, x383002, x383003, x383004 => (impl_OpForm.f x383000).bind fun t383 => (if t383.toList = ([] : List UInt8) then (if x3 = true then (some (x383001 == 0)) else (some false)) else (if t383.toList = ([110] : List UInt8) then (if x3 = true then ((impl_isInt.f x383001).bind fun t384 => (some t384)) else (some false)) else (if t383.toList = ([105] : List UInt8) then (if x3 = true then ((impl_within.f x383001 0 15).bind fun t385 => (some t385)) else (some false)) else (if t383.toList = ([116] : List UInt8) then (if x3 = true then ((impl_within.f x383001 0 59).bind fun t386 => (some t386)) else (some false)) else (if t383.toList = ([99] : List UInt8) then (if x383001 = 0 then ((impl_NameRight.f k x383002).bind fun t387 => (if t387 = true then (if x383003.toList = ([] : List UInt8) then (some (x383004.toList == ([] : List UInt8))) else (some false)) else (some false))) else (some false)) else (if t383.toList = ([121] : List UInt8) then (if x383001 = 0 then (if x383002.toList = ([] : List UInt8) then (if x383003.toList = ([] : List UInt8) then (if x383004.toList = ([73] : List UInt8) then (some true) else ((impl_typeRight.f k x383004).bind fun t388 => (if t388 = true then (if 0 < (x383004.size : Int) then (some ((bt x383004 0) == 76)) else (none)) else (some false)))) else (some false)) else (some false)) else (some false)) else (if t383.toList = ([102] : List UInt8) then (if x383001 = 0 then ((impl_NameRight.f k x383002).bind fun t389 => (if t389 = true then ((impl_NameRight.f k x383003).bind fun t390 => (if t390 = true then ((impl_typeRight.f k x383004).bind fun t391 => (some t391)) else (some false))) else (some false))) else (some false)) else (if t383.toList = ([109] : List UInt8) then (if x383001 = 0 then ((impl_NameRight.f k x383002).bind fun t392 => (if t392 = true then ((impl_isMethodName.f k x383003).bind fun t393 => (if t393 = true then ((impl_isDesc.f k x383004).bind fun t394 => (some t394)) else (some false))) else (some false))) else (some false)) else (some false)))))))))
def impl_InsRight.f (k : Nat) (a0_0 : Int) (a0_1 : Int) (a0_2 : ByteArray) (a0_3 : ByteArray) (a0_4 : ByteArray) : Option (Bool) := if a0_2.toList = ([] : List UInt8) then (if a0_3.toList = ([] : List UInt8) then (impl_InsRight.j0 k (a0_4.toList == ([] : List UInt8)) a0_0 a0_1 a0_2 a0_3 a0_4) else (impl_InsRight.j0 k false a0_0 a0_1 a0_2 a0_3 a0_4)) else (impl_InsRight.j0 k false a0_0 a0_1 a0_2 a0_3 a0_4)
theorem impl_InsRight.mono_l : ∀ k, (∀ y0 y1 y2 y3 y4 y5, LeO (impl_InsRight.j0 k y0 y1 y2 y3 y4 y5) (impl_InsRight.j0 (k + 1) y0 y1 y2 y3 y4 y5))
 | 0 => fun _ _ _ _ _ _ r h => by simp [impl_InsRight.j0] at h
 | k + 1 => by
  have ih0 := impl_InsRight.mono_l k
  · intro y0 y1 y2 y3 y4 y5; unfold impl_InsRight.j0
    repeat' first
    | (with_reducible exact ih0 _ _ _ _ _ _)
    | (with_reducible exact impl_NameRight.mono _ _)
    | (with_reducible exact impl_isDesc.mono _ _)
    | (with_reducible exact impl_isMethodName.mono _ _)
    | (with_reducible exact impl_typeRight.mono _ _)
    | (with_reducible exact LeO.refl _)
    | (with_reducible exact LeO.none _)
    | (with_reducible refine LeO.ite ?_ ?_)
    | (with_reducible refine LeO.bind ?_ (fun _ => ?_))
    | exact ih0 _ _ _ _ _ _
    | exact impl_NameRight.mono _ _
    | exact impl_isDesc.mono _ _
    | exact impl_isMethodName.mono _ _
    | exact impl_typeRight.mono _ _
    | exact LeO.none _
    | refine LeO.ite ?_ ?_
    | refine LeO.bind ?_ (fun _ => ?_)
theorem impl_InsRight.mono : ∀ a0 a1 a2 a3 a4 k, LeO (impl_InsRight.f k a0 a1 a2 a3 a4) (impl_InsRight.f (k + 1) a0 a1 a2 a3 a4) := by
 intro a0 a1 a2 a3 a4 k; have ih0 := impl_InsRight.mono_l k; unfold impl_InsRight.f
 repeat' first
  | (with_reducible exact ih0 _ _ _ _ _ _)
  | (with_reducible exact impl_NameRight.mono _ _)
  | (with_reducible exact impl_isDesc.mono _ _)
  | (with_reducible exact impl_isMethodName.mono _ _)
  | (with_reducible exact impl_typeRight.mono _ _)
  | (with_reducible exact LeO.refl _)
  | (with_reducible exact LeO.none _)
  | (with_reducible refine LeO.ite ?_ ?_)
  | (with_reducible refine LeO.bind ?_ (fun _ => ?_))
  | exact ih0 _ _ _ _ _ _
  | exact impl_NameRight.mono _ _
  | exact impl_isDesc.mono _ _
  | exact impl_isMethodName.mono _ _
  | exact impl_typeRight.mono _ _
  | exact LeO.none _
  | refine LeO.ite ?_ ?_
  | refine LeO.bind ?_ (fun _ => ?_)
set_option maxHeartbeats 8000000 in
set_option maxRecDepth 100000 in
theorem impl_InsRight.calls (k : Nat) (a0_0 : Int) (a0_1 : Int) (a0_2 : ByteArray) (a0_3 : ByteArray) (a0_4 : ByteArray) (r : Bool) (w : World) (h : impl_InsRight.f k a0_0 a0_1 a0_2 a0_3 a0_4 = some r) :
 Calls Tryz.prog 20 #[.agg #[.int .i64 a0_0, .int .i64 a0_1, .string a0_2, .string a0_3, .string a0_4]] w fun e w' => e = .returned (.bool r) ∧ Below w.heap.size w w' := by
 have hu44 := Tryz.underlying44; have HB := Zm (Below.refl w.heap.size w); have H : (if a0_2.toList = ([] : List UInt8) then (if a0_3.toList = ([] : List UInt8) then (impl_InsRight.j0 k (a0_4.toList == ([] : List UInt8)) a0_0 a0_1 a0_2 a0_3 a0_4) else (impl_InsRight.j0 k false a0_0 a0_1 a0_2 a0_3 a0_4)) else (impl_InsRight.j0 k false a0_0 a0_1 a0_2 a0_3 a0_4)) = some r := h; clear h; have HC2 := Zm H; clear H; go_enter Tryz.func20, Tryz.ntmps20; go_upto_region 1 with (first | ((with_reducible refine gate_dst (N := 1) rfl ?_); refine box_event ?hg (N := 1) ?hd (cs := #[.int .i64 a0_0, .int .i64 a0_1, .string a0_2, .string a0_3, .string a0_4]) (t := 44) ?hr ?_; (case hd => rfl); (case hg => rfl); (case hr => first | (go_simp; done) | (go_simp; rfl)); intro gb382 hg w3 hbox hb; have n0_ := (⟨Zm (Zbt (bk HB.out) hb), Zm (hbox), Zm ((by rw [hg]; exact (Zbz (bk HB.out)) : w.heap.size ≤ gb382)), Zm ((by rw [hg]; exact (Zbz (bk HB.out)) : w.heap.size ≤ gb382))⟩ : _ ∧ _ ∧ _ ∧ _); clear HB; obtain ⟨HB, BK382, GW382, GE382⟩ := n0_; clear hb hbox hg)); (try simp only [Act.put, List.setIfInBounds_toArray, List.set_cons_zero, List.set_cons_succ]); go_cut [3] (fun v3 wc => ∃ (kq : Nat) (x3_1 : Bool), v3 = .bool x3_1 ∧ Aside0 (impl_InsRight.j0 kq x3_1 a0_0 a0_1 a0_2 a0_3 a0_4 = some r) ∧ Aside0 (kq ≤ k) ∧ Aside0 (wc.heap[gb382]? = some (.cells #[.int .i64 a0_0, .int .i64 a0_1, .string a0_2, .string a0_3, .string a0_4] 44 (0, 0))) ∧ Aside0 (Below w.heap.size w wc))
 case first =>
  have H := HC2.out; clear HC2; by_cases c4 : a0_2.toList = ([] : List UInt8); rotate_left
  · rw [if_neg c4] at H; have c4b0 : (a0_2.toList == ([] : List UInt8)) = false := beq_eq_false_iff_ne.mpr c4; have c4b1 : (a0_2.toList != ([] : List UInt8)) = true := bne_iff_ne.mpr c4; (first | rw [c4b0] | (simp only [i64_w, i32_w]; rw [c4b0]) | rw [ie_ c4b0] | skip); have H' := Zm H; clear H; obtain ⟨hcz8_0, hcz8_1, hcz8_2, hcz8_3, hcz8_4⟩ := cz5 BK382.out; go_wp2; go_meet
    case rel => exact ⟨_, (false), (by first | rfl | (simp; done) | (simp [*]; done)), H', ⟨by first | omega | exact Nat.le_refl _⟩, ⟨pk BK382.out⟩, ⟨bk HB.out⟩⟩
  rw [if_pos c4] at H; have c4b0 : (a0_2.toList == ([] : List UInt8)) = true := beq_iff_eq.mpr c4; have c4b1 : (a0_2.toList != ([] : List UInt8)) = false := bne_eq_false_iff_eq.mpr c4; clear c4; (first | rw [c4b0] | (simp only [i64_w, i32_w]; rw [c4b0]) | rw [ie_ c4b0] | skip); by_cases c5 : a0_3.toList = ([] : List UInt8); rotate_left
  · rw [if_neg c5] at H; have c5b0 : (a0_3.toList == ([] : List UInt8)) = false := beq_eq_false_iff_ne.mpr c5; have c5b1 : (a0_3.toList != ([] : List UInt8)) = true := bne_iff_ne.mpr c5; have H' := Zm H; clear H; obtain ⟨hcz7_0, hcz7_1, hcz7_2, hcz7_3, hcz7_4⟩ := cz5 BK382.out; go_wp2; go_meet
    case rel => exact ⟨_, (false), (by first | rfl | (simp; done) | (simp [*]; done)), H', ⟨by first | omega | exact Nat.le_refl _⟩, ⟨pk BK382.out⟩, ⟨bk HB.out⟩⟩
  rw [if_pos c5] at H; have c5b0 : (a0_3.toList == ([] : List UInt8)) = true := beq_iff_eq.mpr c5; have c5b1 : (a0_3.toList != ([] : List UInt8)) = false := bne_eq_false_iff_eq.mpr c5; clear c5; have H' := Zm H; clear H; obtain ⟨hcz6_0, hcz6_1, hcz6_2, hcz6_3, hcz6_4⟩ := cz5 BK382.out; go_wp2; go_meet
  case rel => exact ⟨_, ((a0_4.toList == ([] : List UInt8))), (by first | rfl | (simp; done) | (simp [*]; done)), H', ⟨by first | omega | exact Nat.le_refl _⟩, ⟨pk BK382.out⟩, ⟨bk HB.out⟩⟩
 case rest =>
  clear HC2; obtain ⟨kq, x3_1, rfl, HA, HJ1, BK382, HB⟩ := hcut
  cases kq with
  | zero => exact absurd HA.out (by simp [impl_InsRight.j0])
  | succ kj1 =>
   have H := HA.out; clear HA; simp only [impl_InsRight.j0] at H; replace H := Option.bind_eq_some_iff.mp H; obtain ⟨t383, A90, H⟩ := H; (try dsimp only at H); have A9 := Zm A90; clear A90; have HC10 := Zm H; clear H; obtain ⟨hcz11_0, hcz11_1, hcz11_2, hcz11_3, hcz11_4⟩ := cz5 BK382.out; go_upto_if 20 with (first | ((with_reducible refine gate_callee (f := 48) rfl ?_); refine ge_ (some 19) Tryz.func48 #[.int .i64 a0_0] ?_; (with_reducible refine (impl_OpForm.calls _ _ _ A9.out).mono ?_); rintro e w12 ⟨rfl, hb⟩; refine ⟨_, rfl, ?_⟩; have n0_ := (⟨Zm (Zkb (pk BK382.out) hb), Zm (Zbt (bk HB.out) hb)⟩ : _ ∧ _); clear BK382 HB; obtain ⟨BK382, HB⟩ := n0_; (try clear hb); (try clear hb2); (try clear hk); (try clear hi))); have H := HC10.out; clear HC10; by_cases c13 : t383.toList = ([] : List UInt8); rotate_left
   · rw [if_neg c13] at H; have c13b0 : (t383.toList == ([] : List UInt8)) = false := beq_eq_false_iff_ne.mpr c13; have c13b1 : (t383.toList != ([] : List UInt8)) = true := bne_iff_ne.mpr c13; (first | rw [c13b0] | (simp only [i64_w, i32_w]; rw [c13b0]) | rw [ie_ c13b0] | skip); by_cases c16 : t383.toList = ([110] : List UInt8); rotate_left
     · rw [if_neg c16] at H; have c16b0 : (t383.toList == ([110] : List UInt8)) = false := beq_eq_false_iff_ne.mpr c16; have c16b1 : (t383.toList != ([110] : List UInt8)) = true := bne_iff_ne.mpr c16; by_cases c20 : t383.toList = ([105] : List UInt8); rotate_left
       · rw [if_neg c20] at H; have c20b0 : (t383.toList == ([105] : List UInt8)) = false := beq_eq_false_iff_ne.mpr c20; have c20b1 : (t383.toList != ([105] : List UInt8)) = true := bne_iff_ne.mpr c20; by_cases c24 : t383.toList = ([116] : List UInt8); rotate_left
         · rw [if_neg c24] at H; have c24b0 : (t383.toList == ([116] : List UInt8)) = false := beq_eq_false_iff_ne.mpr c24; have c24b1 : (t383.toList != ([116] : List UInt8)) = true := bne_iff_ne.mpr c24; by_cases c28 : t383.toList = ([99] : List UInt8); rotate_left
           · rw [if_neg c28] at H; have c28b0 : (t383.toList == ([99] : List UInt8)) = false := beq_eq_false_iff_ne.mpr c28; have c28b1 : (t383.toList != ([99] : List UInt8)) = true := bne_iff_ne.mpr c28; by_cases c37 : t383.toList = ([121] : List UInt8); rotate_left
             · rw [if_neg c37] at H; have c37b0 : (t383.toList == ([121] : List UInt8)) = false := beq_eq_false_iff_ne.mpr c37; have c37b1 : (t383.toList != ([121] : List UInt8)) = true := bne_iff_ne.mpr c37; by_cases c55 : t383.toList = ([102] : List UInt8); rotate_left
               · rw [if_neg c55] at H; have c55b0 : (t383.toList == ([102] : List UInt8)) = false := beq_eq_false_iff_ne.mpr c55; have c55b1 : (t383.toList != ([102] : List UInt8)) = true := bne_iff_ne.mpr c55; by_cases c67 : t383.toList = ([109] : List UInt8); rotate_left
                 · rw [if_neg c67] at H; have c67b0 : (t383.toList == ([109] : List UInt8)) = false := beq_eq_false_iff_ne.mpr c67; have c67b1 : (t383.toList != ([109] : List UInt8)) = true := bne_iff_ne.mpr c67; obtain rfl := Option.some.inj H; go_wp2; go_ret; exact fin_ HB

                 rw [if_pos c67] at H
                 have c67b0 : (t383.toList == ([109] : List UInt8)) = true := beq_iff_eq.mpr c67
                 have c67b1 : (t383.toList != ([109] : List UInt8)) = false := bne_eq_false_iff_eq.mpr c67
                 clear c67
                 by_cases c68 : a0_1 = 0
                 rotate_left
                 · rw [if_neg c68] at H
                   have c68b0 : (a0_1 == 0) = false := beq_eq_false_iff_ne.mpr c68
                   have c68b1 : (a0_1 != 0) = true := bne_iff_ne.mpr c68
                   obtain rfl := Option.some.inj H
                   obtain ⟨hcz78_0, hcz78_1, hcz78_2, hcz78_3, hcz78_4⟩ := cz5 BK382.out
                   go_wp2
                   go_ret
                   exact fin_ HB
                 rw [if_pos c68] at H
                 have c68b0 : (a0_1 == 0) = true := beq_iff_eq.mpr c68
                 have c68b1 : (a0_1 != 0) = false := bne_eq_false_iff_eq.mpr c68
                 clear c68
                 replace H := Option.bind_eq_some_iff.mp H
                 obtain ⟨t392, A690, H⟩ := H
                 (try dsimp only at H)
                 have A69 := Zm A690
                 clear A690
                 by_cases c70 : t392 = true
                 rotate_left
                 · replace c70 := Bool.eq_false_iff.mpr c70
                   subst c70
                   rw [if_neg (show ¬ (false = true) by decide)] at H
                   obtain rfl := Option.some.inj H
                   obtain ⟨hcz77_0, hcz77_1, hcz77_2, hcz77_3, hcz77_4⟩ := cz5 BK382.out
                   (try clear BK382)
                   go_wp2_with (first | (go_at_call 51; (first | (with_reducible refine (impl_NameRight.calls _ _ _ _ A69.out).mono ?_) | (with_reducible refine (calls_of_args ?_ (impl_NameRight.calls _ _ _ _ A69.out)).mono ?_; focus (simp [*]; done))); rintro e w' ⟨rfl, ⟨nd, rfl⟩⟩))
                   go_ret
                   exact fin_ HB
                 subst c70
                 rw [if_pos rfl] at H
                 replace H := Option.bind_eq_some_iff.mp H
                 obtain ⟨t393, A710, H⟩ := H
                 (try dsimp only at H)
                 have A71 := Zm A710
                 clear A710
                 by_cases c72 : t393 = true
                 rotate_left
                 · replace c72 := Bool.eq_false_iff.mpr c72
                   subst c72
                   rw [if_neg (show ¬ (false = true) by decide)] at H
                   obtain rfl := Option.some.inj H
                   obtain ⟨hcz76_0, hcz76_1, hcz76_2, hcz76_3, hcz76_4⟩ := cz5 BK382.out
                   go_wp2_with (first | (go_at_call 51; (first | (with_reducible refine (impl_NameRight.calls _ _ _ _ A69.out).mono ?_) | (with_reducible refine (calls_of_args ?_ (impl_NameRight.calls _ _ _ _ A69.out)).mono ?_; focus (simp [*]; done))); rintro e w' ⟨rfl, ⟨nd, rfl⟩⟩; (try clear BK382)) | (go_at_call 53; (first | (with_reducible refine (impl_isMethodName.calls _ _ _ _ A71.out).mono ?_) | (with_reducible refine (calls_of_args ?_ (impl_isMethodName.calls _ _ _ _ A71.out)).mono ?_; focus (simp [*]; done))); rintro e w' ⟨rfl, ⟨nd, rfl⟩⟩))
                   go_ret
                   exact fin_ HB
                 subst c72
                 rw [if_pos rfl] at H
                 replace H := Option.bind_eq_some_iff.mp H
                 obtain ⟨t394, A730, H⟩ := H
                 (try dsimp only at H)
                 have A73 := Zm A730
                 clear A730
                 obtain rfl := Option.some.inj H
                 obtain ⟨hcz74_0, hcz74_1, hcz74_2, hcz74_3, hcz74_4⟩ := cz5 BK382.out
                 go_wp2_with (first | (go_at_call 51; (first | (with_reducible refine (impl_NameRight.calls _ _ _ _ A69.out).mono ?_) | (with_reducible refine (calls_of_args ?_ (impl_NameRight.calls _ _ _ _ A69.out)).mono ?_; focus (simp [*]; done))); rintro e w' ⟨rfl, ⟨nd, rfl⟩⟩) | (go_at_call 53; (first | (with_reducible refine (impl_isMethodName.calls _ _ _ _ A71.out).mono ?_) | (with_reducible refine (calls_of_args ?_ (impl_isMethodName.calls _ _ _ _ A71.out)).mono ?_; focus (simp [*]; done))); rintro e w' ⟨rfl, ⟨nd, rfl⟩⟩; (try clear BK382)) | (go_at_call 54; (first | (with_reducible refine (impl_isDesc.calls _ _ _ _ A73.out).mono ?_) | (with_reducible refine (calls_of_args ?_ (impl_isDesc.calls _ _ _ _ A73.out)).mono ?_; focus (simp [*]; done))); rintro e w75 ⟨rfl, hb⟩; have n0_ := Zm (Zbt (bk HB.out) hb); clear HB; have HB := n0_; clear n0_; (try clear hb); (try clear hb2); (try clear hk); (try clear hi)))
                 go_ret
                 exact fin_ HB
               rw [if_pos c55] at H
               have c55b0 : (t383.toList == ([102] : List UInt8)) = true := beq_iff_eq.mpr c55
               have c55b1 : (t383.toList != ([102] : List UInt8)) = false := bne_eq_false_iff_eq.mpr c55
               clear c55
               by_cases c56 : a0_1 = 0
               rotate_left
               · rw [if_neg c56] at H
                 have c56b0 : (a0_1 == 0) = false := beq_eq_false_iff_ne.mpr c56
                 have c56b1 : (a0_1 != 0) = true := bne_iff_ne.mpr c56
                 obtain rfl := Option.some.inj H
                 obtain ⟨hcz66_0, hcz66_1, hcz66_2, hcz66_3, hcz66_4⟩ := cz5 BK382.out
                 go_wp2
                 go_ret
                 exact fin_ HB
               rw [if_pos c56] at H
               have c56b0 : (a0_1 == 0) = true := beq_iff_eq.mpr c56
               have c56b1 : (a0_1 != 0) = false := bne_eq_false_iff_eq.mpr c56
               clear c56
               replace H := Option.bind_eq_some_iff.mp H
               obtain ⟨t389, A570, H⟩ := H
               (try dsimp only at H)
               have A57 := Zm A570
               clear A570
               by_cases c58 : t389 = true
               rotate_left
               · replace c58 := Bool.eq_false_iff.mpr c58
                 subst c58
                 rw [if_neg (show ¬ (false = true) by decide)] at H
                 obtain rfl := Option.some.inj H
                 obtain ⟨hcz65_0, hcz65_1, hcz65_2, hcz65_3, hcz65_4⟩ := cz5 BK382.out
                 (try clear BK382)
                 go_wp2_with (first | (go_at_call 51; (first | (with_reducible refine (impl_NameRight.calls _ _ _ _ A57.out).mono ?_) | (with_reducible refine (calls_of_args ?_ (impl_NameRight.calls _ _ _ _ A57.out)).mono ?_; focus (simp [*]; done))); rintro e w' ⟨rfl, ⟨nd, rfl⟩⟩))
                 go_ret
                 exact fin_ HB
               subst c58
               rw [if_pos rfl] at H
               replace H := Option.bind_eq_some_iff.mp H
               obtain ⟨t390, A590, H⟩ := H
               (try dsimp only at H)
               have A59 := Zm A590
               clear A590
               by_cases c60 : t390 = true
               rotate_left
               · replace c60 := Bool.eq_false_iff.mpr c60
                 subst c60
                 rw [if_neg (show ¬ (false = true) by decide)] at H
                 obtain rfl := Option.some.inj H
                 obtain ⟨hcz64_0, hcz64_1, hcz64_2, hcz64_3, hcz64_4⟩ := cz5 BK382.out
                 go_wp2_with (first | (go_at_call 51; (first | (with_reducible refine (impl_NameRight.calls _ _ _ _ A57.out).mono ?_) | (with_reducible refine (calls_of_args ?_ (impl_NameRight.calls _ _ _ _ A57.out)).mono ?_; focus (simp [*]; done))); rintro e w' ⟨rfl, ⟨nd, rfl⟩⟩; (try clear BK382)) | (go_at_call 51; (first | (with_reducible refine (impl_NameRight.calls _ _ _ _ A59.out).mono ?_) | (with_reducible refine (calls_of_args ?_ (impl_NameRight.calls _ _ _ _ A59.out)).mono ?_; focus (simp [*]; done))); rintro e w' ⟨rfl, ⟨nd, rfl⟩⟩))
                 go_ret
                 exact fin_ HB
               subst c60
               rw [if_pos rfl] at H
               replace H := Option.bind_eq_some_iff.mp H
               obtain ⟨t391, A610, H⟩ := H
               (try dsimp only at H)
               have A61 := Zm A610
               clear A610
               obtain rfl := Option.some.inj H
               obtain ⟨hcz62_0, hcz62_1, hcz62_2, hcz62_3, hcz62_4⟩ := cz5 BK382.out
               go_wp2_with (first | (go_at_call 51; (first | (with_reducible refine (impl_NameRight.calls _ _ _ _ A57.out).mono ?_) | (with_reducible refine (calls_of_args ?_ (impl_NameRight.calls _ _ _ _ A57.out)).mono ?_; focus (simp [*]; done))); rintro e w' ⟨rfl, ⟨nd, rfl⟩⟩) | (go_at_call 51; (first | (with_reducible refine (impl_NameRight.calls _ _ _ _ A59.out).mono ?_) | (with_reducible refine (calls_of_args ?_ (impl_NameRight.calls _ _ _ _ A59.out)).mono ?_; focus (simp [*]; done))); rintro e w' ⟨rfl, ⟨nd, rfl⟩⟩; (try clear BK382)) | (go_at_call 52; (first | (with_reducible refine (impl_typeRight.calls _ _ _ _ A61.out).mono ?_) | (with_reducible refine (calls_of_args ?_ (impl_typeRight.calls _ _ _ _ A61.out)).mono ?_; focus (simp [*]; done))); rintro e w63 ⟨rfl, hb⟩; have n0_ := Zm (Zbt (bk HB.out) hb); clear HB; have HB := n0_; clear n0_; (try clear hb); (try clear hb2); (try clear hk); (try clear hi)))
               go_ret
               exact fin_ HB
             rw [if_pos c37] at H
             have c37b0 : (t383.toList == ([121] : List UInt8)) = true := beq_iff_eq.mpr c37
             have c37b1 : (t383.toList != ([121] : List UInt8)) = false := bne_eq_false_iff_eq.mpr c37
             clear c37
             by_cases c38 : a0_1 = 0
             rotate_left
             · rw [if_neg c38] at H
               have c38b0 : (a0_1 == 0) = false := beq_eq_false_iff_ne.mpr c38
               have c38b1 : (a0_1 != 0) = true := bne_iff_ne.mpr c38
               obtain rfl := Option.some.inj H
               obtain ⟨hcz54_0, hcz54_1, hcz54_2, hcz54_3, hcz54_4⟩ := cz5 BK382.out
               go_wp2
               go_ret
               exact fin_ HB
             rw [if_pos c38] at H
             have c38b0 : (a0_1 == 0) = true := beq_iff_eq.mpr c38
             have c38b1 : (a0_1 != 0) = false := bne_eq_false_iff_eq.mpr c38
             clear c38
             by_cases c39 : a0_2.toList = ([] : List UInt8)
             rotate_left
             · rw [if_neg c39] at H
               have c39b0 : (a0_2.toList == ([] : List UInt8)) = false := beq_eq_false_iff_ne.mpr c39
               have c39b1 : (a0_2.toList != ([] : List UInt8)) = true := bne_iff_ne.mpr c39
               obtain rfl := Option.some.inj H
               obtain ⟨hcz53_0, hcz53_1, hcz53_2, hcz53_3, hcz53_4⟩ := cz5 BK382.out
               go_wp2
               go_ret
               exact fin_ HB
             rw [if_pos c39] at H
             have c39b0 : (a0_2.toList == ([] : List UInt8)) = true := beq_iff_eq.mpr c39
             have c39b1 : (a0_2.toList != ([] : List UInt8)) = false := bne_eq_false_iff_eq.mpr c39
             clear c39
             by_cases c40 : a0_3.toList = ([] : List UInt8)
             rotate_left
             · rw [if_neg c40] at H
               have c40b0 : (a0_3.toList == ([] : List UInt8)) = false := beq_eq_false_iff_ne.mpr c40
               have c40b1 : (a0_3.toList != ([] : List UInt8)) = true := bne_iff_ne.mpr c40
               obtain rfl := Option.some.inj H
               obtain ⟨hcz52_0, hcz52_1, hcz52_2, hcz52_3, hcz52_4⟩ := cz5 BK382.out
               go_wp2
               go_ret
               exact fin_ HB
             rw [if_pos c40] at H
             have c40b0 : (a0_3.toList == ([] : List UInt8)) = true := beq_iff_eq.mpr c40
             have c40b1 : (a0_3.toList != ([] : List UInt8)) = false := bne_eq_false_iff_eq.mpr c40
             clear c40
             by_cases c41 : a0_4.toList = ([73] : List UInt8)
             rotate_left
             · rw [if_neg c41] at H
               have c41b0 : (a0_4.toList == ([73] : List UInt8)) = false := beq_eq_false_iff_ne.mpr c41
               have c41b1 : (a0_4.toList != ([73] : List UInt8)) = true := bne_iff_ne.mpr c41
               replace H := Option.bind_eq_some_iff.mp H
               obtain ⟨t388, A430, H⟩ := H
               (try dsimp only at H)
               have A43 := Zm A430
               clear A430
               by_cases c44 : t388 = true
               rotate_left
               · replace c44 := Bool.eq_false_iff.mpr c44
                 subst c44
                 rw [if_neg (show ¬ (false = true) by decide)] at H
                 obtain rfl := Option.some.inj H
                 obtain ⟨hcz50_0, hcz50_1, hcz50_2, hcz50_3, hcz50_4⟩ := cz5 BK382.out
                 (try clear BK382)
                 go_wp2_with (first | (go_at_call 52; (first | (with_reducible refine (impl_typeRight.calls _ _ _ _ A43.out).mono ?_) | (with_reducible refine (calls_of_args ?_ (impl_typeRight.calls _ _ _ _ A43.out)).mono ?_; focus (simp [*]; done))); rintro e w51 ⟨rfl, hb⟩; have n0_ := Zm (Zbt (bk HB.out) hb); clear HB; have HB := n0_; clear n0_; (try clear hb); (try clear hb2); (try clear hk); (try clear hi)))
                 go_ret
                 exact fin_ HB
               subst c44
               rw [if_pos rfl] at H
               by_cases c45 : 0 < (a0_4.size : Int)
               rotate_left
               · rw [if_neg c45] at H
                 exact absurd H (by simp)
               rw [if_pos c45] at H
               have c45b0 := decide_eq_true c45
               have c45b1 : decide (0 < a0_4.size) = true := decide_eq_true (by omega)
               clear c45
               obtain rfl := Option.some.inj H
               obtain ⟨hcz47_0, hcz47_1, hcz47_2, hcz47_3, hcz47_4⟩ := cz5 BK382.out
               go_wp2_with (first | (go_at_call 52; (first | (with_reducible refine (impl_typeRight.calls _ _ _ _ A43.out).mono ?_) | (with_reducible refine (calls_of_args ?_ (impl_typeRight.calls _ _ _ _ A43.out)).mono ?_; focus (simp [*]; done))); rintro e w48 ⟨rfl, hb⟩; have n0_ := (⟨Zm (Zkb (pk BK382.out) hb), Zm (Zbt (bk HB.out) hb)⟩ : _ ∧ _); clear BK382 HB; obtain ⟨BK382, HB⟩ := n0_; (try clear hb); (try clear hb2); (try clear hk); (try clear hi); obtain ⟨hcz49_0, hcz49_1, hcz49_2, hcz49_3, hcz49_4⟩ := cz5 BK382.out; have p46 : 0 ≤ (0 : Int) := (by omega); have q46 : 0 < a0_4.size := (by have : (0 : Int) < (a0_4.size : Int) := of_decide_eq_true (by first | (with_reducible assumption) | assumption); omega); have hx46 : ∀ h : 0 < a0_4.size, ((a0_4[0]'h).toNat : Int) = bt a0_4 0 := bt_at a0_4 0; clear p46; have qi46 : (0 < (a0_4.size : Int)) = True := eq_true (of_decide_eq_true (by first | (with_reducible assumption) | assumption)); replace q46 := eq_true q46))
               go_ret
               exact fin_ HB
             rw [if_pos c41] at H
             have c41b0 : (a0_4.toList == ([73] : List UInt8)) = true := beq_iff_eq.mpr c41
             have c41b1 : (a0_4.toList != ([73] : List UInt8)) = false := bne_eq_false_iff_eq.mpr c41
             clear c41
             obtain rfl := Option.some.inj H
             obtain ⟨hcz42_0, hcz42_1, hcz42_2, hcz42_3, hcz42_4⟩ := cz5 BK382.out
             go_wp2
             go_ret
             exact fin_ HB
           rw [if_pos c28] at H
           have c28b0 : (t383.toList == ([99] : List UInt8)) = true := beq_iff_eq.mpr c28
           have c28b1 : (t383.toList != ([99] : List UInt8)) = false := bne_eq_false_iff_eq.mpr c28
           clear c28
           by_cases c29 : a0_1 = 0
           rotate_left
           · rw [if_neg c29] at H
             have c29b0 : (a0_1 == 0) = false := beq_eq_false_iff_ne.mpr c29
             have c29b1 : (a0_1 != 0) = true := bne_iff_ne.mpr c29
             obtain rfl := Option.some.inj H
             obtain ⟨hcz36_0, hcz36_1, hcz36_2, hcz36_3, hcz36_4⟩ := cz5 BK382.out
             go_wp2
             go_ret
             exact fin_ HB
           rw [if_pos c29] at H
           have c29b0 : (a0_1 == 0) = true := beq_iff_eq.mpr c29
           have c29b1 : (a0_1 != 0) = false := bne_eq_false_iff_eq.mpr c29
           clear c29
           replace H := Option.bind_eq_some_iff.mp H
           obtain ⟨t387, A300, H⟩ := H
           (try dsimp only at H)
           have A30 := Zm A300
           clear A300
           by_cases c31 : t387 = true
           rotate_left
           · replace c31 := Bool.eq_false_iff.mpr c31
             subst c31
             rw [if_neg (show ¬ (false = true) by decide)] at H
             obtain rfl := Option.some.inj H
             obtain ⟨hcz35_0, hcz35_1, hcz35_2, hcz35_3, hcz35_4⟩ := cz5 BK382.out
             (try clear BK382)
             go_wp2_with (first | (go_at_call 51; (first | (with_reducible refine (impl_NameRight.calls _ _ _ _ A30.out).mono ?_) | (with_reducible refine (calls_of_args ?_ (impl_NameRight.calls _ _ _ _ A30.out)).mono ?_; focus (simp [*]; done))); rintro e w' ⟨rfl, ⟨nd, rfl⟩⟩))
             go_ret
             exact fin_ HB
           subst c31
           rw [if_pos rfl] at H
           by_cases c32 : a0_3.toList = ([] : List UInt8)
           rotate_left
           · rw [if_neg c32] at H
             have c32b0 : (a0_3.toList == ([] : List UInt8)) = false := beq_eq_false_iff_ne.mpr c32
             have c32b1 : (a0_3.toList != ([] : List UInt8)) = true := bne_iff_ne.mpr c32
             obtain rfl := Option.some.inj H
             obtain ⟨hcz34_0, hcz34_1, hcz34_2, hcz34_3, hcz34_4⟩ := cz5 BK382.out
             go_wp2_with (first | (go_at_call 51; (first | (with_reducible refine (impl_NameRight.calls _ _ _ _ A30.out).mono ?_) | (with_reducible refine (calls_of_args ?_ (impl_NameRight.calls _ _ _ _ A30.out)).mono ?_; focus (simp [*]; done))); rintro e w' ⟨rfl, ⟨nd, rfl⟩⟩))
             go_ret
             exact fin_ HB
           rw [if_pos c32] at H
           have c32b0 : (a0_3.toList == ([] : List UInt8)) = true := beq_iff_eq.mpr c32
           have c32b1 : (a0_3.toList != ([] : List UInt8)) = false := bne_eq_false_iff_eq.mpr c32
           clear c32
           obtain rfl := Option.some.inj H
           obtain ⟨hcz33_0, hcz33_1, hcz33_2, hcz33_3, hcz33_4⟩ := cz5 BK382.out
           go_wp2_with (first | (go_at_call 51; (first | (with_reducible refine (impl_NameRight.calls _ _ _ _ A30.out).mono ?_) | (with_reducible refine (calls_of_args ?_ (impl_NameRight.calls _ _ _ _ A30.out)).mono ?_; focus (simp [*]; done))); rintro e w' ⟨rfl, ⟨nd, rfl⟩⟩))
           go_ret
           exact fin_ HB
         rw [if_pos c24] at H
         have c24b0 : (t383.toList == ([116] : List UInt8)) = true := beq_iff_eq.mpr c24
         have c24b1 : (t383.toList != ([116] : List UInt8)) = false := bne_eq_false_iff_eq.mpr c24
         clear c24
         by_cases c25 : x3_1 = true
         rotate_left
         · replace c25 := Bool.eq_false_iff.mpr c25
           subst c25
           rw [if_neg (show ¬ (false = true) by decide)] at H
           obtain rfl := Option.some.inj H
           go_wp2
           go_ret
           exact fin_ HB
         subst c25
         rw [if_pos rfl] at H
         replace H := Option.bind_eq_some_iff.mp H
         obtain ⟨t386, A260, H⟩ := H
         (try dsimp only at H)
         have A26 := Zm A260
         clear A260
         obtain rfl := Option.some.inj H
         obtain ⟨hcz27_0, hcz27_1, hcz27_2, hcz27_3, hcz27_4⟩ := cz5 BK382.out
         (try clear BK382)
         go_wp2_with (first | (go_at_call 50; (first | (with_reducible refine (impl_within.calls _ _ _ _ _ A26.out).mono ?_) | (with_reducible refine (calls_of_args ?_ (impl_within.calls _ _ _ _ _ A26.out)).mono ?_; focus (simp [*]; done))); rintro e w' ⟨rfl, ⟨nd, rfl⟩⟩))
         go_ret
         exact fin_ HB
       rw [if_pos c20] at H
       have c20b0 : (t383.toList == ([105] : List UInt8)) = true := beq_iff_eq.mpr c20
       have c20b1 : (t383.toList != ([105] : List UInt8)) = false := bne_eq_false_iff_eq.mpr c20
       clear c20
       by_cases c21 : x3_1 = true
       rotate_left
       · replace c21 := Bool.eq_false_iff.mpr c21
         subst c21
         rw [if_neg (show ¬ (false = true) by decide)] at H
         obtain rfl := Option.some.inj H
         go_wp2
         go_ret
         exact fin_ HB
       subst c21
       rw [if_pos rfl] at H
       replace H := Option.bind_eq_some_iff.mp H
       obtain ⟨t385, A220, H⟩ := H
       (try dsimp only at H)
       have A22 := Zm A220
       clear A220
       obtain rfl := Option.some.inj H
       obtain ⟨hcz23_0, hcz23_1, hcz23_2, hcz23_3, hcz23_4⟩ := cz5 BK382.out
       (try clear BK382)
       go_wp2_with (first | (go_at_call 50; (first | (with_reducible refine (impl_within.calls _ _ _ _ _ A22.out).mono ?_) | (with_reducible refine (calls_of_args ?_ (impl_within.calls _ _ _ _ _ A22.out)).mono ?_; focus (simp [*]; done))); rintro e w' ⟨rfl, ⟨nd, rfl⟩⟩))
       go_ret
       exact fin_ HB
     rw [if_pos c16] at H
     have c16b0 : (t383.toList == ([110] : List UInt8)) = true := beq_iff_eq.mpr c16
     have c16b1 : (t383.toList != ([110] : List UInt8)) = false := bne_eq_false_iff_eq.mpr c16
     clear c16
     by_cases c17 : x3_1 = true
     rotate_left
     · replace c17 := Bool.eq_false_iff.mpr c17
       subst c17
       rw [if_neg (show ¬ (false = true) by decide)] at H
       obtain rfl := Option.some.inj H
       go_wp2
       go_ret
       exact fin_ HB
     subst c17
     rw [if_pos rfl] at H
     replace H := Option.bind_eq_some_iff.mp H
     obtain ⟨t384, A180, H⟩ := H
     (try dsimp only at H)
     have A18 := Zm A180
     clear A180
     obtain rfl := Option.some.inj H
     obtain ⟨hcz19_0, hcz19_1, hcz19_2, hcz19_3, hcz19_4⟩ := cz5 BK382.out
     (try clear BK382)
     go_wp2_with (first | (go_at_call 49; (first | (with_reducible refine (impl_isInt.calls _ _ _ A18.out).mono ?_) | (with_reducible refine (calls_of_args ?_ (impl_isInt.calls _ _ _ A18.out)).mono ?_; focus (simp [*]; done))); rintro e w' ⟨rfl, ⟨nd, rfl⟩⟩))
     go_ret
     exact fin_ HB
   rw [if_pos c13] at H
   have c13b0 : (t383.toList == ([] : List UInt8)) = true := beq_iff_eq.mpr c13
   have c13b1 : (t383.toList != ([] : List UInt8)) = false := bne_eq_false_iff_eq.mpr c13
   clear c13
   (first | rw [c13b0] | (simp only [i64_w, i32_w]; rw [c13b0]) | rw [ie_ c13b0] | skip)
   by_cases c14 : x3_1 = true
   rotate_left
   · replace c14 := Bool.eq_false_iff.mpr c14
     subst c14
     rw [if_neg (show ¬ (false = true) by decide)] at H
     obtain rfl := Option.some.inj H
     go_wp2
     go_ret
     exact fin_ HB
   subst c14
   rw [if_pos rfl] at H
   obtain rfl := Option.some.inj H
   obtain ⟨hcz15_0, hcz15_1, hcz15_2, hcz15_3, hcz15_4⟩ := cz5 BK382.out
   go_wp2
   go_ret
   exact fin_ HB
/-! ### impl_opNames: function 60 -/
def impl_opNames.f  : Option (List ByteArray) := some (([(⟨#[99, 111, 110, 115, 116]⟩ : ByteArray), (⟨#[110, 117, 108, 108]⟩ : ByteArray), (⟨#[108, 111, 97, 100]⟩ : ByteArray), (⟨#[115, 116, 111, 114, 101]⟩ : ByteArray), (⟨#[112, 111, 112]⟩ : ByteArray), (⟨#[100, 117, 112]⟩ : ByteArray), (⟨#[115, 119, 97, 112]⟩ : ByteArray), (⟨#[97, 100, 100]⟩ : ByteArray), (⟨#[115, 117, 98]⟩ : ByteArray), (⟨#[109, 117, 108]⟩ : ByteArray), (⟨#[100, 105, 118]⟩ : ByteArray), (⟨#[114, 101, 109]⟩ : ByteArray), (⟨#[97, 110, 100]⟩ : ByteArray), (⟨#[111, 114]⟩ : ByteArray), (⟨#[120, 111, 114]⟩ : ByteArray), (⟨#[115, 104, 108]⟩ : ByteArray), (⟨#[115, 104, 114]⟩ : ByteArray), (⟨#[117, 115, 104, 114]⟩ : ByteArray), (⟨#[103, 111, 116, 111]⟩ : ByteArray), (⟨#[105, 102, 101, 113]⟩ : ByteArray), (⟨#[105, 102, 108, 116]⟩ : ByteArray), (⟨#[105, 102, 115, 97, 109, 101]⟩ : ByteArray), (⟨#[105, 102, 108, 101, 115, 115]⟩ : ByteArray), (⟨#[105, 102, 110, 117, 108, 108]⟩ : ByteArray), (⟨#[105, 102, 105, 115]⟩ : ByteArray), (⟨#[114, 101, 116, 117, 114, 110]⟩ : ByteArray), (⟨#[105, 114, 101, 116, 117, 114, 110]⟩ : ByteArray), (⟨#[97, 114, 101, 116, 117, 114, 110]⟩ : ByteArray), (⟨#[116, 104, 114, 111, 119]⟩ : ByteArray), (⟨#[100, 117, 112, 50]⟩ : ByteArray), (⟨#[110, 101, 119]⟩ : ByteArray), (⟨#[103, 101, 116, 102, 105, 101, 108, 100]⟩ : ByteArray), (⟨#[112, 117, 116, 102, 105, 101, 108, 100]⟩ : ByteArray), (⟨#[103, 101, 116, 115, 116, 97, 116, 105, 99]⟩ : ByteArray), (⟨#[112, 117, 116, 115, 116, 97, 116, 105, 99]⟩ : ByteArray), (⟨#[99, 97, 108, 108]⟩ : ByteArray), (⟨#[99, 97, 108, 108, 115, 116, 97, 116, 105, 99]⟩ : ByteArray), (⟨#[99, 97, 108, 108, 115, 112, 101, 99, 105, 97, 108]⟩ : ByteArray), (⟨#[99, 97, 115, 116]⟩ : ByteArray), (⟨#[105, 115, 111, 102]⟩ : ByteArray), (⟨#[110, 101, 119, 108, 105, 115, 116]⟩ : ByteArray), (⟨#[103, 101, 116]⟩ : ByteArray), (⟨#[112, 117, 116]⟩ : ByteArray), (⟨#[115, 105, 122, 101]⟩ : ByteArray)] : List ByteArray))
set_option maxHeartbeats 8000000 in
set_option maxRecDepth 100000 in
theorem impl_opNames.calls  (r : List ByteArray) (w : World) (h : impl_opNames.f  = some r) :
 Calls Tryz.prog 60 #[] w fun e w' => ∃ v0_ : Value, e = .returned (v0_) ∧ Kd.R Kd.string 9 w' w.heap.size (fun _ => True) v0_ r ∧ Below w.heap.size w w' := by
 have HB := Zm (Below.refl w.heap.size w); have H : (some (([(⟨#[99, 111, 110, 115, 116]⟩ : ByteArray), (⟨#[110, 117, 108, 108]⟩ : ByteArray), (⟨#[108, 111, 97, 100]⟩ : ByteArray), (⟨#[115, 116, 111, 114, 101]⟩ : ByteArray), (⟨#[112, 111, 112]⟩ : ByteArray), (⟨#[100, 117, 112]⟩ : ByteArray), (⟨#[115, 119, 97, 112]⟩ : ByteArray), (⟨#[97, 100, 100]⟩ : ByteArray), (⟨#[115, 117, 98]⟩ : ByteArray), (⟨#[109, 117, 108]⟩ : ByteArray), (⟨#[100, 105, 118]⟩ : ByteArray), (⟨#[114, 101, 109]⟩ : ByteArray), (⟨#[97, 110, 100]⟩ : ByteArray), (⟨#[111, 114]⟩ : ByteArray), (⟨#[120, 111, 114]⟩ : ByteArray), (⟨#[115, 104, 108]⟩ : ByteArray), (⟨#[115, 104, 114]⟩ : ByteArray), (⟨#[117, 115, 104, 114]⟩ : ByteArray), (⟨#[103, 111, 116, 111]⟩ : ByteArray), (⟨#[105, 102, 101, 113]⟩ : ByteArray), (⟨#[105, 102, 108, 116]⟩ : ByteArray), (⟨#[105, 102, 115, 97, 109, 101]⟩ : ByteArray), (⟨#[105, 102, 108, 101, 115, 115]⟩ : ByteArray), (⟨#[105, 102, 110, 117, 108, 108]⟩ : ByteArray), (⟨#[105, 102, 105, 115]⟩ : ByteArray), (⟨#[114, 101, 116, 117, 114, 110]⟩ : ByteArray), (⟨#[105, 114, 101, 116, 117, 114, 110]⟩ : ByteArray), (⟨#[97, 114, 101, 116, 117, 114, 110]⟩ : ByteArray), (⟨#[116, 104, 114, 111, 119]⟩ : ByteArray), (⟨#[100, 117, 112, 50]⟩ : ByteArray), (⟨#[110, 101, 119]⟩ : ByteArray), (⟨#[103, 101, 116, 102, 105, 101, 108, 100]⟩ : ByteArray), (⟨#[112, 117, 116, 102, 105, 101, 108, 100]⟩ : ByteArray), (⟨#[103, 101, 116, 115, 116, 97, 116, 105, 99]⟩ : ByteArray), (⟨#[112, 117, 116, 115, 116, 97, 116, 105, 99]⟩ : ByteArray), (⟨#[99, 97, 108, 108]⟩ : ByteArray), (⟨#[99, 97, 108, 108, 115, 116, 97, 116, 105, 99]⟩ : ByteArray), (⟨#[99, 97, 108, 108, 115, 112, 101, 99, 105, 97, 108]⟩ : ByteArray), (⟨#[99, 97, 115, 116]⟩ : ByteArray), (⟨#[105, 115, 111, 102]⟩ : ByteArray), (⟨#[110, 101, 119, 108, 105, 115, 116]⟩ : ByteArray), (⟨#[103, 101, 116]⟩ : ByteArray), (⟨#[112, 117, 116]⟩ : ByteArray), (⟨#[115, 105, 122, 101]⟩ : ByteArray)] : List ByteArray))) = some r := h; clear h; obtain ⟨y395, hy395⟩ : ∃ y_ : List ByteArray, y_ = (([(⟨#[99, 111, 110, 115, 116]⟩ : ByteArray), (⟨#[110, 117, 108, 108]⟩ : ByteArray), (⟨#[108, 111, 97, 100]⟩ : ByteArray), (⟨#[115, 116, 111, 114, 101]⟩ : ByteArray), (⟨#[112, 111, 112]⟩ : ByteArray), (⟨#[100, 117, 112]⟩ : ByteArray), (⟨#[115, 119, 97, 112]⟩ : ByteArray), (⟨#[97, 100, 100]⟩ : ByteArray), (⟨#[115, 117, 98]⟩ : ByteArray), (⟨#[109, 117, 108]⟩ : ByteArray), (⟨#[100, 105, 118]⟩ : ByteArray), (⟨#[114, 101, 109]⟩ : ByteArray), (⟨#[97, 110, 100]⟩ : ByteArray), (⟨#[111, 114]⟩ : ByteArray), (⟨#[120, 111, 114]⟩ : ByteArray), (⟨#[115, 104, 108]⟩ : ByteArray), (⟨#[115, 104, 114]⟩ : ByteArray), (⟨#[117, 115, 104, 114]⟩ : ByteArray), (⟨#[103, 111, 116, 111]⟩ : ByteArray), (⟨#[105, 102, 101, 113]⟩ : ByteArray), (⟨#[105, 102, 108, 116]⟩ : ByteArray), (⟨#[105, 102, 115, 97, 109, 101]⟩ : ByteArray), (⟨#[105, 102, 108, 101, 115, 115]⟩ : ByteArray), (⟨#[105, 102, 110, 117, 108, 108]⟩ : ByteArray), (⟨#[105, 102, 105, 115]⟩ : ByteArray), (⟨#[114, 101, 116, 117, 114, 110]⟩ : ByteArray), (⟨#[105, 114, 101, 116, 117, 114, 110]⟩ : ByteArray), (⟨#[97, 114, 101, 116, 117, 114, 110]⟩ : ByteArray), (⟨#[116, 104, 114, 111, 119]⟩ : ByteArray), (⟨#[100, 117, 112, 50]⟩ : ByteArray), (⟨#[110, 101, 119]⟩ : ByteArray), (⟨#[103, 101, 116, 102, 105, 101, 108, 100]⟩ : ByteArray), (⟨#[112, 117, 116, 102, 105, 101, 108, 100]⟩ : ByteArray), (⟨#[103, 101, 116, 115, 116, 97, 116, 105, 99]⟩ : ByteArray), (⟨#[112, 117, 116, 115, 116, 97, 116, 105, 99]⟩ : ByteArray), (⟨#[99, 97, 108, 108]⟩ : ByteArray), (⟨#[99, 97, 108, 108, 115, 116, 97, 116, 105, 99]⟩ : ByteArray), (⟨#[99, 97, 108, 108, 115, 112, 101, 99, 105, 97, 108]⟩ : ByteArray), (⟨#[99, 97, 115, 116]⟩ : ByteArray), (⟨#[105, 115, 111, 102]⟩ : ByteArray), (⟨#[110, 101, 119, 108, 105, 115, 116]⟩ : ByteArray), (⟨#[103, 101, 116]⟩ : ByteArray), (⟨#[112, 117, 116]⟩ : ByteArray), (⟨#[115, 105, 122, 101]⟩ : ByteArray)] : List ByteArray)) := ⟨_, rfl⟩; replace H : (some y395) = some r := by first | (rw [hy395]; with_reducible exact H) | (have H2_ := (Option.bind_some _ _).symm.trans H; rw [hy395]; with_reducible exact H2_) | (have H2_ := (Option.bind_some _ _).symm.trans H; with_reducible exact H2_) | with_reducible exact H | (rw [hy395]; exact H) | exact H
 have Ny395 := Zm hy395; clear hy395; obtain rfl := Option.some.inj H; go_enter Tryz.func60, Tryz.ntmps60; go_wp2_with (first | ((with_reducible refine gate_dst (N := 1) rfl ?_); refine Kd.R_lit Kd.string _ 9 ?hg (N := 1) ?hd (xs := ([(⟨#[99, 111, 110, 115, 116]⟩ : ByteArray), (⟨#[110, 117, 108, 108]⟩ : ByteArray), (⟨#[108, 111, 97, 100]⟩ : ByteArray), (⟨#[115, 116, 111, 114, 101]⟩ : ByteArray), (⟨#[112, 111, 112]⟩ : ByteArray), (⟨#[100, 117, 112]⟩ : ByteArray), (⟨#[115, 119, 97, 112]⟩ : ByteArray), (⟨#[97, 100, 100]⟩ : ByteArray), (⟨#[115, 117, 98]⟩ : ByteArray), (⟨#[109, 117, 108]⟩ : ByteArray), (⟨#[100, 105, 118]⟩ : ByteArray), (⟨#[114, 101, 109]⟩ : ByteArray), (⟨#[97, 110, 100]⟩ : ByteArray), (⟨#[111, 114]⟩ : ByteArray), (⟨#[120, 111, 114]⟩ : ByteArray), (⟨#[115, 104, 108]⟩ : ByteArray), (⟨#[115, 104, 114]⟩ : ByteArray), (⟨#[117, 115, 104, 114]⟩ : ByteArray), (⟨#[103, 111, 116, 111]⟩ : ByteArray), (⟨#[105, 102, 101, 113]⟩ : ByteArray), (⟨#[105, 102, 108, 116]⟩ : ByteArray), (⟨#[105, 102, 115, 97, 109, 101]⟩ : ByteArray), (⟨#[105, 102, 108, 101, 115, 115]⟩ : ByteArray), (⟨#[105, 102, 110, 117, 108, 108]⟩ : ByteArray), (⟨#[105, 102, 105, 115]⟩ : ByteArray), (⟨#[114, 101, 116, 117, 114, 110]⟩ : ByteArray), (⟨#[105, 114, 101, 116, 117, 114, 110]⟩ : ByteArray), (⟨#[97, 114, 101, 116, 117, 114, 110]⟩ : ByteArray), (⟨#[116, 104, 114, 111, 119]⟩ : ByteArray), (⟨#[100, 117, 112, 50]⟩ : ByteArray), (⟨#[110, 101, 119]⟩ : ByteArray), (⟨#[103, 101, 116, 102, 105, 101, 108, 100]⟩ : ByteArray), (⟨#[112, 117, 116, 102, 105, 101, 108, 100]⟩ : ByteArray), (⟨#[103, 101, 116, 115, 116, 97, 116, 105, 99]⟩ : ByteArray), (⟨#[112, 117, 116, 115, 116, 97, 116, 105, 99]⟩ : ByteArray), (⟨#[99, 97, 108, 108]⟩ : ByteArray), (⟨#[99, 97, 108, 108, 115, 116, 97, 116, 105, 99]⟩ : ByteArray), (⟨#[99, 97, 108, 108, 115, 112, 101, 99, 105, 97, 108]⟩ : ByteArray), (⟨#[99, 97, 115, 116]⟩ : ByteArray), (⟨#[105, 115, 111, 102]⟩ : ByteArray), (⟨#[110, 101, 119, 108, 105, 115, 116]⟩ : ByteArray), (⟨#[103, 101, 116]⟩ : ByteArray), (⟨#[112, 117, 116]⟩ : ByteArray), (⟨#[115, 105, 122, 101]⟩ : ByteArray)] : List ByteArray)) (inner := [.string (⟨#[99, 111, 110, 115, 116]⟩ : ByteArray), .string (⟨#[110, 117, 108, 108]⟩ : ByteArray), .string (⟨#[108, 111, 97, 100]⟩ : ByteArray), .string (⟨#[115, 116, 111, 114, 101]⟩ : ByteArray), .string (⟨#[112, 111, 112]⟩ : ByteArray), .string (⟨#[100, 117, 112]⟩ : ByteArray), .string (⟨#[115, 119, 97, 112]⟩ : ByteArray), .string (⟨#[97, 100, 100]⟩ : ByteArray), .string (⟨#[115, 117, 98]⟩ : ByteArray), .string (⟨#[109, 117, 108]⟩ : ByteArray), .string (⟨#[100, 105, 118]⟩ : ByteArray), .string (⟨#[114, 101, 109]⟩ : ByteArray), .string (⟨#[97, 110, 100]⟩ : ByteArray), .string (⟨#[111, 114]⟩ : ByteArray), .string (⟨#[120, 111, 114]⟩ : ByteArray), .string (⟨#[115, 104, 108]⟩ : ByteArray), .string (⟨#[115, 104, 114]⟩ : ByteArray), .string (⟨#[117, 115, 104, 114]⟩ : ByteArray), .string (⟨#[103, 111, 116, 111]⟩ : ByteArray), .string (⟨#[105, 102, 101, 113]⟩ : ByteArray), .string (⟨#[105, 102, 108, 116]⟩ : ByteArray), .string (⟨#[105, 102, 115, 97, 109, 101]⟩ : ByteArray), .string (⟨#[105, 102, 108, 101, 115, 115]⟩ : ByteArray), .string (⟨#[105, 102, 110, 117, 108, 108]⟩ : ByteArray), .string (⟨#[105, 102, 105, 115]⟩ : ByteArray), .string (⟨#[114, 101, 116, 117, 114, 110]⟩ : ByteArray), .string (⟨#[105, 114, 101, 116, 117, 114, 110]⟩ : ByteArray), .string (⟨#[97, 114, 101, 116, 117, 114, 110]⟩ : ByteArray), .string (⟨#[116, 104, 114, 111, 119]⟩ : ByteArray), .string (⟨#[100, 117, 112, 50]⟩ : ByteArray), .string (⟨#[110, 101, 119]⟩ : ByteArray), .string (⟨#[103, 101, 116, 102, 105, 101, 108, 100]⟩ : ByteArray), .string (⟨#[112, 117, 116, 102, 105, 101, 108, 100]⟩ : ByteArray), .string (⟨#[103, 101, 116, 115, 116, 97, 116, 105, 99]⟩ : ByteArray), .string (⟨#[112, 117, 116, 115, 116, 97, 116, 105, 99]⟩ : ByteArray), .string (⟨#[99, 97, 108, 108]⟩ : ByteArray), .string (⟨#[99, 97, 108, 108, 115, 116, 97, 116, 105, 99]⟩ : ByteArray), .string (⟨#[99, 97, 108, 108, 115, 112, 101, 99, 105, 97, 108]⟩ : ByteArray), .string (⟨#[99, 97, 115, 116]⟩ : ByteArray), .string (⟨#[105, 115, 111, 102]⟩ : ByteArray), .string (⟨#[110, 101, 119, 108, 105, 115, 116]⟩ : ByteArray), .string (⟨#[103, 101, 116]⟩ : ByteArray), .string (⟨#[112, 117, 116]⟩ : ByteArray), .string (⟨#[115, 105, 122, 101]⟩ : ByteArray)]) (ok := fun _ => True) (okp := fun _ => True) ?hr ?hp (fun _ hk => hk) trivial (Below.refl _ _) (Nat.le_refl _) (by simp) ?_; (case hd => rfl); (case hg => rfl); (case hr => first | (go_simp; done) | (go_simp; rfl)); (case hp => exact (Reps.one (show Kd.M Kd.string _ _ _ (⟨#[99, 111, 110, 115, 116]⟩ : ByteArray) [.string (⟨#[99, 111, 110, 115, 116]⟩ : ByteArray)] from rfl) (Reps.one (show Kd.M Kd.string _ _ _ (⟨#[110, 117, 108, 108]⟩ : ByteArray) [.string (⟨#[110, 117, 108, 108]⟩ : ByteArray)] from rfl) (Reps.one (show Kd.M Kd.string _ _ _ (⟨#[108, 111, 97, 100]⟩ : ByteArray) [.string (⟨#[108, 111, 97, 100]⟩ : ByteArray)] from rfl) (Reps.one (show Kd.M Kd.string _ _ _ (⟨#[115, 116, 111, 114, 101]⟩ : ByteArray) [.string (⟨#[115, 116, 111, 114, 101]⟩ : ByteArray)] from rfl) (Reps.one (show Kd.M Kd.string _ _ _ (⟨#[112, 111, 112]⟩ : ByteArray) [.string (⟨#[112, 111, 112]⟩ : ByteArray)] from rfl) (Reps.one (show Kd.M Kd.string _ _ _ (⟨#[100, 117, 112]⟩ : ByteArray) [.string (⟨#[100, 117, 112]⟩ : ByteArray)] from rfl) (Reps.one (show Kd.M Kd.string _ _ _ (⟨#[115, 119, 97, 112]⟩ : ByteArray) [.string (⟨#[115, 119, 97, 112]⟩ : ByteArray)] from rfl) (Reps.one (show Kd.M Kd.string _ _ _ (⟨#[97, 100, 100]⟩ : ByteArray) [.string (⟨#[97, 100, 100]⟩ : ByteArray)] from rfl) (Reps.one (show Kd.M Kd.string _ _ _ (⟨#[115, 117, 98]⟩ : ByteArray) [.string (⟨#[115, 117, 98]⟩ : ByteArray)] from rfl) (Reps.one (show Kd.M Kd.string _ _ _ (⟨#[109, 117, 108]⟩ : ByteArray) [.string (⟨#[109, 117, 108]⟩ : ByteArray)] from rfl) (Reps.one (show Kd.M Kd.string _ _ _ (⟨#[100, 105, 118]⟩ : ByteArray) [.string (⟨#[100, 105, 118]⟩ : ByteArray)] from rfl) (Reps.one (show Kd.M Kd.string _ _ _ (⟨#[114, 101, 109]⟩ : ByteArray) [.string (⟨#[114, 101, 109]⟩ : ByteArray)] from rfl) (Reps.one (show Kd.M Kd.string _ _ _ (⟨#[97, 110, 100]⟩ : ByteArray) [.string (⟨#[97, 110, 100]⟩ : ByteArray)] from rfl) (Reps.one (show Kd.M Kd.string _ _ _ (⟨#[111, 114]⟩ : ByteArray) [.string (⟨#[111, 114]⟩ : ByteArray)] from rfl) (Reps.one (show Kd.M Kd.string _ _ _ (⟨#[120, 111, 114]⟩ : ByteArray) [.string (⟨#[120, 111, 114]⟩ : ByteArray)] from rfl) (Reps.one (show Kd.M Kd.string _ _ _ (⟨#[115, 104, 108]⟩ : ByteArray) [.string (⟨#[115, 104, 108]⟩ : ByteArray)] from rfl) (Reps.one (show Kd.M Kd.string _ _ _ (⟨#[115, 104, 114]⟩ : ByteArray) [.string (⟨#[115, 104, 114]⟩ : ByteArray)] from rfl) (Reps.one (show Kd.M Kd.string _ _ _ (⟨#[117, 115, 104, 114]⟩ : ByteArray) [.string (⟨#[117, 115, 104, 114]⟩ : ByteArray)] from rfl) (Reps.one (show Kd.M Kd.string _ _ _ (⟨#[103, 111, 116, 111]⟩ : ByteArray) [.string (⟨#[103, 111, 116, 111]⟩ : ByteArray)] from rfl) (Reps.one (show Kd.M Kd.string _ _ _ (⟨#[105, 102, 101, 113]⟩ : ByteArray) [.string (⟨#[105, 102, 101, 113]⟩ : ByteArray)] from rfl) (Reps.one (show Kd.M Kd.string _ _ _ (⟨#[105, 102, 108, 116]⟩ : ByteArray) [.string (⟨#[105, 102, 108, 116]⟩ : ByteArray)] from rfl) (Reps.one (show Kd.M Kd.string _ _ _ (⟨#[105, 102, 115, 97, 109, 101]⟩ : ByteArray) [.string (⟨#[105, 102, 115, 97, 109, 101]⟩ : ByteArray)] from rfl) (Reps.one (show Kd.M Kd.string _ _ _ (⟨#[105, 102, 108, 101, 115, 115]⟩ : ByteArray) [.string (⟨#[105, 102, 108, 101, 115, 115]⟩ : ByteArray)] from rfl) (Reps.one (show Kd.M Kd.string _ _ _ (⟨#[105, 102, 110, 117, 108, 108]⟩ : ByteArray) [.string (⟨#[105, 102, 110, 117, 108, 108]⟩ : ByteArray)] from rfl) (Reps.one (show Kd.M Kd.string _ _ _ (⟨#[105, 102, 105, 115]⟩ : ByteArray) [.string (⟨#[105, 102, 105, 115]⟩ : ByteArray)] from rfl) (Reps.one (show Kd.M Kd.string _ _ _ (⟨#[114, 101, 116, 117, 114, 110]⟩ : ByteArray) [.string (⟨#[114, 101, 116, 117, 114, 110]⟩ : ByteArray)] from rfl) (Reps.one (show Kd.M Kd.string _ _ _ (⟨#[105, 114, 101, 116, 117, 114, 110]⟩ : ByteArray) [.string (⟨#[105, 114, 101, 116, 117, 114, 110]⟩ : ByteArray)] from rfl) (Reps.one (show Kd.M Kd.string _ _ _ (⟨#[97, 114, 101, 116, 117, 114, 110]⟩ : ByteArray) [.string (⟨#[97, 114, 101, 116, 117, 114, 110]⟩ : ByteArray)] from rfl) (Reps.one (show Kd.M Kd.string _ _ _ (⟨#[116, 104, 114, 111, 119]⟩ : ByteArray) [.string (⟨#[116, 104, 114, 111, 119]⟩ : ByteArray)] from rfl) (Reps.one (show Kd.M Kd.string _ _ _ (⟨#[100, 117, 112, 50]⟩ : ByteArray) [.string (⟨#[100, 117, 112, 50]⟩ : ByteArray)] from rfl) (Reps.one (show Kd.M Kd.string _ _ _ (⟨#[110, 101, 119]⟩ : ByteArray) [.string (⟨#[110, 101, 119]⟩ : ByteArray)] from rfl) (Reps.one (show Kd.M Kd.string _ _ _ (⟨#[103, 101, 116, 102, 105, 101, 108, 100]⟩ : ByteArray) [.string (⟨#[103, 101, 116, 102, 105, 101, 108, 100]⟩ : ByteArray)] from rfl) (Reps.one (show Kd.M Kd.string _ _ _ (⟨#[112, 117, 116, 102, 105, 101, 108, 100]⟩ : ByteArray) [.string (⟨#[112, 117, 116, 102, 105, 101, 108, 100]⟩ : ByteArray)] from rfl) (Reps.one (show Kd.M Kd.string _ _ _ (⟨#[103, 101, 116, 115, 116, 97, 116, 105, 99]⟩ : ByteArray) [.string (⟨#[103, 101, 116, 115, 116, 97, 116, 105, 99]⟩ : ByteArray)] from rfl) (Reps.one (show Kd.M Kd.string _ _ _ (⟨#[112, 117, 116, 115, 116, 97, 116, 105, 99]⟩ : ByteArray) [.string (⟨#[112, 117, 116, 115, 116, 97, 116, 105, 99]⟩ : ByteArray)] from rfl) (Reps.one (show Kd.M Kd.string _ _ _ (⟨#[99, 97, 108, 108]⟩ : ByteArray) [.string (⟨#[99, 97, 108, 108]⟩ : ByteArray)] from rfl) (Reps.one (show Kd.M Kd.string _ _ _ (⟨#[99, 97, 108, 108, 115, 116, 97, 116, 105, 99]⟩ : ByteArray) [.string (⟨#[99, 97, 108, 108, 115, 116, 97, 116, 105, 99]⟩ : ByteArray)] from rfl) (Reps.one (show Kd.M Kd.string _ _ _ (⟨#[99, 97, 108, 108, 115, 112, 101, 99, 105, 97, 108]⟩ : ByteArray) [.string (⟨#[99, 97, 108, 108, 115, 112, 101, 99, 105, 97, 108]⟩ : ByteArray)] from rfl) (Reps.one (show Kd.M Kd.string _ _ _ (⟨#[99, 97, 115, 116]⟩ : ByteArray) [.string (⟨#[99, 97, 115, 116]⟩ : ByteArray)] from rfl) (Reps.one (show Kd.M Kd.string _ _ _ (⟨#[105, 115, 111, 102]⟩ : ByteArray) [.string (⟨#[105, 115, 111, 102]⟩ : ByteArray)] from rfl) (Reps.one (show Kd.M Kd.string _ _ _ (⟨#[110, 101, 119, 108, 105, 115, 116]⟩ : ByteArray) [.string (⟨#[110, 101, 119, 108, 105, 115, 116]⟩ : ByteArray)] from rfl) (Reps.one (show Kd.M Kd.string _ _ _ (⟨#[103, 101, 116]⟩ : ByteArray) [.string (⟨#[103, 101, 116]⟩ : ByteArray)] from rfl) (Reps.one (show Kd.M Kd.string _ _ _ (⟨#[112, 117, 116]⟩ : ByteArray) [.string (⟨#[112, 117, 116]⟩ : ByteArray)] from rfl) (Reps.one (show Kd.M Kd.string _ _ _ (⟨#[115, 105, 122, 101]⟩ : ByteArray) [.string (⟨#[115, 105, 122, 101]⟩ : ByteArray)] from rfl) (Reps.none _ _)))))))))))))))))))))))))))))))))))))))))))))); intro v396 w1 ho2 hb hg_ hnew_; clear hg_ hnew_; (first | rw [← Ny395.out] at ho2 | (simp only [Int.reduceToNat] at ho2; rw [← Ny395.out] at ho2)); have n0_ := (⟨Zm (Kd.R_lower ho2 (Zbz (bk HB.out))), Zm (Zbt (bk HB.out) hb)⟩ : _ ∧ _); clear HB; obtain ⟨HO397, HB⟩ := n0_; clear hb ho2)); go_ret; exact ⟨_, by first | rfl | (simp [*] <;> rfl), by (with_reducible repeat (first | apply Kd.R_alloc | apply Kd.R_drewN | apply Kd.R_drew)); exact HO397.out, bk HB.out⟩

/-! ### impl_OpName: function 23 -/
def impl_OpName.f (a0 : Int) : Option (ByteArray) := (impl_isOp.f a0).bind fun t398 => (if t398 = true then ((impl_opNames.f).bind fun t399 => (if 0 ≤ (wrap64 (a0 - 1)) then (if (wrap64 (a0 - 1)) < (t399.length : Int) then (some (rdOf ByteArray.empty t399 (wrap64 (a0 - 1)))) else (none)) else (none))) else (some (⟨#[]⟩ : ByteArray)))
set_option maxHeartbeats 8000000 in
set_option maxRecDepth 100000 in
theorem impl_OpName.calls (a0 : Int) (r : ByteArray) (w : World) (h : impl_OpName.f a0 = some r) :
 Calls Tryz.prog 23 #[.int .i64 a0] w fun e w' => e = .returned (.string r) ∧ Below w.heap.size w w' := by
 have HB := Zm (Below.refl w.heap.size w); have H : ((impl_isOp.f a0).bind fun t398 => (if t398 = true then ((impl_opNames.f).bind fun t399 => (if 0 ≤ (wrap64 (a0 - 1)) then (if (wrap64 (a0 - 1)) < (t399.length : Int) then (some (rdOf ByteArray.empty t399 (wrap64 (a0 - 1)))) else (none)) else (none))) else (some (⟨#[]⟩ : ByteArray)))) = some r := h; clear h; replace H := Option.bind_eq_some_iff.mp H; obtain ⟨t398, A20, H⟩ := H; (try dsimp only at H); have A2 := Zm A20; clear A20; have HC3 := Zm H; clear H; go_enter Tryz.func23, Tryz.ntmps23; go_upto_if 5 with (first | ((with_reducible refine gate_callee (f := 59) rfl ?_); refine ge_ (some 4) Tryz.func59 #[.int .i64 a0] ?_; (with_reducible refine (impl_isOp.calls _ _ _ A2.out).mono ?_); rintro e w' ⟨rfl, ⟨nd, rfl⟩⟩; refine ⟨_, rfl, ?_⟩)); have H := HC3.out; clear HC3; by_cases c4 : t398 = true; rotate_left
 · replace c4 := Bool.eq_false_iff.mpr c4; subst c4; rw [if_neg (show ¬ (false = true) by decide)] at H; obtain rfl := Option.some.inj H; go_wp2; go_ret; exact fin_ HB

 subst c4
 rw [if_pos rfl] at H
 replace H := Option.bind_eq_some_iff.mp H
 obtain ⟨t399, A50, H⟩ := H
 (try dsimp only at H)
 have A5 := Zm A50
 clear A50
 obtain ⟨ji6, hji6⟩ : ∃ j_ : Int, (wrap64 (a0 - 1)) = j_ := ⟨_, rfl⟩
 replace H : (if 0 ≤ (ji6) then (if (ji6) < (t399.length : Int) then (some (rdOf ByteArray.empty t399 (ji6))) else (none)) else (none)) = some r := by first | (rw [hji6] at H; exact H) | (simp only [hji6] at H ⊢; exact H)
 (try rw [hji6] at A5)
 have hji6w : (IntKind.i64.wrap (a0 - 1)) = ji6 := (i64_w _).trans hji6
 by_cases c7 : 0 ≤ (ji6)
 rotate_left
 · rw [if_neg c7] at H
   exact absurd H (by simp)
 rw [if_pos c7] at H
 have c7b0 := decide_eq_true c7
 clear c7
 (first | rw [c7b0] | (simp only [i64_w, i32_w]; rw [c7b0]) | skip)
 by_cases c8 : (ji6) < (t399.length : Int)
 rotate_left
 · rw [if_neg c8] at H
   exact absurd H (by simp)
 rw [if_pos c8] at H
 have c8b0 := decide_eq_true c8
 clear c8
 obtain rfl := Option.some.inj H
 go_wp2_with (first | ((with_reducible refine gate_callee (f := 60) rfl ?_); refine ge_ (some 6) Tryz.func60 #[] ?_; (with_reducible refine (impl_opNames.calls _ _ A5.out).mono ?_); rintro e w9 ⟨v400, rfl, ho0, hb⟩; refine ⟨_, rfl, ?_⟩; have n0_ := (⟨Zm (Kd.R_lower ho0 (Zbz (bk HB.out))), Zm (Zbt (bk HB.out) hb)⟩ : _ ∧ _); clear HB; obtain ⟨HO401, HB⟩ := n0_; (try clear hb); (try clear hb2); (try clear hk); (try clear hi); (try clear ho0); obtain ⟨Ao10, co10, eo10⟩ := Kd.R_slice HO401.out; subst eo10; have p402 : 0 ≤ ((ji6) : Int) := of_decide_eq_true (by first | (with_reducible assumption) | assumption); have q402 : (ji6) < (t399.length : Int) := of_decide_eq_true (by first | (with_reducible assumption) | assumption); obtain ⟨ad402, e402, hx402_0⟩ := Kd.at_string (Kd.R_reads' HO401.out).2.2 (ji6) p402 q402; cases e402; replace p402 := eq_true p402; replace q402 := eq_true q402))
 go_ret
 exact ⟨by first | rfl | (simp [errW_none, errW_some] <;> rfl) | (simp only [← hji6]; first | rfl | (simp [errW_none, errW_some] <;> rfl)) | (simp [*, errW_none, errW_some] <;> rfl), bk HB.out⟩
/-! ### strconv_FormatInt_129: function 129 -/
theorem below_grow_ (w : World) (k : Nat) (os : Array Obj) : Below w.heap.size w (Go.Sort.grow (w.drewN k) os) := ⟨rfl, rfl, rfl, by simp [Go.Sort.grow], fun g hg => by simp only [Go.Sort.grow]; exact Array.getElem?_append_left hg⟩
def strconv_FormatInt_129.f (a0 : Int) (a1 : Int) : Option (ByteArray) := if a1 = 10 ∧ -9223372036854775808 ≤ a0 ∧ a0 ≤ 9223372036854775807 then some ⟨(Lib.itoa a0).toArray⟩ else none
set_option maxHeartbeats 8000000 in
set_option maxRecDepth 100000 in
theorem strconv_FormatInt_129.calls (a0 : Int) (a1 : Int) (r : ByteArray) (w : World) (h : strconv_FormatInt_129.f a0 a1 = some r) (htab : Tabs w := by exact tab_) :
    Calls Tryz.prog 129 #[.int .i64 a0, .int .i64 a1] w fun e w' => e = .returned (.string r) ∧ Below w.heap.size w w' := by
  have HTAB := Zm htab
  clear htab
  unfold strconv_FormatInt_129.f at h; split at h
  · rename_i hc; obtain ⟨rfl, h0, h1⟩ := hc; obtain rfl := Option.some.inj h; exact (Tryz.internal_strconv_FormatInt_10 a0 h0 h1 w HTAB.out.tab).mono fun e w' ⟨he, k, os, hw⟩ => ⟨he, hw ▸ below_grow_ _ _ _⟩
  · cases h

/-! ### strconv_FormatInt_108: function 108 -/
def strconv_FormatInt_108.f (a0 : Int) (a1 : Int) : Option (ByteArray) := (strconv_FormatInt_129.f a0 a1).bind fun t403 => (some t403)
set_option maxHeartbeats 8000000 in
set_option maxRecDepth 100000 in
theorem strconv_FormatInt_108.calls (a0 : Int) (a1 : Int) (r : ByteArray) (w : World) (h : strconv_FormatInt_108.f a0 a1 = some r) (htab : Tabs w := by exact tab_) :
 Calls Tryz.prog 108 #[.int .i64 a0, .int .i64 a1] w fun e w' => e = .returned (.string r) ∧ Below w.heap.size w w' := by
 have HTAB := Zm htab
 clear htab
 have HB := Zm (Below.refl w.heap.size w); have H : ((strconv_FormatInt_129.f a0 a1).bind fun t403 => (some t403)) = some r := h; clear h; replace H := Option.bind_eq_some_iff.mp H; obtain ⟨t403, A30, H⟩ := H; (try dsimp only at H); have A3 := Zm A30; clear A30; obtain rfl := Option.some.inj H; go_enter Tryz.func108, Tryz.ntmps108; go_wp2_with (first | ((with_reducible refine gate_callee (f := 129) rfl ?_); refine ge_ (some 7) Tryz.func129 #[.int .i64 a0, .int .i64 a1] ?_; (with_reducible refine (strconv_FormatInt_129.calls _ _ _ _ A3.out).mono ?_); rintro e w4 ⟨rfl, hb⟩; refine ⟨_, rfl, ?_⟩; have n0_ := Zm (Zbt (bk HB.out) hb); clear HB; have HB := n0_; clear n0_; (try clear hb); (try clear hb2); (try clear hk); (try clear hi))); go_ret; exact fin_ HB

/-! ### impl_text: function 72 -/
def impl_text.f (a0 : Int) : Option (ByteArray) := (strconv_FormatInt_108.f a0 10).bind fun t404 => (some t404)
set_option maxHeartbeats 8000000 in
set_option maxRecDepth 100000 in
theorem impl_text.calls (a0 : Int) (r : ByteArray) (w : World) (h : impl_text.f a0 = some r) (htab : Tabs w := by exact tab_) :
 Calls Tryz.prog 72 #[.int .i64 a0] w fun e w' => e = .returned (.string r) ∧ Below w.heap.size w w' := by
 have HTAB := Zm htab
 clear htab
 have HB := Zm (Below.refl w.heap.size w); have H : ((strconv_FormatInt_108.f a0 10).bind fun t404 => (some t404)) = some r := h; clear h; replace H := Option.bind_eq_some_iff.mp H; obtain ⟨t404, A20, H⟩ := H; (try dsimp only at H); have A2 := Zm A20; clear A20; obtain rfl := Option.some.inj H; go_enter Tryz.func72, Tryz.ntmps72; go_wp2_with (first | ((with_reducible refine gate_callee (f := 108) rfl ?_); refine ge_ (some 4) Tryz.func108 #[.int .i64 a0, .int .i64 10] ?_; (with_reducible refine (strconv_FormatInt_108.calls _ _ _ _ A2.out).mono ?_); rintro e w3 ⟨rfl, hb⟩; refine ⟨_, rfl, ?_⟩; have n0_ := Zm (Zbt (bk HB.out) hb); clear HB; have HB := n0_; clear n0_; (try clear hb); (try clear hb2); (try clear hk); (try clear hi))); go_ret; exact fin_ HB

/-! ### strings_Join: function 81 -/
def strings_Join.f (l0 : List ByteArray) (a1 : ByteArray) : Option (ByteArray) := if l0.length ≤ 140737488355328 ∧ (Lib.join (l0.map (·.data.toList)) a1.data.toList).length ≤ 140737488355328 then some ⟨(Lib.join (l0.map (·.data.toList)) a1.data.toList).toArray⟩ else none
set_option maxHeartbeats 8000000 in
set_option maxRecDepth 100000 in
theorem strings_Join.calls (A0 : Option Addr) (c0 : Nat) (l0 : List ByteArray) (a1 : ByteArray) (r : ByteArray) (w : World) (hr0 : Kd.C Kd.string w A0 l0.length l0) (hc0 : l0.length ≤ c0) (h : strings_Join.f l0 a1 = some r) :
    Calls Tryz.prog 81 #[.slice A0 l0.length c0, .string a1] w fun e w' => e = .returned (.string r) ∧ Below w.heap.size w w' := by
  unfold strings_Join.f at h; split at h
  · rename_i hc; obtain rfl := Option.some.inj h
    cases l0 with
    | nil => exact (Tryz.strings_Join_none A0 c0 a1 w).mono fun e w' ⟨he, hw⟩ => ⟨he, hw ▸ Below.refl _ _⟩
    | cons x l =>
      obtain ⟨hl, hm, hp⟩ := hr0; obtain ⟨⟨b, o, s⟩, rfl, hcell⟩ := hp (by simp)
      have hq : ∀ (j : Nat) y, (x :: l)[j]? = some y → w.cell? (Addr.add ⟨b, o, s⟩ j) = some (.string y) := fun j y hy => by
        obtain ⟨c, _, hK, hu⟩ := hcell j y hy; have e : c = [.string y] := hK; subst e; have := hu 0 _ rfl; rwa [show Kd.string.sz = 1 from rfl, Nat.mul_one, Nat.add_zero] at this
      obtain rfl : s = none := by
        have h0 := hq 0 x rfl
        cases s with
        | none => rfl
        | some q =>
          have h1 : w.cell? ⟨b, o, some q⟩ = some (.string x) := h0; unfold World.cell? at h1; split at h1
          · simp at h1
          · cases h1
      have hq2 : ∀ (j : Nat) y, (x :: l)[j]? = some y → w.cell? ⟨b, o + j, none⟩ = some (.string y) := fun j y hy => by
        have h0 := hq j y hy; unfold Addr.add at h0; split at h0
        · rename_i hj; subst hj; exact h0
        · exact h0
      exact Tryz.strings_Join b o c0 (x :: l) a1 w hq2 (Zlt _ _ (hq2 0 x rfl)) hc.1 hc0 hc.2
  · cases h

end Go.Proofs.YtcpnlfkmfpmkdaaGreatDoor.PFnInsText
