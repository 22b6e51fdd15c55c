/- Functions of the program as plain Lean functions, each with a proof that the program's call comes to the same; no condition. Written by a program of this session. -/
import Derived.Test.YtdfnljchoomliaaDoorPFnExactInsParsex0
import Derived.Test.YtdfnljchoomliaaDoorPFnExactInsParsex7
import Derived.Test.YtdfnljchoomliaaDoorPFnExactInsParsex8
import Derived.Test.YtdfnljchoomliaaDoorPFnExactInsParsex9
namespace Go.Proofs.YtdfnljchoomliaaDoor.PFnExactInsParse
open Go.RowKit Go.Proofs.YtdfnljchoomliaaDoorW.PrintWords Go.Proofs.YtdfnljchoomliaaDoorW.PrintLast Go.Proofs.YtdfnljchoomliaaDoorW.PrintMore
open Go.Proofs.YtdfnljchoomliaaDoorW.PrintWords renaming below_alloc → Zba, below_size → Zbz, below_step → Zbt, blk_below → Zkb
open Go.Proofs.YtdfnljchoomliaaDoorW.PrintWords.Aside0 renaming mk → Zm
attribute [local go_sem] max2_int min2_int max_two min_two max_three min_three max_four min_four   -- for this text's walks alone
set_option linter.unusedVariables false
set_option linter.unusedSimpArgs false

/-! ### impl_isDesc: function 54 -/
def impl_isDesc.f (k : Nat) (a0 : ByteArray) : Option (Bool) := (impl_isText.f k (([a0] : List ByteArray))).bind fun t360 => (if t360 = true then ((impl_descRead.f k a0).bind fun bt361 => (some (bt361.2.2.2 == 0))) else (some false))
theorem impl_isDesc.mono : ∀ a0 k, LeO (impl_isDesc.f k a0) (impl_isDesc.f (k + 1) a0) := by
 intro a0 k; unfold impl_isDesc.f
 repeat' first
  | (with_reducible exact impl_descRead.mono _ _)
  | (with_reducible exact impl_isText.mono _ _)
  | (with_reducible exact LeO.refl _)
  | (with_reducible exact LeO.none _)
  | (with_reducible refine LeO.ite ?_ ?_)
  | (with_reducible refine LeO.bind ?_ (fun _ => ?_))
  | exact impl_descRead.mono _ _
  | exact impl_isText.mono _ _
  | exact LeO.none _
  | refine LeO.ite ?_ ?_
  | refine LeO.bind ?_ (fun _ => ?_)
set_option maxHeartbeats 8000000 in
set_option maxRecDepth 100000 in
theorem impl_isDesc.calls (k : Nat) (a0 : ByteArray) (r : Bool) (w : World) (h : impl_isDesc.f k a0 = some r) :
 Calls Tryd.prog 54 #[.string a0] w fun e w' => e = .returned (.bool r) ∧ Below w.heap.size w w' := by
 have hf71_2 : ∀ (a0_ a1_ a2_ a3_ : Value) (W_ : World), (Instr.field 71 (.agg #[a0_, a1_, a2_, a3_]) 2).run Tryd.prog W_ = .ok (a3_) W_ := fun _ _ _ _ _ => by rfl
 have HB := Zm (Below.refl w.heap.size w); have H : ((impl_isText.f k (([a0] : List ByteArray))).bind fun t360 => (if t360 = true then ((impl_descRead.f k a0).bind fun bt361 => (some (bt361.2.2.2 == 0))) else (some false))) = some r := h; clear h; obtain ⟨y357, hy357⟩ : ∃ y_ : List ByteArray, y_ = (([a0] : List ByteArray)) := ⟨_, rfl⟩; replace H : ((impl_isText.f k y357).bind fun t360 => (if t360 = true then ((impl_descRead.f k a0).bind fun bt361 => (some (bt361.2.2.2 == 0))) else (some false))) = some r := by first | (rw [hy357]; with_reducible exact H) | (have H2_ := (Option.bind_some _ _).symm.trans H; rw [hy357]; with_reducible exact H2_) | (have H2_ := (Option.bind_some _ _).symm.trans H; with_reducible exact H2_) | with_reducible exact H | (rw [hy357]; exact H) | exact H
 have Ny357 := Zm hy357; clear hy357; replace H := Option.bind_eq_some_iff.mp H; obtain ⟨t360, A20, H⟩ := H; (try dsimp only at H); have A2 := Zm A20; clear A20; by_cases c3 : t360 = true; rotate_left
 · replace c3 := Bool.eq_false_iff.mpr c3; subst c3; rw [if_neg (show ¬ (false = true) by decide)] at H; obtain rfl := Option.some.inj H; go_enter Tryd.func54, Tryd.ntmps54; go_wp2_with (first | ((with_reducible refine gate_dst (N := 4) rfl ?_); refine Kd.R_lit Kd.string _ 9 ?hg (N := 4) ?hd (xs := ([a0] : List ByteArray)) (inner := [.string a0]) (ok := fun _ => True) (okp := fun _ => True) ?hr ?hp (fun _ hk => hk) trivial (Below.refl _ _) (Nat.le_refl _) (by simp) ?_; (case hd => rfl); (case hg => rfl); (case hr => first | (go_simp; done) | (go_simp; rfl)); (case hp => exact (Reps.one (show Kd.M Kd.string _ _ _ a0 [.string a0] from rfl) (Reps.none _ _))); intro v358 w9 ho10 hb hg_ hnew_; clear hg_ hnew_; (first | rw [← Ny357.out] at ho10 | (simp only [Int.reduceToNat] at ho10; rw [← Ny357.out] at ho10)); have n0_ := (⟨Zm (Kd.R_lower ho10 (Zbz (bk HB.out))), Zm (Zbt (bk HB.out) hb)⟩ : _ ∧ _); clear HB; obtain ⟨HO359, HB⟩ := n0_; clear hb ho10; obtain ⟨Ao11, co11, eo11⟩ := Kd.R_slice HO359.out; subst eo11) | ((with_reducible refine gate_callee (f := 35) rfl ?_); refine ge_ (some 5) Tryd.func35 #[.slice Ao11 y357.length co11] ?_; (with_reducible refine (impl_isText.calls _ _ _ _ _ _ ?side1 ?side2 A2.out).mono ?_); (case side1 => exact pc (Kd.R_reads' HO359.out).2.2); (case side2 => exact (Kd.R_reads' HO359.out).2.1); rintro e w' ⟨rfl, ⟨nd, rfl⟩⟩; refine ⟨_, rfl, ?_⟩)); go_ret; exact fin_ HB

 subst c3
 rw [if_pos rfl] at H
 replace H := Option.bind_eq_some_iff.mp H
 obtain ⟨⟨t361, t364, t365, t366⟩, A40, H⟩ := H
 (try dsimp only at H)
 have A4 := Zm A40
 clear A40
 obtain rfl := Option.some.inj H
 go_enter Tryd.func54, Tryd.ntmps54
 go_wp2_with (first | ((with_reducible refine gate_dst (N := 4) rfl ?_); refine Kd.R_lit Kd.string _ 9 ?hg (N := 4) ?hd (xs := ([a0] : List ByteArray)) (inner := [.string a0]) (ok := fun _ => True) (okp := fun _ => True) ?hr ?hp (fun _ hk => hk) trivial (Below.refl _ _) (Nat.le_refl _) (by simp) ?_; (case hd => rfl); (case hg => rfl); (case hr => first | (go_simp; done) | (go_simp; rfl)); (case hp => exact (Reps.one (show Kd.M Kd.string _ _ _ a0 [.string a0] from rfl) (Reps.none _ _))); intro v358 w5 ho6 hb hg_ hnew_; clear hg_ hnew_; (first | rw [← Ny357.out] at ho6 | (simp only [Int.reduceToNat] at ho6; rw [← Ny357.out] at ho6)); have n0_ := (⟨Zm (Kd.R_lower ho6 (Zbz (bk HB.out))), Zm (Zbt (bk HB.out) hb)⟩ : _ ∧ _); clear HB; obtain ⟨HO359, HB⟩ := n0_; clear hb ho6; obtain ⟨Ao7, co7, eo7⟩ := Kd.R_slice HO359.out; subst eo7) | ((with_reducible refine gate_callee (f := 35) rfl ?_); refine ge_ (some 5) Tryd.func35 #[.slice Ao7 y357.length co7] ?_; (with_reducible refine (impl_isText.calls _ _ _ _ _ _ ?side1 ?side2 A2.out).mono ?_); (case side1 => exact pc (Kd.R_reads' HO359.out).2.2); (case side2 => exact (Kd.R_reads' HO359.out).2.1); rintro e w' ⟨rfl, ⟨nd, rfl⟩⟩; refine ⟨_, rfl, ?_⟩; (try clear HO359)) | (go_at_call 75; (first | (with_reducible refine (impl_descRead.calls _ _ _ _ _ _ _ A4.out).mono ?_) | (with_reducible refine (calls_of_args ?_ (impl_descRead.calls _ _ _ _ _ _ _ A4.out)).mono ?_; focus (simp [*]; done))); rintro e w8 ⟨v362, rfl, ho0, hb⟩; have n0_ := (⟨Zm (Kd.R_lower ho0 (Zbz (bk HB.out))), Zm (Zbt (bk HB.out) hb)⟩ : _ ∧ _); clear HB; obtain ⟨HO363, HB⟩ := n0_; (try clear hb); (try clear hb2); (try clear hk); (try clear hi); (try clear ho0)))
 go_ret
 exact fin_ HB
/-! ### impl_InsRight: function 32 -/
def impl_InsRight.j0 : Nat → Bool → Int → Int → ByteArray → ByteArray → ByteArray → Option (Bool)
 | 0, _, _, _, _, _, _ => none
 | k + 1, x3, x368000, x368001, x368002, x368003, x368004 => (impl_OpForm.f x368000).bind fun t368 => (if t368.toList = ([] : List UInt8) then (if x3 = true then (some (x368001 == 0)) else (some false)) else (if t368.toList = ([110] : List UInt8) then (if x3 = true then ((impl_isInt.f x368001).bind fun t369 => (some t369)) else (some false)) else (if t368.toList = ([105] : List UInt8) then (if x3 = true then ((impl_within.f x368001 0 15).bind fun t370 => (some t370)) else (some false)) else (if t368.toList = ([116] : List UInt8) then (if x3 = true then ((impl_within.f x368001 0 59).bind fun t371 => (some t371)) else (some false)) else (if t368.toList = ([99] : List UInt8) then (if x368001 = 0 then ((impl_NameRight.f k x368002).bind fun t372 => (if t372 = true then (if x368003.toList = ([] : List UInt8) then (some (x368004.toList == ([] : List UInt8))) else (some false)) else (some false))) else (some false)) else (if t368.toList = ([121] : List UInt8) then (if x368001 = 0 then (if x368002.toList = ([] : List UInt8) then (if x368003.toList = ([] : List UInt8) then (if x368004.toList = ([73] : List UInt8) then (some true) else ((impl_typeRight.f k x368004).bind fun t373 => (if t373 = true then (if 0 < (x368004.size : Int) then (some ((bt x368004 0) == 76)) else (none)) else (some false)))) else (some false)) else (some false)) else (some false)) else (if t368.toList = ([102] : List UInt8) then (if x368001 = 0 then ((impl_NameRight.f k x368002).bind fun t374 => (if t374 = true then ((impl_NameRight.f k x368003).bind fun t375 => (if t375 = true then ((impl_typeRight.f k x368004).bind fun t376 => (some t376)) else (some false))) else (some false))) else (some false)) else (if t368.toList = ([109] : List UInt8) then (if x368001 = 0 then ((impl_NameRight.f k x368002).bind fun t377 => (if t377 = true then ((impl_isMethodName.f k x368003).bind fun t378 => (if t378 = true then ((impl_isDesc.f k x368004).bind fun t379 => (some t379)) else (some false))) else (some false))) else (some false)) else (some false)))))))))
def impl_InsRight.f (k : Nat) (a0_0 : Int) (a0_1 : Int) (a0_2 : ByteArray) (a0_3 : ByteArray) (a0_4 : ByteArray) : Option (Bool) := if a0_2.toList = ([] : List UInt8) then (if a0_3.toList = ([] : List UInt8) then (impl_InsRight.j0 k (a0_4.toList == ([] : List UInt8)) a0_0 a0_1 a0_2 a0_3 a0_4) else (impl_InsRight.j0 k false a0_0 a0_1 a0_2 a0_3 a0_4)) else (impl_InsRight.j0 k false a0_0 a0_1 a0_2 a0_3 a0_4)
theorem impl_InsRight.mono_l : ∀ k, (∀ y0 y1 y2 y3 y4 y5, LeO (impl_InsRight.j0 k y0 y1 y2 y3 y4 y5) (impl_InsRight.j0 (k + 1) y0 y1 y2 y3 y4 y5))
 | 0 => fun _ _ _ _ _ _ r h => by simp [impl_InsRight.j0] at h
 | k + 1 => by
  have ih0 := impl_InsRight.mono_l k
  · intro y0 y1 y2 y3 y4 y5; unfold impl_InsRight.j0
    repeat' first
    | (with_reducible exact ih0 _ _ _ _ _ _)
    | (with_reducible exact impl_NameRight.mono _ _)
    | (with_reducible exact impl_isDesc.mono _ _)
    | (with_reducible exact impl_isMethodName.mono _ _)
    | (with_reducible exact impl_typeRight.mono _ _)
    | (with_reducible exact LeO.refl _)
    | (with_reducible exact LeO.none _)
    | (with_reducible refine LeO.ite ?_ ?_)
    | (with_reducible refine LeO.bind ?_ (fun _ => ?_))
    | exact ih0 _ _ _ _ _ _
    | exact impl_NameRight.mono _ _
    | exact impl_isDesc.mono _ _
    | exact impl_isMethodName.mono _ _
    | exact impl_typeRight.mono _ _
    | exact LeO.none _
    | refine LeO.ite ?_ ?_
    | refine LeO.bind ?_ (fun _ => ?_)
theorem impl_InsRight.mono : ∀ a0 a1 a2 a3 a4 k, LeO (impl_InsRight.f k a0 a1 a2 a3 a4) (impl_InsRight.f (k + 1) a0 a1 a2 a3 a4) := by
 intro a0 a1 a2 a3 a4 k; have ih0 := impl_InsRight.mono_l k; unfold impl_InsRight.f
 repeat' first
  | (with_reducible exact ih0 _ _ _ _ _ _)
  | (with_reducible exact impl_NameRight.mono _ _)
  | (with_reducible exact impl_isDesc.mono _ _)
  | (with_reducible exact impl_isMethodName.mono _ _)
  | (with_reducible exact impl_typeRight.mono _ _)
  | (with_reducible exact LeO.refl _)
  | (with_reducible exact LeO.none _)
  | (with_reducible refine LeO.ite ?_ ?_)
  | (with_reducible refine LeO.bind ?_ (fun _ => ?_))
  | exact ih0 _ _ _ _ _ _
  | exact impl_NameRight.mono _ _
  | exact impl_isDesc.mono _ _
  | exact impl_isMethodName.mono _ _
  | exact impl_typeRight.mono _ _
  | exact LeO.none _
  | refine LeO.ite ?_ ?_
  | refine LeO.bind ?_ (fun _ => ?_)
set_option maxHeartbeats 8000000 in
set_option maxRecDepth 100000 in
theorem impl_InsRight.calls (k : Nat) (a0_0 : Int) (a0_1 : Int) (a0_2 : ByteArray) (a0_3 : ByteArray) (a0_4 : ByteArray) (r : Bool) (w : World) (h : impl_InsRight.f k a0_0 a0_1 a0_2 a0_3 a0_4 = some r) :
 Calls Tryd.prog 32 #[.agg #[.int .i64 a0_0, .int .i64 a0_1, .string a0_2, .string a0_3, .string a0_4]] w fun e w' => e = .returned (.bool r) ∧ Below w.heap.size w w' := by
 have hu44 := Tryd.underlying44; have HB := Zm (Below.refl w.heap.size w); have H : (if a0_2.toList = ([] : List UInt8) then (if a0_3.toList = ([] : List UInt8) then (impl_InsRight.j0 k (a0_4.toList == ([] : List UInt8)) a0_0 a0_1 a0_2 a0_3 a0_4) else (impl_InsRight.j0 k false a0_0 a0_1 a0_2 a0_3 a0_4)) else (impl_InsRight.j0 k false a0_0 a0_1 a0_2 a0_3 a0_4)) = some r := h; clear h; have HC2 := Zm H; clear H; go_enter Tryd.func32, Tryd.ntmps32; go_upto_region 1 with (first | ((with_reducible refine gate_dst (N := 1) rfl ?_); refine box_event ?hg (N := 1) ?hd (cs := #[.int .i64 a0_0, .int .i64 a0_1, .string a0_2, .string a0_3, .string a0_4]) (t := 44) ?hr ?_; (case hd => rfl); (case hg => rfl); (case hr => first | (go_simp; done) | (go_simp; rfl)); intro gb367 hg w3 hbox hb; have n0_ := (⟨Zm (Zbt (bk HB.out) hb), Zm (hbox), Zm ((by rw [hg]; exact (Zbz (bk HB.out)) : w.heap.size ≤ gb367)), Zm ((by rw [hg]; exact (Zbz (bk HB.out)) : w.heap.size ≤ gb367))⟩ : _ ∧ _ ∧ _ ∧ _); clear HB; obtain ⟨HB, BK367, GW367, GE367⟩ := n0_; clear hb hbox hg)); (try simp only [Act.put, List.setIfInBounds_toArray, List.set_cons_zero, List.set_cons_succ]); go_cut [3] (fun v3 wc => ∃ (kq : Nat) (x3_1 : Bool), v3 = .bool x3_1 ∧ Aside0 (impl_InsRight.j0 kq x3_1 a0_0 a0_1 a0_2 a0_3 a0_4 = some r) ∧ Aside0 (kq ≤ k) ∧ Aside0 (wc.heap[gb367]? = some (.cells #[.int .i64 a0_0, .int .i64 a0_1, .string a0_2, .string a0_3, .string a0_4] 44 (0, 0))) ∧ Aside0 (Below w.heap.size w wc))
 case first =>
  have H := HC2.out; clear HC2; by_cases c4 : a0_2.toList = ([] : List UInt8); rotate_left
  · rw [if_neg c4] at H; have c4b0 : (a0_2.toList == ([] : List UInt8)) = false := beq_eq_false_iff_ne.mpr c4; have c4b1 : (a0_2.toList != ([] : List UInt8)) = true := bne_iff_ne.mpr c4; (first | rw [c4b0] | (simp only [i64_w, i32_w]; rw [c4b0]) | rw [ie_ c4b0] | skip); have H' := Zm H; clear H; obtain ⟨hcz8_0, hcz8_1, hcz8_2, hcz8_3, hcz8_4⟩ := cz5 BK367.out; go_wp2; go_meet
    case rel => exact ⟨_, (false), (by first | rfl | (simp; done) | (simp [*]; done)), H', ⟨by first | omega | exact Nat.le_refl _⟩, ⟨pk BK367.out⟩, ⟨bk HB.out⟩⟩
  rw [if_pos c4] at H; have c4b0 : (a0_2.toList == ([] : List UInt8)) = true := beq_iff_eq.mpr c4; have c4b1 : (a0_2.toList != ([] : List UInt8)) = false := bne_eq_false_iff_eq.mpr c4; clear c4; (first | rw [c4b0] | (simp only [i64_w, i32_w]; rw [c4b0]) | rw [ie_ c4b0] | skip); by_cases c5 : a0_3.toList = ([] : List UInt8); rotate_left
  · rw [if_neg c5] at H; have c5b0 : (a0_3.toList == ([] : List UInt8)) = false := beq_eq_false_iff_ne.mpr c5; have c5b1 : (a0_3.toList != ([] : List UInt8)) = true := bne_iff_ne.mpr c5; have H' := Zm H; clear H; obtain ⟨hcz7_0, hcz7_1, hcz7_2, hcz7_3, hcz7_4⟩ := cz5 BK367.out; go_wp2; go_meet
    case rel => exact ⟨_, (false), (by first | rfl | (simp; done) | (simp [*]; done)), H', ⟨by first | omega | exact Nat.le_refl _⟩, ⟨pk BK367.out⟩, ⟨bk HB.out⟩⟩
  rw [if_pos c5] at H; have c5b0 : (a0_3.toList == ([] : List UInt8)) = true := beq_iff_eq.mpr c5; have c5b1 : (a0_3.toList != ([] : List UInt8)) = false := bne_eq_false_iff_eq.mpr c5; clear c5; have H' := Zm H; clear H; obtain ⟨hcz6_0, hcz6_1, hcz6_2, hcz6_3, hcz6_4⟩ := cz5 BK367.out; go_wp2; go_meet
  case rel => exact ⟨_, ((a0_4.toList == ([] : List UInt8))), (by first | rfl | (simp; done) | (simp [*]; done)), H', ⟨by first | omega | exact Nat.le_refl _⟩, ⟨pk BK367.out⟩, ⟨bk HB.out⟩⟩
 case rest =>
  clear HC2; obtain ⟨kq, x3_1, rfl, HA, HJ1, BK367, HB⟩ := hcut
  cases kq with
  | zero => exact absurd HA.out (by simp [impl_InsRight.j0])
  | succ kj1 =>
   have H := HA.out; clear HA; simp only [impl_InsRight.j0] at H; replace H := Option.bind_eq_some_iff.mp H; obtain ⟨t368, A90, H⟩ := H; (try dsimp only at H); have A9 := Zm A90; clear A90; have HC10 := Zm H; clear H; obtain ⟨hcz11_0, hcz11_1, hcz11_2, hcz11_3, hcz11_4⟩ := cz5 BK367.out; go_upto_if 20 with (first | ((with_reducible refine gate_callee (f := 48) rfl ?_); refine ge_ (some 19) Tryd.func48 #[.int .i64 a0_0] ?_; (with_reducible refine (impl_OpForm.calls _ _ _ A9.out).mono ?_); rintro e w12 ⟨rfl, hb⟩; refine ⟨_, rfl, ?_⟩; have n0_ := (⟨Zm (Zkb (pk BK367.out) hb), Zm (Zbt (bk HB.out) hb)⟩ : _ ∧ _); clear BK367 HB; obtain ⟨BK367, HB⟩ := n0_; (try clear hb); (try clear hb2); (try clear hk); (try clear hi))); have H := HC10.out; clear HC10; by_cases c13 : t368.toList = ([] : List UInt8); rotate_left
   · rw [if_neg c13] at H; have c13b0 : (t368.toList == ([] : List UInt8)) = false := beq_eq_false_iff_ne.mpr c13; have c13b1 : (t368.toList != ([] : List UInt8)) = true := bne_iff_ne.mpr c13; (first | rw [c13b0] | (simp only [i64_w, i32_w]; rw [c13b0]) | rw [ie_ c13b0] | skip); by_cases c16 : t368.toList = ([110] : List UInt8); rotate_left
     · rw [if_neg c16] at H; have c16b0 : (t368.toList == ([110] : List UInt8)) = false := beq_eq_false_iff_ne.mpr c16; have c16b1 : (t368.toList != ([110] : List UInt8)) = true := bne_iff_ne.mpr c16; by_cases c20 : t368.toList = ([105] : List UInt8); rotate_left
       · rw [if_neg c20] at H; have c20b0 : (t368.toList == ([105] : List UInt8)) = false := beq_eq_false_iff_ne.mpr c20; have c20b1 : (t368.toList != ([105] : List UInt8)) = true := bne_iff_ne.mpr c20; by_cases c24 : t368.toList = ([116] : List UInt8); rotate_left
         · rw [if_neg c24] at H; have c24b0 : (t368.toList == ([116] : List UInt8)) = false := beq_eq_false_iff_ne.mpr c24; have c24b1 : (t368.toList != ([116] : List UInt8)) = true := bne_iff_ne.mpr c24; by_cases c28 : t368.toList = ([99] : List UInt8); rotate_left
           · rw [if_neg c28] at H; have c28b0 : (t368.toList == ([99] : List UInt8)) = false := beq_eq_false_iff_ne.mpr c28; have c28b1 : (t368.toList != ([99] : List UInt8)) = true := bne_iff_ne.mpr c28; by_cases c37 : t368.toList = ([121] : List UInt8); rotate_left
             · rw [if_neg c37] at H; have c37b0 : (t368.toList == ([121] : List UInt8)) = false := beq_eq_false_iff_ne.mpr c37; have c37b1 : (t368.toList != ([121] : List UInt8)) = true := bne_iff_ne.mpr c37; by_cases c55 : t368.toList = ([102] : List UInt8); rotate_left
               · rw [if_neg c55] at H; have c55b0 : (t368.toList == ([102] : List UInt8)) = false := beq_eq_false_iff_ne.mpr c55; have c55b1 : (t368.toList != ([102] : List UInt8)) = true := bne_iff_ne.mpr c55; by_cases c67 : t368.toList = ([109] : List UInt8); rotate_left
                 · rw [if_neg c67] at H; have c67b0 : (t368.toList == ([109] : List UInt8)) = false := beq_eq_false_iff_ne.mpr c67; have c67b1 : (t368.toList != ([109] : List UInt8)) = true := bne_iff_ne.mpr c67; obtain rfl := Option.some.inj H; go_wp2; go_ret; exact fin_ HB

                 rw [if_pos c67] at H
                 have c67b0 : (t368.toList == ([109] : List UInt8)) = true := beq_iff_eq.mpr c67
                 have c67b1 : (t368.toList != ([109] : List UInt8)) = false := bne_eq_false_iff_eq.mpr c67
                 clear c67
                 by_cases c68 : a0_1 = 0
                 rotate_left
                 · rw [if_neg c68] at H
                   have c68b0 : (a0_1 == 0) = false := beq_eq_false_iff_ne.mpr c68
                   have c68b1 : (a0_1 != 0) = true := bne_iff_ne.mpr c68
                   obtain rfl := Option.some.inj H
                   obtain ⟨hcz78_0, hcz78_1, hcz78_2, hcz78_3, hcz78_4⟩ := cz5 BK367.out
                   go_wp2
                   go_ret
                   exact fin_ HB
                 rw [if_pos c68] at H
                 have c68b0 : (a0_1 == 0) = true := beq_iff_eq.mpr c68
                 have c68b1 : (a0_1 != 0) = false := bne_eq_false_iff_eq.mpr c68
                 clear c68
                 replace H := Option.bind_eq_some_iff.mp H
                 obtain ⟨t377, A690, H⟩ := H
                 (try dsimp only at H)
                 have A69 := Zm A690
                 clear A690
                 by_cases c70 : t377 = true
                 rotate_left
                 · replace c70 := Bool.eq_false_iff.mpr c70
                   subst c70
                   rw [if_neg (show ¬ (false = true) by decide)] at H
                   obtain rfl := Option.some.inj H
                   obtain ⟨hcz77_0, hcz77_1, hcz77_2, hcz77_3, hcz77_4⟩ := cz5 BK367.out
                   (try clear BK367)
                   go_wp2_with (first | (go_at_call 51; (first | (with_reducible refine (impl_NameRight.calls _ _ _ _ A69.out).mono ?_) | (with_reducible refine (calls_of_args ?_ (impl_NameRight.calls _ _ _ _ A69.out)).mono ?_; focus (simp [*]; done))); rintro e w' ⟨rfl, ⟨nd, rfl⟩⟩))
                   go_ret
                   exact fin_ HB
                 subst c70
                 rw [if_pos rfl] at H
                 replace H := Option.bind_eq_some_iff.mp H
                 obtain ⟨t378, A710, H⟩ := H
                 (try dsimp only at H)
                 have A71 := Zm A710
                 clear A710
                 by_cases c72 : t378 = true
                 rotate_left
                 · replace c72 := Bool.eq_false_iff.mpr c72
                   subst c72
                   rw [if_neg (show ¬ (false = true) by decide)] at H
                   obtain rfl := Option.some.inj H
                   obtain ⟨hcz76_0, hcz76_1, hcz76_2, hcz76_3, hcz76_4⟩ := cz5 BK367.out
                   go_wp2_with (first | (go_at_call 51; (first | (with_reducible refine (impl_NameRight.calls _ _ _ _ A69.out).mono ?_) | (with_reducible refine (calls_of_args ?_ (impl_NameRight.calls _ _ _ _ A69.out)).mono ?_; focus (simp [*]; done))); rintro e w' ⟨rfl, ⟨nd, rfl⟩⟩; (try clear BK367)) | (go_at_call 53; (first | (with_reducible refine (impl_isMethodName.calls _ _ _ _ A71.out).mono ?_) | (with_reducible refine (calls_of_args ?_ (impl_isMethodName.calls _ _ _ _ A71.out)).mono ?_; focus (simp [*]; done))); rintro e w' ⟨rfl, ⟨nd, rfl⟩⟩))
                   go_ret
                   exact fin_ HB
                 subst c72
                 rw [if_pos rfl] at H
                 replace H := Option.bind_eq_some_iff.mp H
                 obtain ⟨t379, A730, H⟩ := H
                 (try dsimp only at H)
                 have A73 := Zm A730
                 clear A730
                 obtain rfl := Option.some.inj H
                 obtain ⟨hcz74_0, hcz74_1, hcz74_2, hcz74_3, hcz74_4⟩ := cz5 BK367.out
                 go_wp2_with (first | (go_at_call 51; (first | (with_reducible refine (impl_NameRight.calls _ _ _ _ A69.out).mono ?_) | (with_reducible refine (calls_of_args ?_ (impl_NameRight.calls _ _ _ _ A69.out)).mono ?_; focus (simp [*]; done))); rintro e w' ⟨rfl, ⟨nd, rfl⟩⟩) | (go_at_call 53; (first | (with_reducible refine (impl_isMethodName.calls _ _ _ _ A71.out).mono ?_) | (with_reducible refine (calls_of_args ?_ (impl_isMethodName.calls _ _ _ _ A71.out)).mono ?_; focus (simp [*]; done))); rintro e w' ⟨rfl, ⟨nd, rfl⟩⟩; (try clear BK367)) | (go_at_call 54; (first | (with_reducible refine (impl_isDesc.calls _ _ _ _ A73.out).mono ?_) | (with_reducible refine (calls_of_args ?_ (impl_isDesc.calls _ _ _ _ A73.out)).mono ?_; focus (simp [*]; done))); rintro e w75 ⟨rfl, hb⟩; have n0_ := Zm (Zbt (bk HB.out) hb); clear HB; have HB := n0_; clear n0_; (try clear hb); (try clear hb2); (try clear hk); (try clear hi)))
                 go_ret
                 exact fin_ HB
               rw [if_pos c55] at H
               have c55b0 : (t368.toList == ([102] : List UInt8)) = true := beq_iff_eq.mpr c55
               have c55b1 : (t368.toList != ([102] : List UInt8)) = false := bne_eq_false_iff_eq.mpr c55
               clear c55
               by_cases c56 : a0_1 = 0
               rotate_left
               · rw [if_neg c56] at H
                 have c56b0 : (a0_1 == 0) = false := beq_eq_false_iff_ne.mpr c56
                 have c56b1 : (a0_1 != 0) = true := bne_iff_ne.mpr c56
                 obtain rfl := Option.some.inj H
                 obtain ⟨hcz66_0, hcz66_1, hcz66_2, hcz66_3, hcz66_4⟩ := cz5 BK367.out
                 go_wp2
                 go_ret
                 exact fin_ HB
               rw [if_pos c56] at H
               have c56b0 : (a0_1 == 0) = true := beq_iff_eq.mpr c56
               have c56b1 : (a0_1 != 0) = false := bne_eq_false_iff_eq.mpr c56
               clear c56
               replace H := Option.bind_eq_some_iff.mp H
               obtain ⟨t374, A570, H⟩ := H
               (try dsimp only at H)
               have A57 := Zm A570
               clear A570
               by_cases c58 : t374 = true
               rotate_left
               · replace c58 := Bool.eq_false_iff.mpr c58
                 subst c58
                 rw [if_neg (show ¬ (false = true) by decide)] at H
                 obtain rfl := Option.some.inj H
                 obtain ⟨hcz65_0, hcz65_1, hcz65_2, hcz65_3, hcz65_4⟩ := cz5 BK367.out
                 (try clear BK367)
                 go_wp2_with (first | (go_at_call 51; (first | (with_reducible refine (impl_NameRight.calls _ _ _ _ A57.out).mono ?_) | (with_reducible refine (calls_of_args ?_ (impl_NameRight.calls _ _ _ _ A57.out)).mono ?_; focus (simp [*]; done))); rintro e w' ⟨rfl, ⟨nd, rfl⟩⟩))
                 go_ret
                 exact fin_ HB
               subst c58
               rw [if_pos rfl] at H
               replace H := Option.bind_eq_some_iff.mp H
               obtain ⟨t375, A590, H⟩ := H
               (try dsimp only at H)
               have A59 := Zm A590
               clear A590
               by_cases c60 : t375 = true
               rotate_left
               · replace c60 := Bool.eq_false_iff.mpr c60
                 subst c60
                 rw [if_neg (show ¬ (false = true) by decide)] at H
                 obtain rfl := Option.some.inj H
                 obtain ⟨hcz64_0, hcz64_1, hcz64_2, hcz64_3, hcz64_4⟩ := cz5 BK367.out
                 go_wp2_with (first | (go_at_call 51; (first | (with_reducible refine (impl_NameRight.calls _ _ _ _ A57.out).mono ?_) | (with_reducible refine (calls_of_args ?_ (impl_NameRight.calls _ _ _ _ A57.out)).mono ?_; focus (simp [*]; done))); rintro e w' ⟨rfl, ⟨nd, rfl⟩⟩; (try clear BK367)) | (go_at_call 51; (first | (with_reducible refine (impl_NameRight.calls _ _ _ _ A59.out).mono ?_) | (with_reducible refine (calls_of_args ?_ (impl_NameRight.calls _ _ _ _ A59.out)).mono ?_; focus (simp [*]; done))); rintro e w' ⟨rfl, ⟨nd, rfl⟩⟩))
                 go_ret
                 exact fin_ HB
               subst c60
               rw [if_pos rfl] at H
               replace H := Option.bind_eq_some_iff.mp H
               obtain ⟨t376, A610, H⟩ := H
               (try dsimp only at H)
               have A61 := Zm A610
               clear A610
               obtain rfl := Option.some.inj H
               obtain ⟨hcz62_0, hcz62_1, hcz62_2, hcz62_3, hcz62_4⟩ := cz5 BK367.out
               go_wp2_with (first | (go_at_call 51; (first | (with_reducible refine (impl_NameRight.calls _ _ _ _ A57.out).mono ?_) | (with_reducible refine (calls_of_args ?_ (impl_NameRight.calls _ _ _ _ A57.out)).mono ?_; focus (simp [*]; done))); rintro e w' ⟨rfl, ⟨nd, rfl⟩⟩) | (go_at_call 51; (first | (with_reducible refine (impl_NameRight.calls _ _ _ _ A59.out).mono ?_) | (with_reducible refine (calls_of_args ?_ (impl_NameRight.calls _ _ _ _ A59.out)).mono ?_; focus (simp [*]; done))); rintro e w' ⟨rfl, ⟨nd, rfl⟩⟩; (try clear BK367)) | (go_at_call 52; (first | (with_reducible refine (impl_typeRight.calls _ _ _ _ A61.out).mono ?_) | (with_reducible refine (calls_of_args ?_ (impl_typeRight.calls _ _ _ _ A61.out)).mono ?_; focus (simp [*]; done))); rintro e w63 ⟨rfl, hb⟩; have n0_ := Zm (Zbt (bk HB.out) hb); clear HB; have HB := n0_; clear n0_; (try clear hb); (try clear hb2); (try clear hk); (try clear hi)))
               go_ret
               exact fin_ HB
             rw [if_pos c37] at H
             have c37b0 : (t368.toList == ([121] : List UInt8)) = true := beq_iff_eq.mpr c37
             have c37b1 : (t368.toList != ([121] : List UInt8)) = false := bne_eq_false_iff_eq.mpr c37
             clear c37
             by_cases c38 : a0_1 = 0
             rotate_left
             · rw [if_neg c38] at H
               have c38b0 : (a0_1 == 0) = false := beq_eq_false_iff_ne.mpr c38
               have c38b1 : (a0_1 != 0) = true := bne_iff_ne.mpr c38
               obtain rfl := Option.some.inj H
               obtain ⟨hcz54_0, hcz54_1, hcz54_2, hcz54_3, hcz54_4⟩ := cz5 BK367.out
               go_wp2
               go_ret
               exact fin_ HB
             rw [if_pos c38] at H
             have c38b0 : (a0_1 == 0) = true := beq_iff_eq.mpr c38
             have c38b1 : (a0_1 != 0) = false := bne_eq_false_iff_eq.mpr c38
             clear c38
             by_cases c39 : a0_2.toList = ([] : List UInt8)
             rotate_left
             · rw [if_neg c39] at H
               have c39b0 : (a0_2.toList == ([] : List UInt8)) = false := beq_eq_false_iff_ne.mpr c39
               have c39b1 : (a0_2.toList != ([] : List UInt8)) = true := bne_iff_ne.mpr c39
               obtain rfl := Option.some.inj H
               obtain ⟨hcz53_0, hcz53_1, hcz53_2, hcz53_3, hcz53_4⟩ := cz5 BK367.out
               go_wp2
               go_ret
               exact fin_ HB
             rw [if_pos c39] at H
             have c39b0 : (a0_2.toList == ([] : List UInt8)) = true := beq_iff_eq.mpr c39
             have c39b1 : (a0_2.toList != ([] : List UInt8)) = false := bne_eq_false_iff_eq.mpr c39
             clear c39
             by_cases c40 : a0_3.toList = ([] : List UInt8)
             rotate_left
             · rw [if_neg c40] at H
               have c40b0 : (a0_3.toList == ([] : List UInt8)) = false := beq_eq_false_iff_ne.mpr c40
               have c40b1 : (a0_3.toList != ([] : List UInt8)) = true := bne_iff_ne.mpr c40
               obtain rfl := Option.some.inj H
               obtain ⟨hcz52_0, hcz52_1, hcz52_2, hcz52_3, hcz52_4⟩ := cz5 BK367.out
               go_wp2
               go_ret
               exact fin_ HB
             rw [if_pos c40] at H
             have c40b0 : (a0_3.toList == ([] : List UInt8)) = true := beq_iff_eq.mpr c40
             have c40b1 : (a0_3.toList != ([] : List UInt8)) = false := bne_eq_false_iff_eq.mpr c40
             clear c40
             by_cases c41 : a0_4.toList = ([73] : List UInt8)
             rotate_left
             · rw [if_neg c41] at H
               have c41b0 : (a0_4.toList == ([73] : List UInt8)) = false := beq_eq_false_iff_ne.mpr c41
               have c41b1 : (a0_4.toList != ([73] : List UInt8)) = true := bne_iff_ne.mpr c41
               replace H := Option.bind_eq_some_iff.mp H
               obtain ⟨t373, A430, H⟩ := H
               (try dsimp only at H)
               have A43 := Zm A430
               clear A430
               by_cases c44 : t373 = true
               rotate_left
               · replace c44 := Bool.eq_false_iff.mpr c44
                 subst c44
                 rw [if_neg (show ¬ (false = true) by decide)] at H
                 obtain rfl := Option.some.inj H
                 obtain ⟨hcz50_0, hcz50_1, hcz50_2, hcz50_3, hcz50_4⟩ := cz5 BK367.out
                 (try clear BK367)
                 go_wp2_with (first | (go_at_call 52; (first | (with_reducible refine (impl_typeRight.calls _ _ _ _ A43.out).mono ?_) | (with_reducible refine (calls_of_args ?_ (impl_typeRight.calls _ _ _ _ A43.out)).mono ?_; focus (simp [*]; done))); rintro e w51 ⟨rfl, hb⟩; have n0_ := Zm (Zbt (bk HB.out) hb); clear HB; have HB := n0_; clear n0_; (try clear hb); (try clear hb2); (try clear hk); (try clear hi)))
                 go_ret
                 exact fin_ HB
               subst c44
               rw [if_pos rfl] at H
               by_cases c45 : 0 < (a0_4.size : Int)
               rotate_left
               · rw [if_neg c45] at H
                 exact absurd H (by simp)
               rw [if_pos c45] at H
               have c45b0 := decide_eq_true c45
               have c45b1 : decide (0 < a0_4.size) = true := decide_eq_true (by omega)
               clear c45
               obtain rfl := Option.some.inj H
               obtain ⟨hcz47_0, hcz47_1, hcz47_2, hcz47_3, hcz47_4⟩ := cz5 BK367.out
               go_wp2_with (first | (go_at_call 52; (first | (with_reducible refine (impl_typeRight.calls _ _ _ _ A43.out).mono ?_) | (with_reducible refine (calls_of_args ?_ (impl_typeRight.calls _ _ _ _ A43.out)).mono ?_; focus (simp [*]; done))); rintro e w48 ⟨rfl, hb⟩; have n0_ := (⟨Zm (Zkb (pk BK367.out) hb), Zm (Zbt (bk HB.out) hb)⟩ : _ ∧ _); clear BK367 HB; obtain ⟨BK367, HB⟩ := n0_; (try clear hb); (try clear hb2); (try clear hk); (try clear hi); obtain ⟨hcz49_0, hcz49_1, hcz49_2, hcz49_3, hcz49_4⟩ := cz5 BK367.out; have p46 : 0 ≤ (0 : Int) := (by omega); have q46 : 0 < a0_4.size := (by have : (0 : Int) < (a0_4.size : Int) := of_decide_eq_true (by first | (with_reducible assumption) | assumption); omega); have hx46 : ∀ h : 0 < a0_4.size, ((a0_4[0]'h).toNat : Int) = bt a0_4 0 := bt_at a0_4 0; clear p46; have qi46 : (0 < (a0_4.size : Int)) = True := eq_true (of_decide_eq_true (by first | (with_reducible assumption) | assumption)); replace q46 := eq_true q46))
               go_ret
               exact fin_ HB
             rw [if_pos c41] at H
             have c41b0 : (a0_4.toList == ([73] : List UInt8)) = true := beq_iff_eq.mpr c41
             have c41b1 : (a0_4.toList != ([73] : List UInt8)) = false := bne_eq_false_iff_eq.mpr c41
             clear c41
             obtain rfl := Option.some.inj H
             obtain ⟨hcz42_0, hcz42_1, hcz42_2, hcz42_3, hcz42_4⟩ := cz5 BK367.out
             go_wp2
             go_ret
             exact fin_ HB
           rw [if_pos c28] at H
           have c28b0 : (t368.toList == ([99] : List UInt8)) = true := beq_iff_eq.mpr c28
           have c28b1 : (t368.toList != ([99] : List UInt8)) = false := bne_eq_false_iff_eq.mpr c28
           clear c28
           by_cases c29 : a0_1 = 0
           rotate_left
           · rw [if_neg c29] at H
             have c29b0 : (a0_1 == 0) = false := beq_eq_false_iff_ne.mpr c29
             have c29b1 : (a0_1 != 0) = true := bne_iff_ne.mpr c29
             obtain rfl := Option.some.inj H
             obtain ⟨hcz36_0, hcz36_1, hcz36_2, hcz36_3, hcz36_4⟩ := cz5 BK367.out
             go_wp2
             go_ret
             exact fin_ HB
           rw [if_pos c29] at H
           have c29b0 : (a0_1 == 0) = true := beq_iff_eq.mpr c29
           have c29b1 : (a0_1 != 0) = false := bne_eq_false_iff_eq.mpr c29
           clear c29
           replace H := Option.bind_eq_some_iff.mp H
           obtain ⟨t372, A300, H⟩ := H
           (try dsimp only at H)
           have A30 := Zm A300
           clear A300
           by_cases c31 : t372 = true
           rotate_left
           · replace c31 := Bool.eq_false_iff.mpr c31
             subst c31
             rw [if_neg (show ¬ (false = true) by decide)] at H
             obtain rfl := Option.some.inj H
             obtain ⟨hcz35_0, hcz35_1, hcz35_2, hcz35_3, hcz35_4⟩ := cz5 BK367.out
             (try clear BK367)
             go_wp2_with (first | (go_at_call 51; (first | (with_reducible refine (impl_NameRight.calls _ _ _ _ A30.out).mono ?_) | (with_reducible refine (calls_of_args ?_ (impl_NameRight.calls _ _ _ _ A30.out)).mono ?_; focus (simp [*]; done))); rintro e w' ⟨rfl, ⟨nd, rfl⟩⟩))
             go_ret
             exact fin_ HB
           subst c31
           rw [if_pos rfl] at H
           by_cases c32 : a0_3.toList = ([] : List UInt8)
           rotate_left
           · rw [if_neg c32] at H
             have c32b0 : (a0_3.toList == ([] : List UInt8)) = false := beq_eq_false_iff_ne.mpr c32
             have c32b1 : (a0_3.toList != ([] : List UInt8)) = true := bne_iff_ne.mpr c32
             obtain rfl := Option.some.inj H
             obtain ⟨hcz34_0, hcz34_1, hcz34_2, hcz34_3, hcz34_4⟩ := cz5 BK367.out
             go_wp2_with (first | (go_at_call 51; (first | (with_reducible refine (impl_NameRight.calls _ _ _ _ A30.out).mono ?_) | (with_reducible refine (calls_of_args ?_ (impl_NameRight.calls _ _ _ _ A30.out)).mono ?_; focus (simp [*]; done))); rintro e w' ⟨rfl, ⟨nd, rfl⟩⟩))
             go_ret
             exact fin_ HB
           rw [if_pos c32] at H
           have c32b0 : (a0_3.toList == ([] : List UInt8)) = true := beq_iff_eq.mpr c32
           have c32b1 : (a0_3.toList != ([] : List UInt8)) = false := bne_eq_false_iff_eq.mpr c32
           clear c32
           obtain rfl := Option.some.inj H
           obtain ⟨hcz33_0, hcz33_1, hcz33_2, hcz33_3, hcz33_4⟩ := cz5 BK367.out
           go_wp2_with (first | (go_at_call 51; (first | (with_reducible refine (impl_NameRight.calls _ _ _ _ A30.out).mono ?_) | (with_reducible refine (calls_of_args ?_ (impl_NameRight.calls _ _ _ _ A30.out)).mono ?_; focus (simp [*]; done))); rintro e w' ⟨rfl, ⟨nd, rfl⟩⟩))
           go_ret
           exact fin_ HB
         rw [if_pos c24] at H
         have c24b0 : (t368.toList == ([116] : List UInt8)) = true := beq_iff_eq.mpr c24
         have c24b1 : (t368.toList != ([116] : List UInt8)) = false := bne_eq_false_iff_eq.mpr c24
         clear c24
         by_cases c25 : x3_1 = true
         rotate_left
         · replace c25 := Bool.eq_false_iff.mpr c25
           subst c25
           rw [if_neg (show ¬ (false = true) by decide)] at H
           obtain rfl := Option.some.inj H
           go_wp2
           go_ret
           exact fin_ HB
         subst c25
         rw [if_pos rfl] at H
         replace H := Option.bind_eq_some_iff.mp H
         obtain ⟨t371, A260, H⟩ := H
         (try dsimp only at H)
         have A26 := Zm A260
         clear A260
         obtain rfl := Option.some.inj H
         obtain ⟨hcz27_0, hcz27_1, hcz27_2, hcz27_3, hcz27_4⟩ := cz5 BK367.out
         (try clear BK367)
         go_wp2_with (first | (go_at_call 50; (first | (with_reducible refine (impl_within.calls _ _ _ _ _ A26.out).mono ?_) | (with_reducible refine (calls_of_args ?_ (impl_within.calls _ _ _ _ _ A26.out)).mono ?_; focus (simp [*]; done))); rintro e w' ⟨rfl, ⟨nd, rfl⟩⟩))
         go_ret
         exact fin_ HB
       rw [if_pos c20] at H
       have c20b0 : (t368.toList == ([105] : List UInt8)) = true := beq_iff_eq.mpr c20
       have c20b1 : (t368.toList != ([105] : List UInt8)) = false := bne_eq_false_iff_eq.mpr c20
       clear c20
       by_cases c21 : x3_1 = true
       rotate_left
       · replace c21 := Bool.eq_false_iff.mpr c21
         subst c21
         rw [if_neg (show ¬ (false = true) by decide)] at H
         obtain rfl := Option.some.inj H
         go_wp2
         go_ret
         exact fin_ HB
       subst c21
       rw [if_pos rfl] at H
       replace H := Option.bind_eq_some_iff.mp H
       obtain ⟨t370, A220, H⟩ := H
       (try dsimp only at H)
       have A22 := Zm A220
       clear A220
       obtain rfl := Option.some.inj H
       obtain ⟨hcz23_0, hcz23_1, hcz23_2, hcz23_3, hcz23_4⟩ := cz5 BK367.out
       (try clear BK367)
       go_wp2_with (first | (go_at_call 50; (first | (with_reducible refine (impl_within.calls _ _ _ _ _ A22.out).mono ?_) | (with_reducible refine (calls_of_args ?_ (impl_within.calls _ _ _ _ _ A22.out)).mono ?_; focus (simp [*]; done))); rintro e w' ⟨rfl, ⟨nd, rfl⟩⟩))
       go_ret
       exact fin_ HB
     rw [if_pos c16] at H
     have c16b0 : (t368.toList == ([110] : List UInt8)) = true := beq_iff_eq.mpr c16
     have c16b1 : (t368.toList != ([110] : List UInt8)) = false := bne_eq_false_iff_eq.mpr c16
     clear c16
     by_cases c17 : x3_1 = true
     rotate_left
     · replace c17 := Bool.eq_false_iff.mpr c17
       subst c17
       rw [if_neg (show ¬ (false = true) by decide)] at H
       obtain rfl := Option.some.inj H
       go_wp2
       go_ret
       exact fin_ HB
     subst c17
     rw [if_pos rfl] at H
     replace H := Option.bind_eq_some_iff.mp H
     obtain ⟨t369, A180, H⟩ := H
     (try dsimp only at H)
     have A18 := Zm A180
     clear A180
     obtain rfl := Option.some.inj H
     obtain ⟨hcz19_0, hcz19_1, hcz19_2, hcz19_3, hcz19_4⟩ := cz5 BK367.out
     (try clear BK367)
     go_wp2_with (first | (go_at_call 49; (first | (with_reducible refine (impl_isInt.calls _ _ _ A18.out).mono ?_) | (with_reducible refine (calls_of_args ?_ (impl_isInt.calls _ _ _ A18.out)).mono ?_; focus (simp [*]; done))); rintro e w' ⟨rfl, ⟨nd, rfl⟩⟩))
     go_ret
     exact fin_ HB
   rw [if_pos c13] at H
   have c13b0 : (t368.toList == ([] : List UInt8)) = true := beq_iff_eq.mpr c13
   have c13b1 : (t368.toList != ([] : List UInt8)) = false := bne_eq_false_iff_eq.mpr c13
   clear c13
   (first | rw [c13b0] | (simp only [i64_w, i32_w]; rw [c13b0]) | rw [ie_ c13b0] | skip)
   by_cases c14 : x3_1 = true
   rotate_left
   · replace c14 := Bool.eq_false_iff.mpr c14
     subst c14
     rw [if_neg (show ¬ (false = true) by decide)] at H
     obtain rfl := Option.some.inj H
     go_wp2
     go_ret
     exact fin_ HB
   subst c14
   rw [if_pos rfl] at H
   obtain rfl := Option.some.inj H
   obtain ⟨hcz15_0, hcz15_1, hcz15_2, hcz15_3, hcz15_4⟩ := cz5 BK367.out
   go_wp2
   go_ret
   exact fin_ HB
/-! ### impl_opNames: function 59 -/
def impl_opNames.f  : Option (List ByteArray) := some (([(⟨#[99, 111, 110, 115, 116]⟩ : ByteArray), (⟨#[110, 117, 108, 108]⟩ : ByteArray), (⟨#[108, 111, 97, 100]⟩ : ByteArray), (⟨#[115, 116, 111, 114, 101]⟩ : ByteArray), (⟨#[112, 111, 112]⟩ : ByteArray), (⟨#[100, 117, 112]⟩ : ByteArray), (⟨#[115, 119, 97, 112]⟩ : ByteArray), (⟨#[97, 100, 100]⟩ : ByteArray), (⟨#[115, 117, 98]⟩ : ByteArray), (⟨#[109, 117, 108]⟩ : ByteArray), (⟨#[100, 105, 118]⟩ : ByteArray), (⟨#[114, 101, 109]⟩ : ByteArray), (⟨#[97, 110, 100]⟩ : ByteArray), (⟨#[111, 114]⟩ : ByteArray), (⟨#[120, 111, 114]⟩ : ByteArray), (⟨#[115, 104, 108]⟩ : ByteArray), (⟨#[115, 104, 114]⟩ : ByteArray), (⟨#[117, 115, 104, 114]⟩ : ByteArray), (⟨#[103, 111, 116, 111]⟩ : ByteArray), (⟨#[105, 102, 101, 113]⟩ : ByteArray), (⟨#[105, 102, 108, 116]⟩ : ByteArray), (⟨#[105, 102, 115, 97, 109, 101]⟩ : ByteArray), (⟨#[105, 102, 108, 101, 115, 115]⟩ : ByteArray), (⟨#[105, 102, 110, 117, 108, 108]⟩ : ByteArray), (⟨#[105, 102, 105, 115]⟩ : ByteArray), (⟨#[114, 101, 116, 117, 114, 110]⟩ : ByteArray), (⟨#[105, 114, 101, 116, 117, 114, 110]⟩ : ByteArray), (⟨#[97, 114, 101, 116, 117, 114, 110]⟩ : ByteArray), (⟨#[116, 104, 114, 111, 119]⟩ : ByteArray), (⟨#[100, 117, 112, 50]⟩ : ByteArray), (⟨#[110, 101, 119]⟩ : ByteArray), (⟨#[103, 101, 116, 102, 105, 101, 108, 100]⟩ : ByteArray), (⟨#[112, 117, 116, 102, 105, 101, 108, 100]⟩ : ByteArray), (⟨#[103, 101, 116, 115, 116, 97, 116, 105, 99]⟩ : ByteArray), (⟨#[112, 117, 116, 115, 116, 97, 116, 105, 99]⟩ : ByteArray), (⟨#[99, 97, 108, 108]⟩ : ByteArray), (⟨#[99, 97, 108, 108, 115, 116, 97, 116, 105, 99]⟩ : ByteArray), (⟨#[99, 97, 108, 108, 115, 112, 101, 99, 105, 97, 108]⟩ : ByteArray), (⟨#[99, 97, 115, 116]⟩ : ByteArray), (⟨#[105, 115, 111, 102]⟩ : ByteArray), (⟨#[110, 101, 119, 108, 105, 115, 116]⟩ : ByteArray), (⟨#[103, 101, 116]⟩ : ByteArray), (⟨#[112, 117, 116]⟩ : ByteArray), (⟨#[115, 105, 122, 101]⟩ : ByteArray)] : List ByteArray))
set_option maxHeartbeats 8000000 in
set_option maxRecDepth 100000 in
theorem impl_opNames.calls  (r : List ByteArray) (w : World) (h : impl_opNames.f  = some r) :
 Calls Tryd.prog 59 #[] w fun e w' => ∃ v0_ : Value, e = .returned (v0_) ∧ Kd.R Kd.string 9 w' w.heap.size (fun _ => True) v0_ r ∧ Below w.heap.size w w' := by
 have HB := Zm (Below.refl w.heap.size w); have H : (some (([(⟨#[99, 111, 110, 115, 116]⟩ : ByteArray), (⟨#[110, 117, 108, 108]⟩ : ByteArray), (⟨#[108, 111, 97, 100]⟩ : ByteArray), (⟨#[115, 116, 111, 114, 101]⟩ : ByteArray), (⟨#[112, 111, 112]⟩ : ByteArray), (⟨#[100, 117, 112]⟩ : ByteArray), (⟨#[115, 119, 97, 112]⟩ : ByteArray), (⟨#[97, 100, 100]⟩ : ByteArray), (⟨#[115, 117, 98]⟩ : ByteArray), (⟨#[109, 117, 108]⟩ : ByteArray), (⟨#[100, 105, 118]⟩ : ByteArray), (⟨#[114, 101, 109]⟩ : ByteArray), (⟨#[97, 110, 100]⟩ : ByteArray), (⟨#[111, 114]⟩ : ByteArray), (⟨#[120, 111, 114]⟩ : ByteArray), (⟨#[115, 104, 108]⟩ : ByteArray), (⟨#[115, 104, 114]⟩ : ByteArray), (⟨#[117, 115, 104, 114]⟩ : ByteArray), (⟨#[103, 111, 116, 111]⟩ : ByteArray), (⟨#[105, 102, 101, 113]⟩ : ByteArray), (⟨#[105, 102, 108, 116]⟩ : ByteArray), (⟨#[105, 102, 115, 97, 109, 101]⟩ : ByteArray), (⟨#[105, 102, 108, 101, 115, 115]⟩ : ByteArray), (⟨#[105, 102, 110, 117, 108, 108]⟩ : ByteArray), (⟨#[105, 102, 105, 115]⟩ : ByteArray), (⟨#[114, 101, 116, 117, 114, 110]⟩ : ByteArray), (⟨#[105, 114, 101, 116, 117, 114, 110]⟩ : ByteArray), (⟨#[97, 114, 101, 116, 117, 114, 110]⟩ : ByteArray), (⟨#[116, 104, 114, 111, 119]⟩ : ByteArray), (⟨#[100, 117, 112, 50]⟩ : ByteArray), (⟨#[110, 101, 119]⟩ : ByteArray), (⟨#[103, 101, 116, 102, 105, 101, 108, 100]⟩ : ByteArray), (⟨#[112, 117, 116, 102, 105, 101, 108, 100]⟩ : ByteArray), (⟨#[103, 101, 116, 115, 116, 97, 116, 105, 99]⟩ : ByteArray), (⟨#[112, 117, 116, 115, 116, 97, 116, 105, 99]⟩ : ByteArray), (⟨#[99, 97, 108, 108]⟩ : ByteArray), (⟨#[99, 97, 108, 108, 115, 116, 97, 116, 105, 99]⟩ : ByteArray), (⟨#[99, 97, 108, 108, 115, 112, 101, 99, 105, 97, 108]⟩ : ByteArray), (⟨#[99, 97, 115, 116]⟩ : ByteArray), (⟨#[105, 115, 111, 102]⟩ : ByteArray), (⟨#[110, 101, 119, 108, 105, 115, 116]⟩ : ByteArray), (⟨#[103, 101, 116]⟩ : ByteArray), (⟨#[112, 117, 116]⟩ : ByteArray), (⟨#[115, 105, 122, 101]⟩ : ByteArray)] : List ByteArray))) = some r := h; clear h; obtain ⟨y380, hy380⟩ : ∃ y_ : List ByteArray, y_ = (([(⟨#[99, 111, 110, 115, 116]⟩ : ByteArray), (⟨#[110, 117, 108, 108]⟩ : ByteArray), (⟨#[108, 111, 97, 100]⟩ : ByteArray), (⟨#[115, 116, 111, 114, 101]⟩ : ByteArray), (⟨#[112, 111, 112]⟩ : ByteArray), (⟨#[100, 117, 112]⟩ : ByteArray), (⟨#[115, 119, 97, 112]⟩ : ByteArray), (⟨#[97, 100, 100]⟩ : ByteArray), (⟨#[115, 117, 98]⟩ : ByteArray), (⟨#[109, 117, 108]⟩ : ByteArray), (⟨#[100, 105, 118]⟩ : ByteArray), (⟨#[114, 101, 109]⟩ : ByteArray), (⟨#[97, 110, 100]⟩ : ByteArray), (⟨#[111, 114]⟩ : ByteArray), (⟨#[120, 111, 114]⟩ : ByteArray), (⟨#[115, 104, 108]⟩ : ByteArray), (⟨#[115, 104, 114]⟩ : ByteArray), (⟨#[117, 115, 104, 114]⟩ : ByteArray), (⟨#[103, 111, 116, 111]⟩ : ByteArray), (⟨#[105, 102, 101, 113]⟩ : ByteArray), (⟨#[105, 102, 108, 116]⟩ : ByteArray), (⟨#[105, 102, 115, 97, 109, 101]⟩ : ByteArray), (⟨#[105, 102, 108, 101, 115, 115]⟩ : ByteArray), (⟨#[105, 102, 110, 117, 108, 108]⟩ : ByteArray), (⟨#[105, 102, 105, 115]⟩ : ByteArray), (⟨#[114, 101, 116, 117, 114, 110]⟩ : ByteArray), (⟨#[105, 114, 101, 116, 117, 114, 110]⟩ : ByteArray), (⟨#[97, 114, 101, 116, 117, 114, 110]⟩ : ByteArray), (⟨#[116, 104, 114, 111, 119]⟩ : ByteArray), (⟨#[100, 117, 112, 50]⟩ : ByteArray), (⟨#[110, 101, 119]⟩ : ByteArray), (⟨#[103, 101, 116, 102, 105, 101, 108, 100]⟩ : ByteArray), (⟨#[112, 117, 116, 102, 105, 101, 108, 100]⟩ : ByteArray), (⟨#[103, 101, 116, 115, 116, 97, 116, 105, 99]⟩ : ByteArray), (⟨#[112, 117, 116, 115, 116, 97, 116, 105, 99]⟩ : ByteArray), (⟨#[99, 97, 108, 108]⟩ : ByteArray), (⟨#[99, 97, 108, 108, 115, 116, 97, 116, 105, 99]⟩ : ByteArray), (⟨#[99, 97, 108, 108, 115, 112, 101, 99, 105, 97, 108]⟩ : ByteArray), (⟨#[99, 97, 115, 116]⟩ : ByteArray), (⟨#[105, 115, 111, 102]⟩ : ByteArray), (⟨#[110, 101, 119, 108, 105, 115, 116]⟩ : ByteArray), (⟨#[103, 101, 116]⟩ : ByteArray), (⟨#[112, 117, 116]⟩ : ByteArray), (⟨#[115, 105, 122, 101]⟩ : ByteArray)] : List ByteArray)) := ⟨_, rfl⟩; replace H : (some y380) = some r := by first | (rw [hy380]; with_reducible exact H) | (have H2_ := (Option.bind_some _ _).symm.trans H; rw [hy380]; with_reducible exact H2_) | (have H2_ := (Option.bind_some _ _).symm.trans H; with_reducible exact H2_) | with_reducible exact H | (rw [hy380]; exact H) | exact H
 have Ny380 := Zm hy380; clear hy380; obtain rfl := Option.some.inj H; go_enter Tryd.func59, Tryd.ntmps59; go_wp2_with (first | ((with_reducible refine gate_dst (N := 1) rfl ?_); refine Kd.R_lit Kd.string _ 9 ?hg (N := 1) ?hd (xs := ([(⟨#[99, 111, 110, 115, 116]⟩ : ByteArray), (⟨#[110, 117, 108, 108]⟩ : ByteArray), (⟨#[108, 111, 97, 100]⟩ : ByteArray), (⟨#[115, 116, 111, 114, 101]⟩ : ByteArray), (⟨#[112, 111, 112]⟩ : ByteArray), (⟨#[100, 117, 112]⟩ : ByteArray), (⟨#[115, 119, 97, 112]⟩ : ByteArray), (⟨#[97, 100, 100]⟩ : ByteArray), (⟨#[115, 117, 98]⟩ : ByteArray), (⟨#[109, 117, 108]⟩ : ByteArray), (⟨#[100, 105, 118]⟩ : ByteArray), (⟨#[114, 101, 109]⟩ : ByteArray), (⟨#[97, 110, 100]⟩ : ByteArray), (⟨#[111, 114]⟩ : ByteArray), (⟨#[120, 111, 114]⟩ : ByteArray), (⟨#[115, 104, 108]⟩ : ByteArray), (⟨#[115, 104, 114]⟩ : ByteArray), (⟨#[117, 115, 104, 114]⟩ : ByteArray), (⟨#[103, 111, 116, 111]⟩ : ByteArray), (⟨#[105, 102, 101, 113]⟩ : ByteArray), (⟨#[105, 102, 108, 116]⟩ : ByteArray), (⟨#[105, 102, 115, 97, 109, 101]⟩ : ByteArray), (⟨#[105, 102, 108, 101, 115, 115]⟩ : ByteArray), (⟨#[105, 102, 110, 117, 108, 108]⟩ : ByteArray), (⟨#[105, 102, 105, 115]⟩ : ByteArray), (⟨#[114, 101, 116, 117, 114, 110]⟩ : ByteArray), (⟨#[105, 114, 101, 116, 117, 114, 110]⟩ : ByteArray), (⟨#[97, 114, 101, 116, 117, 114, 110]⟩ : ByteArray), (⟨#[116, 104, 114, 111, 119]⟩ : ByteArray), (⟨#[100, 117, 112, 50]⟩ : ByteArray), (⟨#[110, 101, 119]⟩ : ByteArray), (⟨#[103, 101, 116, 102, 105, 101, 108, 100]⟩ : ByteArray), (⟨#[112, 117, 116, 102, 105, 101, 108, 100]⟩ : ByteArray), (⟨#[103, 101, 116, 115, 116, 97, 116, 105, 99]⟩ : ByteArray), (⟨#[112, 117, 116, 115, 116, 97, 116, 105, 99]⟩ : ByteArray), (⟨#[99, 97, 108, 108]⟩ : ByteArray), (⟨#[99, 97, 108, 108, 115, 116, 97, 116, 105, 99]⟩ : ByteArray), (⟨#[99, 97, 108, 108, 115, 112, 101, 99, 105, 97, 108]⟩ : ByteArray), (⟨#[99, 97, 115, 116]⟩ : ByteArray), (⟨#[105, 115, 111, 102]⟩ : ByteArray), (⟨#[110, 101, 119, 108, 105, 115, 116]⟩ : ByteArray), (⟨#[103, 101, 116]⟩ : ByteArray), (⟨#[112, 117, 116]⟩ : ByteArray), (⟨#[115, 105, 122, 101]⟩ : ByteArray)] : List ByteArray)) (inner := [.string (⟨#[99, 111, 110, 115, 116]⟩ : ByteArray), .string (⟨#[110, 117, 108, 108]⟩ : ByteArray), .string (⟨#[108, 111, 97, 100]⟩ : ByteArray), .string (⟨#[115, 116, 111, 114, 101]⟩ : ByteArray), .string (⟨#[112, 111, 112]⟩ : ByteArray), .string (⟨#[100, 117, 112]⟩ : ByteArray), .string (⟨#[115, 119, 97, 112]⟩ : ByteArray), .string (⟨#[97, 100, 100]⟩ : ByteArray), .string (⟨#[115, 117, 98]⟩ : ByteArray), .string (⟨#[109, 117, 108]⟩ : ByteArray), .string (⟨#[100, 105, 118]⟩ : ByteArray), .string (⟨#[114, 101, 109]⟩ : ByteArray), .string (⟨#[97, 110, 100]⟩ : ByteArray), .string (⟨#[111, 114]⟩ : ByteArray), .string (⟨#[120, 111, 114]⟩ : ByteArray), .string (⟨#[115, 104, 108]⟩ : ByteArray), .string (⟨#[115, 104, 114]⟩ : ByteArray), .string (⟨#[117, 115, 104, 114]⟩ : ByteArray), .string (⟨#[103, 111, 116, 111]⟩ : ByteArray), .string (⟨#[105, 102, 101, 113]⟩ : ByteArray), .string (⟨#[105, 102, 108, 116]⟩ : ByteArray), .string (⟨#[105, 102, 115, 97, 109, 101]⟩ : ByteArray), .string (⟨#[105, 102, 108, 101, 115, 115]⟩ : ByteArray), .string (⟨#[105, 102, 110, 117, 108, 108]⟩ : ByteArray), .string (⟨#[105, 102, 105, 115]⟩ : ByteArray), .string (⟨#[114, 101, 116, 117, 114, 110]⟩ : ByteArray), .string (⟨#[105, 114, 101, 116, 117, 114, 110]⟩ : ByteArray), .string (⟨#[97, 114, 101, 116, 117, 114, 110]⟩ : ByteArray), .string (⟨#[116, 104, 114, 111, 119]⟩ : ByteArray), .string (⟨#[100, 117, 112, 50]⟩ : ByteArray), .string (⟨#[110, 101, 119]⟩ : ByteArray), .string (⟨#[103, 101, 116, 102, 105, 101, 108, 100]⟩ : ByteArray), .string (⟨#[112, 117, 116, 102, 105, 101, 108, 100]⟩ : ByteArray), .string (⟨#[103, 101, 116, 115, 116, 97, 116, 105, 99]⟩ : ByteArray), .string (⟨#[112, 117, 116, 115, 116, 97, 116, 105, 99]⟩ : ByteArray), .string (⟨#[99, 97, 108, 108]⟩ : ByteArray), .string (⟨#[99, 97, 108, 108, 115, 116, 97, 116, 105, 99]⟩ : ByteArray), .string (⟨#[99, 97, 108, 108, 115, 112, 101, 99, 105, 97, 108]⟩ : ByteArray), .string (⟨#[99, 97, 115, 116]⟩ : ByteArray), .string (⟨#[105, 115, 111, 102]⟩ : ByteArray), .string (⟨#[110, 101, 119, 108, 105, 115, 116]⟩ : ByteArray), .string (⟨#[103, 101, 116]⟩ : ByteArray), .string (⟨#[112, 117, 116]⟩ : ByteArray), .string (⟨#[115, 105, 122, 101]⟩ : ByteArray)]) (ok := fun _ => True) (okp := fun _ => True) ?hr ?hp (fun _ hk => hk) trivial (Below.refl _ _) (Nat.le_refl _) (by simp) ?_; (case hd => rfl); (case hg => rfl); (case hr => first | (go_simp; done) | (go_simp; rfl)); (case hp => exact (Reps.one (show Kd.M Kd.string _ _ _ (⟨#[99, 111, 110, 115, 116]⟩ : ByteArray) [.string (⟨#[99, 111, 110, 115, 116]⟩ : ByteArray)] from rfl) (Reps.one (show Kd.M Kd.string _ _ _ (⟨#[110, 117, 108, 108]⟩ : ByteArray) [.string (⟨#[110, 117, 108, 108]⟩ : ByteArray)] from rfl) (Reps.one (show Kd.M Kd.string _ _ _ (⟨#[108, 111, 97, 100]⟩ : ByteArray) [.string (⟨#[108, 111, 97, 100]⟩ : ByteArray)] from rfl) (Reps.one (show Kd.M Kd.string _ _ _ (⟨#[115, 116, 111, 114, 101]⟩ : ByteArray) [.string (⟨#[115, 116, 111, 114, 101]⟩ : ByteArray)] from rfl) (Reps.one (show Kd.M Kd.string _ _ _ (⟨#[112, 111, 112]⟩ : ByteArray) [.string (⟨#[112, 111, 112]⟩ : ByteArray)] from rfl) (Reps.one (show Kd.M Kd.string _ _ _ (⟨#[100, 117, 112]⟩ : ByteArray) [.string (⟨#[100, 117, 112]⟩ : ByteArray)] from rfl) (Reps.one (show Kd.M Kd.string _ _ _ (⟨#[115, 119, 97, 112]⟩ : ByteArray) [.string (⟨#[115, 119, 97, 112]⟩ : ByteArray)] from rfl) (Reps.one (show Kd.M Kd.string _ _ _ (⟨#[97, 100, 100]⟩ : ByteArray) [.string (⟨#[97, 100, 100]⟩ : ByteArray)] from rfl) (Reps.one (show Kd.M Kd.string _ _ _ (⟨#[115, 117, 98]⟩ : ByteArray) [.string (⟨#[115, 117, 98]⟩ : ByteArray)] from rfl) (Reps.one (show Kd.M Kd.string _ _ _ (⟨#[109, 117, 108]⟩ : ByteArray) [.string (⟨#[109, 117, 108]⟩ : ByteArray)] from rfl) (Reps.one (show Kd.M Kd.string _ _ _ (⟨#[100, 105, 118]⟩ : ByteArray) [.string (⟨#[100, 105, 118]⟩ : ByteArray)] from rfl) (Reps.one (show Kd.M Kd.string _ _ _ (⟨#[114, 101, 109]⟩ : ByteArray) [.string (⟨#[114, 101, 109]⟩ : ByteArray)] from rfl) (Reps.one (show Kd.M Kd.string _ _ _ (⟨#[97, 110, 100]⟩ : ByteArray) [.string (⟨#[97, 110, 100]⟩ : ByteArray)] from rfl) (Reps.one (show Kd.M Kd.string _ _ _ (⟨#[111, 114]⟩ : ByteArray) [.string (⟨#[111, 114]⟩ : ByteArray)] from rfl) (Reps.one (show Kd.M Kd.string _ _ _ (⟨#[120, 111, 114]⟩ : ByteArray) [.string (⟨#[120, 111, 114]⟩ : ByteArray)] from rfl) (Reps.one (show Kd.M Kd.string _ _ _ (⟨#[115, 104, 108]⟩ : ByteArray) [.string (⟨#[115, 104, 108]⟩ : ByteArray)] from rfl) (Reps.one (show Kd.M Kd.string _ _ _ (⟨#[115, 104, 114]⟩ : ByteArray) [.string (⟨#[115, 104, 114]⟩ : ByteArray)] from rfl) (Reps.one (show Kd.M Kd.string _ _ _ (⟨#[117, 115, 104, 114]⟩ : ByteArray) [.string (⟨#[117, 115, 104, 114]⟩ : ByteArray)] from rfl) (Reps.one (show Kd.M Kd.string _ _ _ (⟨#[103, 111, 116, 111]⟩ : ByteArray) [.string (⟨#[103, 111, 116, 111]⟩ : ByteArray)] from rfl) (Reps.one (show Kd.M Kd.string _ _ _ (⟨#[105, 102, 101, 113]⟩ : ByteArray) [.string (⟨#[105, 102, 101, 113]⟩ : ByteArray)] from rfl) (Reps.one (show Kd.M Kd.string _ _ _ (⟨#[105, 102, 108, 116]⟩ : ByteArray) [.string (⟨#[105, 102, 108, 116]⟩ : ByteArray)] from rfl) (Reps.one (show Kd.M Kd.string _ _ _ (⟨#[105, 102, 115, 97, 109, 101]⟩ : ByteArray) [.string (⟨#[105, 102, 115, 97, 109, 101]⟩ : ByteArray)] from rfl) (Reps.one (show Kd.M Kd.string _ _ _ (⟨#[105, 102, 108, 101, 115, 115]⟩ : ByteArray) [.string (⟨#[105, 102, 108, 101, 115, 115]⟩ : ByteArray)] from rfl) (Reps.one (show Kd.M Kd.string _ _ _ (⟨#[105, 102, 110, 117, 108, 108]⟩ : ByteArray) [.string (⟨#[105, 102, 110, 117, 108, 108]⟩ : ByteArray)] from rfl) (Reps.one (show Kd.M Kd.string _ _ _ (⟨#[105, 102, 105, 115]⟩ : ByteArray) [.string (⟨#[105, 102, 105, 115]⟩ : ByteArray)] from rfl) (Reps.one (show Kd.M Kd.string _ _ _ (⟨#[114, 101, 116, 117, 114, 110]⟩ : ByteArray) [.string (⟨#[114, 101, 116, 117, 114, 110]⟩ : ByteArray)] from rfl) (Reps.one (show Kd.M Kd.string _ _ _ (⟨#[105, 114, 101, 116, 117, 114, 110]⟩ : ByteArray) [.string (⟨#[105, 114, 101, 116, 117, 114, 110]⟩ : ByteArray)] from rfl) (Reps.one (show Kd.M Kd.string _ _ _ (⟨#[97, 114, 101, 116, 117, 114, 110]⟩ : ByteArray) [.string (⟨#[97, 114, 101, 116, 117, 114, 110]⟩ : ByteArray)] from rfl) (Reps.one (show Kd.M Kd.string _ _ _ (⟨#[116, 104, 114, 111, 119]⟩ : ByteArray) [.string (⟨#[116, 104, 114, 111, 119]⟩ : ByteArray)] from rfl) (Reps.one (show Kd.M Kd.string _ _ _ (⟨#[100, 117, 112, 50]⟩ : ByteArray) [.string (⟨#[100, 117, 112, 50]⟩ : ByteArray)] from rfl) (Reps.one (show Kd.M Kd.string _ _ _ (⟨#[110, 101, 119]⟩ : ByteArray) [.string (⟨#[110, 101, 119]⟩ : ByteArray)] from rfl) (Reps.one (show Kd.M Kd.string _ _ _ (⟨#[103, 101, 116, 102, 105, 101, 108, 100]⟩ : ByteArray) [.string (⟨#[103, 101, 116, 102, 105, 101, 108, 100]⟩ : ByteArray)] from rfl) (Reps.one (show Kd.M Kd.string _ _ _ (⟨#[112, 117, 116, 102, 105, 101, 108, 100]⟩ : ByteArray) [.string (⟨#[112, 117, 116, 102, 105, 101, 108, 100]⟩ : ByteArray)] from rfl) (Reps.one (show Kd.M Kd.string _ _ _ (⟨#[103, 101, 116, 115, 116, 97, 116, 105, 99]⟩ : ByteArray) [.string (⟨#[103, 101, 116, 115, 116, 97, 116, 105, 99]⟩ : ByteArray)] from rfl) (Reps.one (show Kd.M Kd.string _ _ _ (⟨#[112, 117, 116, 115, 116, 97, 116, 105, 99]⟩ : ByteArray) [.string (⟨#[112, 117, 116, 115, 116, 97, 116, 105, 99]⟩ : ByteArray)] from rfl) (Reps.one (show Kd.M Kd.string _ _ _ (⟨#[99, 97, 108, 108]⟩ : ByteArray) [.string (⟨#[99, 97, 108, 108]⟩ : ByteArray)] from rfl) (Reps.one (show Kd.M Kd.string _ _ _ (⟨#[99, 97, 108, 108, 115, 116, 97, 116, 105, 99]⟩ : ByteArray) [.string (⟨#[99, 97, 108, 108, 115, 116, 97, 116, 105, 99]⟩ : ByteArray)] from rfl) (Reps.one (show Kd.M Kd.string _ _ _ (⟨#[99, 97, 108, 108, 115, 112, 101, 99, 105, 97, 108]⟩ : ByteArray) [.string (⟨#[99, 97, 108, 108, 115, 112, 101, 99, 105, 97, 108]⟩ : ByteArray)] from rfl) (Reps.one (show Kd.M Kd.string _ _ _ (⟨#[99, 97, 115, 116]⟩ : ByteArray) [.string (⟨#[99, 97, 115, 116]⟩ : ByteArray)] from rfl) (Reps.one (show Kd.M Kd.string _ _ _ (⟨#[105, 115, 111, 102]⟩ : ByteArray) [.string (⟨#[105, 115, 111, 102]⟩ : ByteArray)] from rfl) (Reps.one (show Kd.M Kd.string _ _ _ (⟨#[110, 101, 119, 108, 105, 115, 116]⟩ : ByteArray) [.string (⟨#[110, 101, 119, 108, 105, 115, 116]⟩ : ByteArray)] from rfl) (Reps.one (show Kd.M Kd.string _ _ _ (⟨#[103, 101, 116]⟩ : ByteArray) [.string (⟨#[103, 101, 116]⟩ : ByteArray)] from rfl) (Reps.one (show Kd.M Kd.string _ _ _ (⟨#[112, 117, 116]⟩ : ByteArray) [.string (⟨#[112, 117, 116]⟩ : ByteArray)] from rfl) (Reps.one (show Kd.M Kd.string _ _ _ (⟨#[115, 105, 122, 101]⟩ : ByteArray) [.string (⟨#[115, 105, 122, 101]⟩ : ByteArray)] from rfl) (Reps.none _ _)))))))))))))))))))))))))))))))))))))))))))))); intro v381 w1 ho2 hb hg_ hnew_; clear hg_ hnew_; (first | rw [← Ny380.out] at ho2 | (simp only [Int.reduceToNat] at ho2; rw [← Ny380.out] at ho2)); have n0_ := (⟨Zm (Kd.R_lower ho2 (Zbz (bk HB.out))), Zm (Zbt (bk HB.out) hb)⟩ : _ ∧ _); clear HB; obtain ⟨HO382, HB⟩ := n0_; clear hb ho2)); go_ret; exact ⟨_, by first | rfl | (simp [*] <;> rfl), by (with_reducible repeat (first | apply Kd.R_alloc | apply Kd.R_drewN | apply Kd.R_drew)); exact HO382.out, bk HB.out⟩

/-! ### strconv_FormatInt_62: function 62 -/
theorem below_grow_ (w : World) (k : Nat) (os : Array Obj) : Below w.heap.size w (Go.Sort.grow (w.drewN k) os) := ⟨rfl, rfl, rfl, by simp [Go.Sort.grow], fun g hg => by simp only [Go.Sort.grow]; exact Array.getElem?_append_left hg⟩
def strconv_FormatInt_62.f (a0 : Int) (a1 : Int) : Option (ByteArray) := if a1 = 10 ∧ -9223372036854775808 ≤ a0 ∧ a0 ≤ 9223372036854775807 then some ⟨(Lib.itoa a0).toArray⟩ else none
set_option maxHeartbeats 8000000 in
set_option maxRecDepth 100000 in
theorem strconv_FormatInt_62.calls (a0 : Int) (a1 : Int) (r : ByteArray) (w : World) (h : strconv_FormatInt_62.f a0 a1 = some r) (htab : Tabs w := by exact tab_) :
    Calls Tryd.prog 62 #[.int .i64 a0, .int .i64 a1] w fun e w' => e = .returned (.string r) ∧ Below w.heap.size w w' := by
  have HTAB := Zm htab
  clear htab
  unfold strconv_FormatInt_62.f at h; split at h
  · rename_i hc; obtain ⟨rfl, h0, h1⟩ := hc; obtain rfl := Option.some.inj h; exact (Tryd.internal_strconv_FormatInt_10 a0 h0 h1 w HTAB.out.tab).mono fun e w' ⟨he, k, os, hw⟩ => ⟨he, hw ▸ below_grow_ _ _ _⟩
  · cases h

/-! ### strconv_FormatInt_38: function 38 -/
def strconv_FormatInt_38.f (a0 : Int) (a1 : Int) : Option (ByteArray) := (strconv_FormatInt_62.f a0 a1).bind fun t383 => (some t383)
set_option maxHeartbeats 8000000 in
set_option maxRecDepth 100000 in
theorem strconv_FormatInt_38.calls (a0 : Int) (a1 : Int) (r : ByteArray) (w : World) (h : strconv_FormatInt_38.f a0 a1 = some r) (htab : Tabs w := by exact tab_) :
 Calls Tryd.prog 38 #[.int .i64 a0, .int .i64 a1] w fun e w' => e = .returned (.string r) ∧ Below w.heap.size w w' := by
 have HTAB := Zm htab
 clear htab
 have HB := Zm (Below.refl w.heap.size w); have H : ((strconv_FormatInt_62.f a0 a1).bind fun t383 => (some t383)) = some r := h; clear h; replace H := Option.bind_eq_some_iff.mp H; obtain ⟨t383, A30, H⟩ := H; (try dsimp only at H); have A3 := Zm A30; clear A30; obtain rfl := Option.some.inj H; go_enter Tryd.func38, Tryd.ntmps38; go_wp2_with (first | ((with_reducible refine gate_callee (f := 62) rfl ?_); refine ge_ (some 7) Tryd.func62 #[.int .i64 a0, .int .i64 a1] ?_; (with_reducible refine (strconv_FormatInt_62.calls _ _ _ _ A3.out).mono ?_); rintro e w4 ⟨rfl, hb⟩; refine ⟨_, rfl, ?_⟩; have n0_ := Zm (Zbt (bk HB.out) hb); clear HB; have HB := n0_; clear n0_; (try clear hb); (try clear hb2); (try clear hk); (try clear hi))); go_ret; exact fin_ HB

/-! ### impl_text: function 24 -/
def impl_text.f (a0 : Int) : Option (ByteArray) := (strconv_FormatInt_38.f a0 10).bind fun t384 => (some t384)
set_option maxHeartbeats 8000000 in
set_option maxRecDepth 100000 in
theorem impl_text.calls (a0 : Int) (r : ByteArray) (w : World) (h : impl_text.f a0 = some r) (htab : Tabs w := by exact tab_) :
 Calls Tryd.prog 24 #[.int .i64 a0] w fun e w' => e = .returned (.string r) ∧ Below w.heap.size w w' := by
 have HTAB := Zm htab
 clear htab
 have HB := Zm (Below.refl w.heap.size w); have H : ((strconv_FormatInt_38.f a0 10).bind fun t384 => (some t384)) = some r := h; clear h; replace H := Option.bind_eq_some_iff.mp H; obtain ⟨t384, A20, H⟩ := H; (try dsimp only at H); have A2 := Zm A20; clear A20; obtain rfl := Option.some.inj H; go_enter Tryd.func24, Tryd.ntmps24; go_wp2_with (first | ((with_reducible refine gate_callee (f := 38) rfl ?_); refine ge_ (some 4) Tryd.func38 #[.int .i64 a0, .int .i64 10] ?_; (with_reducible refine (strconv_FormatInt_38.calls _ _ _ _ A2.out).mono ?_); rintro e w3 ⟨rfl, hb⟩; refine ⟨_, rfl, ?_⟩; have n0_ := Zm (Zbt (bk HB.out) hb); clear HB; have HB := n0_; clear n0_; (try clear hb); (try clear hb2); (try clear hk); (try clear hi))); go_ret; exact fin_ HB

-- NOT PRINTED: function 76 (strconv_ParseInt)

/-! ### impl_numberOf: function 60 -/
def impl_numberOf.f (a0 : ByteArray) : Option (Int × Bool) := if a0.size ≤ 281474976710656 then (match Lib.parseIntB 64 a0.data.toList with | .ok v => ((impl_isInt.f v).bind fun t => if t = true then ((impl_text.f v).bind fun s => if s.toList = a0.toList then some (v, true) else some (0, false)) else some (0, false)) | _ => some (0, false)) else none
set_option maxHeartbeats 8000000 in
set_option maxRecDepth 100000 in
theorem impl_numberOf.calls (a0 : ByteArray) (r1 : Int) (r2 : Bool) (w : World) (h : impl_numberOf.f a0 = some (r1, r2)) (htab : Tabs w := by exact tab_) :
    Calls Tryd.prog 60 #[.string a0] w fun e w' => e = .returned (.tuple #[.int .i64 r1, .bool r2]) ∧ Below w.heap.size w w' := by
  have HTAB := Zm htab
  clear htab
  unfold impl_numberOf.f at h; have HB := Zm (Below.refl w.heap.size w); split at h
  case isFalse => cases h
  case isTrue hs =>
    cases hP : Lib.parseIntB 64 a0.data.toList with
    | ok v =>
      rw [hP] at h; dsimp only at h; obtain ⟨t, ht, h⟩ := Option.bind_eq_some_iff.mp h
      have PI : Aside0 (∀ W : World, Calls Tryd.prog 76 #[.string a0, .int .i64 10, .int .i64 64] W fun e w' => e = .returned (.tuple #[.int .i64 v, .nilIface]) ∧ Below W.heap.size W w') := ⟨fun W => (Tryd.strconv_ParseInt_10_at64_ok a0 (by omega) v hP W).mono fun e w' ⟨he, hw⟩ => ⟨he, by
        rcases hw with rfl | ⟨t, rfl⟩
        · exact Below.refl _ _
        · exact Lib.bytesWorld_below _ _ _⟩⟩
      have A1 := Zm ht; clear ht hP
      cases t with
      | false =>
        rw [if_neg (by simp)] at h; obtain ⟨rfl, rfl⟩ : 0 = r1 ∧ false = r2 := by simpa using h
        go_enter Tryd.func60, Tryd.ntmps60; go_wp2_with (first | ((with_reducible refine gate_callee (f := 76) rfl ?_); refine ge_ (some 8) Tryd.func76 #[.string a0, .int .i64 10, .int .i64 64] ?_; refine (PI.out _).mono ?_; rintro e w' ⟨rfl, hb⟩; refine ⟨_, rfl, ?_⟩; have n0_ := Zm (Zbt (bk HB.out) hb); clear HB hb; have HB := n0_; clear n0_) | (go_at_call 49; (with_reducible refine (impl_isInt.calls _ _ _ A1.out).mono ?_); rintro e w' ⟨rfl, ⟨nd, rfl⟩⟩)); go_ret2
        exact fin_ HB
      | true =>
        rw [if_pos rfl] at h; obtain ⟨s, hs2, h⟩ := Option.bind_eq_some_iff.mp h; have A2 := Zm hs2; clear hs2; by_cases c : s.toList = a0.toList
        · rw [if_pos c] at h; obtain ⟨rfl, rfl⟩ : v = r1 ∧ true = r2 := by simpa using h
          have e2 : (s.toList == a0.toList) = true := beq_iff_eq.mpr c; have e3 : (s.toList != a0.toList) = false := bne_eq_false_iff_eq.mpr c; go_enter Tryd.func60, Tryd.ntmps60; go_wp2_with (first | ((with_reducible refine gate_callee (f := 76) rfl ?_); refine ge_ (some 8) Tryd.func76 #[.string a0, .int .i64 10, .int .i64 64] ?_; refine (PI.out _).mono ?_; rintro e w' ⟨rfl, hb⟩; refine ⟨_, rfl, ?_⟩; have n0_ := Zm (Zbt (bk HB.out) hb); clear HB hb; have HB := n0_; clear n0_) | (go_at_call 49; (with_reducible refine (impl_isInt.calls _ _ _ A1.out).mono ?_); rintro e w' ⟨rfl, ⟨nd, rfl⟩⟩) | (go_at_call 24; (with_reducible refine (impl_text.calls _ _ _ A2.out).mono ?_); rintro e w' ⟨rfl, hb⟩; have n0_ := Zm (Zbt (bk HB.out) hb); clear HB hb; have HB := n0_; clear n0_)); go_ret2; exact fin_ HB
        · rw [if_neg c] at h; obtain ⟨rfl, rfl⟩ : 0 = r1 ∧ false = r2 := by simpa using h
          have e2 : (s.toList == a0.toList) = false := beq_eq_false_iff_ne.mpr c; have e3 : (s.toList != a0.toList) = true := bne_iff_ne.mpr c; go_enter Tryd.func60, Tryd.ntmps60; go_wp2_with (first | ((with_reducible refine gate_callee (f := 76) rfl ?_); refine ge_ (some 8) Tryd.func76 #[.string a0, .int .i64 10, .int .i64 64] ?_; refine (PI.out _).mono ?_; rintro e w' ⟨rfl, hb⟩; refine ⟨_, rfl, ?_⟩; have n0_ := Zm (Zbt (bk HB.out) hb); clear HB hb; have HB := n0_; clear n0_) | (go_at_call 49; (with_reducible refine (impl_isInt.calls _ _ _ A1.out).mono ?_); rintro e w' ⟨rfl, ⟨nd, rfl⟩⟩) | (go_at_call 24; (with_reducible refine (impl_text.calls _ _ _ A2.out).mono ?_); rintro e w' ⟨rfl, hb⟩; have n0_ := Zm (Zbt (bk HB.out) hb); clear HB hb; have HB := n0_; clear n0_)); go_ret2
          exact fin_ HB
    | range =>
      rw [hP] at h; obtain ⟨rfl, rfl⟩ : 0 = r1 ∧ false = r2 := by simpa using h
      obtain ⟨tp, p, hv⟩ := HTAB.out.er; go_enter Tryd.func60, Tryd.ntmps60; go_wp2_with ((with_reducible refine gate_callee (f := 76) rfl ?_); refine ge_ (some 8) Tryd.func76 #[.string a0, .int .i64 10, .int .i64 64] ?_; refine (Tryd.strconv_ParseInt_10_at64_range_var a0 hs hP tp p _ hv).mono ?_; rintro e w' ⟨N_, rfl, _, _, hb⟩; refine ⟨_, rfl, ?_⟩; have n0_ := Zm (Zbt (bk HB.out) hb); clear HB hb; have HB := n0_; clear n0_); go_ret2; exact fin_ HB
    | _ =>
      rw [hP] at h; obtain ⟨rfl, rfl⟩ : 0 = r1 ∧ false = r2 := by simpa using h
      obtain ⟨tp, p, hv⟩ := HTAB.out.es; go_enter Tryd.func60, Tryd.ntmps60; go_wp2_with ((with_reducible refine gate_callee (f := 76) rfl ?_); refine ge_ (some 8) Tryd.func76 #[.string a0, .int .i64 10, .int .i64 64] ?_; refine (Tryd.strconv_ParseInt_10_at64_syntax_var a0 hs hP tp p _ hv).mono ?_; rintro e w' ⟨N_, rfl, _, _, hb⟩; refine ⟨_, rfl, ?_⟩; have n0_ := Zm (Zbt (bk HB.out) hb); clear HB hb; have HB := n0_; clear n0_); go_ret2
      exact fin_ HB

/-! ### map_make36: function 155 -/
theorem map36_ins {P : Program} (w : World) {ops : Array Oper} {rest : List Oper} {o : Oper} {a : Act} {Q : Exit → Act → World → Prop} (hg : o.guard = none) (m x v : Operand) (t : TypeId) (hop : o.op = Op.insert t m x v) (hd : o.dst = none)
    (k e : TypeId) (K : Go.Maps.Keyed P k) (ht : P.underlying t = some (.map k e)) (R : Value → Option (DataW Unit × List MemPlace)) (b n : Nat) (D : DataW Unit)
    (hm : a.eval m = .map (some b)) (hown : w.ownsMap P k R b n D) (hn : n < maxLen) (key val : Value) (kl : Lit) (hx : a.eval x = key) (hv : a.eval v = val) (hkey : keyOf P k key = some kl)
    (d : DataW Unit) (ps : List MemPlace) (hval : R val = some (d, ps)) (hK : ∀ w', w'.ownsMap P k R b (n + 1) (D.put kl d) → w.grownBy w' (some b) → wpList P ops Q rest a w') : wpList P ops Q (o :: rest) a w := by
  refine wpList_plain hg fun K' hK' => ?_
  obtain ⟨w', hrun, r1, r2⟩ := hown.update K ht hn hkey hval; unfold Oper.wp; simp [execOp, hop, hm, hx, hv, hrun, Result.andThen, hd]; exact hK' _ _ (by rw [hd]; exact hK w' r1 r2)
theorem map36_new {P : Program} {w : World} {ops : Array Oper} {rest : List Oper} {o : Oper} {a : Act} {Q : Exit → Act → World → Prop} (hg : o.guard = none) (t : TypeId) (hop : o.op = Op.makeMap t none) (K : ∀ w', w' = w.alloc (.map #[] 0) → wpList P ops Q rest (a.put o.dst (.map (some w.heap.size))) w') : wpList P ops Q (o :: rest) a w := by
  refine wpList_plain hg fun K' hK' => ?_
  unfold Oper.wp; simp [execOp, hop, run_makeMap, Result.andThen]; exact hK' _ _ (K _ rfl)
def map36_D : DataW Unit := ((((((((((.map []) : DataW Unit).put (.string []) (.lit (.int .i64 0))).put (.string [110]) (.lit (.int .i64 1))).put (.string [105]) (.lit (.int .i64 1))).put (.string [116]) (.lit (.int .i64 1))).put (.string [99]) (.lit (.int .i64 1))).put (.string [121]) (.lit (.int .i64 1))).put (.string [102]) (.lit (.int .i64 3))).put (.string [109]) (.lit (.int .i64 3)))
def map36_L (l : List UInt8) : Int × Bool := if l = ([] : List UInt8) then (0, true) else (if l = ([110] : List UInt8) then (1, true) else (if l = ([105] : List UInt8) then (1, true) else (if l = ([116] : List UInt8) then (1, true) else (if l = ([99] : List UInt8) then (1, true) else (if l = ([121] : List UInt8) then (1, true) else (if l = ([102] : List UInt8) then (3, true) else (if l = ([109] : List UInt8) then (3, true) else ((0, false)))))))))
/-- What the map holds at a key. -/
theorem map36_at (l : List UInt8) : map36_D.atKey (.string l) (.lit (.int .i64 0)) = .lit (.int .i64 (map36_L l).1) ∧ Go.Maps.has map36_D (.string l) = (map36_L l).2 := by
  by_cases c0 : l = ([] : List UInt8)
  · subst c0; exact ⟨by kernel_rfl, by kernel_rfl⟩
  by_cases c1 : l = ([110] : List UInt8)
  · subst c1; exact ⟨by kernel_rfl, by kernel_rfl⟩
  by_cases c2 : l = ([105] : List UInt8)
  · subst c2; exact ⟨by kernel_rfl, by kernel_rfl⟩
  by_cases c3 : l = ([116] : List UInt8)
  · subst c3; exact ⟨by kernel_rfl, by kernel_rfl⟩
  by_cases c4 : l = ([99] : List UInt8)
  · subst c4; exact ⟨by kernel_rfl, by kernel_rfl⟩
  by_cases c5 : l = ([121] : List UInt8)
  · subst c5; exact ⟨by kernel_rfl, by kernel_rfl⟩
  by_cases c6 : l = ([102] : List UInt8)
  · subst c6; exact ⟨by kernel_rfl, by kernel_rfl⟩
  by_cases c7 : l = ([109] : List UInt8)
  · subst c7; exact ⟨by kernel_rfl, by kernel_rfl⟩
  have e : map36_D = .map [(.string [], (.lit (.int .i64 0))), (.string [99], (.lit (.int .i64 1))), (.string [102], (.lit (.int .i64 3))), (.string [105], (.lit (.int .i64 1))), (.string [109], (.lit (.int .i64 3))), (.string [110], (.lit (.int .i64 1))), (.string [116], (.lit (.int .i64 1))), (.string [121], (.lit (.int .i64 1)))] := by kernel_rfl
  have sk : ∀ x y : List UInt8, (Lit.string x).sameKey (.string y) = decide (x = y) := fun x y => by by_cases h : x = y <;> simp [Lit.sameKey, h]
  rw [e]; unfold DataW.atKey Go.Maps.has map36_L; simp [sk, c0, c1, c2, c3, c4, c5, c6, c7, Ne.symm c0, Ne.symm c1, Ne.symm c2, Ne.symm c3, Ne.symm c4, Ne.symm c5, Ne.symm c6, Ne.symm c7]
/-- The map is made. -/
theorem map36_walk {ops : Array Oper} {rest : List Oper} {Q : Exit → Act → World → Prop} {a : Act} {w : World} {X : Tmp} {o0 o1 o2 o3 o4 o5 o6 o7 o8 : Oper} (q : o0.op = .makeMap 79 none ∧ o0.guard = none ∧ o0.dst = some X ∧ (a.put (some X) (.map (some w.heap.size))).eval (.tmp X) = .map (some w.heap.size)
    ∧ o1.guard = none ∧ o1.op = .insert 79 (.tmp X) (.const (.string ⟨#[]⟩)) (.const (.int .i64 0)) ∧ o1.dst = none
    ∧ o2.guard = none ∧ o2.op = .insert 79 (.tmp X) (.const (.string ⟨#[110]⟩)) (.const (.int .i64 1)) ∧ o2.dst = none
    ∧ o3.guard = none ∧ o3.op = .insert 79 (.tmp X) (.const (.string ⟨#[105]⟩)) (.const (.int .i64 1)) ∧ o3.dst = none
    ∧ o4.guard = none ∧ o4.op = .insert 79 (.tmp X) (.const (.string ⟨#[116]⟩)) (.const (.int .i64 1)) ∧ o4.dst = none
    ∧ o5.guard = none ∧ o5.op = .insert 79 (.tmp X) (.const (.string ⟨#[99]⟩)) (.const (.int .i64 1)) ∧ o5.dst = none
    ∧ o6.guard = none ∧ o6.op = .insert 79 (.tmp X) (.const (.string ⟨#[121]⟩)) (.const (.int .i64 1)) ∧ o6.dst = none
    ∧ o7.guard = none ∧ o7.op = .insert 79 (.tmp X) (.const (.string ⟨#[102]⟩)) (.const (.int .i64 3)) ∧ o7.dst = none
    ∧ o8.guard = none ∧ o8.op = .insert 79 (.tmp X) (.const (.string ⟨#[109]⟩)) (.const (.int .i64 3)) ∧ o8.dst = none)
    (K : ∀ w', w'.ownsMap Tryd.prog 9 (plainElem Tryd.prog 3) w.heap.size 8 map36_D → Below w.heap.size w w' → wpList Tryd.prog ops Q rest (a.put (some X) (.map (some w.heap.size))) w') : wpList Tryd.prog ops Q (o0 :: o1 :: o2 :: o3 :: o4 :: o5 :: o6 :: o7 :: o8 :: rest) a w := by
  obtain ⟨e0, g0, d0, hX, g1, e1, d1, g2, e2, d2, g3, e3, d3, g4, e4, d4, g5, e5, d5, g6, e6, d6, g7, e7, d7, g8, e8, d8⟩ := q; refine map36_new g0 _ e0 fun w0 hw0 => ?_
  rw [d0]; have b0 : Below w.heap.size w w0 := hw0 ▸ Zba (Below.refl _ _) _; have m0 : w0.ownsMap Tryd.prog 9 (plainElem (H := Unit) Tryd.prog 3) w.heap.size 0 (.map []) := hw0 ▸ World.ownsMap_made w _ _ _; refine map36_ins w0 g1 _ _ _ 79 e1 d1 9 3 (Go.Maps.string_keyed Tryd.underlying9) Tryd.underlying79 _ w.heap.size 0 _ hX m0 (by decide) (.string ⟨#[]⟩) (.int .i64 0) (.string []) rfl rfl (Go.WideMaps.keyOf_string_mk Tryd.underlying9 (by decide)) (.lit (.int .i64 0)) [] (plainElem_int Tryd.underlying3 (by decide)) fun w1 m1 s1 => ?_
  have b1 := b0.grown s1 b0.size (fun k hk => by cases hk; exact Nat.le_refl _); refine map36_ins w1 g2 _ _ _ 79 e2 d2 9 3 (Go.Maps.string_keyed Tryd.underlying9) Tryd.underlying79 _ w.heap.size 1 _ hX m1 (by decide) (.string ⟨#[110]⟩) (.int .i64 1) (.string [110]) rfl rfl (Go.WideMaps.keyOf_string_mk Tryd.underlying9 (by decide)) (.lit (.int .i64 1)) [] (plainElem_int Tryd.underlying3 (by decide)) fun w2 m2 s2 => ?_
  have b2 := b1.grown s2 b1.size (fun k hk => by cases hk; exact Nat.le_refl _); refine map36_ins w2 g3 _ _ _ 79 e3 d3 9 3 (Go.Maps.string_keyed Tryd.underlying9) Tryd.underlying79 _ w.heap.size 2 _ hX m2 (by decide) (.string ⟨#[105]⟩) (.int .i64 1) (.string [105]) rfl rfl (Go.WideMaps.keyOf_string_mk Tryd.underlying9 (by decide)) (.lit (.int .i64 1)) [] (plainElem_int Tryd.underlying3 (by decide)) fun w3 m3 s3 => ?_
  have b3 := b2.grown s3 b2.size (fun k hk => by cases hk; exact Nat.le_refl _); refine map36_ins w3 g4 _ _ _ 79 e4 d4 9 3 (Go.Maps.string_keyed Tryd.underlying9) Tryd.underlying79 _ w.heap.size 3 _ hX m3 (by decide) (.string ⟨#[116]⟩) (.int .i64 1) (.string [116]) rfl rfl (Go.WideMaps.keyOf_string_mk Tryd.underlying9 (by decide)) (.lit (.int .i64 1)) [] (plainElem_int Tryd.underlying3 (by decide)) fun w4 m4 s4 => ?_
  have b4 := b3.grown s4 b3.size (fun k hk => by cases hk; exact Nat.le_refl _); refine map36_ins w4 g5 _ _ _ 79 e5 d5 9 3 (Go.Maps.string_keyed Tryd.underlying9) Tryd.underlying79 _ w.heap.size 4 _ hX m4 (by decide) (.string ⟨#[99]⟩) (.int .i64 1) (.string [99]) rfl rfl (Go.WideMaps.keyOf_string_mk Tryd.underlying9 (by decide)) (.lit (.int .i64 1)) [] (plainElem_int Tryd.underlying3 (by decide)) fun w5 m5 s5 => ?_
  have b5 := b4.grown s5 b4.size (fun k hk => by cases hk; exact Nat.le_refl _); refine map36_ins w5 g6 _ _ _ 79 e6 d6 9 3 (Go.Maps.string_keyed Tryd.underlying9) Tryd.underlying79 _ w.heap.size 5 _ hX m5 (by decide) (.string ⟨#[121]⟩) (.int .i64 1) (.string [121]) rfl rfl (Go.WideMaps.keyOf_string_mk Tryd.underlying9 (by decide)) (.lit (.int .i64 1)) [] (plainElem_int Tryd.underlying3 (by decide)) fun w6 m6 s6 => ?_
  have b6 := b5.grown s6 b5.size (fun k hk => by cases hk; exact Nat.le_refl _); refine map36_ins w6 g7 _ _ _ 79 e7 d7 9 3 (Go.Maps.string_keyed Tryd.underlying9) Tryd.underlying79 _ w.heap.size 6 _ hX m6 (by decide) (.string ⟨#[102]⟩) (.int .i64 3) (.string [102]) rfl rfl (Go.WideMaps.keyOf_string_mk Tryd.underlying9 (by decide)) (.lit (.int .i64 3)) [] (plainElem_int Tryd.underlying3 (by decide)) fun w7 m7 s7 => ?_
  have b7 := b6.grown s7 b6.size (fun k hk => by cases hk; exact Nat.le_refl _); refine map36_ins w7 g8 _ _ _ 79 e8 d8 9 3 (Go.Maps.string_keyed Tryd.underlying9) Tryd.underlying79 _ w.heap.size 7 _ hX m7 (by decide) (.string ⟨#[109]⟩) (.int .i64 3) (.string [109]) rfl rfl (Go.WideMaps.keyOf_string_mk Tryd.underlying9 (by decide)) (.lit (.int .i64 3)) [] (plainElem_int Tryd.underlying3 (by decide)) fun w8 m8 s8 => ?_
  have b8 := b7.grown s8 b7.size (fun k hk => by cases hk; exact Nat.le_refl _); exact K w8 m8 b8
def map_make36.f  : Option (Int) := some 0

/-! ### map_look36: function 156 -/
def map_look36.f (a0 : ByteArray) : Option (Int × Bool) := if a0.size ≤ maxLen then some (map36_L a0.data.toList) else none
/-- A key is looked for. -/
theorem map36_look {ops : Array Oper} {rest : List Oper} {Q : Exit → Act → World → Prop} {a : Act} {w : World} {ty : TypeId} {ps : String} {af : Array Edge} {b : Nat} {m x : Operand} (hown : w.ownsMap Tryd.prog 9 (plainElem Tryd.prog 3) b 8 map36_D) (s : ByteArray) {r1 : Int} {r2 : Bool} (h : map_look36.f s = some (r1, r2)) {Y : Tmp}
    (q : a.eval m = .map (some b) ∧ a.eval x = .string s) (K : wpList Tryd.prog ops Q rest (a.put (some Y) (.tuple #[.int .i64 r1, .bool r2])) w) : wpList Tryd.prog ops Q ({ dst := some Y, op := Op.lookup 79 m x true, type := ty, pos := ps, after := af, guard := none } :: rest) a w := by
  obtain ⟨hm, hx⟩ := q; unfold map_look36.f at h; split at h
  · rename_i hs; have e := Option.some.inj h; refine wpList_lookup_own_ok_int w rfl m x 79 rfl 9 3 .i64 (Go.Maps.string_keyed Tryd.underlying9) Tryd.underlying79 Tryd.underlying3 (by kernel_rfl) b 8 map36_D hm hown (.string s) (.string s.data.toList) hx (Go.WideMaps.keyOf_string_mk Tryd.underlying9 hs) fun c hc _ => ?_
    have h2 := map36_at s.data.toList; rw [hc] at h2; rw [e] at h2; have e1 : c = r1 := by injection h2.1 with h3; injection h3
    have h4 : Go.Maps.has map36_D (.string s.data.toList) = r2 := h2.2; rw [h4, e1]; exact K
  · cases h

end Go.Proofs.YtdfnljchoomliaaDoor.PFnExactInsParse
