/- Functions of the program as plain Lean functions, each with a proof that the program's call comes to the same; no condition. Written by a program of this session. -/
import Derived.Test.YtdfnljchoomliaaDoorPFnExactTypeShownx0
namespace Go.Proofs.YtdfnljchoomliaaDoor.PFnExactTypeShown
open Go.RowKit Go.Proofs.YtdfnljchoomliaaDoorW.PrintWords Go.Proofs.YtdfnljchoomliaaDoorW.PrintLast Go.Proofs.YtdfnljchoomliaaDoorW.PrintMore
open Go.Proofs.YtdfnljchoomliaaDoorW.PrintWords renaming below_alloc → Zba, pw_below_drewN → Zbn, below_drew1 → Zbd, below_set → Zbs, below_size → Zbz, below_step → Zbt, blk_drewN → Zkn, blk_drew → Zkd, blk_alloc → Zka, blk_cell → Zkc, blk_frozen → Zkf, blk_far → Zkr, blk_put → Zkp, blk_below → Zkb
open Go.Proofs.YtdfnljchoomliaaDoorW.PrintWords.Aside0 renaming mk → Zm
attribute [local go_sem] max2_int min2_int max_two min_two max_three min_three max_four min_four   -- for this text's walks alone
set_option linter.unusedVariables false
set_option linter.unusedSimpArgs false

/-! ### laws_szType: function 7 -/
def laws_szType.f (a0_0 : Int) (a0_1 : ByteArray) (a0_2 : Int) (a1 : Int) : Option (Int) := if (wrap64 (a1 - (a0_1.size : Int))) < 0 then (some (-1)) else (some (wrap64 (a1 - (a0_1.size : Int))))
set_option maxHeartbeats 8000000 in
set_option maxRecDepth 100000 in
theorem laws_szType.calls (a0_0 : Int) (a0_1 : ByteArray) (a0_2 : Int) (a1 : Int) (r : Int) (w : World) (h : laws_szType.f a0_0 a0_1 a0_2 a1 = some r) :
 Calls Tryd.prog 7 #[.agg #[.int .i64 a0_0, .string a0_1, .int .i64 a0_2], .int .i64 a1] w fun e w' => e = .returned (.int .i64 r) ∧ Below w.heap.size w w' := by
 have hu23 := Tryd.underlying23; have HB := Zm (Below.refl w.heap.size w); have H : (if (wrap64 (a1 - (a0_1.size : Int))) < 0 then (some (-1)) else (some (wrap64 (a1 - (a0_1.size : Int))))) = some r := h; clear h; have HC3 := Zm H; clear H; go_enter Tryd.func7, Tryd.ntmps7; go_upto_if 11 with (first | ((with_reducible refine gate_dst (N := 2) rfl ?_); refine box_event ?hg (N := 2) ?hd (cs := #[.int .i64 a0_0, .string a0_1, .int .i64 a0_2]) (t := 23) ?hr ?_; (case hd => rfl); (case hg => rfl); (case hr => first | (go_simp; done) | (go_simp; rfl)); intro gb101 hg w4 hbox hb; have n0_ := (⟨Zm (Zbt (bk HB.out) hb), Zm (hbox), Zm ((by rw [hg]; exact (Zbz (bk HB.out)) : w.heap.size ≤ gb101)), Zm ((by rw [hg]; exact (Zbz (bk HB.out)) : w.heap.size ≤ gb101))⟩ : _ ∧ _ ∧ _ ∧ _); clear HB; obtain ⟨HB, BK101, GW101, GE101⟩ := n0_; clear hb hbox hg; obtain ⟨hcz5_0, hcz5_1, hcz5_2⟩ := cz3 BK101.out; have hfz5_2 := Zkf BK101.out 2)); have H := HC3.out; clear HC3; by_cases c6 : (wrap64 (a1 - (a0_1.size : Int))) < 0; rotate_left
 · rw [if_neg c6] at H; have c6b0 := decide_eq_false c6; (try (have c6b1 : decide ((IntKind.i64.wrap (a1 - (a0_1.size : Int))) < 0) = false := by simp only [i64_w]; exact (decide_eq_false c6))); clear c6; (first | rw [c6b0] | (simp only [i64_w, i32_w]; rw [c6b0]) | skip); obtain rfl := Option.some.inj H; go_wp2; go_ret; exact fin_ HB

 rw [if_pos c6] at H
 have c6b0 := decide_eq_true c6
 (try (have c6b1 : decide ((IntKind.i64.wrap (a1 - (a0_1.size : Int))) < 0) = true := by simp only [i64_w]; exact (decide_eq_true c6)))
 clear c6
 (first | rw [c6b0] | (simp only [i64_w, i32_w]; rw [c6b0]) | skip)
 obtain rfl := Option.some.inj H
 go_wp2
 go_ret
 exact fin_ HB
/-! ### spec_l01Dec: function 23 -/
def spec_l01Dec.l0 : Nat → Int → Bool → ByteArray → Option (ByteArray)
 | 0, _, _, _ => none
 | k + 1, x0, x3, x4 => if x0 = 0 then (if x3 = true then (if 1 + x4.size ≤ 9223372036854775807 then (some ((⟨#[45]⟩ : ByteArray) ++ x4)) else (none)) else (some x4)) else (if (Int.tmod x0 10) < 0 then ((some (([(wrap64 (48 + (wrap64 (-(Int.tmod x0 10))))) % 256] : List Int) : List Int)).bind fun y102 => (if (strOfNums y102).size + x4.size ≤ 9223372036854775807 then (spec_l01Dec.l0 k (wrap64 (Int.tdiv x0 10)) x3 ((strOfNums y102) ++ x4)) else (none))) else ((some (([(wrap64 (48 + (Int.tmod x0 10))) % 256] : List Int) : List Int)).bind fun y105 => (if (strOfNums y105).size + x4.size ≤ 9223372036854775807 then (spec_l01Dec.l0 k (wrap64 (Int.tdiv x0 10)) x3 ((strOfNums y105) ++ x4)) else (none))))
def spec_l01Dec.f (k : Nat) (a0 : Int) : Option (ByteArray) := if a0 = 0 then (some (⟨#[48]⟩ : ByteArray)) else (spec_l01Dec.l0 k a0 (decide (a0 < 0)) (⟨#[]⟩ : ByteArray))
theorem spec_l01Dec.mono_l : ∀ k, (∀ y0 y1 y2, LeO (spec_l01Dec.l0 k y0 y1 y2) (spec_l01Dec.l0 (k + 1) y0 y1 y2))
 | 0 => fun _ _ _ r h => by simp [spec_l01Dec.l0] at h
 | k + 1 => by
  have ih0 := spec_l01Dec.mono_l k
  · intro y0 y1 y2; unfold spec_l01Dec.l0
    repeat' first
    | (with_reducible exact ih0 _ _ _)
    | (with_reducible exact LeO.refl _)
    | (with_reducible exact LeO.none _)
    | (with_reducible refine LeO.ite ?_ ?_)
    | (with_reducible refine LeO.bind ?_ (fun _ => ?_))
    | exact ih0 _ _ _
    | exact LeO.none _
    | refine LeO.ite ?_ ?_
    | refine LeO.bind ?_ (fun _ => ?_)
theorem spec_l01Dec.mono : ∀ a0 k, LeO (spec_l01Dec.f k a0) (spec_l01Dec.f (k + 1) a0) := by
 intro a0 k; have ih0 := spec_l01Dec.mono_l k; unfold spec_l01Dec.f
 repeat' first
  | (with_reducible exact ih0 _ _ _)
  | (with_reducible exact LeO.refl _)
  | (with_reducible exact LeO.none _)
  | (with_reducible refine LeO.ite ?_ ?_)
  | (with_reducible refine LeO.bind ?_ (fun _ => ?_))
  | exact ih0 _ _ _
  | exact LeO.none _
  | refine LeO.ite ?_ ?_
  | refine LeO.bind ?_ (fun _ => ?_)
set_option maxHeartbeats 8000000 in
set_option maxRecDepth 100000 in
theorem spec_l01Dec.calls (k : Nat) (a0 : Int) (r : ByteArray) (w : World) (h : spec_l01Dec.f k a0 = some r) :
 Calls Tryd.prog 23 #[.int .i64 a0] w fun e w' => e = .returned (.string r) ∧ Below w.heap.size w w' := by
 have HB := Zm (Below.refl w.heap.size w); have H : (if a0 = 0 then (some (⟨#[48]⟩ : ByteArray)) else (spec_l01Dec.l0 k a0 (decide (a0 < 0)) (⟨#[]⟩ : ByteArray))) = some r := h; clear h; by_cases c2 : a0 = 0; rotate_left
 · rw [if_neg c2] at H; have c2b0 : (a0 == 0) = false := beq_eq_false_iff_ne.mpr c2; have c2b1 : (a0 != 0) = true := bne_iff_ne.mpr c2; have H' := Zm H; clear H; go_enter Tryd.func23, Tryd.ntmps23; go_wp2; go_loopg [0, 4] k (fun kq v0 v4 w' => ∃ (x0_1 : Int) (x4_1 : ByteArray), v0 = .int .i64 x0_1 ∧ v4 = .string x4_1 ∧ Aside0 (spec_l01Dec.l0 kq x0_1 (decide (a0 < 0)) x4_1 = some r) ∧ Aside0 (kq ≤ k) ∧ Aside0 (Below w.heap.size w w'))
   case atStart => exact ⟨(a0), ((⟨#[]⟩ : ByteArray)), (by first | rfl | (simp; done) | (simp [*]; done)), (by first | rfl | (simp; done) | (simp [*]; done)), H', ⟨Nat.le_refl _⟩, ⟨bk HB.out⟩⟩
   case round =>
    clear H'; (try clear c2); (try clear c2b0); (try clear c2b1); obtain ⟨x0_1, x4_1, rfl, rfl, HA, HK1, HB⟩ := hrel
    cases gk with
    | zero => exact absurd HA.out (by simp [spec_l01Dec.l0])
    | succ k1 =>
     have H := HA.out; clear HA; simp only [spec_l01Dec.l0] at H; by_cases c3 : x0_1 = 0; rotate_left
     · rw [if_neg c3] at H; have c3b0 : (x0_1 == 0) = false := beq_eq_false_iff_ne.mpr c3; have c3b1 : (x0_1 != 0) = true := bne_iff_ne.mpr c3; by_cases c6 : (Int.tmod x0_1 10) < 0; rotate_left
       · rw [if_neg c6] at H; have c6b0 := decide_eq_false c6; clear c6; obtain ⟨y105, hy105⟩ : ∃ y_ : List Int, y_ = (([(wrap64 (48 + (Int.tmod x0_1 10))) % 256] : List Int)) := ⟨_, rfl⟩; replace H : (if (strOfNums y105).size + x4_1.size ≤ 9223372036854775807 then (spec_l01Dec.l0 k1 (wrap64 (Int.tdiv x0_1 10)) (decide (a0 < 0)) ((strOfNums y105) ++ x4_1)) else (none)) = some r := by first | (rw [hy105]; with_reducible exact H) | (have H2_ := (Option.bind_some _ _).symm.trans H; rw [hy105]; with_reducible exact H2_) | (have H2_ := (Option.bind_some _ _).symm.trans H; with_reducible exact H2_) | with_reducible exact H | (rw [hy105]; exact H) | exact H
         have Ny105 := Zm hy105; clear hy105; by_cases c11 : (strOfNums y105).size + x4_1.size ≤ 9223372036854775807; rotate_left
         · rw [if_neg c11] at H; exact absurd H (by simp)

         rw [if_pos c11] at H
         have c11b0 := eq_true c11
         have c11b1 := decide_eq_true c11
         try have c11b2 : (9223372036854775807 < (strOfNums y105).size + x4_1.size) = False := eq_false (Nat.not_lt.2 c11)
         have H' := Zm H
         clear H
         go_wp2_with (first | ((with_reducible refine gate_dst (N := 21) rfl ?_); refine Kd.R_lit (Kd.int .u8) _ 5 ?hg (N := 21) ?hd (xs := ([(wrap64 (48 + (Int.tmod x0_1 10))) % 256] : List Int)) (inner := [.int .u8 ((wrap64 (48 + (Int.tmod x0_1 10))) % 256)]) (ok := fun _ => True) (okp := fun _ => True) ?hr ?hp (fun _ hk => hk) trivial (Below.refl _ _) (Nat.le_refl _) (by simp) ?_; (case hd => rfl); (case hg => rfl); (case hr => first | (go_simp; done) | (go_simp; rfl)); (case hp => exact (Reps.one (show Kd.M (Kd.int .u8) _ _ _ ((wrap64 (48 + (Int.tmod x0_1 10))) % 256) [.int .u8 ((wrap64 (48 + (Int.tmod x0_1 10))) % 256)] from rfl) (Reps.none _ _))); intro v106 w12 ho13 hb hg_ hnew_; clear hg_ hnew_; (first | rw [← Ny105.out] at ho13 | (simp only [Int.reduceToNat] at ho13; rw [← Ny105.out] at ho13)); have n0_ := (⟨Zm (Kd.R_lower ho13 (Zbz (bk HB.out))), Zm (Zbt (bk HB.out) hb)⟩ : _ ∧ _); clear HB; obtain ⟨HO107, HB⟩ := n0_; clear hb ho13; have hcv14 := own_string (P := Tryd.prog) Tryd.underlying63 Tryd.underlying5 Tryd.underlying9 (Kd.own_of_R HO107.out)))
         go_roundg k1
         case measure => have := HK1.out; omega
         case rel => exact ⟨(wrap64 (Int.tdiv x0_1 10)), ((strOfNums y105) ++ x4_1), (by first | rfl | (simp; done) | (simp [*]; done)), (by first | rfl | (simp; done) | (simp [*]; done)), H', ⟨by have := HK1.out; omega⟩, ⟨bk HB.out⟩⟩
       rw [if_pos c6] at H
       have c6b0 := decide_eq_true c6
       clear c6
       obtain ⟨y102, hy102⟩ : ∃ y_ : List Int, y_ = (([(wrap64 (48 + (wrap64 (-(Int.tmod x0_1 10))))) % 256] : List Int)) := ⟨_, rfl⟩
       replace H : (if (strOfNums y102).size + x4_1.size ≤ 9223372036854775807 then (spec_l01Dec.l0 k1 (wrap64 (Int.tdiv x0_1 10)) (decide (a0 < 0)) ((strOfNums y102) ++ x4_1)) else (none)) = some r := by first | (rw [hy102]; with_reducible exact H) | (have H2_ := (Option.bind_some _ _).symm.trans H; rw [hy102]; with_reducible exact H2_) | (have H2_ := (Option.bind_some _ _).symm.trans H; with_reducible exact H2_) | with_reducible exact H | (rw [hy102]; exact H) | exact H
       have Ny102 := Zm hy102
       clear hy102
       by_cases c7 : (strOfNums y102).size + x4_1.size ≤ 9223372036854775807
       rotate_left
       · rw [if_neg c7] at H
         exact absurd H (by simp)
       rw [if_pos c7] at H
       have c7b0 := eq_true c7
       have c7b1 := decide_eq_true c7
       try have c7b2 : (9223372036854775807 < (strOfNums y102).size + x4_1.size) = False := eq_false (Nat.not_lt.2 c7)
       have H' := Zm H
       clear H
       go_wp2_with (first | ((with_reducible refine gate_dst (N := 21) rfl ?_); refine Kd.R_lit (Kd.int .u8) _ 5 ?hg (N := 21) ?hd (xs := ([(wrap64 (48 + (wrap64 (-(Int.tmod x0_1 10))))) % 256] : List Int)) (inner := [.int .u8 ((wrap64 (48 + (wrap64 (-(Int.tmod x0_1 10))))) % 256)]) (ok := fun _ => True) (okp := fun _ => True) ?hr ?hp (fun _ hk => hk) trivial (Below.refl _ _) (Nat.le_refl _) (by simp) ?_; (case hd => rfl); (case hg => rfl); (case hr => first | (go_simp; done) | (go_simp; rfl)); (case hp => exact (Reps.one (show Kd.M (Kd.int .u8) _ _ _ ((wrap64 (48 + (wrap64 (-(Int.tmod x0_1 10))))) % 256) [.int .u8 ((wrap64 (48 + (wrap64 (-(Int.tmod x0_1 10))))) % 256)] from rfl) (Reps.none _ _))); intro v103 w8 ho9 hb hg_ hnew_; clear hg_ hnew_; (first | rw [← Ny102.out] at ho9 | (simp only [Int.reduceToNat] at ho9; rw [← Ny102.out] at ho9)); have n0_ := (⟨Zm (Kd.R_lower ho9 (Zbz (bk HB.out))), Zm (Zbt (bk HB.out) hb)⟩ : _ ∧ _); clear HB; obtain ⟨HO104, HB⟩ := n0_; clear hb ho9; have hcv10 := own_string (P := Tryd.prog) Tryd.underlying63 Tryd.underlying5 Tryd.underlying9 (Kd.own_of_R HO104.out)))
       go_roundg k1
       case measure => have := HK1.out; omega
       case rel => exact ⟨(wrap64 (Int.tdiv x0_1 10)), ((strOfNums y102) ++ x4_1), (by first | rfl | (simp; done) | (simp [*]; done)), (by first | rfl | (simp; done) | (simp [*]; done)), H', ⟨by have := HK1.out; omega⟩, ⟨bk HB.out⟩⟩
     rw [if_pos c3] at H
     have c3b0 : (x0_1 == 0) = true := beq_iff_eq.mpr c3
     have c3b1 : (x0_1 != 0) = false := bne_eq_false_iff_eq.mpr c3
     clear c3
     by_cases c4 : (decide (a0 < 0)) = true
     rotate_left
     · rw [if_neg c4] at H
       have c4b0 : (decide (a0 < 0)) = false := by simpa using c4
       try have c4b8 := of_decide_eq_false c4b0
       clear c4
       obtain rfl := Option.some.inj H
       go_wp2
       go_ret
       exact fin_ HB
     rw [if_pos c4] at H
     have c4b0 : (decide (a0 < 0)) = true := c4
     try have c4b8 := of_decide_eq_true c4b0
     clear c4
     by_cases c5 : 1 + x4_1.size ≤ 9223372036854775807
     rotate_left
     · rw [if_neg c5] at H
       exact absurd H (by simp)
     rw [if_pos c5] at H
     have c5b0 := eq_true c5
     have c5b1 := decide_eq_true c5
     try have c5b2 : (9223372036854775807 < 1 + x4_1.size) = False := eq_false (Nat.not_lt.2 c5)
     obtain rfl := Option.some.inj H
     go_wp2
     go_ret
     exact fin_ HB
 rw [if_pos c2] at H
 have c2b0 : (a0 == 0) = true := beq_iff_eq.mpr c2
 have c2b1 : (a0 != 0) = false := bne_eq_false_iff_eq.mpr c2
 clear c2
 obtain rfl := Option.some.inj H
 go_enter Tryd.func23, Tryd.ntmps23
 go_wp2
 go_ret
 exact fin_ HB
/-! ### spec_TypeShown: function 8 -/
def spec_TypeShown.f (k : Nat) (a0_0 : Int) (a0_1 : ByteArray) (a0_2 : Int) : Option (ByteArray) := if a0_0 = 0 then (some (⟨#[116, 111, 112]⟩ : ByteArray)) else (if a0_0 = 1 then (some (⟨#[105, 110, 116]⟩ : ByteArray)) else (if a0_0 = 2 then (some (⟨#[110, 117, 108, 108]⟩ : ByteArray)) else (if a0_0 = 3 then (some a0_1) else (if a0_0 = 4 then (some (⟨#[105, 110, 116, 91, 93]⟩ : ByteArray)) else (if a0_0 = 5 then (if a0_1.size + 2 ≤ 9223372036854775807 then (some (a0_1 ++ (⟨#[91, 93]⟩ : ByteArray))) else (none)) else (if a0_0 = 6 then (if 3 + a0_1.size ≤ 9223372036854775807 then (if ((⟨#[110, 101, 119]⟩ : ByteArray) ++ a0_1).size + 1 ≤ 9223372036854775807 then ((spec_l01Dec.f k a0_2).bind fun t109 => (if (((⟨#[110, 101, 119]⟩ : ByteArray) ++ a0_1) ++ (⟨#[64]⟩ : ByteArray)).size + t109.size ≤ 9223372036854775807 then (some ((((⟨#[110, 101, 119]⟩ : ByteArray) ++ a0_1) ++ (⟨#[64]⟩ : ByteArray)) ++ t109)) else (none))) else (none)) else (none)) else (if a0_0 = 7 then (some (⟨#[116, 104, 105, 115]⟩ : ByteArray)) else (some (⟨#[]⟩ : ByteArray)))))))))
theorem spec_TypeShown.mono : ∀ a0 a1 a2 k, LeO (spec_TypeShown.f k a0 a1 a2) (spec_TypeShown.f (k + 1) a0 a1 a2) := by
 intro a0 a1 a2 k; unfold spec_TypeShown.f
 repeat' first
  | (with_reducible exact spec_l01Dec.mono _ _)
  | (with_reducible exact LeO.refl _)
  | (with_reducible exact LeO.none _)
  | (with_reducible refine LeO.ite ?_ ?_)
  | (with_reducible refine LeO.bind ?_ (fun _ => ?_))
  | exact spec_l01Dec.mono _ _
  | exact LeO.none _
  | refine LeO.ite ?_ ?_
  | refine LeO.bind ?_ (fun _ => ?_)
def spec_TypeShown.T15 : Bool × List (List Nat × List Nat) := (true, [([], []), ([0], [0]), ([1], [1]), ([2], [2]), ([], []), ([4], [4]), ([5], [5]), ([3, 6], [3, 6]), ([7, 6, 0, 1, 2, 3, 4, 5, 6, 7], [7])])
def spec_TypeShown.B15 : List Nat := [0, 1, 3, 7, 0, 16, 48, 127, 255]
theorem spec_TypeShown.tab15 : rtab .any (opsOf Tryd.f8 15) = spec_TypeShown.T15 := by kernel_rfl
theorem spec_TypeShown.bits15 : waitsOk spec_TypeShown.T15.2 spec_TypeShown.B15 = true := by kernel_rfl
set_option maxHeartbeats 8000000 in
set_option maxRecDepth 100000 in
theorem spec_TypeShown.calls (k : Nat) (a0_0 : Int) (a0_1 : ByteArray) (a0_2 : Int) (r : ByteArray) (w : World) (h : spec_TypeShown.f k a0_0 a0_1 a0_2 = some r) :
 Calls Tryd.prog 8 #[.agg #[.int .i64 a0_0, .string a0_1, .int .i64 a0_2]] w fun e w' => e = .returned (.string r) ∧ Below w.heap.size w w' := by
 have hu26 := Tryd.underlying26; have HB := Zm (Below.refl w.heap.size w); have H : (if a0_0 = 0 then (some (⟨#[116, 111, 112]⟩ : ByteArray)) else (if a0_0 = 1 then (some (⟨#[105, 110, 116]⟩ : ByteArray)) else (if a0_0 = 2 then (some (⟨#[110, 117, 108, 108]⟩ : ByteArray)) else (if a0_0 = 3 then (some a0_1) else (if a0_0 = 4 then (some (⟨#[105, 110, 116, 91, 93]⟩ : ByteArray)) else (if a0_0 = 5 then (if a0_1.size + 2 ≤ 9223372036854775807 then (some (a0_1 ++ (⟨#[91, 93]⟩ : ByteArray))) else (none)) else (if a0_0 = 6 then (if 3 + a0_1.size ≤ 9223372036854775807 then (if ((⟨#[110, 101, 119]⟩ : ByteArray) ++ a0_1).size + 1 ≤ 9223372036854775807 then ((spec_l01Dec.f k a0_2).bind fun t109 => (if (((⟨#[110, 101, 119]⟩ : ByteArray) ++ a0_1) ++ (⟨#[64]⟩ : ByteArray)).size + t109.size ≤ 9223372036854775807 then (some ((((⟨#[110, 101, 119]⟩ : ByteArray) ++ a0_1) ++ (⟨#[64]⟩ : ByteArray)) ++ t109)) else (none))) else (none)) else (none)) else (if a0_0 = 7 then (some (⟨#[116, 104, 105, 115]⟩ : ByteArray)) else (some (⟨#[]⟩ : ByteArray)))))))))) = some r := h; clear h; have HC2 := Zm H; clear H; go_enter Tryd.func8, Tryd.ntmps8; go_upto_if 5 with (first | ((with_reducible refine gate_dst (N := 1) rfl ?_); refine box_event ?hg (N := 1) ?hd (cs := #[.int .i64 a0_0, .string a0_1, .int .i64 a0_2]) (t := 26) ?hr ?_; (case hd => rfl); (case hg => rfl); (case hr => first | (go_simp; done) | (go_simp; rfl)); intro gb108 hg w3 hbox hb; have n0_ := (⟨Zm (Zbt (bk HB.out) hb), Zm (hbox), Zm ((by rw [hg]; exact (Zbz (bk HB.out)) : w.heap.size ≤ gb108)), Zm ((by rw [hg]; exact (Zbz (bk HB.out)) : w.heap.size ≤ gb108))⟩ : _ ∧ _ ∧ _ ∧ _); clear HB; obtain ⟨HB, BK108, GW108, GE108⟩ := n0_; clear hb hbox hg; obtain ⟨hcz4_0, hcz4_1, hcz4_2⟩ := cz3 BK108.out; have hfz4_2 := Zkf BK108.out 2)); have H := HC2.out; clear HC2; by_cases c5 : a0_0 = 0; rotate_left
 · rw [if_neg c5] at H; have c5b0 : (a0_0 == 0) = false := beq_eq_false_iff_ne.mpr c5; have c5b1 : (a0_0 != 0) = true := bne_iff_ne.mpr c5; (first | rw [c5b0] | (simp only [i64_w, i32_w]; rw [c5b0]) | skip); by_cases c6 : a0_0 = 1; rotate_left
   · rw [if_neg c6] at H; have c6b0 : (a0_0 == 1) = false := beq_eq_false_iff_ne.mpr c6; have c6b1 : (a0_0 != 1) = true := bne_iff_ne.mpr c6; by_cases c7 : a0_0 = 2; rotate_left
     · rw [if_neg c7] at H; have c7b0 : (a0_0 == 2) = false := beq_eq_false_iff_ne.mpr c7; have c7b1 : (a0_0 != 2) = true := bne_iff_ne.mpr c7; by_cases c8 : a0_0 = 3; rotate_left
       · rw [if_neg c8] at H; have c8b0 : (a0_0 == 3) = false := beq_eq_false_iff_ne.mpr c8; have c8b1 : (a0_0 != 3) = true := bne_iff_ne.mpr c8; by_cases c10 : a0_0 = 4; rotate_left
         · rw [if_neg c10] at H; have c10b0 : (a0_0 == 4) = false := beq_eq_false_iff_ne.mpr c10; have c10b1 : (a0_0 != 4) = true := bne_iff_ne.mpr c10; by_cases c11 : a0_0 = 5; rotate_left
           · rw [if_neg c11] at H; have c11b0 : (a0_0 == 5) = false := beq_eq_false_iff_ne.mpr c11; have c11b1 : (a0_0 != 5) = true := bne_iff_ne.mpr c11; by_cases c14 : a0_0 = 6; rotate_left
             · rw [if_neg c14] at H; have c14b0 : (a0_0 == 6) = false := beq_eq_false_iff_ne.mpr c14; have c14b1 : (a0_0 != 6) = true := bne_iff_ne.mpr c14; by_cases c21 : a0_0 = 7; rotate_left
               · rw [if_neg c21] at H; have c21b0 : (a0_0 == 7) = false := beq_eq_false_iff_ne.mpr c21; have c21b1 : (a0_0 != 7) = true := bne_iff_ne.mpr c21; obtain rfl := Option.some.inj H; go_wp2; go_ret; exact fin_ HB

               rw [if_pos c21] at H
               have c21b0 : (a0_0 == 7) = true := beq_iff_eq.mpr c21
               have c21b1 : (a0_0 != 7) = false := bne_eq_false_iff_eq.mpr c21
               clear c21
               obtain rfl := Option.some.inj H
               go_wp2
               go_ret
               exact fin_ HB
             rw [if_pos c14] at H
             have c14b0 : (a0_0 == 6) = true := beq_iff_eq.mpr c14
             have c14b1 : (a0_0 != 6) = false := bne_eq_false_iff_eq.mpr c14
             clear c14
             by_cases c15 : 3 + a0_1.size ≤ 9223372036854775807
             rotate_left
             · rw [if_neg c15] at H
               exact absurd H (by simp)
             rw [if_pos c15] at H
             have c15b0 := eq_true c15
             have c15b1 := decide_eq_true c15
             try have c15b2 : (9223372036854775807 < 3 + a0_1.size) = False := eq_false (Nat.not_lt.2 c15)
             by_cases c16 : ((⟨#[110, 101, 119]⟩ : ByteArray) ++ a0_1).size + 1 ≤ 9223372036854775807
             rotate_left
             · rw [if_neg c16] at H
               exact absurd H (by simp)
             rw [if_pos c16] at H
             have c16b0 := eq_true c16
             have c16b1 := decide_eq_true c16
             try have c16b2 : (9223372036854775807 < ((⟨#[110, 101, 119]⟩ : ByteArray) ++ a0_1).size + 1) = False := eq_false (Nat.not_lt.2 c16)
             try have c16b9 : (9223372036854775807 < 3 + a0_1.size + 1) = False := eq_false (by have h_ := c16; simp only [ByteArray.size_append] at h_; have z0_ : (⟨#[110, 101, 119]⟩ : ByteArray).size = 3 := rfl; omega)
             replace H := Option.bind_eq_some_iff.mp H
             obtain ⟨t109, A170, H⟩ := H
             (try dsimp only at H)
             have A17 := Zm A170
             clear A170
             by_cases c18 : (((⟨#[110, 101, 119]⟩ : ByteArray) ++ a0_1) ++ (⟨#[64]⟩ : ByteArray)).size + t109.size ≤ 9223372036854775807
             rotate_left
             · rw [if_neg c18] at H
               exact absurd H (by simp)
             rw [if_pos c18] at H
             have c18b0 := eq_true c18
             have c18b1 := decide_eq_true c18
             try have c18b2 : (9223372036854775807 < (((⟨#[110, 101, 119]⟩ : ByteArray) ++ a0_1) ++ (⟨#[64]⟩ : ByteArray)).size + t109.size) = False := eq_false (Nat.not_lt.2 c18)
             try have c18b9 : (9223372036854775807 < 3 + a0_1.size + 1 + t109.size) = False := eq_false (by have h_ := c18; simp only [ByteArray.size_append] at h_; have z0_ : (⟨#[110, 101, 119]⟩ : ByteArray).size = 3 := rfl; have z1_ : (⟨#[64]⟩ : ByteArray).size = 1 := rfl; omega)
             obtain rfl := Option.some.inj H
             try go_wp2
             have n0_ := (⟨Zm (Zkd BK108.out), Zm (Zbd HB.out)⟩ : _ ∧ _)
             clear BK108 HB
             obtain ⟨BK108, HB⟩ := n0_
             refine start_ (n := 9) (S := fun w' => w'.cell? ⟨gb108, 0, none⟩ = some (.int .i64 a0_0) ∧ w'.cell? ⟨gb108, 1, none⟩ = some (.string a0_1) ∧ w'.cell? ⟨gb108, 2, none⟩ = some (.int .i64 a0_2)) (ds := []) #[false, false, false, false, false, false, false, false, false] (by kernel_rfl) rfl rfl ⟨(Zkc BK108.out 0).trans rfl, (Zkc BK108.out 1).trans rfl, (Zkc BK108.out 2).trans rfl⟩ (fun hHeld => ?_); refine with_tabW spec_TypeShown.tab15 spec_TypeShown.bits15 (fun HT_ HW_ => ?_)
             generalize w3.drew = w19 at BK108 HB hHeld ⊢
             refine pure_ (i := 0) (N := some 24) (v := ?_) (a' := ?_) #[true, false, false, false, false, false, false, false, false] rfl rfl (any_of HT_.out (by kernel_rfl)) (fun _ _ _ h => h) (Or.inl ⟨by rfl, ?_⟩) ?_ ?_
             rotate_left
             · intro w'
               go_simp
               with_reducible rfl
             rotate_left
             · simp only [Act.put, List.setIfInBounds_toArray, List.set_cons_zero, List.set_cons_succ, i64_w, i32_w]
               rfl
             refine pure_ (i := 4) (N := some 28) (v := ?_) (a' := ?_) #[true, false, false, false, true, false, false, false, false] rfl rfl (any_of HT_.out (by kernel_rfl)) (fun _ _ _ h => h) (Or.inl ⟨by rfl, ?_⟩) ?_ ?_
             rotate_left
             · intro w'
               go_simp
               with_reducible rfl
             rotate_left
             · simp only [Act.put, List.setIfInBounds_toArray, List.set_cons_zero, List.set_cons_succ, i64_w, i32_w]
               rfl
             refine take_ (i := 1) (N := some 25) (v := ?_) (a' := ?_) #[true, true, false, false, true, false, false, false, false] rfl rfl (take_ofW HT_.out HW_.out (by kernel_rfl)) (fun _ _ _ h => h) (Or.inl ⟨by rfl, ?_⟩) hHeld ?_ ?_
             rotate_left
             · rintro w' ⟨s0, s1, s2⟩
               go_simp
               with_reducible rfl
             rotate_left
             · simp only [Act.put, List.setIfInBounds_toArray, List.set_cons_zero, List.set_cons_succ, i64_w, i32_w]
               rfl
             refine pure_ (i := 2) (N := some 26) (v := ?_) (a' := ?_) #[true, true, true, false, true, false, false, false, false] rfl rfl (any_of HT_.out (by kernel_rfl)) (fun _ _ _ h => h) (Or.inl ⟨by rfl, ?_⟩) ?_ ?_
             rotate_left
             · intro w'
               go_simp
               with_reducible rfl
             rotate_left
             · simp only [Act.put, List.setIfInBounds_toArray, List.set_cons_zero, List.set_cons_succ, i64_w, i32_w]
               rfl
             refine pure_ (i := 3) (N := some 27) (v := ?_) (a' := ?_) #[true, true, true, true, true, false, false, false, false] rfl rfl (any_of HT_.out (by kernel_rfl)) (fun _ _ _ h => h) (Or.inl ⟨by rfl, ?_⟩) ?_ ?_
             rotate_left
             · intro w'
               go_simp
               with_reducible rfl
             rotate_left
             · simp only [Act.put, List.setIfInBounds_toArray, List.set_cons_zero, List.set_cons_succ, i64_w, i32_w]
               rfl
             refine take_ (i := 5) (N := some 29) (v := ?_) (a' := ?_) #[true, true, true, true, true, true, false, false, false] rfl rfl (take_ofW HT_.out HW_.out (by kernel_rfl)) (fun _ _ _ h => h) (Or.inl ⟨by rfl, ?_⟩) hHeld ?_ ?_
             rotate_left
             · rintro w' ⟨s0, s1, s2⟩
               go_simp
               with_reducible rfl
             rotate_left
             · simp only [Act.put, List.setIfInBounds_toArray, List.set_cons_zero, List.set_cons_succ, i64_w, i32_w]
               rfl
             refine one_ (i := 6) (N := some 30) #[true, true, true, true, true, true, true, false, false] rfl rfl (one_of HT_.out (by kernel_rfl)) (by decide) (fun K hK => ?_)
             refine goes_ Tryd.func23 (by kernel_rfl) rfl #[.int .i64 a0_2] (by rfl) rfl rfl (by (try simp only [List.map_toArray, List.map_cons, List.map_nil]); first | done | rfl | (simp only [List.length_drop, List.length_take]; rfl)) ?_
             with_reducible refine (spec_l01Dec.calls k a0_2 t109 _ A17.out).mono ?_
             rintro e w20 ⟨rfl, hb⟩
             refine ⟨_, rfl, ?_⟩
             have n0_ := Zm (Zkb (pk BK108.out) hb)
             have n1_ := Zm (Zbt (bk HB.out) hb)
             clear BK108
             clear HB
             have BK108 := n0_
             have HB := n1_
             clear n0_ n1_
             refine hK.out _ _ ⟨(Zkc BK108.out 0).trans rfl, (Zkc BK108.out 1).trans rfl, (Zkc BK108.out 2).trans rfl⟩ (fun hHeld => ?_)
             clear hK K
             refine norm_ (a' := ?_) ?_ ?_
             rotate_left
             · show Act.put _ (some 30) _ = _
               simp only [Act.put, List.setIfInBounds_toArray, List.set_cons_zero, List.set_cons_succ, i64_w, i32_w]
               rfl
             refine pure_ (i := 7) (N := some 31) (v := ?_) (a' := ?_) #[true, true, true, true, true, true, true, true, false] rfl rfl (any_of HT_.out (by kernel_rfl)) (fun _ _ _ h => h) (Or.inl ⟨by rfl, ?_⟩) ?_ ?_
             rotate_left
             · intro w'
               go_simp
               with_reducible rfl
             rotate_left
             · simp only [Act.put, List.setIfInBounds_toArray, List.set_cons_zero, List.set_cons_succ, i64_w, i32_w]
               rfl
             refine pure_ (i := 8) (N := some 2) (v := ?_) (a' := ?_) #[true, true, true, true, true, true, true, true, true] rfl rfl (any_of HT_.out (by kernel_rfl)) (fun _ _ _ h => h) (Or.inl ⟨by rfl, ?_⟩) ?_ ?_
             rotate_left
             · intro w'
               go_simp
               with_reducible rfl
             rotate_left
             · simp only [Act.put, List.setIfInBounds_toArray, List.set_cons_zero, List.set_cons_succ, i64_w, i32_w]
               rfl
             refine done_ (done_of HT_.out (by kernel_rfl)) ?_
             try go_wp2
             go_ret
             exact fin_ HB
           rw [if_pos c11] at H
           have c11b0 : (a0_0 == 5) = true := beq_iff_eq.mpr c11
           have c11b1 : (a0_0 != 5) = false := bne_eq_false_iff_eq.mpr c11
           clear c11
           by_cases c12 : a0_1.size + 2 ≤ 9223372036854775807
           rotate_left
           · rw [if_neg c12] at H
             exact absurd H (by simp)
           rw [if_pos c12] at H
           have c12b0 := eq_true c12
           have c12b1 := decide_eq_true c12
           try have c12b2 : (9223372036854775807 < a0_1.size + 2) = False := eq_false (Nat.not_lt.2 c12)
           obtain rfl := Option.some.inj H
           obtain ⟨hcz13_0, hcz13_1, hcz13_2⟩ := cz3 BK108.out
           go_wp2
           go_ret
           exact fin_ HB
         rw [if_pos c10] at H
         have c10b0 : (a0_0 == 4) = true := beq_iff_eq.mpr c10
         have c10b1 : (a0_0 != 4) = false := bne_eq_false_iff_eq.mpr c10
         clear c10
         obtain rfl := Option.some.inj H
         go_wp2
         go_ret
         exact fin_ HB
       rw [if_pos c8] at H
       have c8b0 : (a0_0 == 3) = true := beq_iff_eq.mpr c8
       have c8b1 : (a0_0 != 3) = false := bne_eq_false_iff_eq.mpr c8
       clear c8
       obtain rfl := Option.some.inj H
       obtain ⟨hcz9_0, hcz9_1, hcz9_2⟩ := cz3 BK108.out
       go_wp2
       go_ret
       exact fin_ HB
     rw [if_pos c7] at H
     have c7b0 : (a0_0 == 2) = true := beq_iff_eq.mpr c7
     have c7b1 : (a0_0 != 2) = false := bne_eq_false_iff_eq.mpr c7
     clear c7
     obtain rfl := Option.some.inj H
     go_wp2
     go_ret
     exact fin_ HB
   rw [if_pos c6] at H
   have c6b0 : (a0_0 == 1) = true := beq_iff_eq.mpr c6
   have c6b1 : (a0_0 != 1) = false := bne_eq_false_iff_eq.mpr c6
   clear c6
   obtain rfl := Option.some.inj H
   go_wp2
   go_ret
   exact fin_ HB
 rw [if_pos c5] at H
 have c5b0 : (a0_0 == 0) = true := beq_iff_eq.mpr c5
 have c5b1 : (a0_0 != 0) = false := bne_eq_false_iff_eq.mpr c5
 clear c5
 (first | rw [c5b0] | (simp only [i64_w, i32_w]; rw [c5b0]) | skip)
 obtain rfl := Option.some.inj H
 go_wp2
 go_ret
 exact fin_ HB
/-! ### laws_toType: function 9 -/
def laws_toType.f (a0_0 : Int) (a0_1 : ByteArray) (a0_2 : Int) : Option (Int × ByteArray × Int) := some (a0_0, a0_1, a0_2)
set_option maxHeartbeats 8000000 in
set_option maxRecDepth 100000 in
theorem laws_toType.calls (a0_0 : Int) (a0_1 : ByteArray) (a0_2 : Int) (r1 : Int) (r2 : ByteArray) (r3 : Int) (w : World) (h : laws_toType.f a0_0 a0_1 a0_2 = some (r1, r2, r3)) :
 Calls Tryd.prog 9 #[.agg #[.int .i64 a0_0, .string a0_1, .int .i64 a0_2]] w fun e w' => e = .returned (.agg #[.int .i64 r1, .string r2, .int .i64 r3]) ∧ Below w.heap.size w w' := by
 have hu23 := Tryd.underlying23; have hu26 := Tryd.underlying26; have HB := Zm (Below.refl w.heap.size w); have H : (some (a0_0, a0_1, a0_2)) = some (r1, r2, r3) := h; clear h; simp only [Option.some.injEq, Prod.mk.injEq] at H; obtain ⟨rfl, rfl, rfl⟩ := H; go_enter Tryd.func9, Tryd.ntmps9; go_wp2_with (first | ((with_reducible refine gate_dst (N := 1) rfl ?_); refine box_event ?hg (N := 1) ?hd (cs := #[.int .i64 a0_0, .string a0_1, .int .i64 a0_2]) (t := 23) ?hr ?_; (case hd => rfl); (case hg => rfl); (case hr => first | (go_simp; done) | (go_simp; rfl)); intro gb110 hg w2 hbox hb; have n0_ := (⟨Zm (Zbt (bk HB.out) hb), Zm (hbox), Zm ((by rw [hg]; exact (Zbz (bk HB.out)) : w.heap.size ≤ gb110)), Zm ((by rw [hg]; exact (Zbz (bk HB.out)) : w.heap.size ≤ gb110))⟩ : _ ∧ _ ∧ _ ∧ _); clear HB; obtain ⟨HB, BK110, GW110, GE110⟩ := n0_; clear hb hbox hg) | ((with_reducible refine gate_dst (N := 2) rfl ?_); refine box_event ?hg (N := 2) ?hd (cs := #[.int .i64 0, .string (⟨#[]⟩ : ByteArray), .int .i64 0]) (t := 26) ?hr ?_; (case hd => rfl); (case hg => rfl); (case hr => first | (go_simp; done) | (go_simp; rfl)); intro gb111 hg w3 hbox hb; have n0_ := (⟨Zm (Zkb (pk BK110.out) hb), Zm (Zbt (bk HB.out) hb), Zm (hbox), Zm ((by rw [hg]; exact (Zbz (bk HB.out)) : w.heap.size ≤ gb111)), Zm ((by rw [hg]; exact (Zbz (bk HB.out)) : w.heap.size ≤ gb111)), Zm ((by rw [hg]; exact Nat.ne_of_lt (blk_lt (pk BK110.out)) : gb110 ≠ gb111)), Zm ((by rw [hg]; exact Nat.ne_of_gt (blk_lt (pk BK110.out)) : gb111 ≠ gb110))⟩ : _ ∧ _ ∧ _ ∧ _ ∧ _ ∧ _ ∧ _); clear BK110 HB; obtain ⟨BK110, HB, BK111, GW111, GE111, NB110_111, NB111_110⟩ := n0_; clear hb hbox hg) | ((with_reducible refine gate_dst (N := 3) rfl ?_); refine box_event ?hg (N := 3) ?hd (cs := #[.int .i64 0, .string (⟨#[]⟩ : ByteArray), .int .i64 0]) (t := 26) ?hr ?_; (case hd => rfl); (case hg => rfl); (case hr => first | (go_simp; done) | (go_simp; rfl)); intro gb112 hg w4 hbox hb; have n0_ := (⟨Zm (Zkb (pk BK110.out) hb), Zm (Zkb (pk BK111.out) hb), Zm (Zbt (bk HB.out) hb), Zm (hbox), Zm ((by rw [hg]; exact (Zbz (bk HB.out)) : w.heap.size ≤ gb112)), Zm ((by rw [hg]; exact (Zbz (bk HB.out)) : w.heap.size ≤ gb112)), Zm ((by rw [hg]; exact Nat.ne_of_lt (blk_lt (pk BK110.out)) : gb110 ≠ gb112)), Zm ((by rw [hg]; exact Nat.ne_of_gt (blk_lt (pk BK110.out)) : gb112 ≠ gb110)), Zm ((by rw [hg]; exact Nat.ne_of_lt (blk_lt (pk BK111.out)) : gb111 ≠ gb112)), Zm ((by rw [hg]; exact Nat.ne_of_gt (blk_lt (pk BK111.out)) : gb112 ≠ gb111))⟩ : _ ∧ _ ∧ _ ∧ _ ∧ _ ∧ _ ∧ _ ∧ _ ∧ _ ∧ _); clear BK110 BK111 HB; obtain ⟨BK110, BK111, HB, BK112, GW112, GE112, NB110_112, NB112_110, NB111_112, NB112_111⟩ := n0_; clear hb hbox hg; have hnb5 := NB110_111.out; have hnc5 := NB111_110.out; have hnb6 := NB110_112.out; have hnc6 := NB112_110.out; obtain ⟨hcz7_0, hcz7_1, hcz7_2⟩ := cz3 BK110.out; have hnb8 := NB112_111.out; have hnc8 := NB111_112.out; obtain ⟨hcz9_0, hcz9_1, hcz9_2⟩ := cz3 BK112.out; have hfz9_0 := Zkf BK112.out 0; have hfz9_1 := Zkf BK112.out 1; have hfz9_2 := Zkf BK112.out 2; obtain ⟨hcz10_0, hcz10_1, hcz10_2⟩ := cz3 BK111.out; have hfz10_0 := Zkf BK111.out 0; have hfz10_1 := Zkf BK111.out 1; have hfz10_2 := Zkf BK111.out 2)); refine bodyPost_ret (results_cell_row rfl _ _ gb111 26 #[.int .i64 a0_0, .string a0_1, .int .i64 a0_2] (0, 0) _ rfl zc_ Tryd.underlying26 rfl (by kernel_rfl)) rfl ?_; exact ⟨by first | rfl | (simp [*] <;> rfl), hb_⟩

/-! ### strconv_FormatInt_62: function 62 -/
theorem tabIs_below {P : Program} {w w' : World} {name : String} {k : IntKind} {zs : List Int} (h : Lib.TabIs P w name k zs) (hb : Below w.heap.size w w') : Lib.TabIs P w' name k zs := by
  unfold Lib.TabIs World.var? at *
  cases hg : P.globalNamed name with
  | none => simp [hg] at h
  | some g =>
    simp only [hg, Option.bind_some] at h ⊢
    have hlt : g < w.heap.size := by
      rcases Nat.lt_or_ge g w.heap.size with h' | h'
      · exact h'
      · rw [Array.getElem?_eq_none h'] at h; simp at h
    rw [hb.block g hlt]; exact h
/-- The listed table, behind what was made since: found by itself. -/
theorem tab_ {P : Program} {w W : World} {name : String} {k : IntKind} {zs : List Int} (ht : Aside0 (Lib.TabIs P w name k zs) := by (with_reducible assumption)) (hb : Below w.heap.size w W := by exact hb_) : Lib.TabIs P W name k zs := tabIs_below ht.out hb
theorem below_grow_ (w : World) (k : Nat) (os : Array Obj) : Below w.heap.size w (Go.Sort.grow (w.drewN k) os) := ⟨rfl, rfl, rfl, by simp [Go.Sort.grow], fun g hg => by simp only [Go.Sort.grow]; exact Array.getElem?_append_left hg⟩
def strconv_FormatInt_62.f (a0 : Int) (a1 : Int) : Option (ByteArray) := if a1 = 10 ∧ -9223372036854775808 ≤ a0 ∧ a0 ≤ 9223372036854775807 then some ⟨(Lib.itoa a0).toArray⟩ else none
set_option maxHeartbeats 8000000 in
set_option maxRecDepth 100000 in
theorem strconv_FormatInt_62.calls (a0 : Int) (a1 : Int) (r : ByteArray) (w : World) (h : strconv_FormatInt_62.f a0 a1 = some r) (htab : Go.Lib.TabIs Tryd.prog w "internal/strconv.uint64pow10" .u64 Go.Lib.pow10Tab := by exact tab_) :
    Calls Tryd.prog 62 #[.int .i64 a0, .int .i64 a1] w fun e w' => e = .returned (.string r) ∧ Below w.heap.size w w' := by
  have HTAB := Zm htab
  clear htab
  unfold strconv_FormatInt_62.f at h; split at h
  · rename_i hc; obtain ⟨rfl, h0, h1⟩ := hc; obtain rfl := Option.some.inj h; exact (Tryd.internal_strconv_FormatInt_10 a0 h0 h1 w HTAB.out).mono fun e w' ⟨he, k, os, hw⟩ => ⟨he, hw ▸ below_grow_ _ _ _⟩
  · cases h

/-! ### strconv_FormatInt_38: function 38 -/
def strconv_FormatInt_38.f (a0 : Int) (a1 : Int) : Option (ByteArray) := (strconv_FormatInt_62.f a0 a1).bind fun t113 => (some t113)
set_option maxHeartbeats 8000000 in
set_option maxRecDepth 100000 in
theorem strconv_FormatInt_38.calls (a0 : Int) (a1 : Int) (r : ByteArray) (w : World) (h : strconv_FormatInt_38.f a0 a1 = some r) (htab : Go.Lib.TabIs Tryd.prog w "internal/strconv.uint64pow10" .u64 Go.Lib.pow10Tab := by exact tab_) :
 Calls Tryd.prog 38 #[.int .i64 a0, .int .i64 a1] w fun e w' => e = .returned (.string r) ∧ Below w.heap.size w w' := by
 have HTAB := Zm htab
 clear htab
 have HB := Zm (Below.refl w.heap.size w); have H : ((strconv_FormatInt_62.f a0 a1).bind fun t113 => (some t113)) = some r := h; clear h; replace H := Option.bind_eq_some_iff.mp H; obtain ⟨t113, A30, H⟩ := H; (try dsimp only at H); have A3 := Zm A30; clear A30; obtain rfl := Option.some.inj H; go_enter Tryd.func38, Tryd.ntmps38; go_wp2_with (first | ((with_reducible refine gate_callee (f := 62) rfl ?_); refine ge_ (some 7) Tryd.func62 #[.int .i64 a0, .int .i64 a1] ?_; (with_reducible refine (strconv_FormatInt_62.calls _ _ _ _ A3.out).mono ?_); rintro e w4 ⟨rfl, hb⟩; refine ⟨_, rfl, ?_⟩; have n0_ := Zm (Zbt (bk HB.out) hb); clear HB; have HB := n0_; clear n0_; (try clear hb); (try clear hb2); (try clear hk); (try clear hi))); go_ret; exact fin_ HB

/-! ### impl_text: function 24 -/
def impl_text.f (a0 : Int) : Option (ByteArray) := (strconv_FormatInt_38.f a0 10).bind fun t114 => (some t114)
set_option maxHeartbeats 8000000 in
set_option maxRecDepth 100000 in
theorem impl_text.calls (a0 : Int) (r : ByteArray) (w : World) (h : impl_text.f a0 = some r) (htab : Go.Lib.TabIs Tryd.prog w "internal/strconv.uint64pow10" .u64 Go.Lib.pow10Tab := by exact tab_) :
 Calls Tryd.prog 24 #[.int .i64 a0] w fun e w' => e = .returned (.string r) ∧ Below w.heap.size w w' := by
 have HTAB := Zm htab
 clear htab
 have HB := Zm (Below.refl w.heap.size w); have H : ((strconv_FormatInt_38.f a0 10).bind fun t114 => (some t114)) = some r := h; clear h; replace H := Option.bind_eq_some_iff.mp H; obtain ⟨t114, A20, H⟩ := H; (try dsimp only at H); have A2 := Zm A20; clear A20; obtain rfl := Option.some.inj H; go_enter Tryd.func24, Tryd.ntmps24; go_wp2_with (first | ((with_reducible refine gate_callee (f := 38) rfl ?_); refine ge_ (some 4) Tryd.func38 #[.int .i64 a0, .int .i64 10] ?_; (with_reducible refine (strconv_FormatInt_38.calls _ _ _ _ A2.out).mono ?_); rintro e w3 ⟨rfl, hb⟩; refine ⟨_, rfl, ?_⟩; have n0_ := Zm (Zbt (bk HB.out) hb); clear HB; have HB := n0_; clear n0_; (try clear hb); (try clear hb2); (try clear hk); (try clear hi))); go_ret; exact fin_ HB

/-! ### impl_TypeShown: function 10 -/
def impl_TypeShown.f (a0_0 : Int) (a0_1 : ByteArray) (a0_2 : Int) : Option (ByteArray) := if a0_0 = 0 then (some (⟨#[116, 111, 112]⟩ : ByteArray)) else (if a0_0 = 1 then (some (⟨#[105, 110, 116]⟩ : ByteArray)) else (if a0_0 = 2 then (some (⟨#[110, 117, 108, 108]⟩ : ByteArray)) else (if a0_0 = 3 then (some a0_1) else (if a0_0 = 4 then (some (⟨#[105, 110, 116, 91, 93]⟩ : ByteArray)) else (if a0_0 = 5 then (if a0_1.size + 2 ≤ 9223372036854775807 then (some (a0_1 ++ (⟨#[91, 93]⟩ : ByteArray))) else (none)) else (if a0_0 = 6 then (if 3 + a0_1.size ≤ 9223372036854775807 then (if ((⟨#[110, 101, 119]⟩ : ByteArray) ++ a0_1).size + 1 ≤ 9223372036854775807 then ((impl_text.f a0_2).bind fun t116 => (if (((⟨#[110, 101, 119]⟩ : ByteArray) ++ a0_1) ++ (⟨#[64]⟩ : ByteArray)).size + t116.size ≤ 9223372036854775807 then (some ((((⟨#[110, 101, 119]⟩ : ByteArray) ++ a0_1) ++ (⟨#[64]⟩ : ByteArray)) ++ t116)) else (none))) else (none)) else (none)) else (if a0_0 = 7 then (some (⟨#[116, 104, 105, 115]⟩ : ByteArray)) else (some (⟨#[]⟩ : ByteArray)))))))))
def impl_TypeShown.T15 : Bool × List (List Nat × List Nat) := (true, [([], []), ([0], [0]), ([1], [1]), ([2], [2]), ([], []), ([4], [4]), ([5], [5]), ([3, 6], [3, 6]), ([7, 6, 0, 1, 2, 3, 4, 5, 6, 7], [7])])
def impl_TypeShown.B15 : List Nat := [0, 1, 3, 7, 0, 16, 48, 127, 255]
theorem impl_TypeShown.tab15 : rtab .any (opsOf Tryd.f10 15) = impl_TypeShown.T15 := by kernel_rfl
theorem impl_TypeShown.bits15 : waitsOk impl_TypeShown.T15.2 impl_TypeShown.B15 = true := by kernel_rfl
set_option maxHeartbeats 8000000 in
set_option maxRecDepth 100000 in
theorem impl_TypeShown.calls (a0_0 : Int) (a0_1 : ByteArray) (a0_2 : Int) (r : ByteArray) (w : World) (h : impl_TypeShown.f a0_0 a0_1 a0_2 = some r) (htab : Go.Lib.TabIs Tryd.prog w "internal/strconv.uint64pow10" .u64 Go.Lib.pow10Tab := by exact tab_) :
 Calls Tryd.prog 10 #[.agg #[.int .i64 a0_0, .string a0_1, .int .i64 a0_2]] w fun e w' => e = .returned (.string r) ∧ Below w.heap.size w w' := by
 have HTAB := Zm htab
 clear htab
 have hu26 := Tryd.underlying26; have HB := Zm (Below.refl w.heap.size w); have H : (if a0_0 = 0 then (some (⟨#[116, 111, 112]⟩ : ByteArray)) else (if a0_0 = 1 then (some (⟨#[105, 110, 116]⟩ : ByteArray)) else (if a0_0 = 2 then (some (⟨#[110, 117, 108, 108]⟩ : ByteArray)) else (if a0_0 = 3 then (some a0_1) else (if a0_0 = 4 then (some (⟨#[105, 110, 116, 91, 93]⟩ : ByteArray)) else (if a0_0 = 5 then (if a0_1.size + 2 ≤ 9223372036854775807 then (some (a0_1 ++ (⟨#[91, 93]⟩ : ByteArray))) else (none)) else (if a0_0 = 6 then (if 3 + a0_1.size ≤ 9223372036854775807 then (if ((⟨#[110, 101, 119]⟩ : ByteArray) ++ a0_1).size + 1 ≤ 9223372036854775807 then ((impl_text.f a0_2).bind fun t116 => (if (((⟨#[110, 101, 119]⟩ : ByteArray) ++ a0_1) ++ (⟨#[64]⟩ : ByteArray)).size + t116.size ≤ 9223372036854775807 then (some ((((⟨#[110, 101, 119]⟩ : ByteArray) ++ a0_1) ++ (⟨#[64]⟩ : ByteArray)) ++ t116)) else (none))) else (none)) else (none)) else (if a0_0 = 7 then (some (⟨#[116, 104, 105, 115]⟩ : ByteArray)) else (some (⟨#[]⟩ : ByteArray)))))))))) = some r := h; clear h; have HC2 := Zm H; clear H; go_enter Tryd.func10, Tryd.ntmps10; go_upto_if 5 with (first | ((with_reducible refine gate_dst (N := 1) rfl ?_); refine box_event ?hg (N := 1) ?hd (cs := #[.int .i64 a0_0, .string a0_1, .int .i64 a0_2]) (t := 26) ?hr ?_; (case hd => rfl); (case hg => rfl); (case hr => first | (go_simp; done) | (go_simp; rfl)); intro gb115 hg w3 hbox hb; have n0_ := (⟨Zm (Zbt (bk HB.out) hb), Zm (hbox), Zm ((by rw [hg]; exact (Zbz (bk HB.out)) : w.heap.size ≤ gb115)), Zm ((by rw [hg]; exact (Zbz (bk HB.out)) : w.heap.size ≤ gb115))⟩ : _ ∧ _ ∧ _ ∧ _); clear HB; obtain ⟨HB, BK115, GW115, GE115⟩ := n0_; clear hb hbox hg; obtain ⟨hcz4_0, hcz4_1, hcz4_2⟩ := cz3 BK115.out; have hfz4_2 := Zkf BK115.out 2)); have H := HC2.out; clear HC2; by_cases c5 : a0_0 = 0; rotate_left
 · rw [if_neg c5] at H; have c5b0 : (a0_0 == 0) = false := beq_eq_false_iff_ne.mpr c5; have c5b1 : (a0_0 != 0) = true := bne_iff_ne.mpr c5; (first | rw [c5b0] | (simp only [i64_w, i32_w]; rw [c5b0]) | skip); by_cases c6 : a0_0 = 1; rotate_left
   · rw [if_neg c6] at H; have c6b0 : (a0_0 == 1) = false := beq_eq_false_iff_ne.mpr c6; have c6b1 : (a0_0 != 1) = true := bne_iff_ne.mpr c6; by_cases c7 : a0_0 = 2; rotate_left
     · rw [if_neg c7] at H; have c7b0 : (a0_0 == 2) = false := beq_eq_false_iff_ne.mpr c7; have c7b1 : (a0_0 != 2) = true := bne_iff_ne.mpr c7; by_cases c8 : a0_0 = 3; rotate_left
       · rw [if_neg c8] at H; have c8b0 : (a0_0 == 3) = false := beq_eq_false_iff_ne.mpr c8; have c8b1 : (a0_0 != 3) = true := bne_iff_ne.mpr c8; by_cases c10 : a0_0 = 4; rotate_left
         · rw [if_neg c10] at H; have c10b0 : (a0_0 == 4) = false := beq_eq_false_iff_ne.mpr c10; have c10b1 : (a0_0 != 4) = true := bne_iff_ne.mpr c10; by_cases c11 : a0_0 = 5; rotate_left
           · rw [if_neg c11] at H; have c11b0 : (a0_0 == 5) = false := beq_eq_false_iff_ne.mpr c11; have c11b1 : (a0_0 != 5) = true := bne_iff_ne.mpr c11; by_cases c14 : a0_0 = 6; rotate_left
             · rw [if_neg c14] at H; have c14b0 : (a0_0 == 6) = false := beq_eq_false_iff_ne.mpr c14; have c14b1 : (a0_0 != 6) = true := bne_iff_ne.mpr c14; by_cases c21 : a0_0 = 7; rotate_left
               · rw [if_neg c21] at H; have c21b0 : (a0_0 == 7) = false := beq_eq_false_iff_ne.mpr c21; have c21b1 : (a0_0 != 7) = true := bne_iff_ne.mpr c21; obtain rfl := Option.some.inj H; go_wp2; go_ret; exact fin_ HB

               rw [if_pos c21] at H
               have c21b0 : (a0_0 == 7) = true := beq_iff_eq.mpr c21
               have c21b1 : (a0_0 != 7) = false := bne_eq_false_iff_eq.mpr c21
               clear c21
               obtain rfl := Option.some.inj H
               go_wp2
               go_ret
               exact fin_ HB
             rw [if_pos c14] at H
             have c14b0 : (a0_0 == 6) = true := beq_iff_eq.mpr c14
             have c14b1 : (a0_0 != 6) = false := bne_eq_false_iff_eq.mpr c14
             clear c14
             by_cases c15 : 3 + a0_1.size ≤ 9223372036854775807
             rotate_left
             · rw [if_neg c15] at H
               exact absurd H (by simp)
             rw [if_pos c15] at H
             have c15b0 := eq_true c15
             have c15b1 := decide_eq_true c15
             try have c15b2 : (9223372036854775807 < 3 + a0_1.size) = False := eq_false (Nat.not_lt.2 c15)
             by_cases c16 : ((⟨#[110, 101, 119]⟩ : ByteArray) ++ a0_1).size + 1 ≤ 9223372036854775807
             rotate_left
             · rw [if_neg c16] at H
               exact absurd H (by simp)
             rw [if_pos c16] at H
             have c16b0 := eq_true c16
             have c16b1 := decide_eq_true c16
             try have c16b2 : (9223372036854775807 < ((⟨#[110, 101, 119]⟩ : ByteArray) ++ a0_1).size + 1) = False := eq_false (Nat.not_lt.2 c16)
             try have c16b9 : (9223372036854775807 < 3 + a0_1.size + 1) = False := eq_false (by have h_ := c16; simp only [ByteArray.size_append] at h_; have z0_ : (⟨#[110, 101, 119]⟩ : ByteArray).size = 3 := rfl; omega)
             replace H := Option.bind_eq_some_iff.mp H
             obtain ⟨t116, A170, H⟩ := H
             (try dsimp only at H)
             have A17 := Zm A170
             clear A170
             by_cases c18 : (((⟨#[110, 101, 119]⟩ : ByteArray) ++ a0_1) ++ (⟨#[64]⟩ : ByteArray)).size + t116.size ≤ 9223372036854775807
             rotate_left
             · rw [if_neg c18] at H
               exact absurd H (by simp)
             rw [if_pos c18] at H
             have c18b0 := eq_true c18
             have c18b1 := decide_eq_true c18
             try have c18b2 : (9223372036854775807 < (((⟨#[110, 101, 119]⟩ : ByteArray) ++ a0_1) ++ (⟨#[64]⟩ : ByteArray)).size + t116.size) = False := eq_false (Nat.not_lt.2 c18)
             try have c18b9 : (9223372036854775807 < 3 + a0_1.size + 1 + t116.size) = False := eq_false (by have h_ := c18; simp only [ByteArray.size_append] at h_; have z0_ : (⟨#[110, 101, 119]⟩ : ByteArray).size = 3 := rfl; have z1_ : (⟨#[64]⟩ : ByteArray).size = 1 := rfl; omega)
             obtain rfl := Option.some.inj H
             try go_wp2
             have n0_ := (⟨Zm (Zkd BK115.out), Zm (Zbd HB.out)⟩ : _ ∧ _)
             clear BK115 HB
             obtain ⟨BK115, HB⟩ := n0_
             refine start_ (n := 9) (S := fun w' => w'.cell? ⟨gb115, 0, none⟩ = some (.int .i64 a0_0) ∧ w'.cell? ⟨gb115, 1, none⟩ = some (.string a0_1) ∧ w'.cell? ⟨gb115, 2, none⟩ = some (.int .i64 a0_2)) (ds := []) #[false, false, false, false, false, false, false, false, false] (by kernel_rfl) rfl rfl ⟨(Zkc BK115.out 0).trans rfl, (Zkc BK115.out 1).trans rfl, (Zkc BK115.out 2).trans rfl⟩ (fun hHeld => ?_); refine with_tabW impl_TypeShown.tab15 impl_TypeShown.bits15 (fun HT_ HW_ => ?_)
             generalize w3.drew = w19 at BK115 HB hHeld ⊢
             refine pure_ (i := 0) (N := some 24) (v := ?_) (a' := ?_) #[true, false, false, false, false, false, false, false, false] rfl rfl (any_of HT_.out (by kernel_rfl)) (fun _ _ _ h => h) (Or.inl ⟨by rfl, ?_⟩) ?_ ?_
             rotate_left
             · intro w'
               go_simp
               with_reducible rfl
             rotate_left
             · simp only [Act.put, List.setIfInBounds_toArray, List.set_cons_zero, List.set_cons_succ, i64_w, i32_w]
               rfl
             refine pure_ (i := 4) (N := some 28) (v := ?_) (a' := ?_) #[true, false, false, false, true, false, false, false, false] rfl rfl (any_of HT_.out (by kernel_rfl)) (fun _ _ _ h => h) (Or.inl ⟨by rfl, ?_⟩) ?_ ?_
             rotate_left
             · intro w'
               go_simp
               with_reducible rfl
             rotate_left
             · simp only [Act.put, List.setIfInBounds_toArray, List.set_cons_zero, List.set_cons_succ, i64_w, i32_w]
               rfl
             refine take_ (i := 1) (N := some 25) (v := ?_) (a' := ?_) #[true, true, false, false, true, false, false, false, false] rfl rfl (take_ofW HT_.out HW_.out (by kernel_rfl)) (fun _ _ _ h => h) (Or.inl ⟨by rfl, ?_⟩) hHeld ?_ ?_
             rotate_left
             · rintro w' ⟨s0, s1, s2⟩
               go_simp
               with_reducible rfl
             rotate_left
             · simp only [Act.put, List.setIfInBounds_toArray, List.set_cons_zero, List.set_cons_succ, i64_w, i32_w]
               rfl
             refine pure_ (i := 2) (N := some 26) (v := ?_) (a' := ?_) #[true, true, true, false, true, false, false, false, false] rfl rfl (any_of HT_.out (by kernel_rfl)) (fun _ _ _ h => h) (Or.inl ⟨by rfl, ?_⟩) ?_ ?_
             rotate_left
             · intro w'
               go_simp
               with_reducible rfl
             rotate_left
             · simp only [Act.put, List.setIfInBounds_toArray, List.set_cons_zero, List.set_cons_succ, i64_w, i32_w]
               rfl
             refine pure_ (i := 3) (N := some 27) (v := ?_) (a' := ?_) #[true, true, true, true, true, false, false, false, false] rfl rfl (any_of HT_.out (by kernel_rfl)) (fun _ _ _ h => h) (Or.inl ⟨by rfl, ?_⟩) ?_ ?_
             rotate_left
             · intro w'
               go_simp
               with_reducible rfl
             rotate_left
             · simp only [Act.put, List.setIfInBounds_toArray, List.set_cons_zero, List.set_cons_succ, i64_w, i32_w]
               rfl
             refine take_ (i := 5) (N := some 29) (v := ?_) (a' := ?_) #[true, true, true, true, true, true, false, false, false] rfl rfl (take_ofW HT_.out HW_.out (by kernel_rfl)) (fun _ _ _ h => h) (Or.inl ⟨by rfl, ?_⟩) hHeld ?_ ?_
             rotate_left
             · rintro w' ⟨s0, s1, s2⟩
               go_simp
               with_reducible rfl
             rotate_left
             · simp only [Act.put, List.setIfInBounds_toArray, List.set_cons_zero, List.set_cons_succ, i64_w, i32_w]
               rfl
             refine one_ (i := 6) (N := some 30) #[true, true, true, true, true, true, true, false, false] rfl rfl (one_of HT_.out (by kernel_rfl)) (by decide) (fun K hK => ?_)
             refine goes_ Tryd.func24 (by kernel_rfl) rfl #[.int .i64 a0_2] (by rfl) rfl rfl (by (try simp only [List.map_toArray, List.map_cons, List.map_nil]); first | done | rfl | (simp only [List.length_drop, List.length_take]; rfl)) ?_
             with_reducible refine (impl_text.calls a0_2 t116 _ A17.out).mono ?_
             rintro e w20 ⟨rfl, hb⟩
             refine ⟨_, rfl, ?_⟩
             have n0_ := Zm (Zkb (pk BK115.out) hb)
             have n1_ := Zm (Zbt (bk HB.out) hb)
             clear BK115
             clear HB
             have BK115 := n0_
             have HB := n1_
             clear n0_ n1_
             refine hK.out _ _ ⟨(Zkc BK115.out 0).trans rfl, (Zkc BK115.out 1).trans rfl, (Zkc BK115.out 2).trans rfl⟩ (fun hHeld => ?_)
             clear hK K
             refine norm_ (a' := ?_) ?_ ?_
             rotate_left
             · show Act.put _ (some 30) _ = _
               simp only [Act.put, List.setIfInBounds_toArray, List.set_cons_zero, List.set_cons_succ, i64_w, i32_w]
               rfl
             refine pure_ (i := 7) (N := some 31) (v := ?_) (a' := ?_) #[true, true, true, true, true, true, true, true, false] rfl rfl (any_of HT_.out (by kernel_rfl)) (fun _ _ _ h => h) (Or.inl ⟨by rfl, ?_⟩) ?_ ?_
             rotate_left
             · intro w'
               go_simp
               with_reducible rfl
             rotate_left
             · simp only [Act.put, List.setIfInBounds_toArray, List.set_cons_zero, List.set_cons_succ, i64_w, i32_w]
               rfl
             refine pure_ (i := 8) (N := some 2) (v := ?_) (a' := ?_) #[true, true, true, true, true, true, true, true, true] rfl rfl (any_of HT_.out (by kernel_rfl)) (fun _ _ _ h => h) (Or.inl ⟨by rfl, ?_⟩) ?_ ?_
             rotate_left
             · intro w'
               go_simp
               with_reducible rfl
             rotate_left
             · simp only [Act.put, List.setIfInBounds_toArray, List.set_cons_zero, List.set_cons_succ, i64_w, i32_w]
               rfl
             refine done_ (done_of HT_.out (by kernel_rfl)) ?_
             try go_wp2
             go_ret
             exact fin_ HB
           rw [if_pos c11] at H
           have c11b0 : (a0_0 == 5) = true := beq_iff_eq.mpr c11
           have c11b1 : (a0_0 != 5) = false := bne_eq_false_iff_eq.mpr c11
           clear c11
           by_cases c12 : a0_1.size + 2 ≤ 9223372036854775807
           rotate_left
           · rw [if_neg c12] at H
             exact absurd H (by simp)
           rw [if_pos c12] at H
           have c12b0 := eq_true c12
           have c12b1 := decide_eq_true c12
           try have c12b2 : (9223372036854775807 < a0_1.size + 2) = False := eq_false (Nat.not_lt.2 c12)
           obtain rfl := Option.some.inj H
           obtain ⟨hcz13_0, hcz13_1, hcz13_2⟩ := cz3 BK115.out
           go_wp2
           go_ret
           exact fin_ HB
         rw [if_pos c10] at H
         have c10b0 : (a0_0 == 4) = true := beq_iff_eq.mpr c10
         have c10b1 : (a0_0 != 4) = false := bne_eq_false_iff_eq.mpr c10
         clear c10
         obtain rfl := Option.some.inj H
         go_wp2
         go_ret
         exact fin_ HB
       rw [if_pos c8] at H
       have c8b0 : (a0_0 == 3) = true := beq_iff_eq.mpr c8
       have c8b1 : (a0_0 != 3) = false := bne_eq_false_iff_eq.mpr c8
       clear c8
       obtain rfl := Option.some.inj H
       obtain ⟨hcz9_0, hcz9_1, hcz9_2⟩ := cz3 BK115.out
       go_wp2
       go_ret
       exact fin_ HB
     rw [if_pos c7] at H
     have c7b0 : (a0_0 == 2) = true := beq_iff_eq.mpr c7
     have c7b1 : (a0_0 != 2) = false := bne_eq_false_iff_eq.mpr c7
     clear c7
     obtain rfl := Option.some.inj H
     go_wp2
     go_ret
     exact fin_ HB
   rw [if_pos c6] at H
   have c6b0 : (a0_0 == 1) = true := beq_iff_eq.mpr c6
   have c6b1 : (a0_0 != 1) = false := bne_eq_false_iff_eq.mpr c6
   clear c6
   obtain rfl := Option.some.inj H
   go_wp2
   go_ret
   exact fin_ HB
 rw [if_pos c5] at H
 have c5b0 : (a0_0 == 0) = true := beq_iff_eq.mpr c5
 have c5b1 : (a0_0 != 0) = false := bne_eq_false_iff_eq.mpr c5
 clear c5
 (first | rw [c5b0] | (simp only [i64_w, i32_w]; rw [c5b0]) | skip)
 obtain rfl := Option.some.inj H
 go_wp2
 go_ret
 exact fin_ HB
/-! ### laws_FnExactTypeShown: function 3 -/
def laws_FnExactTypeShown.f (k : Nat) (a0_0 : Int) (a0_1 : ByteArray) (a0_2 : Int) : Option (Bool) := (laws_szType.f a0_0 a0_1 a0_2 1048576).bind fun t118 => (if t118 < 0 then (some true) else ((laws_toType.f a0_0 a0_1 a0_2).bind fun bt119 => ((spec_TypeShown.f k bt119.1 bt119.2.1 bt119.2.2).bind fun t122 => ((laws_toType.f a0_0 a0_1 a0_2).bind fun bt123 => ((impl_TypeShown.f bt123.1 bt123.2.1 bt123.2.2).bind fun t126 => (if t126.toList = t122.toList then (some true) else (some false)))))))
theorem laws_FnExactTypeShown.mono : ∀ a0 a1 a2 k, LeO (laws_FnExactTypeShown.f k a0 a1 a2) (laws_FnExactTypeShown.f (k + 1) a0 a1 a2) := by
 intro a0 a1 a2 k; unfold laws_FnExactTypeShown.f
 repeat' first
  | (with_reducible exact spec_TypeShown.mono _ _ _ _)
  | (with_reducible exact LeO.refl _)
  | (with_reducible exact LeO.none _)
  | (with_reducible refine LeO.ite ?_ ?_)
  | (with_reducible refine LeO.bind ?_ (fun _ => ?_))
  | exact spec_TypeShown.mono _ _ _ _
  | exact LeO.none _
  | refine LeO.ite ?_ ?_
  | refine LeO.bind ?_ (fun _ => ?_)
set_option maxHeartbeats 8000000 in
set_option maxRecDepth 100000 in
theorem laws_FnExactTypeShown.calls (k : Nat) (a0_0 : Int) (a0_1 : ByteArray) (a0_2 : Int) (r : Bool) (w : World) (hT_ : r = true) (h : laws_FnExactTypeShown.f k a0_0 a0_1 a0_2 = some r) (htab : Go.Lib.TabIs Tryd.prog w "internal/strconv.uint64pow10" .u64 Go.Lib.pow10Tab := by exact tab_) :
 Calls Tryd.prog 3 #[.agg #[.int .i64 a0_0, .string a0_1, .int .i64 a0_2]] w fun e w' => e = .returned (.bool r) ∧ Below w.heap.size w w' := by
 have HTAB := Zm htab
 clear htab
 have hu23 := Tryd.underlying23; have HB := Zm (Below.refl w.heap.size w); have H : ((laws_szType.f a0_0 a0_1 a0_2 1048576).bind fun t118 => (if t118 < 0 then (some true) else ((laws_toType.f a0_0 a0_1 a0_2).bind fun bt119 => ((spec_TypeShown.f k bt119.1 bt119.2.1 bt119.2.2).bind fun t122 => ((laws_toType.f a0_0 a0_1 a0_2).bind fun bt123 => ((impl_TypeShown.f bt123.1 bt123.2.1 bt123.2.2).bind fun t126 => (if t126.toList = t122.toList then (some true) else (some false)))))))) = some r := h; clear h; replace H := Option.bind_eq_some_iff.mp H; obtain ⟨t118, A20, H⟩ := H; (try dsimp only at H); have A2 := Zm A20; clear A20; have HC3 := Zm H; clear H; go_enter Tryd.func3, Tryd.ntmps3; go_upto_if 10 with (first | ((with_reducible refine gate_dst (N := 1) rfl ?_); refine box_event ?hg (N := 1) ?hd (cs := #[.int .i64 a0_0, .string a0_1, .int .i64 a0_2]) (t := 23) ?hr ?_; (case hd => rfl); (case hg => rfl); (case hr => first | (go_simp; done) | (go_simp; rfl)); intro gb117 hg w4 hbox hb; have n0_ := (⟨Zm (Zbt (bk HB.out) hb), Zm (hbox), Zm ((by rw [hg]; exact (Zbz (bk HB.out)) : w.heap.size ≤ gb117)), Zm ((by rw [hg]; exact (Zbz (bk HB.out)) : w.heap.size ≤ gb117))⟩ : _ ∧ _ ∧ _ ∧ _); clear HB; obtain ⟨HB, BK117, GW117, GE117⟩ := n0_; clear hb hbox hg; obtain ⟨hcz5_0, hcz5_1, hcz5_2⟩ := cz3 BK117.out; have hfz5_2 := Zkf BK117.out 2) | ((with_reducible refine gate_callee (f := 7) rfl ?_); refine ge_ (some 8) Tryd.func7 #[.agg #[.int .i64 a0_0, .string a0_1, .int .i64 a0_2], .int .i64 1048576] ?_; (with_reducible refine (laws_szType.calls _ _ _ _ _ _ A2.out).mono ?_); rintro e w6 ⟨rfl, hb⟩; refine ⟨_, rfl, ?_⟩; have n0_ := (⟨Zm (Zkb (pk BK117.out) hb), Zm (Zbt (bk HB.out) hb)⟩ : _ ∧ _); clear BK117 HB; obtain ⟨BK117, HB⟩ := n0_; (try clear hb); (try clear hb2); (try clear hk); (try clear hi))); have H := HC3.out; clear HC3; by_cases c7 : t118 < 0; rotate_left
 · rw [if_neg c7] at H; have c7b0 := decide_eq_false c7; clear c7; (first | rw [c7b0] | (simp only [i64_w, i32_w]; rw [c7b0]) | skip); replace H := Option.bind_eq_some_iff.mp H; obtain ⟨⟨t119, t120, t121⟩, A80, H⟩ := H; (try dsimp only at H); have A8 := Zm A80; clear A80; replace H := Option.bind_eq_some_iff.mp H; obtain ⟨t122, A90, H⟩ := H; (try dsimp only at H); have A9 := Zm A90; clear A90; replace H := Option.bind_eq_some_iff.mp H; obtain ⟨⟨t123, t124, t125⟩, A100, H⟩ := H; (try dsimp only at H); have A10 := Zm A100; clear A100; replace H := Option.bind_eq_some_iff.mp H; obtain ⟨t126, A110, H⟩ := H; (try dsimp only at H); have A11 := Zm A110; clear A110; by_cases c12 : t126.toList = t122.toList; rotate_left
   · rw [if_neg c12] at H; have c12b0 : (t126.toList == t122.toList) = false := beq_eq_false_iff_ne.mpr c12; have c12b1 : (t126.toList != t122.toList) = true := bne_iff_ne.mpr c12; exact absurd (H.trans (congrArg some hT_)) (by simp)
   rw [if_pos c12] at H; have c12b0 : (t126.toList == t122.toList) = true := beq_iff_eq.mpr c12; have c12b1 : (t126.toList != t122.toList) = false := bne_eq_false_iff_eq.mpr c12; clear c12; clear hT_; obtain rfl := Option.some.inj H; obtain ⟨hcz13_0, hcz13_1, hcz13_2⟩ := cz3 BK117.out; go_wp2_with (first | ((with_reducible refine gate_callee (f := 9) rfl ?_); refine ge_ (some 12) Tryd.func9 #[.agg #[.int .i64 a0_0, .string a0_1, .int .i64 a0_2]] ?_; (with_reducible refine (laws_toType.calls _ _ _ _ _ _ _ A8.out).mono ?_); rintro e w14 ⟨rfl, hb⟩; refine ⟨_, rfl, ?_⟩; have n0_ := (⟨Zm (Zkb (pk BK117.out) hb), Zm (Zbt (bk HB.out) hb)⟩ : _ ∧ _); clear BK117 HB; obtain ⟨BK117, HB⟩ := n0_; (try clear hb); (try clear hb2); (try clear hk); (try clear hi)) | ((with_reducible refine gate_callee (f := 8) rfl ?_); refine ge_ (some 13) Tryd.func8 #[.agg #[.int .i64 t119, .string t120, .int .i64 t121]] ?_; (with_reducible refine (spec_TypeShown.calls _ _ _ _ _ _ A9.out).mono ?_); rintro e w15 ⟨rfl, hb⟩; refine ⟨_, rfl, ?_⟩; have n0_ := (⟨Zm (Zkb (pk BK117.out) hb), Zm (Zbt (bk HB.out) hb)⟩ : _ ∧ _); clear BK117 HB; obtain ⟨BK117, HB⟩ := n0_; (try clear hb); (try clear hb2); (try clear hk); (try clear hi); obtain ⟨hcz16_0, hcz16_1, hcz16_2⟩ := cz3 BK117.out; (try clear BK117)) | ((with_reducible refine gate_callee (f := 9) rfl ?_); refine ge_ (some 15) Tryd.func9 #[.agg #[.int .i64 a0_0, .string a0_1, .int .i64 a0_2]] ?_; (with_reducible refine (laws_toType.calls _ _ _ _ _ _ _ A10.out).mono ?_); rintro e w17 ⟨rfl, hb⟩; refine ⟨_, rfl, ?_⟩; have n0_ := Zm (Zbt (bk HB.out) hb); clear HB; have HB := n0_; clear n0_; (try clear hb); (try clear hb2); (try clear hk); (try clear hi)) | ((with_reducible refine gate_callee (f := 10) rfl ?_); refine ge_ (some 16) Tryd.func10 #[.agg #[.int .i64 t123, .string t124, .int .i64 t125]] ?_; (with_reducible refine (impl_TypeShown.calls _ _ _ _ _ A11.out).mono ?_); rintro e w18 ⟨rfl, hb⟩; refine ⟨_, rfl, ?_⟩; have n0_ := Zm (Zbt (bk HB.out) hb); clear HB; have HB := n0_; clear n0_; (try clear hb); (try clear hb2); (try clear hk); (try clear hi))); go_ret; exact fin_ HB
 rw [if_pos c7] at H; have c7b0 := decide_eq_true c7; clear c7; (first | rw [c7b0] | (simp only [i64_w, i32_w]; rw [c7b0]) | skip); clear hT_; obtain rfl := Option.some.inj H; go_wp2; go_ret; exact fin_ HB
def ok23 (x : S23) : Prop := (Lit.int .i64 x.f0).wf = true ∧ x.f1.size ≤ maxLen ∧ (Lit.int .i64 x.f2).wf = true
/-- THE ONE PURE STATEMENT of laws_FnExactTypeShown: yours. -/
def laws_FnExactTypeShown.Pure : Prop := ∀ (x0 : S23), ok23 x0 → ∃ k, laws_FnExactTypeShown.f k x0.f0 x0.f1 x0.f2 = some true

end Go.Proofs.YtdfnljchoomliaaDoor.PFnExactTypeShown
