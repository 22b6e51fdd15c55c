/- Functions of the program as plain Lean functions, each with a proof that the program's call comes to the same; no condition. Written by a program of this session. -/
import Derived.Test.YtdfnljchoomliaaDoorPFnExactFrameShownx0
namespace Go.Proofs.YtdfnljchoomliaaDoor.PFnExactFrameShown
open Go.RowKit Go.Proofs.YtdfnljchoomliaaDoorW.PrintWords Go.Proofs.YtdfnljchoomliaaDoorW.PrintLast Go.Proofs.YtdfnljchoomliaaDoorW.PrintMore
open Go.Proofs.YtdfnljchoomliaaDoorW.PrintWords renaming below_drew1 → Zbd, below_size → Zbz, below_step → Zbt, blk_drew → Zkd, blk_cell → Zkc, blk_frozen → Zkf, blk_below → Zkb
open Go.World renaming block_lt_of_cell? → Zlt
open Go.Proofs.YtdfnljchoomliaaDoorW.PrintWords.Aside0 renaming mk → Zm
attribute [local go_sem] max2_int min2_int max_two min_two max_three min_three max_four min_four   -- for this text's walks alone
set_option linter.unusedVariables false
set_option linter.unusedSimpArgs false

/-! ### laws_szType: function 7 -/
def laws_szType.f (a0_0 : Int) (a0_1 : ByteArray) (a0_2 : Int) (a1 : Int) : Option (Int) := if (wrap64 (a1 - (a0_1.size : Int))) < 0 then (some (-1)) else (some (wrap64 (a1 - (a0_1.size : Int))))
set_option maxHeartbeats 8000000 in
set_option maxRecDepth 100000 in
theorem laws_szType.calls (a0_0 : Int) (a0_1 : ByteArray) (a0_2 : Int) (a1 : Int) (r : Int) (w : World) (h : laws_szType.f a0_0 a0_1 a0_2 a1 = some r) :
 Calls Tryd.prog 7 #[.agg #[.int .i64 a0_0, .string a0_1, .int .i64 a0_2], .int .i64 a1] w fun e w' => e = .returned (.int .i64 r) ∧ Below w.heap.size w w' := by
 have hu23 := Tryd.underlying23; have HB := Zm (Below.refl w.heap.size w); have H : (if (wrap64 (a1 - (a0_1.size : Int))) < 0 then (some (-1)) else (some (wrap64 (a1 - (a0_1.size : Int))))) = some r := h; clear h; have HC3 := Zm H; clear H; go_enter Tryd.func7, Tryd.ntmps7; go_upto_if 11 with (first | ((with_reducible refine gate_dst (N := 2) rfl ?_); refine box_event ?hg (N := 2) ?hd (cs := #[.int .i64 a0_0, .string a0_1, .int .i64 a0_2]) (t := 23) ?hr ?_; (case hd => rfl); (case hg => rfl); (case hr => first | (go_simp; done) | (go_simp; rfl)); intro gb101 hg w4 hbox hb; have n0_ := (⟨Zm (Zbt (bk HB.out) hb), Zm (hbox), Zm ((by rw [hg]; exact (Zbz (bk HB.out)) : w.heap.size ≤ gb101)), Zm ((by rw [hg]; exact (Zbz (bk HB.out)) : w.heap.size ≤ gb101))⟩ : _ ∧ _ ∧ _ ∧ _); clear HB; obtain ⟨HB, BK101, GW101, GE101⟩ := n0_; clear hb hbox hg; obtain ⟨hcz5_0, hcz5_1, hcz5_2⟩ := cz3 BK101.out; have hfz5_2 := Zkf BK101.out 2)); have H := HC3.out; clear HC3; by_cases c6 : (wrap64 (a1 - (a0_1.size : Int))) < 0; rotate_left
 · rw [if_neg c6] at H; have c6b0 := decide_eq_false c6; (try (have c6b1 : decide ((IntKind.i64.wrap (a1 - (a0_1.size : Int))) < 0) = false := by simp only [i64_w]; exact (decide_eq_false c6))); clear c6; (first | rw [c6b0] | (simp only [i64_w, i32_w]; rw [c6b0]) | skip); obtain rfl := Option.some.inj H; go_wp2; go_ret; exact fin_ HB

 rw [if_pos c6] at H
 have c6b0 := decide_eq_true c6
 (try (have c6b1 : decide ((IntKind.i64.wrap (a1 - (a0_1.size : Int))) < 0) = true := by simp only [i64_w]; exact (decide_eq_true c6)))
 clear c6
 (first | rw [c6b0] | (simp only [i64_w, i32_w]; rw [c6b0]) | skip)
 obtain rfl := Option.some.inj H
 go_wp2
 go_ret
 exact fin_ HB
/-! ### laws_szTypeS: function 25 -/
def laws_szTypeS.l0 : Nat → List (S23) → Int → Int → Option (Int)
 | 0, _, _, _ => none
 | k + 1, x0, x1, x5 => if x5 < (x0.length : Int) then (if 0 ≤ x5 then ((laws_szType.f ((rd_T23 x0 x5).f0) ((rd_T23 x0 x5).f1) ((rd_T23 x0 x5).f2) x1).bind fun t103 => (if t103 < 0 then (some (-1)) else (laws_szTypeS.l0 k x0 t103 (wrap64 (x5 + 1))))) else (none)) else (some x1)
def laws_szTypeS.f (k : Nat) (l0 : List (S23)) (a1 : Int) : Option (Int) := if (wrap64 (a1 - (l0.length : Int))) < 0 then (some (-1)) else (laws_szTypeS.l0 k l0 (wrap64 (a1 - (l0.length : Int))) 0)
set_option maxHeartbeats 8000000 in
set_option maxRecDepth 100000 in
theorem laws_szTypeS.calls (k : Nat) (A0 : Option Addr) (c0 : Nat) (l0 : List (S23)) (a1 : Int) (r : Int) (w : World) (hr0 : Kd.C k23 w A0 l0.length l0) (hc0 : l0.length ≤ c0) (h : laws_szTypeS.f k l0 a1 = some r) :
 Calls Tryd.prog 25 #[.slice A0 l0.length c0, .int .i64 a1] w fun e w' => e = .returned (.int .i64 r) ∧ Below w.heap.size w w' := by
 have hu23 := Tryd.underlying23; have HR0 := Zm hr0; have HC0 := Zm hc0; clear hr0 hc0; have HB := Zm (Below.refl w.heap.size w); have H : (if (wrap64 (a1 - (l0.length : Int))) < 0 then (some (-1)) else (laws_szTypeS.l0 k l0 (wrap64 (a1 - (l0.length : Int))) 0)) = some r := h; clear h; by_cases c3 : (wrap64 (a1 - (l0.length : Int))) < 0; rotate_left
 · rw [if_neg c3] at H; have c3b0 := decide_eq_false c3; (try (have c3b1 : decide ((IntKind.i64.wrap (a1 - (l0.length : Int))) < 0) = false := by simp only [i64_w]; exact (decide_eq_false c3))); clear c3; have H' := Zm H; clear H; go_enter Tryd.func25, Tryd.ntmps25; go_wp2; go_loopg [1, 5] k (fun kq v1 v5 w' => ∃ (x1_1 : Int) (x5_1 : Int), v1 = .int .i64 x1_1 ∧ v5 = .int .i64 x5_1 ∧ Aside0 (laws_szTypeS.l0 kq l0 x1_1 x5_1 = some r) ∧ Aside0 (kq ≤ k) ∧ Aside0 (Below w.heap.size w w'))
   case atStart => exact ⟨(wrap64 (a1 - (l0.length : Int))), (0), (by first | rfl | (simp; done) | (simp [*]; done)), (by first | rfl | (simp; done) | (simp [*]; done)), H', ⟨Nat.le_refl _⟩, ⟨bk HB.out⟩⟩
   case round =>
    clear H'; (try clear c3); (try clear c3b0); (try clear c3b1); obtain ⟨x1_1, x5_1, rfl, rfl, HA, HK1, HB⟩ := hrel
    cases gk with
    | zero => exact absurd HA.out (by simp [laws_szTypeS.l0])
    | succ k1 =>
     have H := HA.out; clear HA; simp only [laws_szTypeS.l0] at H; by_cases c4 : x5_1 < (l0.length : Int); rotate_left
     · rw [if_neg c4] at H; have c4b0 := decide_eq_false c4; clear c4; obtain rfl := Option.some.inj H; go_wp2; go_ret; exact fin_ HB

     rw [if_pos c4] at H
     have c4b0 := decide_eq_true c4
     clear c4
     by_cases c5 : 0 ≤ x5_1
     rotate_left
     · rw [if_neg c5] at H
       exact absurd H (by simp)
     rw [if_pos c5] at H
     have c5b0 := decide_eq_true c5
     clear c5
     replace H := Option.bind_eq_some_iff.mp H
     obtain ⟨t103, A60, H⟩ := H
     (try dsimp only at H)
     have A6 := Zm A60
     clear A60
     have HC7 := Zm H
     clear H
     have p102 : 0 ≤ (x5_1 : Int) := of_decide_eq_true (by first | (with_reducible assumption) | assumption)
     have q102 : x5_1 < (l0.length : Int) := of_decide_eq_true (by first | (with_reducible assumption) | assumption)
     obtain ⟨ad102, e102, hx102_0, hx102_1, hx102_2⟩ := at_T23 HR0.out x5_1 p102 q102
     cases e102
     replace hx102_0 := hx_ HB hx102_0 (Zlt _ _ hx102_0)
     replace hx102_1 := hx_ HB hx102_1 (Zlt _ _ hx102_1)
     replace hx102_2 := hx_ HB hx102_2 (Zlt _ _ hx102_2)
     replace p102 := eq_true p102
     replace q102 := eq_true q102
     go_upto_if 25 with (first | ((with_reducible refine gate_callee (f := 7) rfl ?_); refine ge_ (some 23) Tryd.func7 #[.agg #[.int .i64 ((rd_T23 l0 x5_1).f0), .string ((rd_T23 l0 x5_1).f1), .int .i64 ((rd_T23 l0 x5_1).f2)], .int .i64 x1_1] ?_; (with_reducible refine (laws_szType.calls _ _ _ _ _ _ A6.out).mono ?_); rintro e w8 ⟨rfl, hb⟩; refine ⟨_, rfl, ?_⟩; have n0_ := Zm (Zbt (bk HB.out) hb); clear HB; have HB := n0_; clear n0_; (try clear hb); (try clear hb2); (try clear hk); (try clear hi)))
     have H := HC7.out
     clear HC7
     by_cases c9 : t103 < 0
     rotate_left
     · rw [if_neg c9] at H
       have c9b0 := decide_eq_false c9
       clear c9
       (first | rw [c9b0] | (simp only [i64_w, i32_w]; rw [c9b0]) | skip)
       have H' := Zm H
       clear H
       go_wp2
       go_roundg k1
       case measure => have := HK1.out; omega
       case rel => exact ⟨(t103), (wrap64 (x5_1 + 1)), (by first | rfl | (simp; done) | (simp [*]; done)), (by first | rfl | (simp; done) | (simp [*]; done)), H', ⟨by have := HK1.out; omega⟩, ⟨bk HB.out⟩⟩
     rw [if_pos c9] at H
     have c9b0 := decide_eq_true c9
     clear c9
     (first | rw [c9b0] | (simp only [i64_w, i32_w]; rw [c9b0]) | skip)
     obtain rfl := Option.some.inj H
     go_wp2
     go_ret
     exact fin_ HB
 rw [if_pos c3] at H
 have c3b0 := decide_eq_true c3
 (try (have c3b1 : decide ((IntKind.i64.wrap (a1 - (l0.length : Int))) < 0) = true := by simp only [i64_w]; exact (decide_eq_true c3)))
 clear c3
 obtain rfl := Option.some.inj H
 go_enter Tryd.func25, Tryd.ntmps25
 go_wp2
 go_ret
 exact fin_ HB
/-! ### laws_szFrame: function 11 -/
def laws_szFrame.f (k : Nat) (l0_0 : List (S23)) (l0_1 : List (S23)) (a1 : Int) : Option (Int) := (laws_szTypeS.f k l0_0 a1).bind fun t105 => (if t105 < 0 then (some (-1)) else ((laws_szTypeS.f k l0_1 t105).bind fun t106 => (if t106 < 0 then (some (-1)) else (some t106))))
set_option maxHeartbeats 8000000 in
set_option maxRecDepth 100000 in
theorem laws_szFrame.calls (k : Nat) (A0_0 : Option Addr) (c0_0 : Nat) (l0_0 : List (S23)) (A0_1 : Option Addr) (c0_1 : Nat) (l0_1 : List (S23)) (a1 : Int) (r : Int) (w : World) (hr0_0 : Kd.C k23 w A0_0 l0_0.length l0_0) (hc0_0 : l0_0.length ≤ c0_0) (hr0_1 : Kd.C k23 w A0_1 l0_1.length l0_1) (hc0_1 : l0_1.length ≤ c0_1) (h : laws_szFrame.f k l0_0 l0_1 a1 = some r) :
 Calls Tryd.prog 11 #[.agg #[.slice A0_0 l0_0.length c0_0, .slice A0_1 l0_1.length c0_1], .int .i64 a1] w fun e w' => e = .returned (.int .i64 r) ∧ Below w.heap.size w w' := by
 have hu31 := Tryd.underlying31; have HR0_0 := Zm hr0_0; have HC0_0 := Zm hc0_0; clear hr0_0 hc0_0; have HR0_1 := Zm hr0_1; have HC0_1 := Zm hc0_1; clear hr0_1 hc0_1; have HB := Zm (Below.refl w.heap.size w); have H : ((laws_szTypeS.f k l0_0 a1).bind fun t105 => (if t105 < 0 then (some (-1)) else ((laws_szTypeS.f k l0_1 t105).bind fun t106 => (if t106 < 0 then (some (-1)) else (some t106))))) = some r := h; clear h; replace H := Option.bind_eq_some_iff.mp H; obtain ⟨t105, A30, H⟩ := H; (try dsimp only at H); have A3 := Zm A30; clear A30; have HC4 := Zm H; clear H; go_enter Tryd.func11, Tryd.ntmps11; go_upto_if 10 with (first | ((with_reducible refine gate_dst (N := 2) rfl ?_); refine box_event ?hg (N := 2) ?hd (cs := #[.slice A0_0 l0_0.length c0_0, .slice A0_1 l0_1.length c0_1]) (t := 31) ?hr ?_; (case hd => rfl); (case hg => rfl); (case hr => first | (go_simp; done) | (go_simp; rfl)); intro gb104 hg w5 hbox hb; have n0_ := (⟨Zm (Zbt (bk HB.out) hb), Zm (hbox), Zm ((by rw [hg]; exact (Zbz (bk HB.out)) : w.heap.size ≤ gb104)), Zm ((by rw [hg]; exact (Zbz (bk HB.out)) : w.heap.size ≤ gb104))⟩ : _ ∧ _ ∧ _ ∧ _); clear HB; obtain ⟨HB, BK104, GW104, GE104⟩ := n0_; clear hb hbox hg; obtain ⟨hcz6_0, hcz6_1⟩ := cz2 BK104.out; have hfz6_1 := Zkf BK104.out 1) | ((with_reducible refine gate_callee (f := 25) rfl ?_); refine ge_ (some 8) Tryd.func25 #[.slice A0_0 l0_0.length c0_0, .int .i64 a1] ?_; (with_reducible refine (laws_szTypeS.calls _ _ _ _ _ _ _ ?side1 ?side2 A3.out).mono ?_); (case side1 => exact pc (Kd.C_below HR0_0.out HB.out)); (case side2 => exact HC0_0.out); rintro e w7 ⟨rfl, hb⟩; refine ⟨_, rfl, ?_⟩; have n0_ := (⟨Zm (Zkb (pk BK104.out) hb), Zm (Zbt (bk HB.out) hb)⟩ : _ ∧ _); clear BK104 HB; obtain ⟨BK104, HB⟩ := n0_; (try clear hb); (try clear hb2); (try clear hk); (try clear hi))); have H := HC4.out; clear HC4; by_cases c8 : t105 < 0; rotate_left
 · rw [if_neg c8] at H; have c8b0 := decide_eq_false c8; clear c8; (first | rw [c8b0] | (simp only [i64_w, i32_w]; rw [c8b0]) | skip); replace H := Option.bind_eq_some_iff.mp H; obtain ⟨t106, A90, H⟩ := H; (try dsimp only at H); have A9 := Zm A90; clear A90; have HC10 := Zm H; clear H; obtain ⟨hcz11_0, hcz11_1⟩ := cz2 BK104.out; (try clear BK104); go_upto_if 16 with (first | ((with_reducible refine gate_callee (f := 25) rfl ?_); refine ge_ (some 14) Tryd.func25 #[.slice A0_1 l0_1.length c0_1, .int .i64 t105] ?_; (with_reducible refine (laws_szTypeS.calls _ _ _ _ _ _ _ ?side1 ?side2 A9.out).mono ?_); (case side1 => exact pc (Kd.C_below HR0_1.out HB.out)); (case side2 => exact HC0_1.out); rintro e w12 ⟨rfl, hb⟩; refine ⟨_, rfl, ?_⟩; have n0_ := Zm (Zbt (bk HB.out) hb); clear HB; have HB := n0_; clear n0_; (try clear hb); (try clear hb2); (try clear hk); (try clear hi))); have H := HC10.out; clear HC10; by_cases c13 : t106 < 0; rotate_left
   · rw [if_neg c13] at H; have c13b0 := decide_eq_false c13; clear c13; (first | rw [c13b0] | (simp only [i64_w, i32_w]; rw [c13b0]) | skip); obtain rfl := Option.some.inj H; go_wp2; go_ret; exact fin_ HB

   rw [if_pos c13] at H
   have c13b0 := decide_eq_true c13
   clear c13
   (first | rw [c13b0] | (simp only [i64_w, i32_w]; rw [c13b0]) | skip)
   obtain rfl := Option.some.inj H
   go_wp2
   go_ret
   exact fin_ HB
 rw [if_pos c8] at H
 have c8b0 := decide_eq_true c8
 clear c8
 (first | rw [c8b0] | (simp only [i64_w, i32_w]; rw [c8b0]) | skip)
 obtain rfl := Option.some.inj H
 go_wp2
 go_ret
 exact fin_ HB
/-! ### spec_l01Dec: function 23 -/
def spec_l01Dec.l0 : Nat → Int → Bool → ByteArray → Option (ByteArray)
 | 0, _, _, _ => none
 | k + 1, x0, x3, x4 => if x0 = 0 then (if x3 = true then (if 1 + x4.size ≤ 9223372036854775807 then (some ((⟨#[45]⟩ : ByteArray) ++ x4)) else (none)) else (some x4)) else (if (Int.tmod x0 10) < 0 then ((some (([(wrap64 (48 + (wrap64 (-(Int.tmod x0 10))))) % 256] : List Int) : List Int)).bind fun y107 => (if (strOfNums y107).size + x4.size ≤ 9223372036854775807 then (spec_l01Dec.l0 k (wrap64 (Int.tdiv x0 10)) x3 ((strOfNums y107) ++ x4)) else (none))) else ((some (([(wrap64 (48 + (Int.tmod x0 10))) % 256] : List Int) : List Int)).bind fun y110 => (if (strOfNums y110).size + x4.size ≤ 9223372036854775807 then (spec_l01Dec.l0 k (wrap64 (Int.tdiv x0 10)) x3 ((strOfNums y110) ++ x4)) else (none))))
def spec_l01Dec.f (k : Nat) (a0 : Int) : Option (ByteArray) := if a0 = 0 then (some (⟨#[48]⟩ : ByteArray)) else (spec_l01Dec.l0 k a0 (decide (a0 < 0)) (⟨#[]⟩ : ByteArray))
set_option maxHeartbeats 8000000 in
set_option maxRecDepth 100000 in
theorem spec_l01Dec.calls (k : Nat) (a0 : Int) (r : ByteArray) (w : World) (h : spec_l01Dec.f k a0 = some r) :
 Calls Tryd.prog 23 #[.int .i64 a0] w fun e w' => e = .returned (.string r) ∧ Below w.heap.size w w' := by
 have HB := Zm (Below.refl w.heap.size w); have H : (if a0 = 0 then (some (⟨#[48]⟩ : ByteArray)) else (spec_l01Dec.l0 k a0 (decide (a0 < 0)) (⟨#[]⟩ : ByteArray))) = some r := h; clear h; by_cases c2 : a0 = 0; rotate_left
 · rw [if_neg c2] at H; have c2b0 : (a0 == 0) = false := beq_eq_false_iff_ne.mpr c2; have c2b1 : (a0 != 0) = true := bne_iff_ne.mpr c2; have H' := Zm H; clear H; go_enter Tryd.func23, Tryd.ntmps23; go_wp2; go_loopg [0, 4] k (fun kq v0 v4 w' => ∃ (x0_1 : Int) (x4_1 : ByteArray), v0 = .int .i64 x0_1 ∧ v4 = .string x4_1 ∧ Aside0 (spec_l01Dec.l0 kq x0_1 (decide (a0 < 0)) x4_1 = some r) ∧ Aside0 (kq ≤ k) ∧ Aside0 (Below w.heap.size w w'))
   case atStart => exact ⟨(a0), ((⟨#[]⟩ : ByteArray)), (by first | rfl | (simp; done) | (simp [*]; done)), (by first | rfl | (simp; done) | (simp [*]; done)), H', ⟨Nat.le_refl _⟩, ⟨bk HB.out⟩⟩
   case round =>
    clear H'; (try clear c2); (try clear c2b0); (try clear c2b1); obtain ⟨x0_1, x4_1, rfl, rfl, HA, HK1, HB⟩ := hrel
    cases gk with
    | zero => exact absurd HA.out (by simp [spec_l01Dec.l0])
    | succ k1 =>
     have H := HA.out; clear HA; simp only [spec_l01Dec.l0] at H; by_cases c3 : x0_1 = 0; rotate_left
     · rw [if_neg c3] at H; have c3b0 : (x0_1 == 0) = false := beq_eq_false_iff_ne.mpr c3; have c3b1 : (x0_1 != 0) = true := bne_iff_ne.mpr c3; by_cases c6 : (Int.tmod x0_1 10) < 0; rotate_left
       · rw [if_neg c6] at H; have c6b0 := decide_eq_false c6; clear c6; obtain ⟨y110, hy110⟩ : ∃ y_ : List Int, y_ = (([(wrap64 (48 + (Int.tmod x0_1 10))) % 256] : List Int)) := ⟨_, rfl⟩; replace H : (if (strOfNums y110).size + x4_1.size ≤ 9223372036854775807 then (spec_l01Dec.l0 k1 (wrap64 (Int.tdiv x0_1 10)) (decide (a0 < 0)) ((strOfNums y110) ++ x4_1)) else (none)) = some r := by first | (rw [hy110]; with_reducible exact H) | (have H2_ := (Option.bind_some _ _).symm.trans H; rw [hy110]; with_reducible exact H2_) | (have H2_ := (Option.bind_some _ _).symm.trans H; with_reducible exact H2_) | with_reducible exact H | (rw [hy110]; exact H) | exact H
         have Ny110 := Zm hy110; clear hy110; by_cases c11 : (strOfNums y110).size + x4_1.size ≤ 9223372036854775807; rotate_left
         · rw [if_neg c11] at H; exact absurd H (by simp)

         rw [if_pos c11] at H
         have c11b0 := eq_true c11
         have c11b1 := decide_eq_true c11
         try have c11b2 : (9223372036854775807 < (strOfNums y110).size + x4_1.size) = False := eq_false (Nat.not_lt.2 c11)
         have H' := Zm H
         clear H
         go_wp2_with (first | ((with_reducible refine gate_dst (N := 21) rfl ?_); refine Kd.R_lit (Kd.int .u8) _ 5 ?hg (N := 21) ?hd (xs := ([(wrap64 (48 + (Int.tmod x0_1 10))) % 256] : List Int)) (inner := [.int .u8 ((wrap64 (48 + (Int.tmod x0_1 10))) % 256)]) (ok := fun _ => True) (okp := fun _ => True) ?hr ?hp (fun _ hk => hk) trivial (Below.refl _ _) (Nat.le_refl _) (by simp) ?_; (case hd => rfl); (case hg => rfl); (case hr => first | (go_simp; done) | (go_simp; rfl)); (case hp => exact (Reps.one (show Kd.M (Kd.int .u8) _ _ _ ((wrap64 (48 + (Int.tmod x0_1 10))) % 256) [.int .u8 ((wrap64 (48 + (Int.tmod x0_1 10))) % 256)] from rfl) (Reps.none _ _))); intro v111 w12 ho13 hb hg_ hnew_; clear hg_ hnew_; (first | rw [← Ny110.out] at ho13 | (simp only [Int.reduceToNat] at ho13; rw [← Ny110.out] at ho13)); have n0_ := (⟨Zm (Kd.R_lower ho13 (Zbz (bk HB.out))), Zm (Zbt (bk HB.out) hb)⟩ : _ ∧ _); clear HB; obtain ⟨HO112, HB⟩ := n0_; clear hb ho13; have hcv14 := own_string (P := Tryd.prog) Tryd.underlying63 Tryd.underlying5 Tryd.underlying9 (Kd.own_of_R HO112.out)))
         go_roundg k1
         case measure => have := HK1.out; omega
         case rel => exact ⟨(wrap64 (Int.tdiv x0_1 10)), ((strOfNums y110) ++ x4_1), (by first | rfl | (simp; done) | (simp [*]; done)), (by first | rfl | (simp; done) | (simp [*]; done)), H', ⟨by have := HK1.out; omega⟩, ⟨bk HB.out⟩⟩
       rw [if_pos c6] at H
       have c6b0 := decide_eq_true c6
       clear c6
       obtain ⟨y107, hy107⟩ : ∃ y_ : List Int, y_ = (([(wrap64 (48 + (wrap64 (-(Int.tmod x0_1 10))))) % 256] : List Int)) := ⟨_, rfl⟩
       replace H : (if (strOfNums y107).size + x4_1.size ≤ 9223372036854775807 then (spec_l01Dec.l0 k1 (wrap64 (Int.tdiv x0_1 10)) (decide (a0 < 0)) ((strOfNums y107) ++ x4_1)) else (none)) = some r := by first | (rw [hy107]; with_reducible exact H) | (have H2_ := (Option.bind_some _ _).symm.trans H; rw [hy107]; with_reducible exact H2_) | (have H2_ := (Option.bind_some _ _).symm.trans H; with_reducible exact H2_) | with_reducible exact H | (rw [hy107]; exact H) | exact H
       have Ny107 := Zm hy107
       clear hy107
       by_cases c7 : (strOfNums y107).size + x4_1.size ≤ 9223372036854775807
       rotate_left
       · rw [if_neg c7] at H
         exact absurd H (by simp)
       rw [if_pos c7] at H
       have c7b0 := eq_true c7
       have c7b1 := decide_eq_true c7
       try have c7b2 : (9223372036854775807 < (strOfNums y107).size + x4_1.size) = False := eq_false (Nat.not_lt.2 c7)
       have H' := Zm H
       clear H
       go_wp2_with (first | ((with_reducible refine gate_dst (N := 21) rfl ?_); refine Kd.R_lit (Kd.int .u8) _ 5 ?hg (N := 21) ?hd (xs := ([(wrap64 (48 + (wrap64 (-(Int.tmod x0_1 10))))) % 256] : List Int)) (inner := [.int .u8 ((wrap64 (48 + (wrap64 (-(Int.tmod x0_1 10))))) % 256)]) (ok := fun _ => True) (okp := fun _ => True) ?hr ?hp (fun _ hk => hk) trivial (Below.refl _ _) (Nat.le_refl _) (by simp) ?_; (case hd => rfl); (case hg => rfl); (case hr => first | (go_simp; done) | (go_simp; rfl)); (case hp => exact (Reps.one (show Kd.M (Kd.int .u8) _ _ _ ((wrap64 (48 + (wrap64 (-(Int.tmod x0_1 10))))) % 256) [.int .u8 ((wrap64 (48 + (wrap64 (-(Int.tmod x0_1 10))))) % 256)] from rfl) (Reps.none _ _))); intro v108 w8 ho9 hb hg_ hnew_; clear hg_ hnew_; (first | rw [← Ny107.out] at ho9 | (simp only [Int.reduceToNat] at ho9; rw [← Ny107.out] at ho9)); have n0_ := (⟨Zm (Kd.R_lower ho9 (Zbz (bk HB.out))), Zm (Zbt (bk HB.out) hb)⟩ : _ ∧ _); clear HB; obtain ⟨HO109, HB⟩ := n0_; clear hb ho9; have hcv10 := own_string (P := Tryd.prog) Tryd.underlying63 Tryd.underlying5 Tryd.underlying9 (Kd.own_of_R HO109.out)))
       go_roundg k1
       case measure => have := HK1.out; omega
       case rel => exact ⟨(wrap64 (Int.tdiv x0_1 10)), ((strOfNums y107) ++ x4_1), (by first | rfl | (simp; done) | (simp [*]; done)), (by first | rfl | (simp; done) | (simp [*]; done)), H', ⟨by have := HK1.out; omega⟩, ⟨bk HB.out⟩⟩
     rw [if_pos c3] at H
     have c3b0 : (x0_1 == 0) = true := beq_iff_eq.mpr c3
     have c3b1 : (x0_1 != 0) = false := bne_eq_false_iff_eq.mpr c3
     clear c3
     by_cases c4 : (decide (a0 < 0)) = true
     rotate_left
     · rw [if_neg c4] at H
       have c4b0 : (decide (a0 < 0)) = false := by simpa using c4
       try have c4b8 := of_decide_eq_false c4b0
       clear c4
       obtain rfl := Option.some.inj H
       go_wp2
       go_ret
       exact fin_ HB
     rw [if_pos c4] at H
     have c4b0 : (decide (a0 < 0)) = true := c4
     try have c4b8 := of_decide_eq_true c4b0
     clear c4
     by_cases c5 : 1 + x4_1.size ≤ 9223372036854775807
     rotate_left
     · rw [if_neg c5] at H
       exact absurd H (by simp)
     rw [if_pos c5] at H
     have c5b0 := eq_true c5
     have c5b1 := decide_eq_true c5
     try have c5b2 : (9223372036854775807 < 1 + x4_1.size) = False := eq_false (Nat.not_lt.2 c5)
     obtain rfl := Option.some.inj H
     go_wp2
     go_ret
     exact fin_ HB
 rw [if_pos c2] at H
 have c2b0 : (a0 == 0) = true := beq_iff_eq.mpr c2
 have c2b1 : (a0 != 0) = false := bne_eq_false_iff_eq.mpr c2
 clear c2
 obtain rfl := Option.some.inj H
 go_enter Tryd.func23, Tryd.ntmps23
 go_wp2
 go_ret
 exact fin_ HB
/-! ### spec_TypeShown: function 8 -/
def spec_TypeShown.f (k : Nat) (a0_0 : Int) (a0_1 : ByteArray) (a0_2 : Int) : Option (ByteArray) := if a0_0 = 0 then (some (⟨#[116, 111, 112]⟩ : ByteArray)) else (if a0_0 = 1 then (some (⟨#[105, 110, 116]⟩ : ByteArray)) else (if a0_0 = 2 then (some (⟨#[110, 117, 108, 108]⟩ : ByteArray)) else (if a0_0 = 3 then (some a0_1) else (if a0_0 = 4 then (some (⟨#[105, 110, 116, 91, 93]⟩ : ByteArray)) else (if a0_0 = 5 then (if a0_1.size + 2 ≤ 9223372036854775807 then (some (a0_1 ++ (⟨#[91, 93]⟩ : ByteArray))) else (none)) else (if a0_0 = 6 then (if 3 + a0_1.size ≤ 9223372036854775807 then (if ((⟨#[110, 101, 119]⟩ : ByteArray) ++ a0_1).size + 1 ≤ 9223372036854775807 then ((spec_l01Dec.f k a0_2).bind fun t114 => (if (((⟨#[110, 101, 119]⟩ : ByteArray) ++ a0_1) ++ (⟨#[64]⟩ : ByteArray)).size + t114.size ≤ 9223372036854775807 then (some ((((⟨#[110, 101, 119]⟩ : ByteArray) ++ a0_1) ++ (⟨#[64]⟩ : ByteArray)) ++ t114)) else (none))) else (none)) else (none)) else (if a0_0 = 7 then (some (⟨#[116, 104, 105, 115]⟩ : ByteArray)) else (some (⟨#[]⟩ : ByteArray)))))))))
def spec_TypeShown.T15 : Bool × List (List Nat × List Nat) := (true, [([], []), ([0], [0]), ([1], [1]), ([2], [2]), ([], []), ([4], [4]), ([5], [5]), ([3, 6], [3, 6]), ([7, 6, 0, 1, 2, 3, 4, 5, 6, 7], [7])])
def spec_TypeShown.B15 : List Nat := [0, 1, 3, 7, 0, 16, 48, 127, 255]
theorem spec_TypeShown.tab15 : rtab .any (opsOf Tryd.f8 15) = spec_TypeShown.T15 := by kernel_rfl
theorem spec_TypeShown.bits15 : waitsOk spec_TypeShown.T15.2 spec_TypeShown.B15 = true := by kernel_rfl
set_option maxHeartbeats 8000000 in
set_option maxRecDepth 100000 in
theorem spec_TypeShown.calls (k : Nat) (a0_0 : Int) (a0_1 : ByteArray) (a0_2 : Int) (r : ByteArray) (w : World) (h : spec_TypeShown.f k a0_0 a0_1 a0_2 = some r) :
 Calls Tryd.prog 8 #[.agg #[.int .i64 a0_0, .string a0_1, .int .i64 a0_2]] w fun e w' => e = .returned (.string r) ∧ Below w.heap.size w w' := by
 have hu26 := Tryd.underlying26; have HB := Zm (Below.refl w.heap.size w); have H : (if a0_0 = 0 then (some (⟨#[116, 111, 112]⟩ : ByteArray)) else (if a0_0 = 1 then (some (⟨#[105, 110, 116]⟩ : ByteArray)) else (if a0_0 = 2 then (some (⟨#[110, 117, 108, 108]⟩ : ByteArray)) else (if a0_0 = 3 then (some a0_1) else (if a0_0 = 4 then (some (⟨#[105, 110, 116, 91, 93]⟩ : ByteArray)) else (if a0_0 = 5 then (if a0_1.size + 2 ≤ 9223372036854775807 then (some (a0_1 ++ (⟨#[91, 93]⟩ : ByteArray))) else (none)) else (if a0_0 = 6 then (if 3 + a0_1.size ≤ 9223372036854775807 then (if ((⟨#[110, 101, 119]⟩ : ByteArray) ++ a0_1).size + 1 ≤ 9223372036854775807 then ((spec_l01Dec.f k a0_2).bind fun t114 => (if (((⟨#[110, 101, 119]⟩ : ByteArray) ++ a0_1) ++ (⟨#[64]⟩ : ByteArray)).size + t114.size ≤ 9223372036854775807 then (some ((((⟨#[110, 101, 119]⟩ : ByteArray) ++ a0_1) ++ (⟨#[64]⟩ : ByteArray)) ++ t114)) else (none))) else (none)) else (none)) else (if a0_0 = 7 then (some (⟨#[116, 104, 105, 115]⟩ : ByteArray)) else (some (⟨#[]⟩ : ByteArray)))))))))) = some r := h; clear h; have HC2 := Zm H; clear H; go_enter Tryd.func8, Tryd.ntmps8; go_upto_if 5 with (first | ((with_reducible refine gate_dst (N := 1) rfl ?_); refine box_event ?hg (N := 1) ?hd (cs := #[.int .i64 a0_0, .string a0_1, .int .i64 a0_2]) (t := 26) ?hr ?_; (case hd => rfl); (case hg => rfl); (case hr => first | (go_simp; done) | (go_simp; rfl)); intro gb113 hg w3 hbox hb; have n0_ := (⟨Zm (Zbt (bk HB.out) hb), Zm (hbox), Zm ((by rw [hg]; exact (Zbz (bk HB.out)) : w.heap.size ≤ gb113)), Zm ((by rw [hg]; exact (Zbz (bk HB.out)) : w.heap.size ≤ gb113))⟩ : _ ∧ _ ∧ _ ∧ _); clear HB; obtain ⟨HB, BK113, GW113, GE113⟩ := n0_; clear hb hbox hg; obtain ⟨hcz4_0, hcz4_1, hcz4_2⟩ := cz3 BK113.out; have hfz4_2 := Zkf BK113.out 2)); have H := HC2.out; clear HC2; by_cases c5 : a0_0 = 0; rotate_left
 · rw [if_neg c5] at H; have c5b0 : (a0_0 == 0) = false := beq_eq_false_iff_ne.mpr c5; have c5b1 : (a0_0 != 0) = true := bne_iff_ne.mpr c5; (first | rw [c5b0] | (simp only [i64_w, i32_w]; rw [c5b0]) | skip); by_cases c6 : a0_0 = 1; rotate_left
   · rw [if_neg c6] at H; have c6b0 : (a0_0 == 1) = false := beq_eq_false_iff_ne.mpr c6; have c6b1 : (a0_0 != 1) = true := bne_iff_ne.mpr c6; by_cases c7 : a0_0 = 2; rotate_left
     · rw [if_neg c7] at H; have c7b0 : (a0_0 == 2) = false := beq_eq_false_iff_ne.mpr c7; have c7b1 : (a0_0 != 2) = true := bne_iff_ne.mpr c7; by_cases c8 : a0_0 = 3; rotate_left
       · rw [if_neg c8] at H; have c8b0 : (a0_0 == 3) = false := beq_eq_false_iff_ne.mpr c8; have c8b1 : (a0_0 != 3) = true := bne_iff_ne.mpr c8; by_cases c10 : a0_0 = 4; rotate_left
         · rw [if_neg c10] at H; have c10b0 : (a0_0 == 4) = false := beq_eq_false_iff_ne.mpr c10; have c10b1 : (a0_0 != 4) = true := bne_iff_ne.mpr c10; by_cases c11 : a0_0 = 5; rotate_left
           · rw [if_neg c11] at H; have c11b0 : (a0_0 == 5) = false := beq_eq_false_iff_ne.mpr c11; have c11b1 : (a0_0 != 5) = true := bne_iff_ne.mpr c11; by_cases c14 : a0_0 = 6; rotate_left
             · rw [if_neg c14] at H; have c14b0 : (a0_0 == 6) = false := beq_eq_false_iff_ne.mpr c14; have c14b1 : (a0_0 != 6) = true := bne_iff_ne.mpr c14; by_cases c21 : a0_0 = 7; rotate_left
               · rw [if_neg c21] at H; have c21b0 : (a0_0 == 7) = false := beq_eq_false_iff_ne.mpr c21; have c21b1 : (a0_0 != 7) = true := bne_iff_ne.mpr c21; obtain rfl := Option.some.inj H; go_wp2; go_ret; exact fin_ HB

               rw [if_pos c21] at H
               have c21b0 : (a0_0 == 7) = true := beq_iff_eq.mpr c21
               have c21b1 : (a0_0 != 7) = false := bne_eq_false_iff_eq.mpr c21
               clear c21
               obtain rfl := Option.some.inj H
               go_wp2
               go_ret
               exact fin_ HB
             rw [if_pos c14] at H
             have c14b0 : (a0_0 == 6) = true := beq_iff_eq.mpr c14
             have c14b1 : (a0_0 != 6) = false := bne_eq_false_iff_eq.mpr c14
             clear c14
             by_cases c15 : 3 + a0_1.size ≤ 9223372036854775807
             rotate_left
             · rw [if_neg c15] at H
               exact absurd H (by simp)
             rw [if_pos c15] at H
             have c15b0 := eq_true c15
             have c15b1 := decide_eq_true c15
             try have c15b2 : (9223372036854775807 < 3 + a0_1.size) = False := eq_false (Nat.not_lt.2 c15)
             by_cases c16 : ((⟨#[110, 101, 119]⟩ : ByteArray) ++ a0_1).size + 1 ≤ 9223372036854775807
             rotate_left
             · rw [if_neg c16] at H
               exact absurd H (by simp)
             rw [if_pos c16] at H
             have c16b0 := eq_true c16
             have c16b1 := decide_eq_true c16
             try have c16b2 : (9223372036854775807 < ((⟨#[110, 101, 119]⟩ : ByteArray) ++ a0_1).size + 1) = False := eq_false (Nat.not_lt.2 c16)
             try have c16b9 : (9223372036854775807 < 3 + a0_1.size + 1) = False := eq_false (by have h_ := c16; simp only [ByteArray.size_append] at h_; have z0_ : (⟨#[110, 101, 119]⟩ : ByteArray).size = 3 := rfl; omega)
             replace H := Option.bind_eq_some_iff.mp H
             obtain ⟨t114, A170, H⟩ := H
             (try dsimp only at H)
             have A17 := Zm A170
             clear A170
             by_cases c18 : (((⟨#[110, 101, 119]⟩ : ByteArray) ++ a0_1) ++ (⟨#[64]⟩ : ByteArray)).size + t114.size ≤ 9223372036854775807
             rotate_left
             · rw [if_neg c18] at H
               exact absurd H (by simp)
             rw [if_pos c18] at H
             have c18b0 := eq_true c18
             have c18b1 := decide_eq_true c18
             try have c18b2 : (9223372036854775807 < (((⟨#[110, 101, 119]⟩ : ByteArray) ++ a0_1) ++ (⟨#[64]⟩ : ByteArray)).size + t114.size) = False := eq_false (Nat.not_lt.2 c18)
             try have c18b9 : (9223372036854775807 < 3 + a0_1.size + 1 + t114.size) = False := eq_false (by have h_ := c18; simp only [ByteArray.size_append] at h_; have z0_ : (⟨#[110, 101, 119]⟩ : ByteArray).size = 3 := rfl; have z1_ : (⟨#[64]⟩ : ByteArray).size = 1 := rfl; omega)
             obtain rfl := Option.some.inj H
             try go_wp2
             have n0_ := (⟨Zm (Zkd BK113.out), Zm (Zbd HB.out)⟩ : _ ∧ _)
             clear BK113 HB
             obtain ⟨BK113, HB⟩ := n0_
             refine start_ (n := 9) (S := fun w' => w'.cell? ⟨gb113, 0, none⟩ = some (.int .i64 a0_0) ∧ w'.cell? ⟨gb113, 1, none⟩ = some (.string a0_1) ∧ w'.cell? ⟨gb113, 2, none⟩ = some (.int .i64 a0_2)) (ds := []) #[false, false, false, false, false, false, false, false, false] (by kernel_rfl) rfl rfl ⟨(Zkc BK113.out 0).trans rfl, (Zkc BK113.out 1).trans rfl, (Zkc BK113.out 2).trans rfl⟩ (fun hHeld => ?_); refine with_tabW spec_TypeShown.tab15 spec_TypeShown.bits15 (fun HT_ HW_ => ?_)
             generalize w3.drew = w19 at BK113 HB hHeld ⊢
             refine pure_ (i := 0) (N := some 24) (v := ?_) (a' := ?_) #[true, false, false, false, false, false, false, false, false] rfl rfl (any_of HT_.out (by kernel_rfl)) (fun _ _ _ h => h) (Or.inl ⟨by rfl, ?_⟩) ?_ ?_
             rotate_left
             · intro w'
               go_simp
               with_reducible rfl
             rotate_left
             · simp only [Act.put, List.setIfInBounds_toArray, List.set_cons_zero, List.set_cons_succ, i64_w, i32_w]
               rfl
             refine pure_ (i := 4) (N := some 28) (v := ?_) (a' := ?_) #[true, false, false, false, true, false, false, false, false] rfl rfl (any_of HT_.out (by kernel_rfl)) (fun _ _ _ h => h) (Or.inl ⟨by rfl, ?_⟩) ?_ ?_
             rotate_left
             · intro w'
               go_simp
               with_reducible rfl
             rotate_left
             · simp only [Act.put, List.setIfInBounds_toArray, List.set_cons_zero, List.set_cons_succ, i64_w, i32_w]
               rfl
             refine take_ (i := 1) (N := some 25) (v := ?_) (a' := ?_) #[true, true, false, false, true, false, false, false, false] rfl rfl (take_ofW HT_.out HW_.out (by kernel_rfl)) (fun _ _ _ h => h) (Or.inl ⟨by rfl, ?_⟩) hHeld ?_ ?_
             rotate_left
             · rintro w' ⟨s0, s1, s2⟩
               go_simp
               with_reducible rfl
             rotate_left
             · simp only [Act.put, List.setIfInBounds_toArray, List.set_cons_zero, List.set_cons_succ, i64_w, i32_w]
               rfl
             refine pure_ (i := 2) (N := some 26) (v := ?_) (a' := ?_) #[true, true, true, false, true, false, false, false, false] rfl rfl (any_of HT_.out (by kernel_rfl)) (fun _ _ _ h => h) (Or.inl ⟨by rfl, ?_⟩) ?_ ?_
             rotate_left
             · intro w'
               go_simp
               with_reducible rfl
             rotate_left
             · simp only [Act.put, List.setIfInBounds_toArray, List.set_cons_zero, List.set_cons_succ, i64_w, i32_w]
               rfl
             refine pure_ (i := 3) (N := some 27) (v := ?_) (a' := ?_) #[true, true, true, true, true, false, false, false, false] rfl rfl (any_of HT_.out (by kernel_rfl)) (fun _ _ _ h => h) (Or.inl ⟨by rfl, ?_⟩) ?_ ?_
             rotate_left
             · intro w'
               go_simp
               with_reducible rfl
             rotate_left
             · simp only [Act.put, List.setIfInBounds_toArray, List.set_cons_zero, List.set_cons_succ, i64_w, i32_w]
               rfl
             refine take_ (i := 5) (N := some 29) (v := ?_) (a' := ?_) #[true, true, true, true, true, true, false, false, false] rfl rfl (take_ofW HT_.out HW_.out (by kernel_rfl)) (fun _ _ _ h => h) (Or.inl ⟨by rfl, ?_⟩) hHeld ?_ ?_
             rotate_left
             · rintro w' ⟨s0, s1, s2⟩
               go_simp
               with_reducible rfl
             rotate_left
             · simp only [Act.put, List.setIfInBounds_toArray, List.set_cons_zero, List.set_cons_succ, i64_w, i32_w]
               rfl
             refine one_ (i := 6) (N := some 30) #[true, true, true, true, true, true, true, false, false] rfl rfl (one_of HT_.out (by kernel_rfl)) (by decide) (fun K hK => ?_)
             refine goes_ Tryd.func23 (by kernel_rfl) rfl #[.int .i64 a0_2] (by rfl) rfl rfl (by (try simp only [List.map_toArray, List.map_cons, List.map_nil]); first | done | rfl | (simp only [List.length_drop, List.length_take]; rfl)) ?_
             with_reducible refine (spec_l01Dec.calls k a0_2 t114 _ A17.out).mono ?_
             rintro e w20 ⟨rfl, hb⟩
             refine ⟨_, rfl, ?_⟩
             have n0_ := Zm (Zkb (pk BK113.out) hb)
             have n1_ := Zm (Zbt (bk HB.out) hb)
             clear BK113
             clear HB
             have BK113 := n0_
             have HB := n1_
             clear n0_ n1_
             refine hK.out _ _ ⟨(Zkc BK113.out 0).trans rfl, (Zkc BK113.out 1).trans rfl, (Zkc BK113.out 2).trans rfl⟩ (fun hHeld => ?_)
             clear hK K
             refine norm_ (a' := ?_) ?_ ?_
             rotate_left
             · show Act.put _ (some 30) _ = _
               simp only [Act.put, List.setIfInBounds_toArray, List.set_cons_zero, List.set_cons_succ, i64_w, i32_w]
               rfl
             refine pure_ (i := 7) (N := some 31) (v := ?_) (a' := ?_) #[true, true, true, true, true, true, true, true, false] rfl rfl (any_of HT_.out (by kernel_rfl)) (fun _ _ _ h => h) (Or.inl ⟨by rfl, ?_⟩) ?_ ?_
             rotate_left
             · intro w'
               go_simp
               with_reducible rfl
             rotate_left
             · simp only [Act.put, List.setIfInBounds_toArray, List.set_cons_zero, List.set_cons_succ, i64_w, i32_w]
               rfl
             refine pure_ (i := 8) (N := some 2) (v := ?_) (a' := ?_) #[true, true, true, true, true, true, true, true, true] rfl rfl (any_of HT_.out (by kernel_rfl)) (fun _ _ _ h => h) (Or.inl ⟨by rfl, ?_⟩) ?_ ?_
             rotate_left
             · intro w'
               go_simp
               with_reducible rfl
             rotate_left
             · simp only [Act.put, List.setIfInBounds_toArray, List.set_cons_zero, List.set_cons_succ, i64_w, i32_w]
               rfl
             refine done_ (done_of HT_.out (by kernel_rfl)) ?_
             try go_wp2
             go_ret
             exact fin_ HB
           rw [if_pos c11] at H
           have c11b0 : (a0_0 == 5) = true := beq_iff_eq.mpr c11
           have c11b1 : (a0_0 != 5) = false := bne_eq_false_iff_eq.mpr c11
           clear c11
           by_cases c12 : a0_1.size + 2 ≤ 9223372036854775807
           rotate_left
           · rw [if_neg c12] at H
             exact absurd H (by simp)
           rw [if_pos c12] at H
           have c12b0 := eq_true c12
           have c12b1 := decide_eq_true c12
           try have c12b2 : (9223372036854775807 < a0_1.size + 2) = False := eq_false (Nat.not_lt.2 c12)
           obtain rfl := Option.some.inj H
           obtain ⟨hcz13_0, hcz13_1, hcz13_2⟩ := cz3 BK113.out
           go_wp2
           go_ret
           exact fin_ HB
         rw [if_pos c10] at H
         have c10b0 : (a0_0 == 4) = true := beq_iff_eq.mpr c10
         have c10b1 : (a0_0 != 4) = false := bne_eq_false_iff_eq.mpr c10
         clear c10
         obtain rfl := Option.some.inj H
         go_wp2
         go_ret
         exact fin_ HB
       rw [if_pos c8] at H
       have c8b0 : (a0_0 == 3) = true := beq_iff_eq.mpr c8
       have c8b1 : (a0_0 != 3) = false := bne_eq_false_iff_eq.mpr c8
       clear c8
       obtain rfl := Option.some.inj H
       obtain ⟨hcz9_0, hcz9_1, hcz9_2⟩ := cz3 BK113.out
       go_wp2
       go_ret
       exact fin_ HB
     rw [if_pos c7] at H
     have c7b0 : (a0_0 == 2) = true := beq_iff_eq.mpr c7
     have c7b1 : (a0_0 != 2) = false := bne_eq_false_iff_eq.mpr c7
     clear c7
     obtain rfl := Option.some.inj H
     go_wp2
     go_ret
     exact fin_ HB
   rw [if_pos c6] at H
   have c6b0 : (a0_0 == 1) = true := beq_iff_eq.mpr c6
   have c6b1 : (a0_0 != 1) = false := bne_eq_false_iff_eq.mpr c6
   clear c6
   obtain rfl := Option.some.inj H
   go_wp2
   go_ret
   exact fin_ HB
 rw [if_pos c5] at H
 have c5b0 : (a0_0 == 0) = true := beq_iff_eq.mpr c5
 have c5b1 : (a0_0 != 0) = false := bne_eq_false_iff_eq.mpr c5
 clear c5
 (first | rw [c5b0] | (simp only [i64_w, i32_w]; rw [c5b0]) | skip)
 obtain rfl := Option.some.inj H
 go_wp2
 go_ret
 exact fin_ HB
end Go.Proofs.YtdfnljchoomliaaDoor.PFnExactFrameShown
