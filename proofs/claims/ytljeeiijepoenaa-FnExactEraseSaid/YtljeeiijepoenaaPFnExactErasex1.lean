/- Functions of the program as plain Lean functions, each with a proof that the program's call comes to the same; no condition. Written by a program of this session. -/
import Derived.Test.YtljeeiijepoenaaPFnExactErasex0
namespace Go.Proofs.Ytljeeiijepoenaa.PFnExactErase
open Go.RowKit Go.Proofs.YtljeeiijepoenaaW.PrintWords Go.Proofs.YtljeeiijepoenaaW.PrintLast Go.Proofs.YtljeeiijepoenaaW.PrintMore
open Go.Proofs.YtljeeiijepoenaaW.PrintWords renaming below_size → Zbz, below_step → Zbt, blk_frozen → Zkf, blk_below → Zkb
open Go.World renaming block_lt_of_cell? → Zlt
open Go.Proofs.YtljeeiijepoenaaW.PrintWords.Aside0 renaming mk → Zm
attribute [local go_sem] max2_int min2_int max_two min_two max_three min_three max_four min_four   -- for this text's walks alone
set_option linter.unusedVariables false
set_option linter.unusedSimpArgs false

/-! ### laws_szValS: function 19 -/
def laws_szValS.f (l0 : List (S28)) (a1 : Int) : Option (Int) := if (wrap64 (a1 - (l0.length : Int))) < 0 then (some (-1)) else (some (wrap64 (a1 - (l0.length : Int))))
set_option maxHeartbeats 8000000 in
set_option maxRecDepth 100000 in
theorem laws_szValS.calls (A0 : Option Addr) (c0 : Nat) (l0 : List (S28)) (a1 : Int) (r : Int) (w : World) (hr0 : Kd.C k28 w A0 l0.length l0) (hc0 : l0.length ≤ c0) (h : laws_szValS.f l0 a1 = some r) :
 Calls Try.prog 19 #[.slice A0 l0.length c0, .int .i64 a1] w fun e w' => e = .returned (.int .i64 r) ∧ Drawn0 w w' := by
 have HR0 := Zm hr0; have HC0 := Zm hc0; clear hr0 hc0; have H := h; clear h; unfold laws_szValS.f at H; replace H := sp_ H; rcases H with ⟨c3, H⟩ | ⟨c3, H⟩
 · have c3b0 := decide_eq_false c3; (try (have c3b1 : decide ((IntKind.i64.wrap (a1 - (l0.length : Int))) < 0) = false := by simp only [i64_w]; exact (decide_eq_false c3))); clear c3; obtain rfl := Option.some.inj H; go_enter Try.func19, Try.ntmps19; go_wp2; go_ret; exact fd_
 have c3b0 := decide_eq_true c3; (try (have c3b1 : decide ((IntKind.i64.wrap (a1 - (l0.length : Int))) < 0) = true := by simp only [i64_w]; exact (decide_eq_true c3))); clear c3; obtain rfl := Option.some.inj H; go_enter Try.func19, Try.ntmps19; go_wp2; go_ret; exact fd_
/-! ### laws_szObj: function 85 -/
def laws_szObj.f (a0_0 : Int) (a0_1 : ByteArray) (a0_2 : Bool) (l0_3 : List (S28)) (a1 : Int) : Option (Int) := if (wrap64 (a1 - (a0_1.size : Int))) < 0 then (some (-1)) else ((laws_szValS.f l0_3 (wrap64 (a1 - (a0_1.size : Int)))).bind fun t102 => (if t102 < 0 then (some (-1)) else (some t102)))
set_option maxHeartbeats 8000000 in
set_option maxRecDepth 100000 in
theorem laws_szObj.calls (a0_0 : Int) (a0_1 : ByteArray) (a0_2 : Bool) (A0_3 : Option Addr) (c0_3 : Nat) (l0_3 : List (S28)) (a1 : Int) (r : Int) (w : World) (hr0_3 : Kd.C k28 w A0_3 l0_3.length l0_3) (hc0_3 : l0_3.length ≤ c0_3) (h : laws_szObj.f a0_0 a0_1 a0_2 l0_3 a1 = some r) :
 Calls Try.prog 85 #[.agg #[.int .i64 a0_0, .string a0_1, .bool a0_2, .slice A0_3 l0_3.length c0_3], .int .i64 a1] w fun e w' => e = .returned (.int .i64 r) ∧ Below w.heap.size w w' := by
 have hu156 := Try.underlying156; have HR0_3 := Zm hr0_3; have HC0_3 := Zm hc0_3; clear hr0_3 hc0_3; have HB := Zm (Below.refl w.heap.size w); have H := h; clear h; unfold laws_szObj.f at H; have HC3 := Zm H; clear H; go_enter Try.func85, Try.ntmps85; go_upto_if 11 with (first | ((with_reducible refine gate_dst (N := 2) rfl ?_); refine bx_ 2 156 #[.int .i64 a0_0, .string a0_1, .bool a0_2, .slice A0_3 l0_3.length c0_3] ?_; intro gb101 hg w4 hbox hb; have BK101 := Zm hbox; have GW101 := bz HB hg; have GE101 := bz HB hg; replace HB := bt_ HB hb; clear hb hbox hg; have hcz5 := cz4 BK101.out; have hfz5_3 := Zkf BK101.out 3)); have H := HC3.out; clear HC3; replace H := sp_ H; rcases H with ⟨c6, H⟩ | ⟨c6, H⟩
 · have c6b0 := decide_eq_false c6; (try (have c6b1 : decide ((IntKind.i64.wrap (a1 - (a0_1.size : Int))) < 0) = false := by simp only [i64_w]; exact (decide_eq_false c6))); clear c6; (first | rw [c6b0] | (simp only [i64_w, i32_w]; rw [c6b0]) | skip); replace H := sq_ H; obtain ⟨t102, A7, H⟩ := H; have HC8 := Zm H; clear H; have hcz9 := cz4 BK101.out; (try clear BK101); go_upto_if 17 with (first | ((with_reducible refine gate_callee (f := 19) rfl ?_); refine ge_ (some 15) Try.func19 #[.slice A0_3 l0_3.length c0_3, .int .i64 (wrap64 (a1 - (a0_1.size : Int)))] ?_; refine ca_ (laws_szValS.calls _ _ _ _ _ _ (pd HR0_3 HB) HC0_3.out A7.out) ?_; rintro e w' ⟨rfl, ⟨nd, rfl⟩⟩; refine ⟨_, rfl, ?_⟩)); have H := HC8.out; clear HC8; replace H := sd_ H; rcases H with ⟨c10b0, H⟩ | ⟨c10b0, H⟩
   · (first | rw [c10b0] | (simp only [i64_w, i32_w]; rw [c10b0]) | skip); obtain rfl := Option.some.inj H; go_wp2; go_ret; exact fin_ HB
   (first | rw [c10b0] | (simp only [i64_w, i32_w]; rw [c10b0]) | skip); obtain rfl := Option.some.inj H; go_wp2; go_ret; exact fin_ HB
 have c6b0 := decide_eq_true c6; (try (have c6b1 : decide ((IntKind.i64.wrap (a1 - (a0_1.size : Int))) < 0) = true := by simp only [i64_w]; exact (decide_eq_true c6))); clear c6; (first | rw [c6b0] | (simp only [i64_w, i32_w]; rw [c6b0]) | skip); obtain rfl := Option.some.inj H; go_wp2; go_ret; exact fin_ HB
/-! ### laws_szObjS: function 51 -/
def laws_szObjS.l0 : Nat → List (S156) → Int → Int → Option (Int)
 | 0, _, _, _ => none
 | k + 1, x0, x1, x5 => if x5 < (x0.length : Int) then (if 0 ≤ x5 then ((laws_szObj.f ((rd_T156 x0 x5).f0) ((rd_T156 x0 x5).f1) ((rd_T156 x0 x5).f2) ((rd_T156 x0 x5).f3) x1).bind fun t104 => (if t104 < 0 then (some (-1)) else (laws_szObjS.l0 k x0 t104 (wrap64 (x5 + 1))))) else (none)) else (some x1)
def laws_szObjS.f (k : Nat) (l0 : List (S156)) (a1 : Int) : Option (Int) := if (wrap64 (a1 - (l0.length : Int))) < 0 then (some (-1)) else (laws_szObjS.l0 k l0 (wrap64 (a1 - (l0.length : Int))) 0)
theorem laws_szObjS.mono_l : ∀ k, (∀ y0 y1 y2, LeO (laws_szObjS.l0 k y0 y1 y2) (laws_szObjS.l0 (k + 1) y0 y1 y2))
 | 0 => by intros; intro r h; simp [laws_szObjS.l0] at h
 | k + 1 => by
  have ih0 := laws_szObjS.mono_l k; intros; unfold laws_szObjS.l0; exact mo_
theorem laws_szObjS.mono : ∀ a0 a1 k, LeO (laws_szObjS.f k a0 a1) (laws_szObjS.f (k + 1) a0 a1) := by
 intro a0 a1 k; have ih0 := laws_szObjS.mono_l k; unfold laws_szObjS.f; exact mo_
set_option maxHeartbeats 8000000 in
set_option maxRecDepth 100000 in
theorem laws_szObjS.calls (k : Nat) (A0 : Option Addr) (c0 : Nat) (l0 : List (S156)) (a1 : Int) (r : Int) (w : World) (hr0 : Kd.C k156 w A0 l0.length l0) (hc0 : l0.length ≤ c0) (h : laws_szObjS.f k l0 a1 = some r) :
 Calls Try.prog 51 #[.slice A0 l0.length c0, .int .i64 a1] w fun e w' => e = .returned (.int .i64 r) ∧ Below w.heap.size w w' := by
 have hu156 := Try.underlying156; have HR0 := Zm hr0; have HC0 := Zm hc0; clear hr0 hc0; have HB := Zm (Below.refl w.heap.size w); have H := h; clear h; unfold laws_szObjS.f at H; replace H := sp_ H; rcases H with ⟨c3, H⟩ | ⟨c3, H⟩
 · have c3b0 := decide_eq_false c3; (try (have c3b1 : decide ((IntKind.i64.wrap (a1 - (l0.length : Int))) < 0) = false := by simp only [i64_w]; exact (decide_eq_false c3))); clear c3; have H' := Zm H; clear H; go_enter Try.func51, Try.ntmps51; go_wp2; go_loopg [1, 5] k (fun kq v1 v5 w' => ∃ (x1_1 : Int) (x5_1 : Int), v1 = .int .i64 x1_1 ∧ v5 = .int .i64 x5_1 ∧ Aside0 (laws_szObjS.l0 kq l0 x1_1 x5_1 = some r) ∧ Aside0 (kq ≤ k) ∧ Aside0 (Below w.heap.size w w'))
   case atStart => exact ⟨(wrap64 (a1 - (l0.length : Int))), (0), s1_, s1_, H', ⟨Nat.le_refl _⟩, ⟨bk HB.out⟩⟩
   case round =>
    clear H'; (try clear c3); (try clear c3b0); (try clear c3b1); obtain ⟨x1_1, x5_1, rfl, rfl, HA, HK1, HB⟩ := hrel
    cases gk with
    | zero => exact absurd HA.out (by simp [laws_szObjS.l0])
    | succ k1 =>
     have H := HA.out; clear HA; simp only [laws_szObjS.l0] at H; replace H := sd_ H; rcases H with ⟨c4b0, H⟩ | ⟨c4b0, H⟩
     · obtain rfl := Option.some.inj H; go_wp2; go_ret; exact fin_ HB
     replace H := snd_ H; obtain ⟨c5b0, H⟩ := H; replace H := sq_ H; obtain ⟨t104, A6, H⟩ := H; have HC7 := Zm H; clear H; obtain ⟨ad103, A103_3, c103_3, e103, hx103, HC103_3, HR103_3⟩ := an_T156 HR0 HB x5_1; cases e103; go_upto_if 25 with (first | ((with_reducible refine gate_callee (f := 85) rfl ?_); refine ge_ (some 23) Try.func85 #[.agg #[.int .i64 ((rd_T156 l0 x5_1).f0), .string ((rd_T156 l0 x5_1).f1), .bool ((rd_T156 l0 x5_1).f2), .slice A103_3 ((rd_T156 l0 x5_1).f3).length c103_3], .int .i64 x1_1] ?_; refine ca_ (laws_szObj.calls _ _ _ _ _ _ _ _ _ (pd HR103_3 HB) HC103_3.out A6.out) ?_; rintro e w8 ⟨rfl, hb⟩; refine ⟨_, rfl, ?_⟩; have n0_ := bt_ HB hb; clear HB; have HB := n0_; clear n0_; clear hb)); have H := HC7.out; clear HC7; replace H := sd_ H; rcases H with ⟨c9b0, H⟩ | ⟨c9b0, H⟩
     · (first | rw [c9b0] | (simp only [i64_w, i32_w]; rw [c9b0]) | skip); have H' := Zm H; clear H; go_wp2; go_roundg k1
       case measure => have := HK1.out; omega
       case rel => exact ⟨(t104), (wrap64 (x5_1 + 1)), s1_, s1_, H', ⟨by have := HK1.out; omega⟩, ⟨bk HB.out⟩⟩
     (first | rw [c9b0] | (simp only [i64_w, i32_w]; rw [c9b0]) | skip); obtain rfl := Option.some.inj H; go_wp2; go_ret; exact fin_ HB
 have c3b0 := decide_eq_true c3; (try (have c3b1 : decide ((IntKind.i64.wrap (a1 - (l0.length : Int))) < 0) = true := by simp only [i64_w]; exact (decide_eq_true c3))); clear c3; obtain rfl := Option.some.inj H; go_enter Try.func51, Try.ntmps51; go_wp2; go_ret; exact fin_ HB
/-! ### laws_szHeap: function 18 -/
def laws_szHeap.f (k : Nat) (l0_0 : List (S156)) (a0_1 : Int) (a1 : Int) : Option (Int) := (laws_szObjS.f k l0_0 a1).bind fun t106 => (if t106 < 0 then (some (-1)) else (some t106))
theorem laws_szHeap.mono : ∀ a0 a1 a2 k, LeO (laws_szHeap.f k a0 a1 a2) (laws_szHeap.f (k + 1) a0 a1 a2) := by
 intro a0 a1 a2 k; unfold laws_szHeap.f; have m0 := @laws_szObjS.mono; exact mo_
set_option maxHeartbeats 8000000 in
set_option maxRecDepth 100000 in
theorem laws_szHeap.calls (k : Nat) (A0_0 : Option Addr) (c0_0 : Nat) (l0_0 : List (S156)) (a0_1 : Int) (a1 : Int) (r : Int) (w : World) (hr0_0 : Kd.C k156 w A0_0 l0_0.length l0_0) (hc0_0 : l0_0.length ≤ c0_0) (h : laws_szHeap.f k l0_0 a0_1 a1 = some r) :
 Calls Try.prog 18 #[.agg #[.slice A0_0 l0_0.length c0_0, .int .i64 a0_1], .int .i64 a1] w fun e w' => e = .returned (.int .i64 r) ∧ Below w.heap.size w w' := by
 have hu24 := Try.underlying24; have HR0_0 := Zm hr0_0; have HC0_0 := Zm hc0_0; clear hr0_0 hc0_0; have HB := Zm (Below.refl w.heap.size w); have H := h; clear h; unfold laws_szHeap.f at H; replace H := sq_ H; obtain ⟨t106, A3, H⟩ := H; have HC4 := Zm H; clear H; go_enter Try.func18, Try.ntmps18; go_upto_if 10 with (first | ((with_reducible refine gate_dst (N := 2) rfl ?_); refine bx_ 2 24 #[.slice A0_0 l0_0.length c0_0, .int .i64 a0_1] ?_; intro gb105 hg w5 hbox hb; have BK105 := Zm hbox; have GW105 := bz HB hg; have GE105 := bz HB hg; replace HB := bt_ HB hb; clear hb hbox hg; have hcz6 := cz2 BK105.out; (try clear BK105)) | ((with_reducible refine gate_callee (f := 51) rfl ?_); refine ge_ (some 8) Try.func51 #[.slice A0_0 l0_0.length c0_0, .int .i64 a1] ?_; refine ca_ (laws_szObjS.calls _ _ _ _ _ _ _ (pd HR0_0 HB) HC0_0.out A3.out) ?_; rintro e w7 ⟨rfl, hb⟩; refine ⟨_, rfl, ?_⟩; have n0_ := bt_ HB hb; clear HB; have HB := n0_; clear n0_; clear hb)); have H := HC4.out; clear HC4; replace H := sd_ H; rcases H with ⟨c8b0, H⟩ | ⟨c8b0, H⟩
 · (first | rw [c8b0] | (simp only [i64_w, i32_w]; rw [c8b0]) | skip); obtain rfl := Option.some.inj H; go_wp2; go_ret; exact fin_ HB
 (first | rw [c8b0] | (simp only [i64_w, i32_w]; rw [c8b0]) | skip); obtain rfl := Option.some.inj H; go_wp2; go_ret; exact fin_ HB
/-! ### laws_szAct: function 52 -/
def laws_szAct.f (a0_0 : Int) (a0_1 : Int) (a0_2 : Int) (l0_3 : List (S28)) (l0_4 : List (S28)) (a1 : Int) : Option (Int) := (laws_szValS.f l0_3 a1).bind fun t108 => (if t108 < 0 then (some (-1)) else ((laws_szValS.f l0_4 t108).bind fun t109 => (if t109 < 0 then (some (-1)) else (some t109))))
set_option maxHeartbeats 8000000 in
set_option maxRecDepth 100000 in
theorem laws_szAct.calls (a0_0 : Int) (a0_1 : Int) (a0_2 : Int) (A0_3 : Option Addr) (c0_3 : Nat) (l0_3 : List (S28)) (A0_4 : Option Addr) (c0_4 : Nat) (l0_4 : List (S28)) (a1 : Int) (r : Int) (w : World) (hr0_3 : Kd.C k28 w A0_3 l0_3.length l0_3) (hc0_3 : l0_3.length ≤ c0_3) (hr0_4 : Kd.C k28 w A0_4 l0_4.length l0_4) (hc0_4 : l0_4.length ≤ c0_4) (h : laws_szAct.f a0_0 a0_1 a0_2 l0_3 l0_4 a1 = some r) :
 Calls Try.prog 52 #[.agg #[.int .i64 a0_0, .int .i64 a0_1, .int .i64 a0_2, .slice A0_3 l0_3.length c0_3, .slice A0_4 l0_4.length c0_4], .int .i64 a1] w fun e w' => e = .returned (.int .i64 r) ∧ Below w.heap.size w w' := by
 have hu113 := Try.underlying113; have HR0_3 := Zm hr0_3; have HC0_3 := Zm hc0_3; clear hr0_3 hc0_3; have HR0_4 := Zm hr0_4; have HC0_4 := Zm hc0_4; clear hr0_4 hc0_4; have HB := Zm (Below.refl w.heap.size w); have H := h; clear h; unfold laws_szAct.f at H; replace H := sq_ H; obtain ⟨t108, A3, H⟩ := H; have HC4 := Zm H; clear H; go_enter Try.func52, Try.ntmps52; go_upto_if 10 with (first | ((with_reducible refine gate_dst (N := 2) rfl ?_); refine bx_ 2 113 #[.int .i64 a0_0, .int .i64 a0_1, .int .i64 a0_2, .slice A0_3 l0_3.length c0_3, .slice A0_4 l0_4.length c0_4] ?_; intro gb107 hg w5 hbox hb; have BK107 := Zm hbox; have GW107 := bz HB hg; have GE107 := bz HB hg; replace HB := bt_ HB hb; clear hb hbox hg; have hcz6 := cz5 BK107.out; have hfz6_4 := Zkf BK107.out 4) | ((with_reducible refine gate_callee (f := 19) rfl ?_); refine ge_ (some 8) Try.func19 #[.slice A0_3 l0_3.length c0_3, .int .i64 a1] ?_; refine ca_ (laws_szValS.calls _ _ _ _ _ _ (pd HR0_3 HB) HC0_3.out A3.out) ?_; rintro e w' ⟨rfl, ⟨nd, rfl⟩⟩; refine ⟨_, rfl, ?_⟩)); have H := HC4.out; clear HC4; replace H := sd_ H; rcases H with ⟨c7b0, H⟩ | ⟨c7b0, H⟩
 · (first | rw [c7b0] | (simp only [i64_w, i32_w]; rw [c7b0]) | skip); replace H := sq_ H; obtain ⟨t109, A8, H⟩ := H; have HC9 := Zm H; clear H; have hcz10 := cz5 BK107.out; (try clear BK107); go_upto_if 16 with (first | ((with_reducible refine gate_callee (f := 19) rfl ?_); refine ge_ (some 14) Try.func19 #[.slice A0_4 l0_4.length c0_4, .int .i64 t108] ?_; refine ca_ (laws_szValS.calls _ _ _ _ _ _ (Kd.C_below HR0_4.out (bk HB.out)) HC0_4.out A8.out) ?_; rintro e w' ⟨rfl, ⟨nd, rfl⟩⟩; refine ⟨_, rfl, ?_⟩)); have H := HC9.out; clear HC9; replace H := sd_ H; rcases H with ⟨c11b0, H⟩ | ⟨c11b0, H⟩
   · (first | rw [c11b0] | (simp only [i64_w, i32_w]; rw [c11b0]) | skip); obtain rfl := Option.some.inj H; go_wp2; go_ret; exact fin_ HB
   (first | rw [c11b0] | (simp only [i64_w, i32_w]; rw [c11b0]) | skip); obtain rfl := Option.some.inj H; go_wp2; go_ret; exact fin_ HB
 (first | rw [c7b0] | (simp only [i64_w, i32_w]; rw [c7b0]) | skip); obtain rfl := Option.some.inj H; go_wp2; go_ret; exact fin_ HB
/-! ### laws_szActS: function 20 -/
def laws_szActS.l0 : Nat → List (S113) → Int → Int → Option (Int)
 | 0, _, _, _ => none
 | k + 1, x0, x1, x5 => if x5 < (x0.length : Int) then (if 0 ≤ x5 then ((laws_szAct.f ((rd_T113 x0 x5).f0) ((rd_T113 x0 x5).f1) ((rd_T113 x0 x5).f2) ((rd_T113 x0 x5).f3) ((rd_T113 x0 x5).f4) x1).bind fun t111 => (if t111 < 0 then (some (-1)) else (laws_szActS.l0 k x0 t111 (wrap64 (x5 + 1))))) else (none)) else (some x1)
def laws_szActS.f (k : Nat) (l0 : List (S113)) (a1 : Int) : Option (Int) := if (wrap64 (a1 - (l0.length : Int))) < 0 then (some (-1)) else (laws_szActS.l0 k l0 (wrap64 (a1 - (l0.length : Int))) 0)
theorem laws_szActS.mono_l : ∀ k, (∀ y0 y1 y2, LeO (laws_szActS.l0 k y0 y1 y2) (laws_szActS.l0 (k + 1) y0 y1 y2))
 | 0 => by intros; intro r h; simp [laws_szActS.l0] at h
 | k + 1 => by
  have ih0 := laws_szActS.mono_l k; intros; unfold laws_szActS.l0; exact mo_
theorem laws_szActS.mono : ∀ a0 a1 k, LeO (laws_szActS.f k a0 a1) (laws_szActS.f (k + 1) a0 a1) := by
 intro a0 a1 k; have ih0 := laws_szActS.mono_l k; unfold laws_szActS.f; exact mo_
set_option maxHeartbeats 8000000 in
set_option maxRecDepth 100000 in
theorem laws_szActS.calls (k : Nat) (A0 : Option Addr) (c0 : Nat) (l0 : List (S113)) (a1 : Int) (r : Int) (w : World) (hr0 : Kd.C k113 w A0 l0.length l0) (hc0 : l0.length ≤ c0) (h : laws_szActS.f k l0 a1 = some r) :
 Calls Try.prog 20 #[.slice A0 l0.length c0, .int .i64 a1] w fun e w' => e = .returned (.int .i64 r) ∧ Below w.heap.size w w' := by
 have hu113 := Try.underlying113; have HR0 := Zm hr0; have HC0 := Zm hc0; clear hr0 hc0; have HB := Zm (Below.refl w.heap.size w); have H := h; clear h; unfold laws_szActS.f at H; replace H := sp_ H; rcases H with ⟨c3, H⟩ | ⟨c3, H⟩
 · have c3b0 := decide_eq_false c3; (try (have c3b1 : decide ((IntKind.i64.wrap (a1 - (l0.length : Int))) < 0) = false := by simp only [i64_w]; exact (decide_eq_false c3))); clear c3; have H' := Zm H; clear H; go_enter Try.func20, Try.ntmps20; go_wp2; go_loopg [1, 5] k (fun kq v1 v5 w' => ∃ (x1_1 : Int) (x5_1 : Int), v1 = .int .i64 x1_1 ∧ v5 = .int .i64 x5_1 ∧ Aside0 (laws_szActS.l0 kq l0 x1_1 x5_1 = some r) ∧ Aside0 (kq ≤ k) ∧ Aside0 (Below w.heap.size w w'))
   case atStart => exact ⟨(wrap64 (a1 - (l0.length : Int))), (0), s1_, s1_, H', ⟨Nat.le_refl _⟩, ⟨bk HB.out⟩⟩
   case round =>
    clear H'; (try clear c3); (try clear c3b0); (try clear c3b1); obtain ⟨x1_1, x5_1, rfl, rfl, HA, HK1, HB⟩ := hrel
    cases gk with
    | zero => exact absurd HA.out (by simp [laws_szActS.l0])
    | succ k1 =>
     have H := HA.out; clear HA; simp only [laws_szActS.l0] at H; replace H := sd_ H; rcases H with ⟨c4b0, H⟩ | ⟨c4b0, H⟩
     · obtain rfl := Option.some.inj H; go_wp2; go_ret; exact fin_ HB
     replace H := snd_ H; obtain ⟨c5b0, H⟩ := H; replace H := sq_ H; obtain ⟨t111, A6, H⟩ := H; have HC7 := Zm H; clear H; obtain ⟨ad110, A110_3, c110_3, A110_4, c110_4, e110, hx110, HC110_3, HR110_3, HC110_4, HR110_4⟩ := an_T113 HR0 HB x5_1; cases e110; go_upto_if 25 with (first | ((with_reducible refine gate_callee (f := 52) rfl ?_); refine ge_ (some 23) Try.func52 #[.agg #[.int .i64 ((rd_T113 l0 x5_1).f0), .int .i64 ((rd_T113 l0 x5_1).f1), .int .i64 ((rd_T113 l0 x5_1).f2), .slice A110_3 ((rd_T113 l0 x5_1).f3).length c110_3, .slice A110_4 ((rd_T113 l0 x5_1).f4).length c110_4], .int .i64 x1_1] ?_; refine ca_ (laws_szAct.calls _ _ _ _ _ _ _ _ _ _ _ _ (pd HR110_3 HB) HC110_3.out (pd HR110_4 HB) HC110_4.out A6.out) ?_; rintro e w8 ⟨rfl, hb⟩; refine ⟨_, rfl, ?_⟩; have n0_ := bt_ HB hb; clear HB; have HB := n0_; clear n0_; clear hb)); have H := HC7.out; clear HC7; replace H := sd_ H; rcases H with ⟨c9b0, H⟩ | ⟨c9b0, H⟩
     · (first | rw [c9b0] | (simp only [i64_w, i32_w]; rw [c9b0]) | skip); have H' := Zm H; clear H; go_wp2; go_roundg k1
       case measure => have := HK1.out; omega
       case rel => exact ⟨(t111), (wrap64 (x5_1 + 1)), s1_, s1_, H', ⟨by have := HK1.out; omega⟩, ⟨bk HB.out⟩⟩
     (first | rw [c9b0] | (simp only [i64_w, i32_w]; rw [c9b0]) | skip); obtain rfl := Option.some.inj H; go_wp2; go_ret; exact fin_ HB
 have c3b0 := decide_eq_true c3; (try (have c3b1 : decide ((IntKind.i64.wrap (a1 - (l0.length : Int))) < 0) = true := by simp only [i64_w]; exact (decide_eq_true c3))); clear c3; obtain rfl := Option.some.inj H; go_enter Try.func20, Try.ntmps20; go_wp2; go_ret; exact fin_ HB
/-! ### laws_szMachine: function 5 -/
def laws_szMachine.f (k : Nat) (l0_0 : List (S156)) (a0_1 : Int) (l0_2 : List (S28)) (l0_3 : List (S113)) (a0_4 : Bool) (a0_5 : Int) (a0_6 : Int) (a0_7 : ByteArray) (a0_8 : Bool) (a0_9 : Int) (a1 : Int) : Option (Int) := (laws_szHeap.f k l0_0 a0_1 a1).bind fun t113 => (if t113 < 0 then (some (-1)) else ((laws_szValS.f l0_2 t113).bind fun t114 => (if t114 < 0 then (some (-1)) else ((laws_szActS.f k l0_3 t114).bind fun t115 => (if t115 < 0 then (some (-1)) else (if (wrap64 (t115 - (a0_7.size : Int))) < 0 then (some (-1)) else (some (wrap64 (t115 - (a0_7.size : Int))))))))))
theorem laws_szMachine.mono : ∀ a0 a1 a2 a3 a4 a5 a6 a7 a8 a9 a10 k, LeO (laws_szMachine.f k a0 a1 a2 a3 a4 a5 a6 a7 a8 a9 a10) (laws_szMachine.f (k + 1) a0 a1 a2 a3 a4 a5 a6 a7 a8 a9 a10) := by
 intro a0 a1 a2 a3 a4 a5 a6 a7 a8 a9 a10 k; unfold laws_szMachine.f; have m0 := @laws_szActS.mono; have m1 := @laws_szHeap.mono; exact mo_
set_option maxHeartbeats 8000000 in
set_option maxRecDepth 100000 in
theorem laws_szMachine.calls (k : Nat) (A0_0 : Option Addr) (c0_0 : Nat) (l0_0 : List (S156)) (a0_1 : Int) (A0_2 : Option Addr) (c0_2 : Nat) (l0_2 : List (S28)) (A0_3 : Option Addr) (c0_3 : Nat) (l0_3 : List (S113)) (a0_4 : Bool) (a0_5 : Int) (a0_6 : Int) (a0_7 : ByteArray) (a0_8 : Bool) (a0_9 : Int) (a1 : Int) (r : Int) (w : World) (hr0_0 : Kd.C k156 w A0_0 l0_0.length l0_0) (hc0_0 : l0_0.length ≤ c0_0) (hr0_2 : Kd.C k28 w A0_2 l0_2.length l0_2) (hc0_2 : l0_2.length ≤ c0_2) (hr0_3 : Kd.C k113 w A0_3 l0_3.length l0_3) (hc0_3 : l0_3.length ≤ c0_3) (h : laws_szMachine.f k l0_0 a0_1 l0_2 l0_3 a0_4 a0_5 a0_6 a0_7 a0_8 a0_9 a1 = some r) :
 Calls Try.prog 5 #[.agg #[.slice A0_0 l0_0.length c0_0, .int .i64 a0_1, .slice A0_2 l0_2.length c0_2, .slice A0_3 l0_3.length c0_3, .bool a0_4, .int .i64 a0_5, .int .i64 a0_6, .string a0_7, .bool a0_8, .int .i64 a0_9], .int .i64 a1] w fun e w' => e = .returned (.int .i64 r) ∧ Below w.heap.size w w' := by
 have hu30 := Try.underlying30; have hu24 := Try.underlying24; have HR0_0 := Zm hr0_0; have HC0_0 := Zm hc0_0; clear hr0_0 hc0_0; have HR0_2 := Zm hr0_2; have HC0_2 := Zm hc0_2; clear hr0_2 hc0_2; have HR0_3 := Zm hr0_3; have HC0_3 := Zm hc0_3; clear hr0_3 hc0_3; have HB := Zm (Below.refl w.heap.size w); have H := h; clear h; unfold laws_szMachine.f at H; replace H := sq_ H; obtain ⟨t113, A3, H⟩ := H; have HC4 := Zm H; clear H; go_enter Try.func5, Try.ntmps5; go_upto_if 10 with (first | ((with_reducible refine gate_dst (N := 2) rfl ?_); refine bx_ 2 30 #[.slice A0_0 l0_0.length c0_0, .int .i64 a0_1, .slice A0_2 l0_2.length c0_2, .slice A0_3 l0_3.length c0_3, .bool a0_4, .int .i64 a0_5, .int .i64 a0_6, .string a0_7, .bool a0_8, .int .i64 a0_9] ?_; intro gb112 hg w5 hbox hb; have BK112 := Zm hbox; have GW112 := bz HB hg; have GE112 := bz HB hg; replace HB := bt_ HB hb; clear hb hbox hg; have hcz6 := cz10 BK112.out; have hfz6_9 := Zkf BK112.out 9) | ((with_reducible refine gate_callee (f := 18) rfl ?_); refine ge_ (some 8) Try.func18 #[.agg #[.slice A0_0 l0_0.length c0_0, .int .i64 a0_1], .int .i64 a1] ?_; refine ca_ (laws_szHeap.calls _ _ _ _ _ _ _ _ (pd HR0_0 HB) HC0_0.out A3.out) ?_; rintro e w7 ⟨rfl, hb⟩; refine ⟨_, rfl, ?_⟩; replace BK112 := kb BK112 hb; replace HB := bt_ HB hb; clear hb)); have H := HC4.out; clear HC4; replace H := sd_ H; rcases H with ⟨c8b0, H⟩ | ⟨c8b0, H⟩
 · (first | rw [c8b0] | (simp only [i64_w, i32_w]; rw [c8b0]) | skip); replace H := sq_ H; obtain ⟨t114, A9, H⟩ := H; have HC10 := Zm H; clear H; have hcz11 := cz10 BK112.out; go_upto_if 16 with (first | ((with_reducible refine gate_callee (f := 19) rfl ?_); refine ge_ (some 14) Try.func19 #[.slice A0_2 l0_2.length c0_2, .int .i64 t113] ?_; refine ca_ (laws_szValS.calls _ _ _ _ _ _ (pd HR0_2 HB) HC0_2.out A9.out) ?_; rintro e w' ⟨rfl, ⟨nd, rfl⟩⟩; refine ⟨_, rfl, ?_⟩)); have H := HC10.out; clear HC10; replace H := sd_ H; rcases H with ⟨c12b0, H⟩ | ⟨c12b0, H⟩
   · (first | rw [c12b0] | (simp only [i64_w, i32_w]; rw [c12b0]) | skip); replace H := sq_ H; obtain ⟨t115, A13, H⟩ := H; have HC14 := Zm H; clear H; have hcz15 := cz10 BK112.out; go_upto_if 22 with (first | ((with_reducible refine gate_callee (f := 20) rfl ?_); refine ge_ (some 20) Try.func20 #[.slice A0_3 l0_3.length c0_3, .int .i64 t114] ?_; refine ca_ (laws_szActS.calls _ _ _ _ _ _ _ (Kd.C_below HR0_3.out (bk HB.out)) HC0_3.out A13.out) ?_; rintro e w16 ⟨rfl, hb⟩; refine ⟨_, rfl, ?_⟩; replace BK112 := kb BK112 hb; replace HB := bt_ HB hb; clear hb)); have H := HC14.out; clear HC14; replace H := sd_ H; rcases H with ⟨c17b0, H⟩ | ⟨c17b0, H⟩
     · (first | rw [c17b0] | (simp only [i64_w, i32_w]; rw [c17b0]) | skip); replace H := sp_ H; rcases H with ⟨c18, H⟩ | ⟨c18, H⟩
       · have c18b0 := decide_eq_false c18; (try (have c18b1 : decide ((IntKind.i64.wrap (t115 - (a0_7.size : Int))) < 0) = false := by simp only [i64_w]; exact (decide_eq_false c18))); clear c18; obtain rfl := Option.some.inj H; have hcz20 := cz10 BK112.out; go_wp2; go_ret; exact fin_ HB
       have c18b0 := decide_eq_true c18; (try (have c18b1 : decide ((IntKind.i64.wrap (t115 - (a0_7.size : Int))) < 0) = true := by simp only [i64_w]; exact (decide_eq_true c18))); clear c18; obtain rfl := Option.some.inj H; have hcz19 := cz10 BK112.out; go_wp2; go_ret; exact fin_ HB
     (first | rw [c17b0] | (simp only [i64_w, i32_w]; rw [c17b0]) | skip); obtain rfl := Option.some.inj H; go_wp2; go_ret; exact fin_ HB
   (first | rw [c12b0] | (simp only [i64_w, i32_w]; rw [c12b0]) | skip); obtain rfl := Option.some.inj H; go_wp2; go_ret; exact fin_ HB
 (first | rw [c8b0] | (simp only [i64_w, i32_w]; rw [c8b0]) | skip); obtain rfl := Option.some.inj H; go_wp2; go_ret; exact fin_ HB
/-! ### spec_l12Bare: function 21 -/
def spec_l12Bare.l0 : Nat → List (S43) → List Int → Int → Option (List Int)
 | 0, _, _, _ => none
 | k + 1, x0, x3, x4 => if x4 < (x0.length : Int) then (if 0 ≤ x4 then (if x3.length < 17592186044416 then (spec_l12Bare.l0 k x0 (x3 ++ [(rd_T43 x0 x4).f1]) (wrap64 (x4 + 1))) else (none)) else (none)) else (some x3)
def spec_l12Bare.f (k : Nat) (l0 : List (S43)) : Option (List Int) := spec_l12Bare.l0 k l0 (([] : List Int)) 0
theorem spec_l12Bare.mono_l : ∀ k, (∀ y0 y1 y2, LeO (spec_l12Bare.l0 k y0 y1 y2) (spec_l12Bare.l0 (k + 1) y0 y1 y2))
 | 0 => by intros; intro r h; simp [spec_l12Bare.l0] at h
 | k + 1 => by
  have ih0 := spec_l12Bare.mono_l k; intros; unfold spec_l12Bare.l0; exact mo_
theorem spec_l12Bare.mono : ∀ a0 k, LeO (spec_l12Bare.f k a0) (spec_l12Bare.f (k + 1) a0) := by
 intro a0 k; have ih0 := spec_l12Bare.mono_l k; unfold spec_l12Bare.f; exact mo_
set_option maxHeartbeats 8000000 in
set_option maxRecDepth 100000 in
theorem spec_l12Bare.calls (k : Nat) (A0 : Option Addr) (c0 : Nat) (l0 : List (S43)) (r : List Int) (w : World) (hr0 : Kd.C k43 w A0 l0.length l0) (hc0 : l0.length ≤ c0) (h : spec_l12Bare.f k l0 = some r) :
 Calls Try.prog 21 #[.slice A0 l0.length c0] w fun e w' => ∃ v0_ : Value, e = .returned (v0_) ∧ Kd.R (Kd.int .i64) 2 w' w.heap.size (fun _ => True) v0_ r ∧ Below w.heap.size w w' := by
 have HR0 := Zm hr0; have HC0 := Zm hc0; clear hr0 hc0; have HB := Zm (Below.refl w.heap.size w); have H := h; clear h; unfold spec_l12Bare.f at H; obtain ⟨y116, hy116⟩ : ∃ y_ : List Int, y_ = (([] : List Int)) := ⟨_, rfl⟩; replace H : (spec_l12Bare.l0 k l0 y116 0) = some r := by first | (rw [hy116]; with_reducible exact H) | (have H2_ := (Option.bind_some _ _).symm.trans H; rw [hy116]; with_reducible exact H2_) | (have H2_ := (Option.bind_some _ _).symm.trans H; with_reducible exact H2_) | with_reducible exact H | (rw [hy116]; exact H) | exact H
 have Ny116 := Zm hy116; clear hy116; have H' := Zm H; clear H; go_enter Try.func21, Try.ntmps21; go_wp2_with (first | ((with_reducible refine gate_dst (N := 5) rfl ?_); refine Kd.R_lit (Kd.int .i64) _ 2 ?hg (N := 5) ?hd (xs := ([] : List Int)) (inner := []) (ok := fun _ => True) (okp := fun _ => True) ?hr ?hp (fun _ hk => hk) trivial (Below.refl _ _) (Nat.le_refl _) (by simp) ?_; (case hd => rfl); (case hg => rfl); (case hr => exact gs_); (case hp => exact (Reps.none _ _)); intro v117 w2 ho3 hb hg_ hnew_; clear hg_ hnew_; (first | rw [← Ny116.out] at ho3 | (simp only [Int.reduceToNat] at ho3; rw [← Ny116.out] at ho3)); have HO118 := Zm (Kd.R_lower ho3 (Zbz (bk HB.out))); replace HB := bt_ HB hb; clear hb ho3)); go_loopg [3, 4] k (fun kq v3 v4 w' => ∃ (x3_1 : List Int) (x4_1 : Int), v4 = .int .i64 x4_1 ∧ Aside0 (spec_l12Bare.l0 kq l0 x3_1 x4_1 = some r) ∧ Aside0 (kq ≤ k) ∧ Aside0 (Kd.R (Kd.int .i64) 2 w' w.heap.size (fun _ => True) v3 x3_1) ∧ Aside0 (Below w.heap.size w w'))
 case atStart => exact ⟨(y116), (0), s1_, H', ⟨Nat.le_refl _⟩, ⟨pr HO118.out⟩, ⟨bk HB.out⟩⟩
 case round =>
  clear H'; obtain ⟨x3_1, x4_1, rfl, HA, HK1, HO_3, HB⟩ := hrel
  cases gk with
  | zero => exact absurd HA.out (by simp [spec_l12Bare.l0])
  | succ k1 =>
   have H := HA.out; clear HA; simp only [spec_l12Bare.l0] at H; replace H := sd_ H; rcases H with ⟨c4b0, H⟩ | ⟨c4b0, H⟩
   · obtain rfl := Option.some.inj H; go_wp2; go_ret; exact ⟨_, s2_, pr HO_3.out, bk HB.out⟩
   replace H := snd_ H; obtain ⟨c5b0, H⟩ := H; replace H := sn_ H; obtain ⟨c6, H⟩ := H; have LMc6 := Zm c6; clear c6; obtain ⟨y120, hy120⟩ : ∃ y_ : List Int, y_ = (x3_1 ++ [(rd_T43 l0 x4_1).f1]) := ⟨_, rfl⟩; replace H : (spec_l12Bare.l0 k1 l0 y120 (wrap64 (x4_1 + 1))) = some r := by first | (rw [hy120]; with_reducible exact H) | (have H2_ := (Option.bind_some _ _).symm.trans H; rw [hy120]; with_reducible exact H2_) | (have H2_ := (Option.bind_some _ _).symm.trans H; with_reducible exact H2_) | with_reducible exact H | (rw [hy120]; exact H) | exact H
   have Ny120 := Zm hy120; clear hy120; have H' := Zm H; clear H; obtain ⟨ad119, e119, hx119⟩ := an_T43 HR0 HB x4_1; cases e119; go_wp2_with (first | ((with_reducible refine gate_builtin (b := .append) (xs := #[.tmp 12, .tmp 18]) rfl ?_); at_builtin; refine Kd.R_append (Kd.int .i64) (w0 := w) w.heap.size rfl (.tmp 12) (.tmp 18) 33 2 (.int .i64 0) 8 rfl Try.underlying33 info2 rfl (by decide) (by omega) u3 x3_1 ((rd_T43 l0 x4_1).f1) [.int .i64 ((rd_T43 l0 x4_1).f1)] (fun _ => True) (fun _ => False) rfl rfl ?aP (fun _ hk => hk.elim) ?aF ?aO ?aB ?aS ?aL ?_; (case aP => exact rfl); (case aB => exact (bk HB.out)); (case aF => exact (fun _ _ => trivial)); (case aO => exact (pr HO_3.out)); (case aS => exact (Zbz (bk HB.out))); (case aL => have := LMc6.out; omega); intro v121 w7 ho hb hg hat; rw [← Ny120.out] at ho; have n0_ := (⟨Zm hb, Zm ho⟩ : _ ∧ _); clear HB HO_3; obtain ⟨HB, HO122⟩ := n0_; clear ho hb hg hat)); go_roundg k1
   case measure => have := HK1.out; omega
   case rel => exact ⟨(y120), (wrap64 (x4_1 + 1)), s1_, H', ⟨by have := HK1.out; omega⟩, ⟨pr HO122.out⟩, ⟨bk HB.out⟩⟩
end Go.Proofs.Ytljeeiijepoenaa.PFnExactErase
