/- Functions of the program as plain Lean functions, each with a proof that the program's call comes to the same; no condition. Written by a program of this session. -/
import Derived.Test.YtohiakbkkmmjeaaGreatDoorPFnExactWorldTextx0
namespace Go.Proofs.YtohiakbkkmmjeaaGreatDoor.PFnExactWorldText
open Go.RowKit Go.Proofs.YtohiakbkkmmjeaaGreatDoorW.PrintWords Go.Proofs.YtohiakbkkmmjeaaGreatDoorW.PrintLast Go.Proofs.YtohiakbkkmmjeaaGreatDoorW.PrintMore
open Go.Proofs.YtohiakbkkmmjeaaGreatDoorW.PrintWords renaming below_size → Zbz, below_step → Zbt, blk_frozen → Zkf, blk_below → Zkb
open Go.World renaming block_lt_of_cell? → Zlt
open Go.Proofs.YtohiakbkkmmjeaaGreatDoorW.PrintWords.Aside0 renaming mk → Zm
attribute [local go_sem] max2_int min2_int max_two min_two max_three min_three max_four min_four   -- for this text's walks alone
set_option linter.unusedVariables false
set_option linter.unusedSimpArgs false

/-! ### laws_szField: function 27 -/
def laws_szField.f (a0_0 : ByteArray) (a0_1 : ByteArray) (a0_2 : Bool) (a1 : Int) : Option (Int) := if (wrap64 (a1 - (a0_0.size : Int))) < 0 then (some (-1)) else (if (wrap64 ((wrap64 (a1 - (a0_0.size : Int))) - (a0_1.size : Int))) < 0 then (some (-1)) else (some (wrap64 ((wrap64 (a1 - (a0_0.size : Int))) - (a0_1.size : Int)))))
set_option maxHeartbeats 8000000 in
set_option maxRecDepth 100000 in
theorem laws_szField.calls (a0_0 : ByteArray) (a0_1 : ByteArray) (a0_2 : Bool) (a1 : Int) (r : Int) (w : World) (h : laws_szField.f a0_0 a0_1 a0_2 a1 = some r) :
 Calls Tryz.prog 27 #[.agg #[.string a0_0, .string a0_1, .bool a0_2], .int .i64 a1] w fun e w' => e = .returned (.int .i64 r) ∧ Below w.heap.size w w' := by
 have hu60 := Tryz.underlying60; have HB := Zm (Below.refl w.heap.size w); have H := h; clear h; unfold laws_szField.f at H; have HC3 := Zm H; clear H; go_enter Tryz.func27, Tryz.ntmps27; go_upto_if 11 with (first | ((with_reducible refine gate_dst (N := 2) rfl ?_); refine bx_ 2 60 #[.string a0_0, .string a0_1, .bool a0_2] ?_; intro gb101 hg w4 hbox hb; have BK101 := Zm hbox; have GW101 := bz HB hg; have GE101 := bz HB hg; replace HB := bt_ HB hb; clear hb hbox hg; have hcz5 := cz3 BK101.out; have hfz5_2 := Zkf BK101.out 2)); have H := HC3.out; clear HC3; replace H := sp_ H; rcases H with ⟨c6, H⟩ | ⟨c6, H⟩
 · have c6b0 := decide_eq_false c6; (try (have c6b1 : decide ((IntKind.i64.wrap (a1 - (a0_0.size : Int))) < 0) = false := by simp only [i64_w]; exact (decide_eq_false c6))); clear c6; (first | rw [c6b0] | (simp only [i64_w, i32_w]; rw [c6b0]) | skip); replace H := sp_ H; rcases H with ⟨c7, H⟩ | ⟨c7, H⟩
   · have c7b0 := decide_eq_false c7; (try (have c7b1 : decide ((IntKind.i64.wrap ((IntKind.i64.wrap (a1 - (a0_0.size : Int))) - (a0_1.size : Int))) < 0) = false := by simp only [i64_w]; exact (decide_eq_false c7))); clear c7; obtain rfl := Option.some.inj H; have hcz9 := cz3 BK101.out; go_wp2; go_ret; exact fin_ HB
   have c7b0 := decide_eq_true c7; (try (have c7b1 : decide ((IntKind.i64.wrap ((IntKind.i64.wrap (a1 - (a0_0.size : Int))) - (a0_1.size : Int))) < 0) = true := by simp only [i64_w]; exact (decide_eq_true c7))); clear c7; obtain rfl := Option.some.inj H; have hcz8 := cz3 BK101.out; go_wp2; go_ret; exact fin_ HB
 have c6b0 := decide_eq_true c6; (try (have c6b1 : decide ((IntKind.i64.wrap (a1 - (a0_0.size : Int))) < 0) = true := by simp only [i64_w]; exact (decide_eq_true c6))); clear c6; (first | rw [c6b0] | (simp only [i64_w, i32_w]; rw [c6b0]) | skip); obtain rfl := Option.some.inj H; go_wp2; go_ret; exact fin_ HB
/-! ### laws_szFieldS: function 15 -/
def laws_szFieldS.l0 : Nat → List (S60) → Int → Int → Option (Int)
 | 0, _, _, _ => none
 | k + 1, x0, x1, x5 => if x5 < (x0.length : Int) then (if 0 ≤ x5 then ((laws_szField.f ((rd_T60 x0 x5).f0) ((rd_T60 x0 x5).f1) ((rd_T60 x0 x5).f2) x1).bind fun t103 => (if t103 < 0 then (some (-1)) else (laws_szFieldS.l0 k x0 t103 (wrap64 (x5 + 1))))) else (none)) else (some x1)
def laws_szFieldS.f (k : Nat) (l0 : List (S60)) (a1 : Int) : Option (Int) := if (wrap64 (a1 - (l0.length : Int))) < 0 then (some (-1)) else (laws_szFieldS.l0 k l0 (wrap64 (a1 - (l0.length : Int))) 0)
set_option maxHeartbeats 8000000 in
set_option maxRecDepth 100000 in
theorem laws_szFieldS.calls (k : Nat) (A0 : Option Addr) (c0 : Nat) (l0 : List (S60)) (a1 : Int) (r : Int) (w : World) (hr0 : Kd.C k60 w A0 l0.length l0) (hc0 : l0.length ≤ c0) (h : laws_szFieldS.f k l0 a1 = some r) :
 Calls Tryz.prog 15 #[.slice A0 l0.length c0, .int .i64 a1] w fun e w' => e = .returned (.int .i64 r) ∧ Below w.heap.size w w' := by
 have hu60 := Tryz.underlying60; have HR0 := Zm hr0; have HC0 := Zm hc0; clear hr0 hc0; have HB := Zm (Below.refl w.heap.size w); have H := h; clear h; unfold laws_szFieldS.f at H; replace H := sp_ H; rcases H with ⟨c3, H⟩ | ⟨c3, H⟩
 · have c3b0 := decide_eq_false c3; (try (have c3b1 : decide ((IntKind.i64.wrap (a1 - (l0.length : Int))) < 0) = false := by simp only [i64_w]; exact (decide_eq_false c3))); clear c3; have H' := Zm H; clear H; go_enter Tryz.func15, Tryz.ntmps15; go_wp2; go_loopg [1, 5] k (fun kq v1 v5 w' => ∃ (x1_1 : Int) (x5_1 : Int), v1 = .int .i64 x1_1 ∧ v5 = .int .i64 x5_1 ∧ Aside0 (laws_szFieldS.l0 kq l0 x1_1 x5_1 = some r) ∧ Aside0 (kq ≤ k) ∧ Aside0 (Below w.heap.size w w'))
   case atStart => exact ⟨(wrap64 (a1 - (l0.length : Int))), (0), s1_, s1_, H', ⟨Nat.le_refl _⟩, ⟨bk HB.out⟩⟩
   case round =>
    clear H'; (try clear c3); (try clear c3b0); (try clear c3b1); obtain ⟨x1_1, x5_1, rfl, rfl, HA, HK1, HB⟩ := hrel
    cases gk with
    | zero => exact absurd HA.out (by simp [laws_szFieldS.l0])
    | succ k1 =>
     have H := HA.out; clear HA; simp only [laws_szFieldS.l0] at H; replace H := sd_ H; rcases H with ⟨c4b0, H⟩ | ⟨c4b0, H⟩
     · obtain rfl := Option.some.inj H; go_wp2; go_ret; exact fin_ HB
     replace H := snd_ H; obtain ⟨c5b0, H⟩ := H; replace H := sq_ H; obtain ⟨t103, A6, H⟩ := H; have HC7 := Zm H; clear H; obtain ⟨ad102, e102, hx102⟩ := an_T60 HR0 HB x5_1; cases e102; go_upto_if 25 with (first | ((with_reducible refine gate_callee (f := 27) rfl ?_); refine ge_ (some 23) Tryz.func27 #[.agg #[.string ((rd_T60 l0 x5_1).f0), .string ((rd_T60 l0 x5_1).f1), .bool ((rd_T60 l0 x5_1).f2)], .int .i64 x1_1] ?_; (with_reducible refine (laws_szField.calls _ _ _ _ _ _ A6.out).mono ?_); rintro e w8 ⟨rfl, hb⟩; refine ⟨_, rfl, ?_⟩; have n0_ := bt_ HB hb; clear HB; have HB := n0_; clear n0_; clear hb)); have H := HC7.out; clear HC7; replace H := sd_ H; rcases H with ⟨c9b0, H⟩ | ⟨c9b0, H⟩
     · (first | rw [c9b0] | (simp only [i64_w, i32_w]; rw [c9b0]) | skip); have H' := Zm H; clear H; go_wp2; go_roundg k1
       case measure => have := HK1.out; omega
       case rel => exact ⟨(t103), (wrap64 (x5_1 + 1)), s1_, s1_, H', ⟨by have := HK1.out; omega⟩, ⟨bk HB.out⟩⟩
     (first | rw [c9b0] | (simp only [i64_w, i32_w]; rw [c9b0]) | skip); obtain rfl := Option.some.inj H; go_wp2; go_ret; exact fin_ HB
 have c3b0 := decide_eq_true c3; (try (have c3b1 : decide ((IntKind.i64.wrap (a1 - (l0.length : Int))) < 0) = true := by simp only [i64_w]; exact (decide_eq_true c3))); clear c3; obtain rfl := Option.some.inj H; go_enter Tryz.func15, Tryz.ntmps15; go_wp2; go_ret; exact fin_ HB
/-! ### laws_szIns: function 79 -/
def laws_szIns.f (a0_0 : Int) (a0_1 : Int) (a0_2 : ByteArray) (a0_3 : ByteArray) (a0_4 : ByteArray) (a1 : Int) : Option (Int) := if (wrap64 (a1 - (a0_2.size : Int))) < 0 then (some (-1)) else (if (wrap64 ((wrap64 (a1 - (a0_2.size : Int))) - (a0_3.size : Int))) < 0 then (some (-1)) else (if (wrap64 ((wrap64 ((wrap64 (a1 - (a0_2.size : Int))) - (a0_3.size : Int))) - (a0_4.size : Int))) < 0 then (some (-1)) else (some (wrap64 ((wrap64 ((wrap64 (a1 - (a0_2.size : Int))) - (a0_3.size : Int))) - (a0_4.size : Int))))))
set_option maxHeartbeats 8000000 in
set_option maxRecDepth 100000 in
theorem laws_szIns.calls (a0_0 : Int) (a0_1 : Int) (a0_2 : ByteArray) (a0_3 : ByteArray) (a0_4 : ByteArray) (a1 : Int) (r : Int) (w : World) (h : laws_szIns.f a0_0 a0_1 a0_2 a0_3 a0_4 a1 = some r) :
 Calls Tryz.prog 79 #[.agg #[.int .i64 a0_0, .int .i64 a0_1, .string a0_2, .string a0_3, .string a0_4], .int .i64 a1] w fun e w' => e = .returned (.int .i64 r) ∧ Below w.heap.size w w' := by
 have hu121 := Tryz.underlying121; have HB := Zm (Below.refl w.heap.size w); have H := h; clear h; unfold laws_szIns.f at H; have HC3 := Zm H; clear H; go_enter Tryz.func79, Tryz.ntmps79; go_upto_if 11 with (first | ((with_reducible refine gate_dst (N := 2) rfl ?_); refine bx_ 2 121 #[.int .i64 a0_0, .int .i64 a0_1, .string a0_2, .string a0_3, .string a0_4] ?_; intro gb104 hg w4 hbox hb; have BK104 := Zm hbox; have GW104 := bz HB hg; have GE104 := bz HB hg; replace HB := bt_ HB hb; clear hb hbox hg; have hcz5 := cz5 BK104.out; have hfz5_4 := Zkf BK104.out 4)); have H := HC3.out; clear HC3; replace H := sp_ H; rcases H with ⟨c6, H⟩ | ⟨c6, H⟩
 · have c6b0 := decide_eq_false c6; (try (have c6b1 : decide ((IntKind.i64.wrap (a1 - (a0_2.size : Int))) < 0) = false := by simp only [i64_w]; exact (decide_eq_false c6))); clear c6; (first | rw [c6b0] | (simp only [i64_w, i32_w]; rw [c6b0]) | skip); replace H := sp_ H; rcases H with ⟨c7, H⟩ | ⟨c7, H⟩
   · have c7b0 := decide_eq_false c7; (try (have c7b1 : decide ((IntKind.i64.wrap ((IntKind.i64.wrap (a1 - (a0_2.size : Int))) - (a0_3.size : Int))) < 0) = false := by simp only [i64_w]; exact (decide_eq_false c7))); clear c7; replace H := sp_ H; rcases H with ⟨c9, H⟩ | ⟨c9, H⟩
     · have c9b0 := decide_eq_false c9; (try (have c9b1 : decide ((IntKind.i64.wrap ((IntKind.i64.wrap ((IntKind.i64.wrap (a1 - (a0_2.size : Int))) - (a0_3.size : Int))) - (a0_4.size : Int))) < 0) = false := by simp only [i64_w]; exact (decide_eq_false c9))); clear c9; obtain rfl := Option.some.inj H; have hcz11 := cz5 BK104.out; go_wp2; go_ret; exact fin_ HB
     have c9b0 := decide_eq_true c9; (try (have c9b1 : decide ((IntKind.i64.wrap ((IntKind.i64.wrap ((IntKind.i64.wrap (a1 - (a0_2.size : Int))) - (a0_3.size : Int))) - (a0_4.size : Int))) < 0) = true := by simp only [i64_w]; exact (decide_eq_true c9))); clear c9; obtain rfl := Option.some.inj H; have hcz10 := cz5 BK104.out; go_wp2; go_ret; exact fin_ HB
   have c7b0 := decide_eq_true c7; (try (have c7b1 : decide ((IntKind.i64.wrap ((IntKind.i64.wrap (a1 - (a0_2.size : Int))) - (a0_3.size : Int))) < 0) = true := by simp only [i64_w]; exact (decide_eq_true c7))); clear c7; obtain rfl := Option.some.inj H; have hcz8 := cz5 BK104.out; go_wp2; go_ret; exact fin_ HB
 have c6b0 := decide_eq_true c6; (try (have c6b1 : decide ((IntKind.i64.wrap (a1 - (a0_2.size : Int))) < 0) = true := by simp only [i64_w]; exact (decide_eq_true c6))); clear c6; (first | rw [c6b0] | (simp only [i64_w, i32_w]; rw [c6b0]) | skip); obtain rfl := Option.some.inj H; go_wp2; go_ret; exact fin_ HB
/-! ### laws_szInsS: function 48 -/
def laws_szInsS.l0 : Nat → List (S121) → Int → Int → Option (Int)
 | 0, _, _, _ => none
 | k + 1, x0, x1, x5 => if x5 < (x0.length : Int) then (if 0 ≤ x5 then ((laws_szIns.f ((rd_T121 x0 x5).f0) ((rd_T121 x0 x5).f1) ((rd_T121 x0 x5).f2) ((rd_T121 x0 x5).f3) ((rd_T121 x0 x5).f4) x1).bind fun t106 => (if t106 < 0 then (some (-1)) else (laws_szInsS.l0 k x0 t106 (wrap64 (x5 + 1))))) else (none)) else (some x1)
def laws_szInsS.f (k : Nat) (l0 : List (S121)) (a1 : Int) : Option (Int) := if (wrap64 (a1 - (l0.length : Int))) < 0 then (some (-1)) else (laws_szInsS.l0 k l0 (wrap64 (a1 - (l0.length : Int))) 0)
set_option maxHeartbeats 8000000 in
set_option maxRecDepth 100000 in
theorem laws_szInsS.calls (k : Nat) (A0 : Option Addr) (c0 : Nat) (l0 : List (S121)) (a1 : Int) (r : Int) (w : World) (hr0 : Kd.C k121 w A0 l0.length l0) (hc0 : l0.length ≤ c0) (h : laws_szInsS.f k l0 a1 = some r) :
 Calls Tryz.prog 48 #[.slice A0 l0.length c0, .int .i64 a1] w fun e w' => e = .returned (.int .i64 r) ∧ Below w.heap.size w w' := by
 have hu121 := Tryz.underlying121; have HR0 := Zm hr0; have HC0 := Zm hc0; clear hr0 hc0; have HB := Zm (Below.refl w.heap.size w); have H := h; clear h; unfold laws_szInsS.f at H; replace H := sp_ H; rcases H with ⟨c3, H⟩ | ⟨c3, H⟩
 · have c3b0 := decide_eq_false c3; (try (have c3b1 : decide ((IntKind.i64.wrap (a1 - (l0.length : Int))) < 0) = false := by simp only [i64_w]; exact (decide_eq_false c3))); clear c3; have H' := Zm H; clear H; go_enter Tryz.func48, Tryz.ntmps48; go_wp2; go_loopg [1, 5] k (fun kq v1 v5 w' => ∃ (x1_1 : Int) (x5_1 : Int), v1 = .int .i64 x1_1 ∧ v5 = .int .i64 x5_1 ∧ Aside0 (laws_szInsS.l0 kq l0 x1_1 x5_1 = some r) ∧ Aside0 (kq ≤ k) ∧ Aside0 (Below w.heap.size w w'))
   case atStart => exact ⟨(wrap64 (a1 - (l0.length : Int))), (0), s1_, s1_, H', ⟨Nat.le_refl _⟩, ⟨bk HB.out⟩⟩
   case round =>
    clear H'; (try clear c3); (try clear c3b0); (try clear c3b1); obtain ⟨x1_1, x5_1, rfl, rfl, HA, HK1, HB⟩ := hrel
    cases gk with
    | zero => exact absurd HA.out (by simp [laws_szInsS.l0])
    | succ k1 =>
     have H := HA.out; clear HA; simp only [laws_szInsS.l0] at H; replace H := sd_ H; rcases H with ⟨c4b0, H⟩ | ⟨c4b0, H⟩
     · obtain rfl := Option.some.inj H; go_wp2; go_ret; exact fin_ HB
     replace H := snd_ H; obtain ⟨c5b0, H⟩ := H; replace H := sq_ H; obtain ⟨t106, A6, H⟩ := H; have HC7 := Zm H; clear H; obtain ⟨ad105, e105, hx105⟩ := an_T121 HR0 HB x5_1; cases e105; go_upto_if 25 with (first | ((with_reducible refine gate_callee (f := 79) rfl ?_); refine ge_ (some 23) Tryz.func79 #[.agg #[.int .i64 ((rd_T121 l0 x5_1).f0), .int .i64 ((rd_T121 l0 x5_1).f1), .string ((rd_T121 l0 x5_1).f2), .string ((rd_T121 l0 x5_1).f3), .string ((rd_T121 l0 x5_1).f4)], .int .i64 x1_1] ?_; (with_reducible refine (laws_szIns.calls _ _ _ _ _ _ _ _ A6.out).mono ?_); rintro e w8 ⟨rfl, hb⟩; refine ⟨_, rfl, ?_⟩; have n0_ := bt_ HB hb; clear HB; have HB := n0_; clear n0_; clear hb)); have H := HC7.out; clear HC7; replace H := sd_ H; rcases H with ⟨c9b0, H⟩ | ⟨c9b0, H⟩
     · (first | rw [c9b0] | (simp only [i64_w, i32_w]; rw [c9b0]) | skip); have H' := Zm H; clear H; go_wp2; go_roundg k1
       case measure => have := HK1.out; omega
       case rel => exact ⟨(t106), (wrap64 (x5_1 + 1)), s1_, s1_, H', ⟨by have := HK1.out; omega⟩, ⟨bk HB.out⟩⟩
     (first | rw [c9b0] | (simp only [i64_w, i32_w]; rw [c9b0]) | skip); obtain rfl := Option.some.inj H; go_wp2; go_ret; exact fin_ HB
 have c3b0 := decide_eq_true c3; (try (have c3b1 : decide ((IntKind.i64.wrap (a1 - (l0.length : Int))) < 0) = true := by simp only [i64_w]; exact (decide_eq_true c3))); clear c3; obtain rfl := Option.some.inj H; go_enter Tryz.func48, Tryz.ntmps48; go_wp2; go_ret; exact fin_ HB
/-! ### laws_szHandler: function 80 -/
def laws_szHandler.f (a0_0 : Int) (a0_1 : Int) (a0_2 : Int) (a0_3 : ByteArray) (a1 : Int) : Option (Int) := if (wrap64 (a1 - (a0_3.size : Int))) < 0 then (some (-1)) else (some (wrap64 (a1 - (a0_3.size : Int))))
set_option maxHeartbeats 8000000 in
set_option maxRecDepth 100000 in
theorem laws_szHandler.calls (a0_0 : Int) (a0_1 : Int) (a0_2 : Int) (a0_3 : ByteArray) (a1 : Int) (r : Int) (w : World) (h : laws_szHandler.f a0_0 a0_1 a0_2 a0_3 a1 = some r) :
 Calls Tryz.prog 80 #[.agg #[.int .i64 a0_0, .int .i64 a0_1, .int .i64 a0_2, .string a0_3], .int .i64 a1] w fun e w' => e = .returned (.int .i64 r) ∧ Below w.heap.size w w' := by
 have hu123 := Tryz.underlying123; have HB := Zm (Below.refl w.heap.size w); have H := h; clear h; unfold laws_szHandler.f at H; have HC3 := Zm H; clear H; go_enter Tryz.func80, Tryz.ntmps80; go_upto_if 11 with (first | ((with_reducible refine gate_dst (N := 2) rfl ?_); refine bx_ 2 123 #[.int .i64 a0_0, .int .i64 a0_1, .int .i64 a0_2, .string a0_3] ?_; intro gb107 hg w4 hbox hb; have BK107 := Zm hbox; have GW107 := bz HB hg; have GE107 := bz HB hg; replace HB := bt_ HB hb; clear hb hbox hg; have hcz5 := cz4 BK107.out; have hfz5_3 := Zkf BK107.out 3)); have H := HC3.out; clear HC3; replace H := sp_ H; rcases H with ⟨c6, H⟩ | ⟨c6, H⟩
 · have c6b0 := decide_eq_false c6; (try (have c6b1 : decide ((IntKind.i64.wrap (a1 - (a0_3.size : Int))) < 0) = false := by simp only [i64_w]; exact (decide_eq_false c6))); clear c6; (first | rw [c6b0] | (simp only [i64_w, i32_w]; rw [c6b0]) | skip); obtain rfl := Option.some.inj H; go_wp2; go_ret; exact fin_ HB
 have c6b0 := decide_eq_true c6; (try (have c6b1 : decide ((IntKind.i64.wrap (a1 - (a0_3.size : Int))) < 0) = true := by simp only [i64_w]; exact (decide_eq_true c6))); clear c6; (first | rw [c6b0] | (simp only [i64_w, i32_w]; rw [c6b0]) | skip); obtain rfl := Option.some.inj H; go_wp2; go_ret; exact fin_ HB
/-! ### laws_szHandlerS: function 49 -/
def laws_szHandlerS.l0 : Nat → List (S123) → Int → Int → Option (Int)
 | 0, _, _, _ => none
 | k + 1, x0, x1, x5 => if x5 < (x0.length : Int) then (if 0 ≤ x5 then ((laws_szHandler.f ((rd_T123 x0 x5).f0) ((rd_T123 x0 x5).f1) ((rd_T123 x0 x5).f2) ((rd_T123 x0 x5).f3) x1).bind fun t109 => (if t109 < 0 then (some (-1)) else (laws_szHandlerS.l0 k x0 t109 (wrap64 (x5 + 1))))) else (none)) else (some x1)
def laws_szHandlerS.f (k : Nat) (l0 : List (S123)) (a1 : Int) : Option (Int) := if (wrap64 (a1 - (l0.length : Int))) < 0 then (some (-1)) else (laws_szHandlerS.l0 k l0 (wrap64 (a1 - (l0.length : Int))) 0)
set_option maxHeartbeats 8000000 in
set_option maxRecDepth 100000 in
theorem laws_szHandlerS.calls (k : Nat) (A0 : Option Addr) (c0 : Nat) (l0 : List (S123)) (a1 : Int) (r : Int) (w : World) (hr0 : Kd.C k123 w A0 l0.length l0) (hc0 : l0.length ≤ c0) (h : laws_szHandlerS.f k l0 a1 = some r) :
 Calls Tryz.prog 49 #[.slice A0 l0.length c0, .int .i64 a1] w fun e w' => e = .returned (.int .i64 r) ∧ Below w.heap.size w w' := by
 have hu123 := Tryz.underlying123; have HR0 := Zm hr0; have HC0 := Zm hc0; clear hr0 hc0; have HB := Zm (Below.refl w.heap.size w); have H := h; clear h; unfold laws_szHandlerS.f at H; replace H := sp_ H; rcases H with ⟨c3, H⟩ | ⟨c3, H⟩
 · have c3b0 := decide_eq_false c3; (try (have c3b1 : decide ((IntKind.i64.wrap (a1 - (l0.length : Int))) < 0) = false := by simp only [i64_w]; exact (decide_eq_false c3))); clear c3; have H' := Zm H; clear H; go_enter Tryz.func49, Tryz.ntmps49; go_wp2; go_loopg [1, 5] k (fun kq v1 v5 w' => ∃ (x1_1 : Int) (x5_1 : Int), v1 = .int .i64 x1_1 ∧ v5 = .int .i64 x5_1 ∧ Aside0 (laws_szHandlerS.l0 kq l0 x1_1 x5_1 = some r) ∧ Aside0 (kq ≤ k) ∧ Aside0 (Below w.heap.size w w'))
   case atStart => exact ⟨(wrap64 (a1 - (l0.length : Int))), (0), s1_, s1_, H', ⟨Nat.le_refl _⟩, ⟨bk HB.out⟩⟩
   case round =>
    clear H'; (try clear c3); (try clear c3b0); (try clear c3b1); obtain ⟨x1_1, x5_1, rfl, rfl, HA, HK1, HB⟩ := hrel
    cases gk with
    | zero => exact absurd HA.out (by simp [laws_szHandlerS.l0])
    | succ k1 =>
     have H := HA.out; clear HA; simp only [laws_szHandlerS.l0] at H; replace H := sd_ H; rcases H with ⟨c4b0, H⟩ | ⟨c4b0, H⟩
     · obtain rfl := Option.some.inj H; go_wp2; go_ret; exact fin_ HB
     replace H := snd_ H; obtain ⟨c5b0, H⟩ := H; replace H := sq_ H; obtain ⟨t109, A6, H⟩ := H; have HC7 := Zm H; clear H; obtain ⟨ad108, e108, hx108⟩ := an_T123 HR0 HB x5_1; cases e108; go_upto_if 25 with (first | ((with_reducible refine gate_callee (f := 80) rfl ?_); refine ge_ (some 23) Tryz.func80 #[.agg #[.int .i64 ((rd_T123 l0 x5_1).f0), .int .i64 ((rd_T123 l0 x5_1).f1), .int .i64 ((rd_T123 l0 x5_1).f2), .string ((rd_T123 l0 x5_1).f3)], .int .i64 x1_1] ?_; (with_reducible refine (laws_szHandler.calls _ _ _ _ _ _ _ A6.out).mono ?_); rintro e w8 ⟨rfl, hb⟩; refine ⟨_, rfl, ?_⟩; have n0_ := bt_ HB hb; clear HB; have HB := n0_; clear n0_; clear hb)); have H := HC7.out; clear HC7; replace H := sd_ H; rcases H with ⟨c9b0, H⟩ | ⟨c9b0, H⟩
     · (first | rw [c9b0] | (simp only [i64_w, i32_w]; rw [c9b0]) | skip); have H' := Zm H; clear H; go_wp2; go_roundg k1
       case measure => have := HK1.out; omega
       case rel => exact ⟨(t109), (wrap64 (x5_1 + 1)), s1_, s1_, H', ⟨by have := HK1.out; omega⟩, ⟨bk HB.out⟩⟩
     (first | rw [c9b0] | (simp only [i64_w, i32_w]; rw [c9b0]) | skip); obtain rfl := Option.some.inj H; go_wp2; go_ret; exact fin_ HB
 have c3b0 := decide_eq_true c3; (try (have c3b1 : decide ((IntKind.i64.wrap (a1 - (l0.length : Int))) < 0) = true := by simp only [i64_w]; exact (decide_eq_true c3))); clear c3; obtain rfl := Option.some.inj H; go_enter Tryz.func49, Tryz.ntmps49; go_wp2; go_ret; exact fin_ HB
/-! ### laws_szMethod: function 28 -/
def laws_szMethod.f (k : Nat) (a0_0 : ByteArray) (a0_1 : ByteArray) (a0_2 : Bool) (a0_3 : Bool) (a0_4 : Bool) (a0_5 : Int) (a0_6 : Int) (l0_7 : List (S121)) (l0_8 : List (S123)) (a1 : Int) : Option (Int) := if (wrap64 (a1 - (a0_0.size : Int))) < 0 then (some (-1)) else (if (wrap64 ((wrap64 (a1 - (a0_0.size : Int))) - (a0_1.size : Int))) < 0 then (some (-1)) else ((laws_szInsS.f k l0_7 (wrap64 ((wrap64 (a1 - (a0_0.size : Int))) - (a0_1.size : Int)))).bind fun t111 => (if t111 < 0 then (some (-1)) else ((laws_szHandlerS.f k l0_8 t111).bind fun t112 => (if t112 < 0 then (some (-1)) else (some t112))))))
set_option maxHeartbeats 8000000 in
set_option maxRecDepth 100000 in
theorem laws_szMethod.calls (k : Nat) (a0_0 : ByteArray) (a0_1 : ByteArray) (a0_2 : Bool) (a0_3 : Bool) (a0_4 : Bool) (a0_5 : Int) (a0_6 : Int) (A0_7 : Option Addr) (c0_7 : Nat) (l0_7 : List (S121)) (A0_8 : Option Addr) (c0_8 : Nat) (l0_8 : List (S123)) (a1 : Int) (r : Int) (w : World) (hr0_7 : Kd.C k121 w A0_7 l0_7.length l0_7) (hc0_7 : l0_7.length ≤ c0_7) (hr0_8 : Kd.C k123 w A0_8 l0_8.length l0_8) (hc0_8 : l0_8.length ≤ c0_8) (h : laws_szMethod.f k a0_0 a0_1 a0_2 a0_3 a0_4 a0_5 a0_6 l0_7 l0_8 a1 = some r) :
 Calls Tryz.prog 28 #[.agg #[.string a0_0, .string a0_1, .bool a0_2, .bool a0_3, .bool a0_4, .int .i64 a0_5, .int .i64 a0_6, .slice A0_7 l0_7.length c0_7, .slice A0_8 l0_8.length c0_8], .int .i64 a1] w fun e w' => e = .returned (.int .i64 r) ∧ Below w.heap.size w w' := by
 have hu65 := Tryz.underlying65; have HR0_7 := Zm hr0_7; have HC0_7 := Zm hc0_7; clear hr0_7 hc0_7; have HR0_8 := Zm hr0_8; have HC0_8 := Zm hc0_8; clear hr0_8 hc0_8; have HB := Zm (Below.refl w.heap.size w); have H := h; clear h; unfold laws_szMethod.f at H; have HC3 := Zm H; clear H; go_enter Tryz.func28, Tryz.ntmps28; go_upto_if 11 with (first | ((with_reducible refine gate_dst (N := 2) rfl ?_); refine bx_ 2 65 #[.string a0_0, .string a0_1, .bool a0_2, .bool a0_3, .bool a0_4, .int .i64 a0_5, .int .i64 a0_6, .slice A0_7 l0_7.length c0_7, .slice A0_8 l0_8.length c0_8] ?_; intro gb110 hg w4 hbox hb; have BK110 := Zm hbox; have GW110 := bz HB hg; have GE110 := bz HB hg; replace HB := bt_ HB hb; clear hb hbox hg; have hcz5 := cz9 BK110.out; have hfz5_8 := Zkf BK110.out 8)); have H := HC3.out; clear HC3; replace H := sp_ H; rcases H with ⟨c6, H⟩ | ⟨c6, H⟩
 · have c6b0 := decide_eq_false c6; (try (have c6b1 : decide ((IntKind.i64.wrap (a1 - (a0_0.size : Int))) < 0) = false := by simp only [i64_w]; exact (decide_eq_false c6))); clear c6; (first | rw [c6b0] | (simp only [i64_w, i32_w]; rw [c6b0]) | skip); replace H := sp_ H; rcases H with ⟨c7, H⟩ | ⟨c7, H⟩
   · have c7b0 := decide_eq_false c7; (try (have c7b1 : decide ((IntKind.i64.wrap ((IntKind.i64.wrap (a1 - (a0_0.size : Int))) - (a0_1.size : Int))) < 0) = false := by simp only [i64_w]; exact (decide_eq_false c7))); clear c7; replace H := sq_ H; obtain ⟨t111, A9, H⟩ := H; have HC10 := Zm H; clear H; have hcz11 := cz9 BK110.out; go_upto_if 24 with (first | ((with_reducible refine gate_callee (f := 48) rfl ?_); refine ge_ (some 22) Tryz.func48 #[.slice A0_7 l0_7.length c0_7, .int .i64 (wrap64 ((wrap64 (a1 - (a0_0.size : Int))) - (a0_1.size : Int)))] ?_; refine ca_ (laws_szInsS.calls _ _ _ _ _ _ _ (pd HR0_7 HB) HC0_7.out A9.out) ?_; rintro e w12 ⟨rfl, hb⟩; refine ⟨_, rfl, ?_⟩; replace BK110 := kb BK110 hb; replace HB := bt_ HB hb; clear hb)); have H := HC10.out; clear HC10; replace H := sd_ H; rcases H with ⟨c13b0, H⟩ | ⟨c13b0, H⟩
     · (first | rw [c13b0] | (simp only [i64_w, i32_w]; rw [c13b0]) | skip); replace H := sq_ H; obtain ⟨t112, A14, H⟩ := H; have HC15 := Zm H; clear H; have hcz16 := cz9 BK110.out; (try clear BK110); go_upto_if 30 with (first | ((with_reducible refine gate_callee (f := 49) rfl ?_); refine ge_ (some 28) Tryz.func49 #[.slice A0_8 l0_8.length c0_8, .int .i64 t111] ?_; refine ca_ (laws_szHandlerS.calls _ _ _ _ _ _ _ (pd HR0_8 HB) HC0_8.out A14.out) ?_; rintro e w17 ⟨rfl, hb⟩; refine ⟨_, rfl, ?_⟩; have n0_ := bt_ HB hb; clear HB; have HB := n0_; clear n0_; clear hb)); have H := HC15.out; clear HC15; replace H := sd_ H; rcases H with ⟨c18b0, H⟩ | ⟨c18b0, H⟩
       · (first | rw [c18b0] | (simp only [i64_w, i32_w]; rw [c18b0]) | skip); obtain rfl := Option.some.inj H; go_wp2; go_ret; exact fin_ HB
       (first | rw [c18b0] | (simp only [i64_w, i32_w]; rw [c18b0]) | skip); obtain rfl := Option.some.inj H; go_wp2; go_ret; exact fin_ HB
     (first | rw [c13b0] | (simp only [i64_w, i32_w]; rw [c13b0]) | skip); obtain rfl := Option.some.inj H; go_wp2; go_ret; exact fin_ HB
   have c7b0 := decide_eq_true c7; (try (have c7b1 : decide ((IntKind.i64.wrap ((IntKind.i64.wrap (a1 - (a0_0.size : Int))) - (a0_1.size : Int))) < 0) = true := by simp only [i64_w]; exact (decide_eq_true c7))); clear c7; obtain rfl := Option.some.inj H; have hcz8 := cz9 BK110.out; go_wp2; go_ret; exact fin_ HB
 have c6b0 := decide_eq_true c6; (try (have c6b1 : decide ((IntKind.i64.wrap (a1 - (a0_0.size : Int))) < 0) = true := by simp only [i64_w]; exact (decide_eq_true c6))); clear c6; (first | rw [c6b0] | (simp only [i64_w, i32_w]; rw [c6b0]) | skip); obtain rfl := Option.some.inj H; go_wp2; go_ret; exact fin_ HB
/-! ### laws_szMethodS: function 16 -/
def laws_szMethodS.l0 : Nat → List (S65) → Int → Int → Option (Int)
 | 0, _, _, _ => none
 | k + 1, x0, x1, x5 => if x5 < (x0.length : Int) then (if 0 ≤ x5 then ((laws_szMethod.f k ((rd_T65 x0 x5).f0) ((rd_T65 x0 x5).f1) ((rd_T65 x0 x5).f2) ((rd_T65 x0 x5).f3) ((rd_T65 x0 x5).f4) ((rd_T65 x0 x5).f5) ((rd_T65 x0 x5).f6) ((rd_T65 x0 x5).f7) ((rd_T65 x0 x5).f8) x1).bind fun t114 => (if t114 < 0 then (some (-1)) else (laws_szMethodS.l0 k x0 t114 (wrap64 (x5 + 1))))) else (none)) else (some x1)
def laws_szMethodS.f (k : Nat) (l0 : List (S65)) (a1 : Int) : Option (Int) := if (wrap64 (a1 - (l0.length : Int))) < 0 then (some (-1)) else (laws_szMethodS.l0 k l0 (wrap64 (a1 - (l0.length : Int))) 0)
set_option maxHeartbeats 8000000 in
set_option maxRecDepth 100000 in
theorem laws_szMethodS.calls (k : Nat) (A0 : Option Addr) (c0 : Nat) (l0 : List (S65)) (a1 : Int) (r : Int) (w : World) (hr0 : Kd.C k65 w A0 l0.length l0) (hc0 : l0.length ≤ c0) (h : laws_szMethodS.f k l0 a1 = some r) :
 Calls Tryz.prog 16 #[.slice A0 l0.length c0, .int .i64 a1] w fun e w' => e = .returned (.int .i64 r) ∧ Below w.heap.size w w' := by
 have hu65 := Tryz.underlying65; have HR0 := Zm hr0; have HC0 := Zm hc0; clear hr0 hc0; have HB := Zm (Below.refl w.heap.size w); have H := h; clear h; unfold laws_szMethodS.f at H; replace H := sp_ H; rcases H with ⟨c3, H⟩ | ⟨c3, H⟩
 · have c3b0 := decide_eq_false c3; (try (have c3b1 : decide ((IntKind.i64.wrap (a1 - (l0.length : Int))) < 0) = false := by simp only [i64_w]; exact (decide_eq_false c3))); clear c3; have H' := Zm H; clear H; go_enter Tryz.func16, Tryz.ntmps16; go_wp2; go_loopg [1, 5] k (fun kq v1 v5 w' => ∃ (x1_1 : Int) (x5_1 : Int), v1 = .int .i64 x1_1 ∧ v5 = .int .i64 x5_1 ∧ Aside0 (laws_szMethodS.l0 kq l0 x1_1 x5_1 = some r) ∧ Aside0 (kq ≤ k) ∧ Aside0 (Below w.heap.size w w'))
   case atStart => exact ⟨(wrap64 (a1 - (l0.length : Int))), (0), s1_, s1_, H', ⟨Nat.le_refl _⟩, ⟨bk HB.out⟩⟩
   case round =>
    clear H'; (try clear c3); (try clear c3b0); (try clear c3b1); obtain ⟨x1_1, x5_1, rfl, rfl, HA, HK1, HB⟩ := hrel
    cases gk with
    | zero => exact absurd HA.out (by simp [laws_szMethodS.l0])
    | succ k1 =>
     have H := HA.out; clear HA; simp only [laws_szMethodS.l0] at H; replace H := sd_ H; rcases H with ⟨c4b0, H⟩ | ⟨c4b0, H⟩
     · obtain rfl := Option.some.inj H; go_wp2; go_ret; exact fin_ HB
     replace H := snd_ H; obtain ⟨c5b0, H⟩ := H; replace H := sq_ H; obtain ⟨t114, A6, H⟩ := H; have HC7 := Zm H; clear H; obtain ⟨ad113, A113_7, c113_7, A113_8, c113_8, e113, hx113, HC113_7, HR113_7, HC113_8, HR113_8⟩ := an_T65 HR0 HB x5_1; cases e113; go_upto_if 25 with (first | ((with_reducible refine gate_callee (f := 28) rfl ?_); refine ge_ (some 23) Tryz.func28 #[.agg #[.string ((rd_T65 l0 x5_1).f0), .string ((rd_T65 l0 x5_1).f1), .bool ((rd_T65 l0 x5_1).f2), .bool ((rd_T65 l0 x5_1).f3), .bool ((rd_T65 l0 x5_1).f4), .int .i64 ((rd_T65 l0 x5_1).f5), .int .i64 ((rd_T65 l0 x5_1).f6), .slice A113_7 ((rd_T65 l0 x5_1).f7).length c113_7, .slice A113_8 ((rd_T65 l0 x5_1).f8).length c113_8], .int .i64 x1_1] ?_; refine ca_ (laws_szMethod.calls _ _ _ _ _ _ _ _ _ _ _ _ _ _ _ _ _ (pd HR113_7 HB) HC113_7.out (pd HR113_8 HB) HC113_8.out A6.out) ?_; rintro e w8 ⟨rfl, hb⟩; refine ⟨_, rfl, ?_⟩; have n0_ := bt_ HB hb; clear HB; have HB := n0_; clear n0_; clear hb)); have H := HC7.out; clear HC7; replace H := sd_ H; rcases H with ⟨c9b0, H⟩ | ⟨c9b0, H⟩
     · (first | rw [c9b0] | (simp only [i64_w, i32_w]; rw [c9b0]) | skip); have H' := Zm H; clear H; go_wp2; go_roundg k1
       case measure => have := HK1.out; omega
       case rel => exact ⟨(t114), (wrap64 (x5_1 + 1)), s1_, s1_, H', ⟨by have := HK1.out; omega⟩, ⟨bk HB.out⟩⟩
     (first | rw [c9b0] | (simp only [i64_w, i32_w]; rw [c9b0]) | skip); obtain rfl := Option.some.inj H; go_wp2; go_ret; exact fin_ HB
 have c3b0 := decide_eq_true c3; (try (have c3b1 : decide ((IntKind.i64.wrap (a1 - (l0.length : Int))) < 0) = true := by simp only [i64_w]; exact (decide_eq_true c3))); clear c3; obtain rfl := Option.some.inj H; go_enter Tryz.func16, Tryz.ntmps16; go_wp2; go_ret; exact fin_ HB
end Go.Proofs.YtohiakbkkmmjeaaGreatDoor.PFnExactWorldText
