/- Functions of the program as plain Lean functions, each with a proof that the program's call comes to the same; no condition. Written by a program of this session. -/
import Derived.Test.YtohiakbkkmmjeaaGreatDoorPFnExactWorldTextx0
import Derived.Test.YtohiakbkkmmjeaaGreatDoorPFnExactWorldTextx1
namespace Go.Proofs.YtohiakbkkmmjeaaGreatDoor.PFnExactWorldText
open Go.RowKit Go.Proofs.YtohiakbkkmmjeaaGreatDoorW.PrintWords Go.Proofs.YtohiakbkkmmjeaaGreatDoorW.PrintLast Go.Proofs.YtohiakbkkmmjeaaGreatDoorW.PrintMore
open Go.Proofs.YtohiakbkkmmjeaaGreatDoorW.PrintWords renaming below_size → Zbz, below_step → Zbt, blk_frozen → Zkf, blk_below → Zkb
open Go.World renaming block_lt_of_cell? → Zlt
open Go.Proofs.YtohiakbkkmmjeaaGreatDoorW.PrintWords.Aside0 renaming mk → Zm
attribute [local go_sem] max2_int min2_int max_two min_two max_three min_three max_four min_four   -- for this text's walks alone
set_option linter.unusedVariables false
set_option linter.unusedSimpArgs false

/-! ### laws_szClass: function 5 -/
def laws_szClass.f (k : Nat) (a0_0 : ByteArray) (a0_1 : ByteArray) (a0_2 : Bool) (a0_3 : Bool) (l0_4 : List (S60)) (l0_5 : List (S65)) (a1 : Int) : Option (Int) := if (wrap64 (a1 - (a0_0.size : Int))) < 0 then (some (-1)) else (if (wrap64 ((wrap64 (a1 - (a0_0.size : Int))) - (a0_1.size : Int))) < 0 then (some (-1)) else ((laws_szFieldS.f k l0_4 (wrap64 ((wrap64 (a1 - (a0_0.size : Int))) - (a0_1.size : Int)))).bind fun t116 => (if t116 < 0 then (some (-1)) else ((laws_szMethodS.f k l0_5 t116).bind fun t117 => (if t117 < 0 then (some (-1)) else (some t117))))))
set_option maxHeartbeats 8000000 in
set_option maxRecDepth 100000 in
theorem laws_szClass.calls (k : Nat) (a0_0 : ByteArray) (a0_1 : ByteArray) (a0_2 : Bool) (a0_3 : Bool) (A0_4 : Option Addr) (c0_4 : Nat) (l0_4 : List (S60)) (A0_5 : Option Addr) (c0_5 : Nat) (l0_5 : List (S65)) (a1 : Int) (r : Int) (w : World) (hr0_4 : Kd.C k60 w A0_4 l0_4.length l0_4) (hc0_4 : l0_4.length ≤ c0_4) (hr0_5 : Kd.C k65 w A0_5 l0_5.length l0_5) (hc0_5 : l0_5.length ≤ c0_5) (h : laws_szClass.f k a0_0 a0_1 a0_2 a0_3 l0_4 l0_5 a1 = some r) :
 Calls Tryz.prog 5 #[.agg #[.string a0_0, .string a0_1, .bool a0_2, .bool a0_3, .slice A0_4 l0_4.length c0_4, .slice A0_5 l0_5.length c0_5], .int .i64 a1] w fun e w' => e = .returned (.int .i64 r) ∧ Below w.heap.size w w' := by
 have hu25 := Tryz.underlying25; have HR0_4 := Zm hr0_4; have HC0_4 := Zm hc0_4; clear hr0_4 hc0_4; have HR0_5 := Zm hr0_5; have HC0_5 := Zm hc0_5; clear hr0_5 hc0_5; have HB := Zm (Below.refl w.heap.size w); have H := h; clear h; unfold laws_szClass.f at H; have HC3 := Zm H; clear H; go_enter Tryz.func5, Tryz.ntmps5; go_upto_if 11 with (first | ((with_reducible refine gate_dst (N := 2) rfl ?_); refine bx_ 2 25 #[.string a0_0, .string a0_1, .bool a0_2, .bool a0_3, .slice A0_4 l0_4.length c0_4, .slice A0_5 l0_5.length c0_5] ?_; intro gb115 hg w4 hbox hb; have BK115 := Zm hbox; have GW115 := bz HB hg; have GE115 := bz HB hg; replace HB := bt_ HB hb; clear hb hbox hg; have hcz5 := cz6 BK115.out; have hfz5_5 := Zkf BK115.out 5)); have H := HC3.out; clear HC3; replace H := sp_ H; rcases H with ⟨c6, H⟩ | ⟨c6, H⟩
 · have c6b0 := decide_eq_false c6; (try (have c6b1 : decide ((IntKind.i64.wrap (a1 - (a0_0.size : Int))) < 0) = false := by simp only [i64_w]; exact (decide_eq_false c6))); clear c6; (first | rw [c6b0] | (simp only [i64_w, i32_w]; rw [c6b0]) | skip); replace H := sp_ H; rcases H with ⟨c7, H⟩ | ⟨c7, H⟩
   · have c7b0 := decide_eq_false c7; (try (have c7b1 : decide ((IntKind.i64.wrap ((IntKind.i64.wrap (a1 - (a0_0.size : Int))) - (a0_1.size : Int))) < 0) = false := by simp only [i64_w]; exact (decide_eq_false c7))); clear c7; replace H := sq_ H; obtain ⟨t116, A9, H⟩ := H; have HC10 := Zm H; clear H; have hcz11 := cz6 BK115.out; go_upto_if 24 with (first | ((with_reducible refine gate_callee (f := 15) rfl ?_); refine ge_ (some 22) Tryz.func15 #[.slice A0_4 l0_4.length c0_4, .int .i64 (wrap64 ((wrap64 (a1 - (a0_0.size : Int))) - (a0_1.size : Int)))] ?_; refine ca_ (laws_szFieldS.calls _ _ _ _ _ _ _ (pd HR0_4 HB) HC0_4.out A9.out) ?_; rintro e w12 ⟨rfl, hb⟩; refine ⟨_, rfl, ?_⟩; replace BK115 := kb BK115 hb; replace HB := bt_ HB hb; clear hb)); have H := HC10.out; clear HC10; replace H := sd_ H; rcases H with ⟨c13b0, H⟩ | ⟨c13b0, H⟩
     · (first | rw [c13b0] | (simp only [i64_w, i32_w]; rw [c13b0]) | skip); replace H := sq_ H; obtain ⟨t117, A14, H⟩ := H; have HC15 := Zm H; clear H; have hcz16 := cz6 BK115.out; (try clear BK115); go_upto_if 30 with (first | ((with_reducible refine gate_callee (f := 16) rfl ?_); refine ge_ (some 28) Tryz.func16 #[.slice A0_5 l0_5.length c0_5, .int .i64 t116] ?_; refine ca_ (laws_szMethodS.calls _ _ _ _ _ _ _ (pd HR0_5 HB) HC0_5.out A14.out) ?_; rintro e w17 ⟨rfl, hb⟩; refine ⟨_, rfl, ?_⟩; have n0_ := bt_ HB hb; clear HB; have HB := n0_; clear n0_; clear hb)); have H := HC15.out; clear HC15; replace H := sd_ H; rcases H with ⟨c18b0, H⟩ | ⟨c18b0, H⟩
       · (first | rw [c18b0] | (simp only [i64_w, i32_w]; rw [c18b0]) | skip); obtain rfl := Option.some.inj H; go_wp2; go_ret; exact fin_ HB
       (first | rw [c18b0] | (simp only [i64_w, i32_w]; rw [c18b0]) | skip); obtain rfl := Option.some.inj H; go_wp2; go_ret; exact fin_ HB
     (first | rw [c13b0] | (simp only [i64_w, i32_w]; rw [c13b0]) | skip); obtain rfl := Option.some.inj H; go_wp2; go_ret; exact fin_ HB
   have c7b0 := decide_eq_true c7; (try (have c7b1 : decide ((IntKind.i64.wrap ((IntKind.i64.wrap (a1 - (a0_0.size : Int))) - (a0_1.size : Int))) < 0) = true := by simp only [i64_w]; exact (decide_eq_true c7))); clear c7; obtain rfl := Option.some.inj H; have hcz8 := cz6 BK115.out; go_wp2; go_ret; exact fin_ HB
 have c6b0 := decide_eq_true c6; (try (have c6b1 : decide ((IntKind.i64.wrap (a1 - (a0_0.size : Int))) < 0) = true := by simp only [i64_w]; exact (decide_eq_true c6))); clear c6; (first | rw [c6b0] | (simp only [i64_w, i32_w]; rw [c6b0]) | skip); obtain rfl := Option.some.inj H; go_wp2; go_ret; exact fin_ HB
/-! ### laws_szClassS: function 10 -/
def laws_szClassS.l0 : Nat → List (S25) → Int → Int → Option (Int)
 | 0, _, _, _ => none
 | k + 1, x0, x1, x5 => if x5 < (x0.length : Int) then (if 0 ≤ x5 then ((laws_szClass.f k ((rd_T25 x0 x5).f0) ((rd_T25 x0 x5).f1) ((rd_T25 x0 x5).f2) ((rd_T25 x0 x5).f3) ((rd_T25 x0 x5).f4) ((rd_T25 x0 x5).f5) x1).bind fun t119 => (if t119 < 0 then (some (-1)) else (laws_szClassS.l0 k x0 t119 (wrap64 (x5 + 1))))) else (none)) else (some x1)
def laws_szClassS.f (k : Nat) (l0 : List (S25)) (a1 : Int) : Option (Int) := if (wrap64 (a1 - (l0.length : Int))) < 0 then (some (-1)) else (laws_szClassS.l0 k l0 (wrap64 (a1 - (l0.length : Int))) 0)
set_option maxHeartbeats 8000000 in
set_option maxRecDepth 100000 in
theorem laws_szClassS.calls (k : Nat) (A0 : Option Addr) (c0 : Nat) (l0 : List (S25)) (a1 : Int) (r : Int) (w : World) (hr0 : Kd.C k25 w A0 l0.length l0) (hc0 : l0.length ≤ c0) (h : laws_szClassS.f k l0 a1 = some r) :
 Calls Tryz.prog 10 #[.slice A0 l0.length c0, .int .i64 a1] w fun e w' => e = .returned (.int .i64 r) ∧ Below w.heap.size w w' := by
 have hu25 := Tryz.underlying25; have HR0 := Zm hr0; have HC0 := Zm hc0; clear hr0 hc0; have HB := Zm (Below.refl w.heap.size w); have H := h; clear h; unfold laws_szClassS.f at H; replace H := sp_ H; rcases H with ⟨c3, H⟩ | ⟨c3, H⟩
 · have c3b0 := decide_eq_false c3; (try (have c3b1 : decide ((IntKind.i64.wrap (a1 - (l0.length : Int))) < 0) = false := by simp only [i64_w]; exact (decide_eq_false c3))); clear c3; have H' := Zm H; clear H; go_enter Tryz.func10, Tryz.ntmps10; go_wp2; go_loopg [1, 5] k (fun kq v1 v5 w' => ∃ (x1_1 : Int) (x5_1 : Int), v1 = .int .i64 x1_1 ∧ v5 = .int .i64 x5_1 ∧ Aside0 (laws_szClassS.l0 kq l0 x1_1 x5_1 = some r) ∧ Aside0 (kq ≤ k) ∧ Aside0 (Below w.heap.size w w'))
   case atStart => exact ⟨(wrap64 (a1 - (l0.length : Int))), (0), s1_, s1_, H', ⟨Nat.le_refl _⟩, ⟨bk HB.out⟩⟩
   case round =>
    clear H'; (try clear c3); (try clear c3b0); (try clear c3b1); obtain ⟨x1_1, x5_1, rfl, rfl, HA, HK1, HB⟩ := hrel
    cases gk with
    | zero => exact absurd HA.out (by simp [laws_szClassS.l0])
    | succ k1 =>
     have H := HA.out; clear HA; simp only [laws_szClassS.l0] at H; replace H := sd_ H; rcases H with ⟨c4b0, H⟩ | ⟨c4b0, H⟩
     · obtain rfl := Option.some.inj H; go_wp2; go_ret; exact fin_ HB
     replace H := snd_ H; obtain ⟨c5b0, H⟩ := H; replace H := sq_ H; obtain ⟨t119, A6, H⟩ := H; have HC7 := Zm H; clear H; obtain ⟨ad118, A118_4, c118_4, A118_5, c118_5, e118, hx118, HC118_4, HR118_4, HC118_5, HR118_5⟩ := an_T25 HR0 HB x5_1; cases e118; go_upto_if 25 with (first | ((with_reducible refine gate_callee (f := 5) rfl ?_); refine ge_ (some 23) Tryz.func5 #[.agg #[.string ((rd_T25 l0 x5_1).f0), .string ((rd_T25 l0 x5_1).f1), .bool ((rd_T25 l0 x5_1).f2), .bool ((rd_T25 l0 x5_1).f3), .slice A118_4 ((rd_T25 l0 x5_1).f4).length c118_4, .slice A118_5 ((rd_T25 l0 x5_1).f5).length c118_5], .int .i64 x1_1] ?_; refine ca_ (laws_szClass.calls _ _ _ _ _ _ _ _ _ _ _ _ _ _ (pd HR118_4 HB) HC118_4.out (pd HR118_5 HB) HC118_5.out A6.out) ?_; rintro e w8 ⟨rfl, hb⟩; refine ⟨_, rfl, ?_⟩; have n0_ := bt_ HB hb; clear HB; have HB := n0_; clear n0_; clear hb)); have H := HC7.out; clear HC7; replace H := sd_ H; rcases H with ⟨c9b0, H⟩ | ⟨c9b0, H⟩
     · (first | rw [c9b0] | (simp only [i64_w, i32_w]; rw [c9b0]) | skip); have H' := Zm H; clear H; go_wp2; go_roundg k1
       case measure => have := HK1.out; omega
       case rel => exact ⟨(t119), (wrap64 (x5_1 + 1)), s1_, s1_, H', ⟨by have := HK1.out; omega⟩, ⟨bk HB.out⟩⟩
     (first | rw [c9b0] | (simp only [i64_w, i32_w]; rw [c9b0]) | skip); obtain rfl := Option.some.inj H; go_wp2; go_ret; exact fin_ HB
 have c3b0 := decide_eq_true c3; (try (have c3b1 : decide ((IntKind.i64.wrap (a1 - (l0.length : Int))) < 0) = true := by simp only [i64_w]; exact (decide_eq_true c3))); clear c3; obtain rfl := Option.some.inj H; go_enter Tryz.func10, Tryz.ntmps10; go_wp2; go_ret; exact fin_ HB
/-! ### spec_l01NameByte: function 50 -/
def spec_l01NameByte.f (a0 : Int) (a1 : Bool) : Option (Bool) := if a0 ≥ 97 then (if a0 ≤ 122 then (some true) else (if a0 ≥ 65 then (if a0 ≤ 90 then (some true) else (if a0 = 36 then (some true) else (if a1 = true then (some false) else (if a0 ≥ 48 then (some (decide (a0 ≤ 57))) else (some false))))) else (if a0 = 36 then (some true) else (if a1 = true then (some false) else (if a0 ≥ 48 then (some (decide (a0 ≤ 57))) else (some false)))))) else (if a0 ≥ 65 then (if a0 ≤ 90 then (some true) else (if a0 = 36 then (some true) else (if a1 = true then (some false) else (if a0 ≥ 48 then (some (decide (a0 ≤ 57))) else (some false))))) else (if a0 = 36 then (some true) else (if a1 = true then (some false) else (if a0 ≥ 48 then (some (decide (a0 ≤ 57))) else (some false)))))
set_option maxHeartbeats 8000000 in
set_option maxRecDepth 100000 in
theorem spec_l01NameByte.calls (a0 : Int) (a1 : Bool) (r : Bool) (w : World) (h : spec_l01NameByte.f a0 a1 = some r) :
 Calls Tryz.prog 50 #[.int .u8 a0, .bool a1] w fun e w' => e = .returned (.bool r) ∧ Drawn0 w w' := by
 have H := h; clear h; unfold spec_l01NameByte.f at H; replace H := sp_ H; rcases H with ⟨c3, H⟩ | ⟨c3, H⟩
 · have c3b0 : decide (97 ≤ a0) = false := decide_eq_false c3; clear c3; replace H := sp_ H; rcases H with ⟨c13, H⟩ | ⟨c13, H⟩
   · have c13b0 : decide (65 ≤ a0) = false := decide_eq_false c13; clear c13; replace H := se_ H; rcases H with ⟨c18, c18b0, c18b1, H⟩ | ⟨c18, c18b0, c18b1, H⟩
     · replace H := sb_ H; rcases H with ⟨rfl, H⟩ | ⟨rfl, H⟩
       · replace H := sp_ H; rcases H with ⟨c20, H⟩ | ⟨c20, H⟩
         · have c20b0 : decide (48 ≤ a0) = false := decide_eq_false c20; clear c20; obtain rfl := Option.some.inj H; go_enter Tryz.func50, Tryz.ntmps50; go_wp2; go_ret; exact fd_
         have c20b0 : decide (48 ≤ a0) = true := decide_eq_true c20; clear c20; obtain rfl := Option.some.inj H; go_enter Tryz.func50, Tryz.ntmps50; go_wp2; go_ret; exact fd_
       obtain rfl := Option.some.inj H; go_enter Tryz.func50, Tryz.ntmps50; go_wp2; go_ret; exact fd_
     clear c18; obtain rfl := Option.some.inj H; go_enter Tryz.func50, Tryz.ntmps50; go_wp2; go_ret; exact fd_
   have c13b0 : decide (65 ≤ a0) = true := decide_eq_true c13; clear c13; replace H := sd_ H; rcases H with ⟨c14b0, H⟩ | ⟨c14b0, H⟩
   · replace H := se_ H; rcases H with ⟨c15, c15b0, c15b1, H⟩ | ⟨c15, c15b0, c15b1, H⟩
     · replace H := sb_ H; rcases H with ⟨rfl, H⟩ | ⟨rfl, H⟩
       · replace H := sp_ H; rcases H with ⟨c17, H⟩ | ⟨c17, H⟩
         · have c17b0 : decide (48 ≤ a0) = false := decide_eq_false c17; clear c17; obtain rfl := Option.some.inj H; go_enter Tryz.func50, Tryz.ntmps50; go_wp2; go_ret; exact fd_
         have c17b0 : decide (48 ≤ a0) = true := decide_eq_true c17; clear c17; obtain rfl := Option.some.inj H; go_enter Tryz.func50, Tryz.ntmps50; go_wp2; go_ret; exact fd_
       obtain rfl := Option.some.inj H; go_enter Tryz.func50, Tryz.ntmps50; go_wp2; go_ret; exact fd_
     clear c15; obtain rfl := Option.some.inj H; go_enter Tryz.func50, Tryz.ntmps50; go_wp2; go_ret; exact fd_
   obtain rfl := Option.some.inj H; go_enter Tryz.func50, Tryz.ntmps50; go_wp2; go_ret; exact fd_
 have c3b0 : decide (97 ≤ a0) = true := decide_eq_true c3; clear c3; replace H := sd_ H; rcases H with ⟨c4b0, H⟩ | ⟨c4b0, H⟩
 · replace H := sp_ H; rcases H with ⟨c5, H⟩ | ⟨c5, H⟩
   · have c5b0 : decide (65 ≤ a0) = false := decide_eq_false c5; clear c5; replace H := se_ H; rcases H with ⟨c10, c10b0, c10b1, H⟩ | ⟨c10, c10b0, c10b1, H⟩
     · replace H := sb_ H; rcases H with ⟨rfl, H⟩ | ⟨rfl, H⟩
       · replace H := sp_ H; rcases H with ⟨c12, H⟩ | ⟨c12, H⟩
         · have c12b0 : decide (48 ≤ a0) = false := decide_eq_false c12; clear c12; obtain rfl := Option.some.inj H; go_enter Tryz.func50, Tryz.ntmps50; go_wp2; go_ret; exact fd_
         have c12b0 : decide (48 ≤ a0) = true := decide_eq_true c12; clear c12; obtain rfl := Option.some.inj H; go_enter Tryz.func50, Tryz.ntmps50; go_wp2; go_ret; exact fd_
       obtain rfl := Option.some.inj H; go_enter Tryz.func50, Tryz.ntmps50; go_wp2; go_ret; exact fd_
     clear c10; obtain rfl := Option.some.inj H; go_enter Tryz.func50, Tryz.ntmps50; go_wp2; go_ret; exact fd_
   have c5b0 : decide (65 ≤ a0) = true := decide_eq_true c5; clear c5; replace H := sd_ H; rcases H with ⟨c6b0, H⟩ | ⟨c6b0, H⟩
   · replace H := se_ H; rcases H with ⟨c7, c7b0, c7b1, H⟩ | ⟨c7, c7b0, c7b1, H⟩
     · replace H := sb_ H; rcases H with ⟨rfl, H⟩ | ⟨rfl, H⟩
       · replace H := sp_ H; rcases H with ⟨c9, H⟩ | ⟨c9, H⟩
         · have c9b0 : decide (48 ≤ a0) = false := decide_eq_false c9; clear c9; obtain rfl := Option.some.inj H; go_enter Tryz.func50, Tryz.ntmps50; go_wp2; go_ret; exact fd_
         have c9b0 : decide (48 ≤ a0) = true := decide_eq_true c9; clear c9; obtain rfl := Option.some.inj H; go_enter Tryz.func50, Tryz.ntmps50; go_wp2; go_ret; exact fd_
       obtain rfl := Option.some.inj H; go_enter Tryz.func50, Tryz.ntmps50; go_wp2; go_ret; exact fd_
     clear c7; obtain rfl := Option.some.inj H; go_enter Tryz.func50, Tryz.ntmps50; go_wp2; go_ret; exact fd_
   obtain rfl := Option.some.inj H; go_enter Tryz.func50, Tryz.ntmps50; go_wp2; go_ret; exact fd_
 obtain rfl := Option.some.inj H; go_enter Tryz.func50, Tryz.ntmps50; go_wp2; go_ret; exact fd_
/-! ### spec_NameRight: function 29 -/
mutual
def spec_NameRight.j0 : Nat → ByteArray → Bool → Option (Bool)
 | 0, _, _ => none
 | k + 1, x0, x11 => if x11 = true then (some false) else (spec_NameRight.l0 k x0 0)
def spec_NameRight.l0 : Nat → ByteArray → Int → Option (Bool)
 | 0, _, _ => none
 | k + 1, x0, x3 => if x3 < (x0.size : Int) then (if 0 ≤ x3 then ((spec_l01NameByte.f (bt x0 x3) (x3 == 0)).bind fun t120 => (if t120 = true then (spec_NameRight.l0 k x0 (wrap64 (x3 + 1))) else (some false))) else (none)) else (some true)
end
def spec_NameRight.f (k : Nat) (a0 : ByteArray) : Option (Bool) := if (a0.size : Int) < 1 then (spec_NameRight.j0 k a0 true) else (spec_NameRight.j0 k a0 (decide ((a0.size : Int) > 20)))
theorem spec_NameRight.mono_l : ∀ k, (∀ y0 y1, LeO (spec_NameRight.j0 k y0 y1) (spec_NameRight.j0 (k + 1) y0 y1)) ∧ (∀ y0 y1, LeO (spec_NameRight.l0 k y0 y1) (spec_NameRight.l0 (k + 1) y0 y1))
 | 0 => by refine ⟨?_, ?_⟩ <;> (intros; intro r h; simp [spec_NameRight.j0, spec_NameRight.l0] at h)
 | k + 1 => by
  obtain ⟨ih0, ih1⟩ := spec_NameRight.mono_l k; refine ⟨?_, ?_⟩ <;> (intros; (first | unfold spec_NameRight.j0 | unfold spec_NameRight.l0)) <;> exact mo_
theorem spec_NameRight.mono : ∀ a0 k, LeO (spec_NameRight.f k a0) (spec_NameRight.f (k + 1) a0) := by
 intro a0 k; obtain ⟨ih0, ih1⟩ := spec_NameRight.mono_l k; unfold spec_NameRight.f; exact mo_
set_option maxHeartbeats 8000000 in
set_option maxRecDepth 100000 in
theorem spec_NameRight.calls (k : Nat) (a0 : ByteArray) (r : Bool) (w : World) (h : spec_NameRight.f k a0 = some r) :
 Calls Tryz.prog 29 #[.string a0] w fun e w' => e = .returned (.bool r) ∧ Drawn0 w w' := by
 have H := h; clear h; unfold spec_NameRight.f at H; have HC2 := Zm H; clear H; go_enter Tryz.func29, Tryz.ntmps29; go_upto_region 1 with (fail); go_cut [11] (fun v11 wc => ∃ (kq : Nat) (x11_1 : Bool), v11 = .bool x11_1 ∧ Aside0 (spec_NameRight.j0 kq a0 x11_1 = some r) ∧ Aside0 (kq ≤ k) ∧ Drawn0 w wc)
 case first =>
  have H := HC2.out; clear HC2; replace H := sp_ H; rcases H with ⟨c3, H⟩ | ⟨c3, H⟩
  · have c3b0 := decide_eq_false c3; have c3b1 : decide (a0.size < 1) = false := decide_eq_false (by omega); clear c3; (first | rw [c3b0] | (simp only [i64_w, i32_w]; rw [c3b0]) | skip); have H' := Zm H; clear H; go_wp2; go_meet
    case rel => exact ⟨_, (decide ((a0.size : Int) > 20)), s1_, H', ⟨o1_⟩, dn_⟩
  have c3b0 := decide_eq_true c3; have c3b1 : decide (a0.size < 1) = true := decide_eq_true (by omega); clear c3; (first | rw [c3b0] | (simp only [i64_w, i32_w]; rw [c3b0]) | skip); have H' := Zm H; clear H; go_wp2; go_meet
  case rel => exact ⟨_, (true), s1_, H', ⟨o1_⟩, dn_⟩
 case rest =>
  clear HC2; obtain ⟨kq, x11_1, rfl, HA, HJ1, ⟨mc1, rfl⟩⟩ := hcut
  cases kq with
  | zero => exact absurd HA.out (by simp [spec_NameRight.j0])
  | succ kj1 =>
   have H := HA.out; clear HA; simp only [spec_NameRight.j0] at H; replace H := sb_ H; rcases H with ⟨rfl, H⟩ | ⟨rfl, H⟩
   · have H' := Zm H; clear H; go_wp2; go_loopg [3] kj1 (fun kq v3 w' => ∃ (x3_2 : Int), v3 = .int .i64 x3_2 ∧ Aside0 (spec_NameRight.l0 kq a0 x3_2 = some r) ∧ Aside0 (kq ≤ kj1) ∧ Drawn0 w w')
     case atStart => exact ⟨(0), s1_, H', ⟨Nat.le_refl _⟩, dn_⟩
     case round =>
      clear H'; (try clear c4); obtain ⟨x3_2, rfl, HA, HK2, ⟨m2, rfl⟩⟩ := hrel
      cases gk with
      | zero => exact absurd HA.out (by simp [spec_NameRight.l0])
      | succ k2 =>
       have H := HA.out; clear HA; simp only [spec_NameRight.l0] at H; replace H := sd_ H; rcases H with ⟨c5b0, H⟩ | ⟨c5b0, H⟩
       · obtain rfl := Option.some.inj H; go_wp2; go_ret; exact fd_
       replace H := snd_ H; obtain ⟨c6b0, H⟩ := H; replace H := sq_ H; obtain ⟨t120, A8, H⟩ := H; have HC9 := Zm H; clear H; have p7 : 0 ≤ (x3_2 : Int) := da_; have q7 : x3_2 < (a0.size : Int) := da_; have hx7 := bt_at a0 x3_2; replace p7 := eq_true p7; replace q7 := eq_true q7; go_upto_if 24 with (first | ((with_reducible refine gate_callee (f := 50) rfl ?_); refine ge_ (some 23) Tryz.func50 #[.int .u8 (bt a0 x3_2), .bool (x3_2 == 0)] ?_; (with_reducible refine (spec_l01NameByte.calls _ _ _ _ A8.out).mono ?_); rintro e w' ⟨rfl, ⟨nd, rfl⟩⟩; refine ⟨_, rfl, ?_⟩)); have H := HC9.out; clear HC9; replace H := sb_ H; rcases H with ⟨rfl, H⟩ | ⟨rfl, H⟩
       · obtain rfl := Option.some.inj H; go_wp2; go_ret; exact fd_
       have H' := Zm H; clear H; go_wp2; go_roundg k2
       case measure => have := HJ1.out; have := HK2.out; omega
       case rel => exact ⟨(wrap64 (x3_2 + 1)), s1_, H', ⟨by have := HJ1.out; have := HK2.out; omega⟩, dn_⟩
   obtain rfl := Option.some.inj H; go_wp2; go_ret; exact fd_
end Go.Proofs.YtohiakbkkmmjeaaGreatDoor.PFnExactWorldText
