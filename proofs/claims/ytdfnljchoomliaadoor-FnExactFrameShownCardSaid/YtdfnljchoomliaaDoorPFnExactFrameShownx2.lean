/- Functions of the program as plain Lean functions, each with a proof that the program's call comes to the same; no condition. Written by a program of this session. -/
import Derived.Test.YtdfnljchoomliaaDoorPFnExactFrameShownx0
import Derived.Test.YtdfnljchoomliaaDoorPFnExactFrameShownx1
namespace Go.Proofs.YtdfnljchoomliaaDoor.PFnExactFrameShown
open Go.RowKit Go.Proofs.YtdfnljchoomliaaDoorW.PrintWords Go.Proofs.YtdfnljchoomliaaDoorW.PrintLast Go.Proofs.YtdfnljchoomliaaDoorW.PrintMore
open Go.Proofs.YtdfnljchoomliaaDoorW.PrintWords renaming below_alloc → Zba, pw_below_drewN → Zbn, below_drew1 → Zbd, below_set → Zbs, below_size → Zbz, below_step → Zbt, blk_drewN → Zkn, blk_drew → Zkd, blk_alloc → Zka, blk_cell → Zkc, blk_frozen → Zkf, blk_far → Zkr, blk_put → Zkp, blk_below → Zkb
open Go.World renaming block_lt_of_cell? → Zlt
open Go.Proofs.YtdfnljchoomliaaDoorW.PrintWords.Aside0 renaming mk → Zm
attribute [local go_sem] max2_int min2_int max_two min_two max_three min_three max_four min_four   -- for this text's walks alone
set_option linter.unusedVariables false
set_option linter.unusedSimpArgs false

/-! ### spec_FrameShown: function 12 -/
mutual
def spec_FrameShown.j0 : Nat → ByteArray → Bool → List (S26) → List (S26) → Option (ByteArray)
 | 0, _, _, _, _ => none
 | k + 1, x3, x15, x116000, x116001 => if x15 = true then (some x3) else (spec_FrameShown.l0 k x3 0 x116000 x116001)
def spec_FrameShown.l0 : Nat → ByteArray → Int → List (S26) → List (S26) → Option (ByteArray)
 | 0, _, _, _, _ => none
 | k + 1, x3, x4, x116000, x116001 => if x4 < (x116000.length : Int) then (if 0 ≤ x4 then ((spec_TypeShown.f k ((rd_T26 x116000 x4).f0) ((rd_T26 x116000 x4).f1) ((rd_T26 x116000 x4).f2)).bind fun t117 => (if x3.size + t117.size ≤ 9223372036854775807 then (if (x3 ++ t117).size + 1 ≤ 9223372036854775807 then (spec_FrameShown.l0 k ((x3 ++ t117) ++ (⟨#[32]⟩ : ByteArray)) (wrap64 (x4 + 1)) x116000 x116001) else (none)) else (none))) else (none)) else (if x3.size + 1 ≤ 9223372036854775807 then (spec_FrameShown.l1 k (x3 ++ (⟨#[124]⟩ : ByteArray)) 0 x116000 x116001) else (none))
def spec_FrameShown.l1 : Nat → ByteArray → Int → List (S26) → List (S26) → Option (ByteArray)
 | 0, _, _, _, _ => none
 | k + 1, x3, x5, x116000, x116001 => if x5 < (x116001.length : Int) then (if x3.size + 1 ≤ 9223372036854775807 then (if 0 ≤ x5 then ((spec_TypeShown.f k ((rd_T26 x116001 x5).f0) ((rd_T26 x116001 x5).f1) ((rd_T26 x116001 x5).f2)).bind fun t119 => (if (x3 ++ (⟨#[32]⟩ : ByteArray)).size + t119.size ≤ 9223372036854775807 then (spec_FrameShown.l1 k ((x3 ++ (⟨#[32]⟩ : ByteArray)) ++ t119) (wrap64 (x5 + 1)) x116000 x116001) else (none))) else (none)) else (none)) else (some x3)
end
def spec_FrameShown.f (k : Nat) (l0_0 : List (S26)) (l0_1 : List (S26)) : Option (ByteArray) := if (l0_0.length : Int) > 400 then (spec_FrameShown.j0 k (⟨#[]⟩ : ByteArray) true l0_0 l0_1) else (spec_FrameShown.j0 k (⟨#[]⟩ : ByteArray) (decide ((l0_1.length : Int) > 400)) l0_0 l0_1)
set_option maxHeartbeats 8000000 in
set_option maxRecDepth 100000 in
theorem spec_FrameShown.calls (k : Nat) (A0_0 : Option Addr) (c0_0 : Nat) (l0_0 : List (S26)) (A0_1 : Option Addr) (c0_1 : Nat) (l0_1 : List (S26)) (r : ByteArray) (w : World) (hr0_0 : Kd.C k26 w A0_0 l0_0.length l0_0) (hc0_0 : l0_0.length ≤ c0_0) (hr0_1 : Kd.C k26 w A0_1 l0_1.length l0_1) (hc0_1 : l0_1.length ≤ c0_1) (h : spec_FrameShown.f k l0_0 l0_1 = some r) :
 Calls Tryd.prog 12 #[.agg #[.slice A0_0 l0_0.length c0_0, .slice A0_1 l0_1.length c0_1]] w fun e w' => e = .returned (.string r) ∧ Below w.heap.size w w' := by
 have hu36 := Tryd.underlying36; have hu26 := Tryd.underlying26; have HR0_0 := Zm hr0_0; have HC0_0 := Zm hc0_0; clear hr0_0 hc0_0; have HR0_1 := Zm hr0_1; have HC0_1 := Zm hc0_1; clear hr0_1 hc0_1; have HB := Zm (Below.refl w.heap.size w); have H : (if (l0_0.length : Int) > 400 then (spec_FrameShown.j0 k (⟨#[]⟩ : ByteArray) true l0_0 l0_1) else (spec_FrameShown.j0 k (⟨#[]⟩ : ByteArray) (decide ((l0_1.length : Int) > 400)) l0_0 l0_1)) = some r := h; clear h; have HC2 := Zm H; clear H; go_enter Tryd.func12, Tryd.ntmps12; go_upto_region 2 with (first | ((with_reducible refine gate_dst (N := 1) rfl ?_); (try (refine gate_guard (by rfl) ?_; dsimp only)); refine box_event ?hg (N := 1) ?hd (cs := #[.slice A0_0 l0_0.length c0_0, .slice A0_1 l0_1.length c0_1]) (t := 36) ?hr ?_; (case hd => rfl); (case hg => rfl); (case hr => first | (go_simp; done) | (go_simp; rfl)); intro gb115 hg w3 hbox hb; have n0_ := (⟨Zm (Zbt (bk HB.out) hb), Zm (hbox), Zm ((by rw [hg]; exact (Zbz (bk HB.out)) : w.heap.size ≤ gb115)), Zm ((by rw [hg]; exact (Zbz (bk HB.out)) : w.heap.size ≤ gb115))⟩ : _ ∧ _ ∧ _ ∧ _); clear HB; obtain ⟨HB, BK115, GW115, GE115⟩ := n0_; clear hb hbox hg)); (try simp only [Act.put, List.setIfInBounds_toArray, List.set_cons_zero, List.set_cons_succ]); go_cut [15] (fun v15 wc => ∃ (kq : Nat) (x15_1 : Bool), v15 = .bool x15_1 ∧ Aside0 (spec_FrameShown.j0 kq (⟨#[]⟩ : ByteArray) x15_1 l0_0 l0_1 = some r) ∧ Aside0 (kq ≤ k) ∧ Aside0 (wc.heap[gb115]? = some (.cells #[(.slice A0_0 l0_0.length c0_0), (.slice A0_1 l0_1.length c0_1)] 36 (0, 0))) ∧ Aside0 (Below w.heap.size w wc))
 case first =>
  have H := HC2.out; clear HC2; by_cases c4 : (l0_0.length : Int) > 400; rotate_left
  · rw [if_neg c4] at H; have c4b0 : decide (400 < (l0_0.length : Int)) = false := decide_eq_false c4; have c4b1 : decide (400 < l0_0.length) = false := decide_eq_false (by omega); clear c4; (first | rw [c4b0] | (simp only [i64_w, i32_w]; rw [c4b0]) | rw [c4b1] | skip); have H' := Zm H; clear H; obtain ⟨hcz6_0, hcz6_1⟩ := cz2 BK115.out; go_wp2; go_meet
    case rel => exact ⟨_, (decide ((l0_1.length : Int) > 400)), (by first | rfl | (simp; done) | (simp [*]; done)), H', ⟨by first | omega | exact Nat.le_refl _⟩, ⟨pk BK115.out⟩, ⟨bk HB.out⟩⟩
  rw [if_pos c4] at H; have c4b0 : decide (400 < (l0_0.length : Int)) = true := decide_eq_true c4; have c4b1 : decide (400 < l0_0.length) = true := decide_eq_true (by omega); clear c4; (first | rw [c4b0] | (simp only [i64_w, i32_w]; rw [c4b0]) | rw [c4b1] | skip); have H' := Zm H; clear H; obtain ⟨hcz5_0, hcz5_1⟩ := cz2 BK115.out; go_wp2; go_meet
  case rel => exact ⟨_, (true), (by first | rfl | (simp; done) | (simp [*]; done)), H', ⟨by first | omega | exact Nat.le_refl _⟩, ⟨pk BK115.out⟩, ⟨bk HB.out⟩⟩
 case rest =>
  clear HC2; obtain ⟨kq, x15_1, rfl, HA, HJ1, BK115, HB⟩ := hcut
  cases kq with
  | zero => exact absurd HA.out (by simp [spec_FrameShown.j0])
  | succ kj1 =>
   have H := HA.out; clear HA; simp only [spec_FrameShown.j0] at H; by_cases c7 : x15_1 = true; rotate_left
   · replace c7 := Bool.eq_false_iff.mpr c7; subst c7; rw [if_neg (show ¬ (false = true) by decide)] at H; have H' := Zm H; clear H; go_wp2; go_loopg [3, 4] kj1 (fun kq v3 v4 w' => ∃ (x3_2 : ByteArray) (x4_2 : Int), v3 = .string x3_2 ∧ v4 = .int .i64 x4_2 ∧ Aside0 (spec_FrameShown.l0 kq x3_2 x4_2 l0_0 l0_1 = some r) ∧ Aside0 (kq ≤ kj1) ∧ Aside0 (w'.heap[gb115]? = some (.cells #[(.slice A0_0 l0_0.length c0_0), (.slice A0_1 l0_1.length c0_1)] 36 (0, 0))) ∧ Aside0 (Below w.heap.size w w'))
     case atStart => exact ⟨((⟨#[]⟩ : ByteArray)), (0), (by first | rfl | (simp; done) | (simp [*]; done)), (by first | rfl | (simp; done) | (simp [*]; done)), H', ⟨Nat.le_refl _⟩, ⟨pk BK115.out⟩, ⟨bk HB.out⟩⟩
     case round =>
      clear H'; (try clear c7); obtain ⟨x3_2, x4_2, rfl, rfl, HA, HK2, BK115, HB⟩ := hrel
      cases gk with
      | zero => exact absurd HA.out (by simp [spec_FrameShown.l0])
      | succ k2 =>
       have H := HA.out; clear HA; simp only [spec_FrameShown.l0] at H; by_cases c8 : x4_2 < (l0_0.length : Int); rotate_left
       · rw [if_neg c8] at H; have c8b0 := decide_eq_false c8; clear c8; by_cases c15 : x3_2.size + 1 ≤ 9223372036854775807; rotate_left
         · rw [if_neg c15] at H; exact absurd H (by simp)

         rw [if_pos c15] at H
         have c15b0 := eq_true c15
         have c15b1 := decide_eq_true c15
         try have c15b2 : (9223372036854775807 < x3_2.size + 1) = False := eq_false (Nat.not_lt.2 c15)
         have H' := Zm H
         clear H
         obtain ⟨hcz16_0, hcz16_1⟩ := cz2 BK115.out
         go_wp2
         go_loopg [3, 5] k2 (fun kq v3 v5 w' => ∃ (x3_3 : ByteArray) (x5_3 : Int), v3 = .string x3_3 ∧ v5 = .int .i64 x5_3 ∧ Aside0 (spec_FrameShown.l1 kq x3_3 x5_3 l0_0 l0_1 = some r) ∧ Aside0 (kq ≤ k2) ∧ Aside0 (w'.heap[gb115]? = some (.cells #[(.slice A0_0 l0_0.length c0_0), (.slice A0_1 l0_1.length c0_1)] 36 (0, 0))) ∧ Aside0 (Below w.heap.size w w'))
         case atStart => exact ⟨(x3_2 ++ (⟨#[124]⟩ : ByteArray)), (0), (by first | rfl | (simp; done) | (simp [*]; done)), (by first | rfl | (simp; done) | (simp [*]; done)), H', ⟨Nat.le_refl _⟩, ⟨pk BK115.out⟩, ⟨bk HB.out⟩⟩
         case round =>
          clear H'
          (try clear c7); (try clear c8); (try clear c8b0); (try clear c15); (try clear c15b0); (try clear c15b1); (try clear c15b2); (try clear hcz16_0); (try clear hcz16_1)
          obtain ⟨x3_3, x5_3, rfl, rfl, HA, HK3, BK115, HB⟩ := hrel
          cases gk with
          | zero => exact absurd HA.out (by simp [spec_FrameShown.l1])
          | succ k3 =>
           have H := HA.out
           clear HA
           simp only [spec_FrameShown.l1] at H
           by_cases c17 : x5_3 < (l0_1.length : Int)
           rotate_left
           · rw [if_neg c17] at H
             have c17b0 := decide_eq_false c17
             clear c17
             obtain rfl := Option.some.inj H
             obtain ⟨hcz24_0, hcz24_1⟩ := cz2 BK115.out
             go_wp2
             go_ret
             exact fin_ HB
           rw [if_pos c17] at H
           have c17b0 := decide_eq_true c17
           clear c17
           by_cases c18 : x3_3.size + 1 ≤ 9223372036854775807
           rotate_left
           · rw [if_neg c18] at H
             exact absurd H (by simp)
           rw [if_pos c18] at H
           have c18b0 := eq_true c18
           have c18b1 := decide_eq_true c18
           try have c18b2 : (9223372036854775807 < x3_3.size + 1) = False := eq_false (Nat.not_lt.2 c18)
           by_cases c19 : 0 ≤ x5_3
           rotate_left
           · rw [if_neg c19] at H
             exact absurd H (by simp)
           rw [if_pos c19] at H
           have c19b0 := decide_eq_true c19
           clear c19
           replace H := Option.bind_eq_some_iff.mp H
           obtain ⟨t119, A200, H⟩ := H
           (try dsimp only at H)
           have A20 := Zm A200
           clear A200
           by_cases c21 : (x3_3 ++ (⟨#[32]⟩ : ByteArray)).size + t119.size ≤ 9223372036854775807
           rotate_left
           · rw [if_neg c21] at H
             exact absurd H (by simp)
           rw [if_pos c21] at H
           have c21b0 := eq_true c21
           have c21b1 := decide_eq_true c21
           try have c21b2 : (9223372036854775807 < (x3_3 ++ (⟨#[32]⟩ : ByteArray)).size + t119.size) = False := eq_false (Nat.not_lt.2 c21)
           try have c21b9 : (9223372036854775807 < x3_3.size + 1 + t119.size) = False := eq_false (by have h_ := c21; simp only [ByteArray.size_append] at h_; have z0_ : (⟨#[32]⟩ : ByteArray).size = 1 := rfl; omega)
           have H' := Zm H
           clear H
           obtain ⟨hcz22_0, hcz22_1⟩ := cz2 BK115.out
           have p118 : 0 ≤ (x5_3 : Int) := of_decide_eq_true (by first | (with_reducible assumption) | assumption)
           have q118 : x5_3 < (l0_1.length : Int) := of_decide_eq_true (by first | (with_reducible assumption) | assumption)
           obtain ⟨ad118, e118, hx118_0, hx118_1, hx118_2⟩ := at_T26 HR0_1.out x5_3 p118 q118
           cases e118
           replace hx118_0 := hx_ HB hx118_0 (Zlt _ _ hx118_0)
           replace hx118_1 := hx_ HB hx118_1 (Zlt _ _ hx118_1)
           replace hx118_2 := hx_ HB hx118_2 (Zlt _ _ hx118_2)
           replace p118 := eq_true p118
           replace q118 := eq_true q118
           go_wp2_with (first | ((with_reducible refine gate_callee (f := 8) rfl ?_); refine ge_ (some 49) Tryd.func8 #[.agg #[.int .i64 ((rd_T26 l0_1 x5_3).f0), .string ((rd_T26 l0_1 x5_3).f1), .int .i64 ((rd_T26 l0_1 x5_3).f2)]] ?_; (with_reducible refine (spec_TypeShown.calls _ _ _ _ _ _ A20.out).mono ?_); rintro e w23 ⟨rfl, hb⟩; refine ⟨_, rfl, ?_⟩; have n0_ := (⟨Zm (Zkb (pk BK115.out) hb), Zm (Zbt (bk HB.out) hb)⟩ : _ ∧ _); clear BK115 HB; obtain ⟨BK115, HB⟩ := n0_; (try clear hb); (try clear hb2); (try clear hk); (try clear hi)))
           go_roundg k3
           case measure => have := HJ1.out; have := HK2.out; have := HK3.out; omega
           case rel => exact ⟨((x3_3 ++ (⟨#[32]⟩ : ByteArray)) ++ t119), (wrap64 (x5_3 + 1)), (by first | rfl | (simp; done) | (simp [*]; done)), (by first | rfl | (simp; done) | (simp [*]; done)), H', ⟨by have := HJ1.out; have := HK2.out; have := HK3.out; omega⟩, ⟨pk BK115.out⟩, ⟨bk HB.out⟩⟩
       rw [if_pos c8] at H
       have c8b0 := decide_eq_true c8
       clear c8
       by_cases c9 : 0 ≤ x4_2
       rotate_left
       · rw [if_neg c9] at H
         exact absurd H (by simp)
       rw [if_pos c9] at H
       have c9b0 := decide_eq_true c9
       clear c9
       replace H := Option.bind_eq_some_iff.mp H
       obtain ⟨t117, A100, H⟩ := H
       (try dsimp only at H)
       have A10 := Zm A100
       clear A100
       by_cases c11 : x3_2.size + t117.size ≤ 9223372036854775807
       rotate_left
       · rw [if_neg c11] at H
         exact absurd H (by simp)
       rw [if_pos c11] at H
       have c11b0 := eq_true c11
       have c11b1 := decide_eq_true c11
       try have c11b2 : (9223372036854775807 < x3_2.size + t117.size) = False := eq_false (Nat.not_lt.2 c11)
       by_cases c12 : (x3_2 ++ t117).size + 1 ≤ 9223372036854775807
       rotate_left
       · rw [if_neg c12] at H
         exact absurd H (by simp)
       rw [if_pos c12] at H
       have c12b0 := eq_true c12
       have c12b1 := decide_eq_true c12
       try have c12b2 : (9223372036854775807 < (x3_2 ++ t117).size + 1) = False := eq_false (Nat.not_lt.2 c12)
       try have c12b9 : (9223372036854775807 < x3_2.size + t117.size + 1) = False := eq_false (by have h_ := c12; simp only [ByteArray.size_append] at h_; omega)
       have H' := Zm H
       clear H
       obtain ⟨hcz13_0, hcz13_1⟩ := cz2 BK115.out
       have p116 : 0 ≤ (x4_2 : Int) := of_decide_eq_true (by first | (with_reducible assumption) | assumption)
       have q116 : x4_2 < (l0_0.length : Int) := of_decide_eq_true (by first | (with_reducible assumption) | assumption)
       obtain ⟨ad116, e116, hx116_0, hx116_1, hx116_2⟩ := at_T26 HR0_0.out x4_2 p116 q116
       cases e116
       replace hx116_0 := hx_ HB hx116_0 (Zlt _ _ hx116_0)
       replace hx116_1 := hx_ HB hx116_1 (Zlt _ _ hx116_1)
       replace hx116_2 := hx_ HB hx116_2 (Zlt _ _ hx116_2)
       replace p116 := eq_true p116
       replace q116 := eq_true q116
       go_wp2_with (first | ((with_reducible refine gate_callee (f := 8) rfl ?_); refine ge_ (some 30) Tryd.func8 #[.agg #[.int .i64 ((rd_T26 l0_0 x4_2).f0), .string ((rd_T26 l0_0 x4_2).f1), .int .i64 ((rd_T26 l0_0 x4_2).f2)]] ?_; (with_reducible refine (spec_TypeShown.calls _ _ _ _ _ _ A10.out).mono ?_); rintro e w14 ⟨rfl, hb⟩; refine ⟨_, rfl, ?_⟩; have n0_ := (⟨Zm (Zkb (pk BK115.out) hb), Zm (Zbt (bk HB.out) hb)⟩ : _ ∧ _); clear BK115 HB; obtain ⟨BK115, HB⟩ := n0_; (try clear hb); (try clear hb2); (try clear hk); (try clear hi)))
       go_roundg k2
       case measure => have := HJ1.out; have := HK2.out; omega
       case rel => exact ⟨((x3_2 ++ t117) ++ (⟨#[32]⟩ : ByteArray)), (wrap64 (x4_2 + 1)), (by first | rfl | (simp; done) | (simp [*]; done)), (by first | rfl | (simp; done) | (simp [*]; done)), H', ⟨by have := HJ1.out; have := HK2.out; omega⟩, ⟨pk BK115.out⟩, ⟨bk HB.out⟩⟩
   subst c7
   rw [if_pos rfl] at H
   obtain rfl := Option.some.inj H
   go_wp2
   go_ret
   exact fin_ HB
/-! ### laws_toType: function 9 -/
def laws_toType.f (a0_0 : Int) (a0_1 : ByteArray) (a0_2 : Int) : Option (Int × ByteArray × Int) := some (a0_0, a0_1, a0_2)
set_option maxHeartbeats 8000000 in
set_option maxRecDepth 100000 in
theorem laws_toType.calls (a0_0 : Int) (a0_1 : ByteArray) (a0_2 : Int) (r1 : Int) (r2 : ByteArray) (r3 : Int) (w : World) (h : laws_toType.f a0_0 a0_1 a0_2 = some (r1, r2, r3)) :
 Calls Tryd.prog 9 #[.agg #[.int .i64 a0_0, .string a0_1, .int .i64 a0_2]] w fun e w' => e = .returned (.agg #[.int .i64 r1, .string r2, .int .i64 r3]) ∧ Below w.heap.size w w' := by
 have hu23 := Tryd.underlying23; have hu26 := Tryd.underlying26; have HB := Zm (Below.refl w.heap.size w); have H : (some (a0_0, a0_1, a0_2)) = some (r1, r2, r3) := h; clear h; simp only [Option.some.injEq, Prod.mk.injEq] at H; obtain ⟨rfl, rfl, rfl⟩ := H; go_enter Tryd.func9, Tryd.ntmps9; go_wp2_with (first | ((with_reducible refine gate_dst (N := 1) rfl ?_); refine box_event ?hg (N := 1) ?hd (cs := #[.int .i64 a0_0, .string a0_1, .int .i64 a0_2]) (t := 23) ?hr ?_; (case hd => rfl); (case hg => rfl); (case hr => first | (go_simp; done) | (go_simp; rfl)); intro gb120 hg w2 hbox hb; have n0_ := (⟨Zm (Zbt (bk HB.out) hb), Zm (hbox), Zm ((by rw [hg]; exact (Zbz (bk HB.out)) : w.heap.size ≤ gb120)), Zm ((by rw [hg]; exact (Zbz (bk HB.out)) : w.heap.size ≤ gb120))⟩ : _ ∧ _ ∧ _ ∧ _); clear HB; obtain ⟨HB, BK120, GW120, GE120⟩ := n0_; clear hb hbox hg) | ((with_reducible refine gate_dst (N := 2) rfl ?_); refine box_event ?hg (N := 2) ?hd (cs := #[.int .i64 0, .string (⟨#[]⟩ : ByteArray), .int .i64 0]) (t := 26) ?hr ?_; (case hd => rfl); (case hg => rfl); (case hr => first | (go_simp; done) | (go_simp; rfl)); intro gb121 hg w3 hbox hb; have n0_ := (⟨Zm (Zkb (pk BK120.out) hb), Zm (Zbt (bk HB.out) hb), Zm (hbox), Zm ((by rw [hg]; exact (Zbz (bk HB.out)) : w.heap.size ≤ gb121)), Zm ((by rw [hg]; exact (Zbz (bk HB.out)) : w.heap.size ≤ gb121)), Zm ((by rw [hg]; exact Nat.ne_of_lt (blk_lt (pk BK120.out)) : gb120 ≠ gb121)), Zm ((by rw [hg]; exact Nat.ne_of_gt (blk_lt (pk BK120.out)) : gb121 ≠ gb120))⟩ : _ ∧ _ ∧ _ ∧ _ ∧ _ ∧ _ ∧ _); clear BK120 HB; obtain ⟨BK120, HB, BK121, GW121, GE121, NB120_121, NB121_120⟩ := n0_; clear hb hbox hg) | ((with_reducible refine gate_dst (N := 3) rfl ?_); refine box_event ?hg (N := 3) ?hd (cs := #[.int .i64 0, .string (⟨#[]⟩ : ByteArray), .int .i64 0]) (t := 26) ?hr ?_; (case hd => rfl); (case hg => rfl); (case hr => first | (go_simp; done) | (go_simp; rfl)); intro gb122 hg w4 hbox hb; have n0_ := (⟨Zm (Zkb (pk BK120.out) hb), Zm (Zkb (pk BK121.out) hb), Zm (Zbt (bk HB.out) hb), Zm (hbox), Zm ((by rw [hg]; exact (Zbz (bk HB.out)) : w.heap.size ≤ gb122)), Zm ((by rw [hg]; exact (Zbz (bk HB.out)) : w.heap.size ≤ gb122)), Zm ((by rw [hg]; exact Nat.ne_of_lt (blk_lt (pk BK120.out)) : gb120 ≠ gb122)), Zm ((by rw [hg]; exact Nat.ne_of_gt (blk_lt (pk BK120.out)) : gb122 ≠ gb120)), Zm ((by rw [hg]; exact Nat.ne_of_lt (blk_lt (pk BK121.out)) : gb121 ≠ gb122)), Zm ((by rw [hg]; exact Nat.ne_of_gt (blk_lt (pk BK121.out)) : gb122 ≠ gb121))⟩ : _ ∧ _ ∧ _ ∧ _ ∧ _ ∧ _ ∧ _ ∧ _ ∧ _ ∧ _); clear BK120 BK121 HB; obtain ⟨BK120, BK121, HB, BK122, GW122, GE122, NB120_122, NB122_120, NB121_122, NB122_121⟩ := n0_; clear hb hbox hg; have hnb5 := NB120_121.out; have hnc5 := NB121_120.out; have hnb6 := NB120_122.out; have hnc6 := NB122_120.out; obtain ⟨hcz7_0, hcz7_1, hcz7_2⟩ := cz3 BK120.out; have hnb8 := NB122_121.out; have hnc8 := NB121_122.out; obtain ⟨hcz9_0, hcz9_1, hcz9_2⟩ := cz3 BK122.out; have hfz9_0 := Zkf BK122.out 0; have hfz9_1 := Zkf BK122.out 1; have hfz9_2 := Zkf BK122.out 2; obtain ⟨hcz10_0, hcz10_1, hcz10_2⟩ := cz3 BK121.out; have hfz10_0 := Zkf BK121.out 0; have hfz10_1 := Zkf BK121.out 1; have hfz10_2 := Zkf BK121.out 2)); refine bodyPost_ret (results_cell_row rfl _ _ gb121 26 #[.int .i64 a0_0, .string a0_1, .int .i64 a0_2] (0, 0) _ rfl zc_ Tryd.underlying26 rfl (by kernel_rfl)) rfl ?_; exact ⟨by first | rfl | (simp [*] <;> rfl), hb_⟩

/-! ### laws_toTypeS: function 26 -/
def laws_toTypeS.l0 : Nat → List (S23) → List (S26) → Int → Option ((List (S26)))
 | 0, _, _, _ => none
 | k + 1, x0, x3, x4 => if x4 < (x0.length : Int) then (if 0 ≤ x4 then ((laws_toType.f ((rd_T23 x0 x4).f0) ((rd_T23 x0 x4).f1) ((rd_T23 x0 x4).f2)).bind fun bt127 => (if x4 < (x3.length : Int) then (laws_toTypeS.l0 k x0 (x3.set (x4 : Int).toNat (⟨bt127.1, bt127.2.1, bt127.2.2⟩ : S26)) (wrap64 (x4 + 1))) else (none))) else (none)) else (some x3)
def laws_toTypeS.f (k : Nat) (l0 : List (S23)) : Option ((List (S26))) := if 0 ≤ (l0.length : Int) then (if ((l0.length : Int) : Int).toNat ≤ 8796093022208 then (laws_toTypeS.l0 k l0 (List.replicate ((l0.length : Int) : Int).toNat z26) 0) else (none)) else (none)
set_option maxHeartbeats 8000000 in
set_option maxRecDepth 100000 in
theorem laws_toTypeS.calls (k : Nat) (A0 : Option Addr) (c0 : Nat) (l0 : List (S23)) (r : List (S26)) (w : World) (hr0 : Kd.C k23 w A0 l0.length l0) (hc0 : l0.length ≤ c0) (h : laws_toTypeS.f k l0 = some r) :
 Calls Tryd.prog 26 #[.slice A0 l0.length c0] w fun e w' => ∃ v0_ : Value, e = .returned (v0_) ∧ Kd.R k26 26 w' w.heap.size (fun _ => True) v0_ r ∧ Below w.heap.size w w' := by
 have hu23 := Tryd.underlying23; have hu26 := Tryd.underlying26; have HR0 := Zm hr0; have HC0 := Zm hc0; clear hr0 hc0; have HB := Zm (Below.refl w.heap.size w); have H : (if 0 ≤ (l0.length : Int) then (if ((l0.length : Int) : Int).toNat ≤ 8796093022208 then (laws_toTypeS.l0 k l0 (List.replicate ((l0.length : Int) : Int).toNat z26) 0) else (none)) else (none)) = some r := h; clear h; by_cases c2 : 0 ≤ (l0.length : Int); rotate_left
 · rw [if_neg c2] at H; exact absurd H (by simp)

 rw [if_pos c2] at H
 have c2b0 := eq_true c2
 have c2b1 := decide_eq_true c2
 clear c2
 by_cases c3 : ((l0.length : Int) : Int).toNat ≤ 8796093022208
 rotate_left
 · rw [if_neg c3] at H
   exact absurd H (by simp)
 rw [if_pos c3] at H
 have c3b0 := eq_true c3
 have c3b1 := decide_eq_true c3
 clear c3
 obtain ⟨y123, hy123⟩ : ∃ y_ : List (S26), y_ = (List.replicate ((l0.length : Int) : Int).toNat z26) := ⟨_, rfl⟩
 replace H : (laws_toTypeS.l0 k l0 y123 0) = some r := by first | (rw [hy123]; with_reducible exact H) | (have H2_ := (Option.bind_some _ _).symm.trans H; rw [hy123]; with_reducible exact H2_) | (have H2_ := (Option.bind_some _ _).symm.trans H; with_reducible exact H2_) | with_reducible exact H | (rw [hy123]; exact H) | exact H
 have Ny123 := Zm hy123
 clear hy123
 have H' := Zm H
 clear H
 go_enter Tryd.func26, Tryd.ntmps26
 go_wp2_with (first | ((with_reducible refine gate_dst (N := 7) rfl ?_); refine Kd.R_make k26 _ 26 rfl (N := 7) rfl 34 _ _ rfl (l0.length : Int) rfl rfl Tryd.underlying34 (.agg #[(.int .i64 0), (.string ⟨#[]⟩), (.int .i64 0)]) 32 info26 rfl (by decide) (by omega) z26 (ok := fun _ => True) (okp := fun _ => True) (k26_mkM _ _ _ z26 ) (fun _ hk => hk) trivial (of_decide_eq_true (by first | (with_reducible assumption) | assumption)) (Nat.le_trans (Nat.mul_le_mul_right _ (of_decide_eq_true (by first | (with_reducible assumption) | assumption) : (l0.length : Int).toNat ≤ 8796093022208)) (by omega)) (Below.refl _ _) (Nat.le_refl _) ?_; intro v124 w4 ho5 hb hg_ hnew_; clear hg_ hnew_; (first | rw [← Ny123.out] at ho5 | (simp only [Int.reduceToNat] at ho5; rw [← Ny123.out] at ho5)); have n0_ := (⟨Zm (Kd.R_lower ho5 (Zbz (bk HB.out))), Zm (Zbt (bk HB.out) hb)⟩ : _ ∧ _); clear HB; obtain ⟨HO125, HB⟩ := n0_; clear hb ho5))
 go_loopg [4] k (fun kq v4 w' => ∃ (x3_1 : List (S26)) (x4_1 : Int), v4 = .int .i64 x4_1 ∧ Aside0 (laws_toTypeS.l0 kq l0 x3_1 x4_1 = some r) ∧ Aside0 (kq ≤ k) ∧ Aside0 (Kd.R k26 26 w' w.heap.size (fun _ => True) v124 x3_1) ∧ Aside0 (Below w.heap.size w w'))
 case atStart => exact ⟨(y123), (0), (by first | rfl | (simp; done) | (simp [*]; done)), H', ⟨Nat.le_refl _⟩, ⟨by (with_reducible repeat (first | apply Kd.R_alloc | apply Kd.R_drewN | apply Kd.R_drew)); exact HO125.out⟩, ⟨bk HB.out⟩⟩
 case round =>
  clear H'
  (try clear c2); (try clear c2b0); (try clear c2b1); (try clear c3); (try clear c3b0); (try clear c3b1)
  obtain ⟨x3_1, x4_1, rfl, HA, HK1, HO_3, HB⟩ := hrel
  cases gk with
  | zero => exact absurd HA.out (by simp [laws_toTypeS.l0])
  | succ k1 =>
   have H := HA.out
   clear HA
   simp only [laws_toTypeS.l0] at H
   by_cases c6 : x4_1 < (l0.length : Int)
   rotate_left
   · rw [if_neg c6] at H
     have c6b0 := decide_eq_false c6
     clear c6
     obtain rfl := Option.some.inj H
     go_wp2
     go_ret
     exact ⟨_, by first | rfl | (simp [*] <;> rfl), by (with_reducible repeat (first | apply Kd.R_alloc | apply Kd.R_drewN | apply Kd.R_drew)); exact HO_3.out, bk HB.out⟩
   rw [if_pos c6] at H
   have c6b0 := decide_eq_true c6
   clear c6
   by_cases c7 : 0 ≤ x4_1
   rotate_left
   · rw [if_neg c7] at H
     exact absurd H (by simp)
   rw [if_pos c7] at H
   have c7b0 := decide_eq_true c7
   clear c7
   replace H := Option.bind_eq_some_iff.mp H
   obtain ⟨⟨t127, t128, t129⟩, A80, H⟩ := H
   (try dsimp only at H)
   have A8 := Zm A80
   clear A80
   by_cases c9 : x4_1 < (x3_1.length : Int)
   rotate_left
   · rw [if_neg c9] at H
     exact absurd H (by simp)
   rw [if_pos c9] at H
   have c9b0 := decide_eq_true c9
   clear c9
   obtain ⟨y130, hy130⟩ : ∃ y_ : List (S26), y_ = (x3_1.set (x4_1 : Int).toNat (⟨t127, t128, t129⟩ : S26)) := ⟨_, rfl⟩
   replace H : (laws_toTypeS.l0 k1 l0 y130 (wrap64 (x4_1 + 1))) = some r := by first | (rw [hy130]; with_reducible exact H) | (have H2_ := (Option.bind_some _ _).symm.trans H; rw [hy130]; with_reducible exact H2_) | (have H2_ := (Option.bind_some _ _).symm.trans H; with_reducible exact H2_) | with_reducible exact H | (rw [hy130]; exact H) | exact H
   have Ny130 := Zm hy130
   clear hy130
   have H' := Zm H
   clear H
   have p126 : 0 ≤ (x4_1 : Int) := of_decide_eq_true (by first | (with_reducible assumption) | assumption)
   have q126 : x4_1 < (l0.length : Int) := of_decide_eq_true (by first | (with_reducible assumption) | assumption)
   obtain ⟨ad126, e126, hx126_0, hx126_1, hx126_2⟩ := at_T23 HR0.out x4_1 p126 q126
   cases e126
   replace hx126_0 := hx_ HB hx126_0 (Zlt _ _ hx126_0)
   replace hx126_1 := hx_ HB hx126_1 (Zlt _ _ hx126_1)
   replace hx126_2 := hx_ HB hx126_2 (Zlt _ _ hx126_2)
   replace p126 := eq_true p126
   replace q126 := eq_true q126
   go_wp2_with (first | ((with_reducible refine gate_callee (f := 9) rfl ?_); refine ge_ (some 20) Tryd.func9 #[.agg #[.int .i64 ((rd_T23 l0 x4_1).f0), .string ((rd_T23 l0 x4_1).f1), .int .i64 ((rd_T23 l0 x4_1).f2)]] ?_; (with_reducible refine (laws_toType.calls _ _ _ _ _ _ _ A8.out).mono ?_); rintro e w11 ⟨rfl, hb⟩; refine ⟨_, rfl, ?_⟩; have n0_ := (⟨Zm (Kd.R_below (by (with_reducible repeat (first | apply Kd.R_alloc | apply Kd.R_drewN | apply Kd.R_drew)); exact HO_3.out) hb), Zm (Zbt (bk HB.out) hb)⟩ : _ ∧ _); clear HO_3 HB; obtain ⟨HO_3, HB⟩ := n0_; (try clear hb); (try clear hb2); (try clear hk); (try clear hi); have p10 : 0 ≤ (x4_1 : Int) := of_decide_eq_true (by first | (with_reducible assumption) | assumption); have q10 : (x4_1 : Int) < ((x3_1.length : Int) : Int) := of_decide_eq_true (by first | (with_reducible assumption) | assumption); obtain ⟨go10, co10, eo10, gb10, gl10, cl10, HG10⟩ := Kd.R_form HO_3.out (by omega); (first | cases eo10 | (injection eo10 with ea_ en_ ec_; (first | subst ea_ | (injection ea_ with ea_; subst ea_)); subst ec_; clear en_)); have GB10 := Zm gb10; have GG10 := Zm HG10; clear gb10 gl10 HG10; obtain ⟨ce10, hcl10, hM10, hcc10, hfr10⟩ := Kd.R_elem HO_3.out z26 (x4_1 : Int) p10 q10; obtain rfl := k26_openM hM10; have hx10_0 : w11.cell? ⟨go10, (x4_1 : Int).toNat * 3, none⟩ = some (.int .i64 ((rd_T26 x3_1 x4_1).f0)) := hcc10 0 _ rfl; have hx10_1 : w11.cell? ⟨go10, (x4_1 : Int).toNat * 3 + 1, none⟩ = some (.string ((rd_T26 x3_1 x4_1).f1)) := hcc10 1 _ rfl; have hx10_2 : w11.cell? ⟨go10, (x4_1 : Int).toNat * 3 + 2, none⟩ = some (.int .i64 ((rd_T26 x3_1 x4_1).f2)) := hcc10 2 _ rfl; have hf10_0 : w11.frozen? ⟨go10, (x4_1 : Int).toNat * 3, none⟩ = false := hfr10 0; have hf10_1 : w11.frozen? ⟨go10, (x4_1 : Int).toNat * 3 + 1, none⟩ = false := hfr10 1; have hf10_2 : w11.frozen? ⟨go10, (x4_1 : Int).toNat * 3 + 2, none⟩ = false := hfr10 2; clear hcl10 hcc10 hfr10 hM10; replace p10 := eq_true p10; replace q10 := eq_true q10; have HX12 := Zm (show Kd.R k26 26 w11 w.heap.size (fun _ => True) (.slice (some ⟨go10, 0, none⟩) x3_1.length co10) x3_1 from (by (with_reducible repeat (first | apply Kd.R_alloc | apply Kd.R_drewN | apply Kd.R_drew)); exact HO_3.out)); obtain ⟨ce12, hcl12, hM12, hcc12, hfr12⟩ := Kd.R_elem HX12.out z26 (x4_1 : Int) (of_decide_eq_true (by first | (with_reducible assumption) | assumption)) (by have h_ : (x4_1 : Int) < ((x3_1.length : Int) : Int) := of_decide_eq_true (by first | (with_reducible assumption) | assumption); first | exact h_ | (have e_ := (Kd.R_reads' HO_3.out).1; omega) | simpa using h_); obtain rfl := k26_openM hM12; have HP12 := Kd.R_seg HX12.out (x4_1 : Int) (of_decide_eq_true (by first | (with_reducible assumption) | assumption)) (by have h_ : (x4_1 : Int) < ((x3_1.length : Int) : Int) := of_decide_eq_true (by first | (with_reducible assumption) | assumption); first | exact h_ | (have e_ := (Kd.R_reads' HO_3.out).1; omega) | simpa using h_) (seg := [.int .i64 t127, .string t128, .int .i64 t129]) (j := 0) hcl12 hcc12 (show 3 ≤ 3 from by decide) (x' := (⟨t127, t128, t129⟩ : S26)) (k26_mkM _ _ _ (⟨t127, t128, t129⟩ : S26) ) (fun _ hk => hk); have hx12_0 := hcc12 0 _ rfl; (try simp only [show (k26).sz = 3 from rfl, Nat.mul_one, Nat.add_zero] at hx12_0); have hf12_0 := hfr12 0; (try simp only [show (k26).sz = 3 from rfl, Nat.mul_one, Nat.add_zero] at hf12_0); have hx12_1 := hcc12 1 _ rfl; (try simp only [show (k26).sz = 3 from rfl, Nat.mul_one, Nat.add_zero] at hx12_1); have hf12_1 := hfr12 1; (try simp only [show (k26).sz = 3 from rfl, Nat.mul_one, Nat.add_zero] at hf12_1); have hx12_2 := hcc12 2 _ rfl; (try simp only [show (k26).sz = 3 from rfl, Nat.mul_one, Nat.add_zero] at hx12_2); have hf12_2 := hfr12 2; (try simp only [show (k26).sz = 3 from rfl, Nat.mul_one, Nat.add_zero] at hf12_2); clear hcl12 hcc12 hfr12 hM12) | ((with_reducible refine gate_store (t := 26) (p := 21) rfl ?_); refine store_event (t := 26) (p := 21) (v := ?vo_w13) (w1 := (((w11.setCell ⟨go10, (x4_1 : Int).toNat * 3, none⟩ (.int .i64 t127)).setCell ⟨go10, (x4_1 : Int).toNat * 3 + 1, none⟩ (.string t128)).setCell ⟨go10, (x4_1 : Int).toNat * 3 + 2, none⟩ (.int .i64 t129))) ?hg ?ho ?hn ?hr ?_; (case ho => rfl); (case hg => rfl); (case hn => rfl); (case hr => first | (go_simp; done) | (go_simp; rfl)); intro w13 hw; have hg : w11.grownBy w13 (some go10) := (by rw [hw]; exact HP12.2); have hp_ : Kd.R k26 26 w13 w.heap.size (fun _ => True) (.slice (some ⟨go10, 0, none⟩) x3_1.length co10) y130 := (by rw [hw, Ny130.out]; exact HP12.1); clear HP12; have n0_ := (⟨Zm (hp_), Zm ((by rw [hw]; exact Zbs (Zbs (Zbs (HB.out) GB10.out) GB10.out) GB10.out : Below w.heap.size w w13))⟩ : _ ∧ _); clear HO_3 HB; obtain ⟨HO_3, HB⟩ := n0_; clear hg hw hp_))
   go_roundg k1
   case measure => have := HK1.out; omega
   case rel => exact ⟨(y130), (wrap64 (x4_1 + 1)), (by first | rfl | (simp; done) | (simp [*]; done)), H', ⟨by have := HK1.out; omega⟩, ⟨by (with_reducible repeat (first | apply Kd.R_alloc | apply Kd.R_drewN | apply Kd.R_drew)); exact HO_3.out⟩, ⟨bk HB.out⟩⟩
/-! ### laws_toFrame: function 13 -/
def laws_toFrame.f (k : Nat) (l0_0 : List (S23)) (l0_1 : List (S23)) : Option ((List (S26)) × (List (S26))) := (laws_toTypeS.f k l0_0).bind fun t134 => ((laws_toTypeS.f k l0_1).bind fun t137 => (some (t134, t137)))
set_option maxHeartbeats 8000000 in
set_option maxRecDepth 100000 in
theorem laws_toFrame.calls (k : Nat) (A0_0 : Option Addr) (c0_0 : Nat) (l0_0 : List (S23)) (A0_1 : Option Addr) (c0_1 : Nat) (l0_1 : List (S23)) (r1 : List (S26)) (r2 : List (S26)) (w : World) (hr0_0 : Kd.C k23 w A0_0 l0_0.length l0_0) (hc0_0 : l0_0.length ≤ c0_0) (hr0_1 : Kd.C k23 w A0_1 l0_1.length l0_1) (hc0_1 : l0_1.length ≤ c0_1) (h : laws_toFrame.f k l0_0 l0_1 = some (r1, r2)) :
 Calls Tryd.prog 13 #[.agg #[.slice A0_0 l0_0.length c0_0, .slice A0_1 l0_1.length c0_1]] w fun e w' => ∃ v0_ v1_ : Value, e = .returned (.agg #[v0_, v1_]) ∧ Kd.R k26 26 w' w.heap.size (fun k_ => some k_ ≠ (v1_ : Value).ownBlock) v0_ r1 ∧ Kd.R k26 26 w' w.heap.size (fun k_ => some k_ ≠ (v0_ : Value).ownBlock) v1_ r2 ∧ Below w.heap.size w w' := by
 have hu31 := Tryd.underlying31; have hu36 := Tryd.underlying36; have HR0_0 := Zm hr0_0; have HC0_0 := Zm hc0_0; clear hr0_0 hc0_0; have HR0_1 := Zm hr0_1; have HC0_1 := Zm hc0_1; clear hr0_1 hc0_1; have HB := Zm (Below.refl w.heap.size w); have H : ((laws_toTypeS.f k l0_0).bind fun t134 => ((laws_toTypeS.f k l0_1).bind fun t137 => (some (t134, t137)))) = some (r1, r2) := h; clear h; replace H := Option.bind_eq_some_iff.mp H; obtain ⟨t134, A20, H⟩ := H; replace H : ((laws_toTypeS.f k l0_1).bind fun t137 => (some (t134, t137))) = some (r1, r2) := H; have A2 := Zm A20; clear A20; replace H := Option.bind_eq_some_iff.mp H; obtain ⟨t137, A30, H⟩ := H; replace H : (some (t134, t137)) = some (r1, r2) := H; have A3 := Zm A30; clear A30; simp only [Option.some.injEq, Prod.mk.injEq] at H; obtain ⟨rfl, rfl⟩ := H; go_enter Tryd.func13, Tryd.ntmps13; go_wp2_with (first | ((with_reducible refine gate_dst (N := 1) rfl ?_); refine box_event ?hg (N := 1) ?hd (cs := #[.slice A0_0 l0_0.length c0_0, .slice A0_1 l0_1.length c0_1]) (t := 31) ?hr ?_; (case hd => rfl); (case hg => rfl); (case hr => first | (go_simp; done) | (go_simp; rfl)); intro gb131 hg w4 hbox hb; have n0_ := (⟨Zm (Zbt (bk HB.out) hb), Zm (hbox), Zm ((by rw [hg]; exact (Zbz (bk HB.out)) : w.heap.size ≤ gb131)), Zm ((by rw [hg]; exact (Zbz (bk HB.out)) : w.heap.size ≤ gb131))⟩ : _ ∧ _ ∧ _ ∧ _); clear HB; obtain ⟨HB, BK131, GW131, GE131⟩ := n0_; clear hb hbox hg) | ((with_reducible refine gate_dst (N := 2) rfl ?_); refine box_event ?hg (N := 2) ?hd (cs := #[.slice none 0 0, .slice none 0 0]) (t := 36) ?hr ?_; (case hd => rfl); (case hg => rfl); (case hr => first | (go_simp; done) | (go_simp; rfl)); intro gb132 hg w5 hbox hb; have n0_ := (⟨Zm (Zkb (pk BK131.out) hb), Zm (Zbt (bk HB.out) hb), Zm (hbox), Zm ((by rw [hg]; exact (Zbz (bk HB.out)) : w.heap.size ≤ gb132)), Zm ((by rw [hg]; exact (Zbz (bk HB.out)) : w.heap.size ≤ gb132)), Zm ((by rw [hg]; exact Nat.ne_of_lt (blk_lt (pk BK131.out)) : gb131 ≠ gb132)), Zm ((by rw [hg]; exact Nat.ne_of_gt (blk_lt (pk BK131.out)) : gb132 ≠ gb131))⟩ : _ ∧ _ ∧ _ ∧ _ ∧ _ ∧ _ ∧ _); clear BK131 HB; obtain ⟨BK131, HB, BK132, GW132, GE132, NB131_132, NB132_131⟩ := n0_; clear hb hbox hg) | ((with_reducible refine gate_dst (N := 3) rfl ?_); refine box_event ?hg (N := 3) ?hd (cs := #[.slice none 0 0, .slice none 0 0]) (t := 36) ?hr ?_; (case hd => rfl); (case hg => rfl); (case hr => first | (go_simp; done) | (go_simp; rfl)); intro gb133 hg w6 hbox hb; have n0_ := (⟨Zm (Zkb (pk BK131.out) hb), Zm (Zkb (pk BK132.out) hb), Zm (Zbt (bk HB.out) hb), Zm (hbox), Zm ((by rw [hg]; exact (Zbz (bk HB.out)) : w.heap.size ≤ gb133)), Zm ((by rw [hg]; exact (Zbz (bk HB.out)) : w.heap.size ≤ gb133)), Zm ((by rw [hg]; exact Nat.ne_of_lt (blk_lt (pk BK131.out)) : gb131 ≠ gb133)), Zm ((by rw [hg]; exact Nat.ne_of_gt (blk_lt (pk BK131.out)) : gb133 ≠ gb131)), Zm ((by rw [hg]; exact Nat.ne_of_lt (blk_lt (pk BK132.out)) : gb132 ≠ gb133)), Zm ((by rw [hg]; exact Nat.ne_of_gt (blk_lt (pk BK132.out)) : gb133 ≠ gb132))⟩ : _ ∧ _ ∧ _ ∧ _ ∧ _ ∧ _ ∧ _ ∧ _ ∧ _ ∧ _); clear BK131 BK132 HB; obtain ⟨BK131, BK132, HB, BK133, GW133, GE133, NB131_133, NB133_131, NB132_133, NB133_132⟩ := n0_; clear hb hbox hg; have hnb7 := NB131_132.out; have hnc7 := NB132_131.out; have hnb8 := NB131_133.out; have hnc8 := NB133_131.out; obtain ⟨hcz9_0, hcz9_1⟩ := cz2 BK131.out; have hfz9_1 := Zkf BK131.out 1) | ((with_reducible refine gate_callee (f := 26) rfl ?_); refine ge_ (some 6) Tryd.func26 #[.slice A0_0 l0_0.length c0_0] ?_; (with_reducible refine (laws_toTypeS.calls _ _ _ _ _ _ ?side1 ?side2 A2.out).mono ?_); (case side1 => exact pc (Kd.C_below HR0_0.out HB.out)); (case side2 => exact HC0_0.out); rintro e w10 ⟨v135, rfl, ho0, hb⟩; refine ⟨_, rfl, ?_⟩; have n0_ := (⟨Zm (Kd.R_lower ho0 (Zbz (bk HB.out))), Zm (Zkb (pk BK131.out) hb), Zm (Zkb (pk BK132.out) hb), Zm (Zkb (pk BK133.out) hb), Zm (Zbt (bk HB.out) hb)⟩ : _ ∧ _ ∧ _ ∧ _ ∧ _); clear BK131 BK132 BK133 HB; obtain ⟨HO136, BK131, BK132, BK133, HB⟩ := n0_; (try clear hb); (try clear hb2); (try clear hk); (try clear hi); (try clear ho0); obtain ⟨Ao11, co11, eo11⟩ := Kd.R_slice HO136.out; subst eo11; have hnb12 := NB133_132.out; have hnc12 := NB132_133.out; obtain ⟨hcz13_0, hcz13_1⟩ := cz2 BK133.out; have hfz13_0 := Zkf BK133.out 0; have hfz13_1 := Zkf BK133.out 1; obtain ⟨hcz14_0, hcz14_1⟩ := cz2 BK131.out; have hfz14_1 := Zkf BK131.out 1) | ((with_reducible refine gate_callee (f := 26) rfl ?_); refine ge_ (some 10) Tryd.func26 #[.slice A0_1 l0_1.length c0_1] ?_; (with_reducible refine (laws_toTypeS.calls _ _ _ _ _ _ ?side1 ?side2 A3.out).mono ?_); (case side1 => exact Kd.C_below HR0_1.out hb_); (case side2 => exact HC0_1.out); rintro e w15 ⟨v138, rfl, ho0, hb⟩; refine ⟨_, rfl, ?_⟩; have n0_ := (⟨Zm (Kd.R_elder' (by (with_reducible repeat (first | apply Kd.R_alloc | apply Kd.R_drewN | apply Kd.R_drew)); exact (Kd.R_mono (Kd.R_far (p := ⟨gb133, 0, none⟩) (Kd.R_types HO136.out BK133.out (by decide)) (fun _ hk => hk.2) (.slice Ao11 t134.length co11)) (fun _ h_ => h_.1))) (Kd.R_base ho0) hb), Zm (Kd.R_lower (Kd.R_new' ho0 (Kd.R_lt (by (with_reducible repeat (first | apply Kd.R_alloc | apply Kd.R_drewN | apply Kd.R_drew)); exact (Kd.R_mono (Kd.R_far (p := ⟨gb133, 0, none⟩) (Kd.R_types HO136.out BK133.out (by decide)) (fun _ hk => hk.2) (.slice Ao11 t134.length co11)) (fun _ h_ => h_.1))))) (Zbz hb_)), Zm (Zkb (g := gb131) (o := .cells #[.slice A0_0 l0_0.length c0_0, .slice A0_1 l0_1.length c0_1] 31 (0, 0)) zc_ hb), Zm (Zkb (g := gb132) (o := .cells #[.slice none 0 0, .slice none 0 0] 36 (0, 0)) zc_ hb), Zm (Zkb (g := gb133) (o := .cells #[.slice Ao11 t134.length co11, .slice none 0 0] 36 (0, 0)) zc_ hb), Zm (Zbt hb_ hb)⟩ : _ ∧ _ ∧ _ ∧ _ ∧ _ ∧ _); clear HO136 BK131 BK132 BK133 HB; obtain ⟨HO136, HO139, BK131, BK132, BK133, HB⟩ := n0_; (try clear hb); (try clear hb2); (try clear hk); (try clear hi); (try clear ho0); obtain ⟨Ao16, co16, eo16⟩ := Kd.R_slice HO139.out; subst eo16; obtain ⟨hcz17_0, hcz17_1⟩ := cz2 BK133.out; have hfz17_0 := Zkf BK133.out 0; have hfz17_1 := Zkf BK133.out 1; obtain ⟨hcz18_0, hcz18_1⟩ := cz2 BK132.out; have hfz18_0 := Zkf BK132.out 0; have hfz18_1 := Zkf BK132.out 1)); refine bodyPost_ret (results_cell_row rfl _ _ gb132 36 #[.slice Ao11 t134.length co11, .slice Ao16 t137.length co16] (0, 0) _ rfl zc_ Tryd.underlying36 rfl (by kernel_rfl)) rfl ?_; exact ⟨_, _, by first | rfl | (simp [*] <;> rfl), by (with_reducible repeat (first | apply Kd.R_alloc | apply Kd.R_drewN | apply Kd.R_drew)); exact Kd.R_mono (Kd.R_far (p := ⟨gb132, 1, none⟩) (Kd.R_far (p := ⟨gb132, 0, none⟩) (Kd.R_far (p := ⟨gb133, 1, none⟩) (Kd.R_types (Kd.R_types HO136.out BK133.out (by decide)) BK132.out (by decide)) (fun _ hk => hk.1.2) (.slice Ao16 t137.length co16)) (fun _ hk => hk.2) (.slice Ao11 t134.length co11)) (fun _ hk => hk.2) (.slice Ao16 t137.length co16)) (fun _ hk => hk.1.1.2), by (with_reducible repeat (first | apply Kd.R_alloc | apply Kd.R_drewN | apply Kd.R_drew)); exact Kd.R_mono (Kd.R_far (p := ⟨gb132, 1, none⟩) (Kd.R_far (p := ⟨gb132, 0, none⟩) (Kd.R_far (p := ⟨gb133, 1, none⟩) (Kd.R_types (Kd.R_types HO139.out BK133.out (by decide)) BK132.out (by decide)) (fun _ hk => hk.1.2) (.slice Ao16 t137.length co16)) (fun _ hk => hk.2) (.slice Ao11 t134.length co11)) (fun _ hk => hk.2) (.slice Ao16 t137.length co16)) (fun _ hk => hk.1.1.2), hb_⟩

/-! ### impl_Type: function 27 -/
def impl_Type.f (l0 : List (S26)) : Option (Bool) := some (decide ((l0.length : Int) ≤ 400))
set_option maxHeartbeats 8000000 in
set_option maxRecDepth 100000 in
theorem impl_Type.calls (A0 : Option Addr) (c0 : Nat) (l0 : List (S26)) (r : Bool) (w : World) (hr0 : Kd.C k26 w A0 l0.length l0) (hc0 : l0.length ≤ c0) (h : impl_Type.f l0 = some r) :
 Calls Tryd.prog 27 #[.slice A0 l0.length c0] w fun e w' => e = .returned (.bool r) ∧ Drawn0 w w' := by
 have HR0 := Zm hr0; have HC0 := Zm hc0; clear hr0 hc0; have H : (some (decide ((l0.length : Int) ≤ 400))) = some r := h; clear h; obtain rfl := Option.some.inj H; go_enter Tryd.func27, Tryd.ntmps27; go_wp2; go_ret; exact ⟨by first | rfl | (simp; done) | (simp [*]; done), by repeat (first | exact Drawn0.refl _ | apply Drawn0.step)⟩

/-! ### strconv_FormatInt_62: function 62 -/
theorem tabIs_below {P : Program} {w w' : World} {name : String} {k : IntKind} {zs : List Int} (h : Lib.TabIs P w name k zs) (hb : Below w.heap.size w w') : Lib.TabIs P w' name k zs := by
  unfold Lib.TabIs World.var? at *
  cases hg : P.globalNamed name with
  | none => simp [hg] at h
  | some g =>
    simp only [hg, Option.bind_some] at h ⊢
    have hlt : g < w.heap.size := by
      rcases Nat.lt_or_ge g w.heap.size with h' | h'
      · exact h'
      · rw [Array.getElem?_eq_none h'] at h; simp at h
    rw [hb.block g hlt]; exact h
/-- The listed table, behind what was made since: found by itself. -/
theorem tab_ {P : Program} {w W : World} {name : String} {k : IntKind} {zs : List Int} (ht : Aside0 (Lib.TabIs P w name k zs) := by (with_reducible assumption)) (hb : Below w.heap.size w W := by exact hb_) : Lib.TabIs P W name k zs := tabIs_below ht.out hb
theorem below_grow_ (w : World) (k : Nat) (os : Array Obj) : Below w.heap.size w (Go.Sort.grow (w.drewN k) os) := ⟨rfl, rfl, rfl, by simp [Go.Sort.grow], fun g hg => by simp only [Go.Sort.grow]; exact Array.getElem?_append_left hg⟩
def strconv_FormatInt_62.f (a0 : Int) (a1 : Int) : Option (ByteArray) := if a1 = 10 ∧ -9223372036854775808 ≤ a0 ∧ a0 ≤ 9223372036854775807 then some ⟨(Lib.itoa a0).toArray⟩ else none
set_option maxHeartbeats 8000000 in
set_option maxRecDepth 100000 in
theorem strconv_FormatInt_62.calls (a0 : Int) (a1 : Int) (r : ByteArray) (w : World) (h : strconv_FormatInt_62.f a0 a1 = some r) (htab : Go.Lib.TabIs Tryd.prog w "internal/strconv.uint64pow10" .u64 Go.Lib.pow10Tab := by exact tab_) :
    Calls Tryd.prog 62 #[.int .i64 a0, .int .i64 a1] w fun e w' => e = .returned (.string r) ∧ Below w.heap.size w w' := by
  have HTAB := Zm htab
  clear htab
  unfold strconv_FormatInt_62.f at h; split at h
  · rename_i hc; obtain ⟨rfl, h0, h1⟩ := hc; obtain rfl := Option.some.inj h; exact (Tryd.internal_strconv_FormatInt_10 a0 h0 h1 w HTAB.out).mono fun e w' ⟨he, k, os, hw⟩ => ⟨he, hw ▸ below_grow_ _ _ _⟩
  · cases h

/-! ### strconv_FormatInt_38: function 38 -/
def strconv_FormatInt_38.f (a0 : Int) (a1 : Int) : Option (ByteArray) := (strconv_FormatInt_62.f a0 a1).bind fun t140 => (some t140)
set_option maxHeartbeats 8000000 in
set_option maxRecDepth 100000 in
theorem strconv_FormatInt_38.calls (a0 : Int) (a1 : Int) (r : ByteArray) (w : World) (h : strconv_FormatInt_38.f a0 a1 = some r) (htab : Go.Lib.TabIs Tryd.prog w "internal/strconv.uint64pow10" .u64 Go.Lib.pow10Tab := by exact tab_) :
 Calls Tryd.prog 38 #[.int .i64 a0, .int .i64 a1] w fun e w' => e = .returned (.string r) ∧ Below w.heap.size w w' := by
 have HTAB := Zm htab
 clear htab
 have HB := Zm (Below.refl w.heap.size w); have H : ((strconv_FormatInt_62.f a0 a1).bind fun t140 => (some t140)) = some r := h; clear h; replace H := Option.bind_eq_some_iff.mp H; obtain ⟨t140, A30, H⟩ := H; (try dsimp only at H); have A3 := Zm A30; clear A30; obtain rfl := Option.some.inj H; go_enter Tryd.func38, Tryd.ntmps38; go_wp2_with (first | ((with_reducible refine gate_callee (f := 62) rfl ?_); refine ge_ (some 7) Tryd.func62 #[.int .i64 a0, .int .i64 a1] ?_; (with_reducible refine (strconv_FormatInt_62.calls _ _ _ _ A3.out).mono ?_); rintro e w4 ⟨rfl, hb⟩; refine ⟨_, rfl, ?_⟩; have n0_ := Zm (Zbt (bk HB.out) hb); clear HB; have HB := n0_; clear n0_; (try clear hb); (try clear hb2); (try clear hk); (try clear hi))); go_ret; exact fin_ HB

/-! ### impl_text: function 24 -/
def impl_text.f (a0 : Int) : Option (ByteArray) := (strconv_FormatInt_38.f a0 10).bind fun t141 => (some t141)
set_option maxHeartbeats 8000000 in
set_option maxRecDepth 100000 in
theorem impl_text.calls (a0 : Int) (r : ByteArray) (w : World) (h : impl_text.f a0 = some r) (htab : Go.Lib.TabIs Tryd.prog w "internal/strconv.uint64pow10" .u64 Go.Lib.pow10Tab := by exact tab_) :
 Calls Tryd.prog 24 #[.int .i64 a0] w fun e w' => e = .returned (.string r) ∧ Below w.heap.size w w' := by
 have HTAB := Zm htab
 clear htab
 have HB := Zm (Below.refl w.heap.size w); have H : ((strconv_FormatInt_38.f a0 10).bind fun t141 => (some t141)) = some r := h; clear h; replace H := Option.bind_eq_some_iff.mp H; obtain ⟨t141, A20, H⟩ := H; (try dsimp only at H); have A2 := Zm A20; clear A20; obtain rfl := Option.some.inj H; go_enter Tryd.func24, Tryd.ntmps24; go_wp2_with (first | ((with_reducible refine gate_callee (f := 38) rfl ?_); refine ge_ (some 4) Tryd.func38 #[.int .i64 a0, .int .i64 10] ?_; (with_reducible refine (strconv_FormatInt_38.calls _ _ _ _ A2.out).mono ?_); rintro e w3 ⟨rfl, hb⟩; refine ⟨_, rfl, ?_⟩; have n0_ := Zm (Zbt (bk HB.out) hb); clear HB; have HB := n0_; clear n0_; (try clear hb); (try clear hb2); (try clear hk); (try clear hi))); go_ret; exact fin_ HB

/-! ### impl_TypeShown: function 10 -/
def impl_TypeShown.f (a0_0 : Int) (a0_1 : ByteArray) (a0_2 : Int) : Option (ByteArray) := if a0_0 = 0 then (some (⟨#[116, 111, 112]⟩ : ByteArray)) else (if a0_0 = 1 then (some (⟨#[105, 110, 116]⟩ : ByteArray)) else (if a0_0 = 2 then (some (⟨#[110, 117, 108, 108]⟩ : ByteArray)) else (if a0_0 = 3 then (some a0_1) else (if a0_0 = 4 then (some (⟨#[105, 110, 116, 91, 93]⟩ : ByteArray)) else (if a0_0 = 5 then (if a0_1.size + 2 ≤ 9223372036854775807 then (some (a0_1 ++ (⟨#[91, 93]⟩ : ByteArray))) else (none)) else (if a0_0 = 6 then (if 3 + a0_1.size ≤ 9223372036854775807 then (if ((⟨#[110, 101, 119]⟩ : ByteArray) ++ a0_1).size + 1 ≤ 9223372036854775807 then ((impl_text.f a0_2).bind fun t143 => (if (((⟨#[110, 101, 119]⟩ : ByteArray) ++ a0_1) ++ (⟨#[64]⟩ : ByteArray)).size + t143.size ≤ 9223372036854775807 then (some ((((⟨#[110, 101, 119]⟩ : ByteArray) ++ a0_1) ++ (⟨#[64]⟩ : ByteArray)) ++ t143)) else (none))) else (none)) else (none)) else (if a0_0 = 7 then (some (⟨#[116, 104, 105, 115]⟩ : ByteArray)) else (some (⟨#[]⟩ : ByteArray)))))))))
def impl_TypeShown.T15 : Bool × List (List Nat × List Nat) := (true, [([], []), ([0], [0]), ([1], [1]), ([2], [2]), ([], []), ([4], [4]), ([5], [5]), ([3, 6], [3, 6]), ([7, 6, 0, 1, 2, 3, 4, 5, 6, 7], [7])])
def impl_TypeShown.B15 : List Nat := [0, 1, 3, 7, 0, 16, 48, 127, 255]
theorem impl_TypeShown.tab15 : rtab .any (opsOf Tryd.f10 15) = impl_TypeShown.T15 := by kernel_rfl
theorem impl_TypeShown.bits15 : waitsOk impl_TypeShown.T15.2 impl_TypeShown.B15 = true := by kernel_rfl
set_option maxHeartbeats 8000000 in
set_option maxRecDepth 100000 in
theorem impl_TypeShown.calls (a0_0 : Int) (a0_1 : ByteArray) (a0_2 : Int) (r : ByteArray) (w : World) (h : impl_TypeShown.f a0_0 a0_1 a0_2 = some r) (htab : Go.Lib.TabIs Tryd.prog w "internal/strconv.uint64pow10" .u64 Go.Lib.pow10Tab := by exact tab_) :
 Calls Tryd.prog 10 #[.agg #[.int .i64 a0_0, .string a0_1, .int .i64 a0_2]] w fun e w' => e = .returned (.string r) ∧ Below w.heap.size w w' := by
 have HTAB := Zm htab
 clear htab
 have hu26 := Tryd.underlying26; have HB := Zm (Below.refl w.heap.size w); have H : (if a0_0 = 0 then (some (⟨#[116, 111, 112]⟩ : ByteArray)) else (if a0_0 = 1 then (some (⟨#[105, 110, 116]⟩ : ByteArray)) else (if a0_0 = 2 then (some (⟨#[110, 117, 108, 108]⟩ : ByteArray)) else (if a0_0 = 3 then (some a0_1) else (if a0_0 = 4 then (some (⟨#[105, 110, 116, 91, 93]⟩ : ByteArray)) else (if a0_0 = 5 then (if a0_1.size + 2 ≤ 9223372036854775807 then (some (a0_1 ++ (⟨#[91, 93]⟩ : ByteArray))) else (none)) else (if a0_0 = 6 then (if 3 + a0_1.size ≤ 9223372036854775807 then (if ((⟨#[110, 101, 119]⟩ : ByteArray) ++ a0_1).size + 1 ≤ 9223372036854775807 then ((impl_text.f a0_2).bind fun t143 => (if (((⟨#[110, 101, 119]⟩ : ByteArray) ++ a0_1) ++ (⟨#[64]⟩ : ByteArray)).size + t143.size ≤ 9223372036854775807 then (some ((((⟨#[110, 101, 119]⟩ : ByteArray) ++ a0_1) ++ (⟨#[64]⟩ : ByteArray)) ++ t143)) else (none))) else (none)) else (none)) else (if a0_0 = 7 then (some (⟨#[116, 104, 105, 115]⟩ : ByteArray)) else (some (⟨#[]⟩ : ByteArray)))))))))) = some r := h; clear h; have HC2 := Zm H; clear H; go_enter Tryd.func10, Tryd.ntmps10; go_upto_if 5 with (first | ((with_reducible refine gate_dst (N := 1) rfl ?_); refine box_event ?hg (N := 1) ?hd (cs := #[.int .i64 a0_0, .string a0_1, .int .i64 a0_2]) (t := 26) ?hr ?_; (case hd => rfl); (case hg => rfl); (case hr => first | (go_simp; done) | (go_simp; rfl)); intro gb142 hg w3 hbox hb; have n0_ := (⟨Zm (Zbt (bk HB.out) hb), Zm (hbox), Zm ((by rw [hg]; exact (Zbz (bk HB.out)) : w.heap.size ≤ gb142)), Zm ((by rw [hg]; exact (Zbz (bk HB.out)) : w.heap.size ≤ gb142))⟩ : _ ∧ _ ∧ _ ∧ _); clear HB; obtain ⟨HB, BK142, GW142, GE142⟩ := n0_; clear hb hbox hg; obtain ⟨hcz4_0, hcz4_1, hcz4_2⟩ := cz3 BK142.out; have hfz4_2 := Zkf BK142.out 2)); have H := HC2.out; clear HC2; by_cases c5 : a0_0 = 0; rotate_left
 · rw [if_neg c5] at H; have c5b0 : (a0_0 == 0) = false := beq_eq_false_iff_ne.mpr c5; have c5b1 : (a0_0 != 0) = true := bne_iff_ne.mpr c5; (first | rw [c5b0] | (simp only [i64_w, i32_w]; rw [c5b0]) | skip); by_cases c6 : a0_0 = 1; rotate_left
   · rw [if_neg c6] at H; have c6b0 : (a0_0 == 1) = false := beq_eq_false_iff_ne.mpr c6; have c6b1 : (a0_0 != 1) = true := bne_iff_ne.mpr c6; by_cases c7 : a0_0 = 2; rotate_left
     · rw [if_neg c7] at H; have c7b0 : (a0_0 == 2) = false := beq_eq_false_iff_ne.mpr c7; have c7b1 : (a0_0 != 2) = true := bne_iff_ne.mpr c7; by_cases c8 : a0_0 = 3; rotate_left
       · rw [if_neg c8] at H; have c8b0 : (a0_0 == 3) = false := beq_eq_false_iff_ne.mpr c8; have c8b1 : (a0_0 != 3) = true := bne_iff_ne.mpr c8; by_cases c10 : a0_0 = 4; rotate_left
         · rw [if_neg c10] at H; have c10b0 : (a0_0 == 4) = false := beq_eq_false_iff_ne.mpr c10; have c10b1 : (a0_0 != 4) = true := bne_iff_ne.mpr c10; by_cases c11 : a0_0 = 5; rotate_left
           · rw [if_neg c11] at H; have c11b0 : (a0_0 == 5) = false := beq_eq_false_iff_ne.mpr c11; have c11b1 : (a0_0 != 5) = true := bne_iff_ne.mpr c11; by_cases c14 : a0_0 = 6; rotate_left
             · rw [if_neg c14] at H; have c14b0 : (a0_0 == 6) = false := beq_eq_false_iff_ne.mpr c14; have c14b1 : (a0_0 != 6) = true := bne_iff_ne.mpr c14; by_cases c21 : a0_0 = 7; rotate_left
               · rw [if_neg c21] at H; have c21b0 : (a0_0 == 7) = false := beq_eq_false_iff_ne.mpr c21; have c21b1 : (a0_0 != 7) = true := bne_iff_ne.mpr c21; obtain rfl := Option.some.inj H; go_wp2; go_ret; exact fin_ HB

               rw [if_pos c21] at H
               have c21b0 : (a0_0 == 7) = true := beq_iff_eq.mpr c21
               have c21b1 : (a0_0 != 7) = false := bne_eq_false_iff_eq.mpr c21
               clear c21
               obtain rfl := Option.some.inj H
               go_wp2
               go_ret
               exact fin_ HB
             rw [if_pos c14] at H
             have c14b0 : (a0_0 == 6) = true := beq_iff_eq.mpr c14
             have c14b1 : (a0_0 != 6) = false := bne_eq_false_iff_eq.mpr c14
             clear c14
             by_cases c15 : 3 + a0_1.size ≤ 9223372036854775807
             rotate_left
             · rw [if_neg c15] at H
               exact absurd H (by simp)
             rw [if_pos c15] at H
             have c15b0 := eq_true c15
             have c15b1 := decide_eq_true c15
             try have c15b2 : (9223372036854775807 < 3 + a0_1.size) = False := eq_false (Nat.not_lt.2 c15)
             by_cases c16 : ((⟨#[110, 101, 119]⟩ : ByteArray) ++ a0_1).size + 1 ≤ 9223372036854775807
             rotate_left
             · rw [if_neg c16] at H
               exact absurd H (by simp)
             rw [if_pos c16] at H
             have c16b0 := eq_true c16
             have c16b1 := decide_eq_true c16
             try have c16b2 : (9223372036854775807 < ((⟨#[110, 101, 119]⟩ : ByteArray) ++ a0_1).size + 1) = False := eq_false (Nat.not_lt.2 c16)
             try have c16b9 : (9223372036854775807 < 3 + a0_1.size + 1) = False := eq_false (by have h_ := c16; simp only [ByteArray.size_append] at h_; have z0_ : (⟨#[110, 101, 119]⟩ : ByteArray).size = 3 := rfl; omega)
             replace H := Option.bind_eq_some_iff.mp H
             obtain ⟨t143, A170, H⟩ := H
             (try dsimp only at H)
             have A17 := Zm A170
             clear A170
             by_cases c18 : (((⟨#[110, 101, 119]⟩ : ByteArray) ++ a0_1) ++ (⟨#[64]⟩ : ByteArray)).size + t143.size ≤ 9223372036854775807
             rotate_left
             · rw [if_neg c18] at H
               exact absurd H (by simp)
             rw [if_pos c18] at H
             have c18b0 := eq_true c18
             have c18b1 := decide_eq_true c18
             try have c18b2 : (9223372036854775807 < (((⟨#[110, 101, 119]⟩ : ByteArray) ++ a0_1) ++ (⟨#[64]⟩ : ByteArray)).size + t143.size) = False := eq_false (Nat.not_lt.2 c18)
             try have c18b9 : (9223372036854775807 < 3 + a0_1.size + 1 + t143.size) = False := eq_false (by have h_ := c18; simp only [ByteArray.size_append] at h_; have z0_ : (⟨#[110, 101, 119]⟩ : ByteArray).size = 3 := rfl; have z1_ : (⟨#[64]⟩ : ByteArray).size = 1 := rfl; omega)
             obtain rfl := Option.some.inj H
             try go_wp2
             have n0_ := (⟨Zm (Zkd BK142.out), Zm (Zbd HB.out)⟩ : _ ∧ _)
             clear BK142 HB
             obtain ⟨BK142, HB⟩ := n0_
             refine start_ (n := 9) (S := fun w' => w'.cell? ⟨gb142, 0, none⟩ = some (.int .i64 a0_0) ∧ w'.cell? ⟨gb142, 1, none⟩ = some (.string a0_1) ∧ w'.cell? ⟨gb142, 2, none⟩ = some (.int .i64 a0_2)) (ds := []) #[false, false, false, false, false, false, false, false, false] (by kernel_rfl) rfl rfl ⟨(Zkc BK142.out 0).trans rfl, (Zkc BK142.out 1).trans rfl, (Zkc BK142.out 2).trans rfl⟩ (fun hHeld => ?_); refine with_tabW impl_TypeShown.tab15 impl_TypeShown.bits15 (fun HT_ HW_ => ?_)
             generalize w3.drew = w19 at BK142 HB hHeld ⊢
             refine pure_ (i := 0) (N := some 24) (v := ?_) (a' := ?_) #[true, false, false, false, false, false, false, false, false] rfl rfl (any_of HT_.out (by kernel_rfl)) (fun _ _ _ h => h) (Or.inl ⟨by rfl, ?_⟩) ?_ ?_
             rotate_left
             · intro w'
               go_simp
               with_reducible rfl
             rotate_left
             · simp only [Act.put, List.setIfInBounds_toArray, List.set_cons_zero, List.set_cons_succ, i64_w, i32_w]
               rfl
             refine pure_ (i := 4) (N := some 28) (v := ?_) (a' := ?_) #[true, false, false, false, true, false, false, false, false] rfl rfl (any_of HT_.out (by kernel_rfl)) (fun _ _ _ h => h) (Or.inl ⟨by rfl, ?_⟩) ?_ ?_
             rotate_left
             · intro w'
               go_simp
               with_reducible rfl
             rotate_left
             · simp only [Act.put, List.setIfInBounds_toArray, List.set_cons_zero, List.set_cons_succ, i64_w, i32_w]
               rfl
             refine take_ (i := 1) (N := some 25) (v := ?_) (a' := ?_) #[true, true, false, false, true, false, false, false, false] rfl rfl (take_ofW HT_.out HW_.out (by kernel_rfl)) (fun _ _ _ h => h) (Or.inl ⟨by rfl, ?_⟩) hHeld ?_ ?_
             rotate_left
             · rintro w' ⟨s0, s1, s2⟩
               go_simp
               with_reducible rfl
             rotate_left
             · simp only [Act.put, List.setIfInBounds_toArray, List.set_cons_zero, List.set_cons_succ, i64_w, i32_w]
               rfl
             refine pure_ (i := 2) (N := some 26) (v := ?_) (a' := ?_) #[true, true, true, false, true, false, false, false, false] rfl rfl (any_of HT_.out (by kernel_rfl)) (fun _ _ _ h => h) (Or.inl ⟨by rfl, ?_⟩) ?_ ?_
             rotate_left
             · intro w'
               go_simp
               with_reducible rfl
             rotate_left
             · simp only [Act.put, List.setIfInBounds_toArray, List.set_cons_zero, List.set_cons_succ, i64_w, i32_w]
               rfl
             refine pure_ (i := 3) (N := some 27) (v := ?_) (a' := ?_) #[true, true, true, true, true, false, false, false, false] rfl rfl (any_of HT_.out (by kernel_rfl)) (fun _ _ _ h => h) (Or.inl ⟨by rfl, ?_⟩) ?_ ?_
             rotate_left
             · intro w'
               go_simp
               with_reducible rfl
             rotate_left
             · simp only [Act.put, List.setIfInBounds_toArray, List.set_cons_zero, List.set_cons_succ, i64_w, i32_w]
               rfl
             refine take_ (i := 5) (N := some 29) (v := ?_) (a' := ?_) #[true, true, true, true, true, true, false, false, false] rfl rfl (take_ofW HT_.out HW_.out (by kernel_rfl)) (fun _ _ _ h => h) (Or.inl ⟨by rfl, ?_⟩) hHeld ?_ ?_
             rotate_left
             · rintro w' ⟨s0, s1, s2⟩
               go_simp
               with_reducible rfl
             rotate_left
             · simp only [Act.put, List.setIfInBounds_toArray, List.set_cons_zero, List.set_cons_succ, i64_w, i32_w]
               rfl
             refine one_ (i := 6) (N := some 30) #[true, true, true, true, true, true, true, false, false] rfl rfl (one_of HT_.out (by kernel_rfl)) (by decide) (fun K hK => ?_)
             refine goes_ Tryd.func24 (by kernel_rfl) rfl #[.int .i64 a0_2] (by rfl) rfl rfl (by (try simp only [List.map_toArray, List.map_cons, List.map_nil]); first | done | rfl | (simp only [List.length_drop, List.length_take]; rfl)) ?_
             with_reducible refine (impl_text.calls a0_2 t143 _ A17.out).mono ?_
             rintro e w20 ⟨rfl, hb⟩
             refine ⟨_, rfl, ?_⟩
             have n0_ := Zm (Zkb (pk BK142.out) hb)
             have n1_ := Zm (Zbt (bk HB.out) hb)
             clear BK142
             clear HB
             have BK142 := n0_
             have HB := n1_
             clear n0_ n1_
             refine hK.out _ _ ⟨(Zkc BK142.out 0).trans rfl, (Zkc BK142.out 1).trans rfl, (Zkc BK142.out 2).trans rfl⟩ (fun hHeld => ?_)
             clear hK K
             refine norm_ (a' := ?_) ?_ ?_
             rotate_left
             · show Act.put _ (some 30) _ = _
               simp only [Act.put, List.setIfInBounds_toArray, List.set_cons_zero, List.set_cons_succ, i64_w, i32_w]
               rfl
             refine pure_ (i := 7) (N := some 31) (v := ?_) (a' := ?_) #[true, true, true, true, true, true, true, true, false] rfl rfl (any_of HT_.out (by kernel_rfl)) (fun _ _ _ h => h) (Or.inl ⟨by rfl, ?_⟩) ?_ ?_
             rotate_left
             · intro w'
               go_simp
               with_reducible rfl
             rotate_left
             · simp only [Act.put, List.setIfInBounds_toArray, List.set_cons_zero, List.set_cons_succ, i64_w, i32_w]
               rfl
             refine pure_ (i := 8) (N := some 2) (v := ?_) (a' := ?_) #[true, true, true, true, true, true, true, true, true] rfl rfl (any_of HT_.out (by kernel_rfl)) (fun _ _ _ h => h) (Or.inl ⟨by rfl, ?_⟩) ?_ ?_
             rotate_left
             · intro w'
               go_simp
               with_reducible rfl
             rotate_left
             · simp only [Act.put, List.setIfInBounds_toArray, List.set_cons_zero, List.set_cons_succ, i64_w, i32_w]
               rfl
             refine done_ (done_of HT_.out (by kernel_rfl)) ?_
             try go_wp2
             go_ret
             exact fin_ HB
           rw [if_pos c11] at H
           have c11b0 : (a0_0 == 5) = true := beq_iff_eq.mpr c11
           have c11b1 : (a0_0 != 5) = false := bne_eq_false_iff_eq.mpr c11
           clear c11
           by_cases c12 : a0_1.size + 2 ≤ 9223372036854775807
           rotate_left
           · rw [if_neg c12] at H
             exact absurd H (by simp)
           rw [if_pos c12] at H
           have c12b0 := eq_true c12
           have c12b1 := decide_eq_true c12
           try have c12b2 : (9223372036854775807 < a0_1.size + 2) = False := eq_false (Nat.not_lt.2 c12)
           obtain rfl := Option.some.inj H
           obtain ⟨hcz13_0, hcz13_1, hcz13_2⟩ := cz3 BK142.out
           go_wp2
           go_ret
           exact fin_ HB
         rw [if_pos c10] at H
         have c10b0 : (a0_0 == 4) = true := beq_iff_eq.mpr c10
         have c10b1 : (a0_0 != 4) = false := bne_eq_false_iff_eq.mpr c10
         clear c10
         obtain rfl := Option.some.inj H
         go_wp2
         go_ret
         exact fin_ HB
       rw [if_pos c8] at H
       have c8b0 : (a0_0 == 3) = true := beq_iff_eq.mpr c8
       have c8b1 : (a0_0 != 3) = false := bne_eq_false_iff_eq.mpr c8
       clear c8
       obtain rfl := Option.some.inj H
       obtain ⟨hcz9_0, hcz9_1, hcz9_2⟩ := cz3 BK142.out
       go_wp2
       go_ret
       exact fin_ HB
     rw [if_pos c7] at H
     have c7b0 : (a0_0 == 2) = true := beq_iff_eq.mpr c7
     have c7b1 : (a0_0 != 2) = false := bne_eq_false_iff_eq.mpr c7
     clear c7
     obtain rfl := Option.some.inj H
     go_wp2
     go_ret
     exact fin_ HB
   rw [if_pos c6] at H
   have c6b0 : (a0_0 == 1) = true := beq_iff_eq.mpr c6
   have c6b1 : (a0_0 != 1) = false := bne_eq_false_iff_eq.mpr c6
   clear c6
   obtain rfl := Option.some.inj H
   go_wp2
   go_ret
   exact fin_ HB
 rw [if_pos c5] at H
 have c5b0 : (a0_0 == 0) = true := beq_iff_eq.mpr c5
 have c5b1 : (a0_0 != 0) = false := bne_eq_false_iff_eq.mpr c5
 clear c5
 (first | rw [c5b0] | (simp only [i64_w, i32_w]; rw [c5b0]) | skip)
 obtain rfl := Option.some.inj H
 go_wp2
 go_ret
 exact fin_ HB
/-! ### strings_Join: function 39 -/
def strings_Join.f (l0 : List ByteArray) (a1 : ByteArray) : Option (ByteArray) := if l0.length ≤ 140737488355328 ∧ (Lib.join (l0.map (·.data.toList)) a1.data.toList).length ≤ 140737488355328 then some ⟨(Lib.join (l0.map (·.data.toList)) a1.data.toList).toArray⟩ else none
set_option maxHeartbeats 8000000 in
set_option maxRecDepth 100000 in
theorem strings_Join.calls (A0 : Option Addr) (c0 : Nat) (l0 : List ByteArray) (a1 : ByteArray) (r : ByteArray) (w : World) (hr0 : Kd.C Kd.string w A0 l0.length l0) (hc0 : l0.length ≤ c0) (h : strings_Join.f l0 a1 = some r) :
    Calls Tryd.prog 39 #[.slice A0 l0.length c0, .string a1] w fun e w' => e = .returned (.string r) ∧ Below w.heap.size w w' := by
  unfold strings_Join.f at h; split at h
  · rename_i hc; obtain rfl := Option.some.inj h
    cases l0 with
    | nil => exact (Tryd.strings_Join_none A0 c0 a1 w).mono fun e w' ⟨he, hw⟩ => ⟨he, hw ▸ Below.refl _ _⟩
    | cons x l =>
      obtain ⟨hl, hm, hp⟩ := hr0; obtain ⟨⟨b, o, s⟩, rfl, hcell⟩ := hp (by simp)
      have hq : ∀ (j : Nat) y, (x :: l)[j]? = some y → w.cell? (Addr.add ⟨b, o, s⟩ j) = some (.string y) := fun j y hy => by
        obtain ⟨c, _, hK, hu⟩ := hcell j y hy; have e : c = [.string y] := hK; subst e; have := hu 0 _ rfl; rwa [show Kd.string.sz = 1 from rfl, Nat.mul_one, Nat.add_zero] at this
      obtain rfl : s = none := by
        have h0 := hq 0 x rfl
        cases s with
        | none => rfl
        | some q =>
          have h1 : w.cell? ⟨b, o, some q⟩ = some (.string x) := h0; unfold World.cell? at h1; split at h1
          · simp at h1
          · cases h1
      have hq2 : ∀ (j : Nat) y, (x :: l)[j]? = some y → w.cell? ⟨b, o + j, none⟩ = some (.string y) := fun j y hy => by
        have h0 := hq j y hy; unfold Addr.add at h0; split at h0
        · rename_i hj; subst hj; exact h0
        · exact h0
      exact Tryd.strings_Join b o c0 (x :: l) a1 w hq2 (Zlt _ _ (hq2 0 x rfl)) hc.1 hc0 hc.2
  · cases h

end Go.Proofs.YtdfnljchoomliaaDoor.PFnExactFrameShown
