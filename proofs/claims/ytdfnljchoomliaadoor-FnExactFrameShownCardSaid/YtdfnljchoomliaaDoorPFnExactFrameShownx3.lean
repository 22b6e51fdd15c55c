/- Functions of the program as plain Lean functions, each with a proof that the program's call comes to the same; no condition. Written by a program of this session. -/
import Derived.Test.YtdfnljchoomliaaDoorPFnExactFrameShownx0
import Derived.Test.YtdfnljchoomliaaDoorPFnExactFrameShownx2
namespace Go.Proofs.YtdfnljchoomliaaDoor.PFnExactFrameShown
open Go.RowKit Go.Proofs.YtdfnljchoomliaaDoorW.PrintWords Go.Proofs.YtdfnljchoomliaaDoorW.PrintLast Go.Proofs.YtdfnljchoomliaaDoorW.PrintMore
open Go.Proofs.YtdfnljchoomliaaDoorW.PrintWords renaming below_alloc → Zba, pw_below_drewN → Zbn, below_drew1 → Zbd, below_set → Zbs, below_size → Zbz, below_step → Zbt, blk_drewN → Zkn, blk_drew → Zkd, blk_alloc → Zka, blk_frozen → Zkf, blk_put → Zkp, blk_below → Zkb
open Go.World renaming block_lt_of_cell? → Zlt
open Go.Proofs.YtdfnljchoomliaaDoorW.PrintWords.Aside0 renaming mk → Zm
attribute [local go_sem] max2_int min2_int max_two min_two max_three min_three max_four min_four   -- for this text's walks alone
set_option linter.unusedVariables false
set_option linter.unusedSimpArgs false

/-! ### impl_shown: function 28 -/
def impl_shown.l0 : Nat → List ByteArray → List (S26) → Int → Int → Option (ByteArray)
 | 0, _, _, _, _ => none
 | k + 1, x3, x7, x8, x9 => if x9 < x8 then (if 0 ≤ x9 then (if x9 < (x7.length : Int) then ((impl_TypeShown.f ((rd_T26 x7 x9).f0) ((rd_T26 x7 x9).f1) ((rd_T26 x7 x9).f2)).bind fun t149 => (if x3.length < 8796093022208 then (impl_shown.l0 k (x3 ++ [t149]) x7 x8 (wrap64 (x9 + 1))) else (none))) else (none)) else (none)) else ((strings_Join.f x3 (⟨#[32]⟩ : ByteArray)).bind fun t153 => (some t153))
def impl_shown.f (k : Nat) (l0 : List (S26)) : Option (ByteArray) := impl_shown.l0 k (([] : List ByteArray)) l0 (l0.length : Int) 0
set_option maxHeartbeats 8000000 in
set_option maxRecDepth 100000 in
theorem impl_shown.calls (k : Nat) (A0 : Option Addr) (c0 : Nat) (l0 : List (S26)) (r : ByteArray) (w : World) (hr0 : Kd.C k26 w A0 l0.length l0) (hc0 : l0.length ≤ c0) (h : impl_shown.f k l0 = some r) (htab : Go.Lib.TabIs Tryd.prog w "internal/strconv.uint64pow10" .u64 Go.Lib.pow10Tab := by exact tab_) :
 Calls Tryd.prog 28 #[.slice A0 l0.length c0] w fun e w' => e = .returned (.string r) ∧ Below w.heap.size w w' := by
 have HTAB := Zm htab
 clear htab
 have hu26 := Tryd.underlying26; have HR0 := Zm hr0; have HC0 := Zm hc0; clear hr0 hc0; have HB := Zm (Below.refl w.heap.size w); have H : (impl_shown.l0 k (([] : List ByteArray)) l0 (l0.length : Int) 0) = some r := h; clear h; obtain ⟨y144, hy144⟩ : ∃ y_ : List ByteArray, y_ = (([] : List ByteArray)) := ⟨_, rfl⟩; replace H : (impl_shown.l0 k y144 l0 (l0.length : Int) 0) = some r := by first | (rw [hy144]; with_reducible exact H) | (have H2_ := (Option.bind_some _ _).symm.trans H; rw [hy144]; with_reducible exact H2_) | (have H2_ := (Option.bind_some _ _).symm.trans H; with_reducible exact H2_) | with_reducible exact H | (rw [hy144]; exact H) | exact H
 have Ny144 := Zm hy144; clear hy144; have H' := Zm H; clear H; go_enter Tryd.func28, Tryd.ntmps28; go_wp2_with (first | ((with_reducible refine gate_dst (N := 6) rfl ?_); refine Kd.R_lit Kd.string _ 9 ?hg (N := 6) ?hd (xs := ([] : List ByteArray)) (inner := []) (ok := fun _ => True) (okp := fun _ => True) ?hr ?hp (fun _ hk => hk) trivial (Below.refl _ _) (Nat.le_refl _) (by simp) ?_; (case hd => rfl); (case hg => rfl); (case hr => first | (go_simp; done) | (go_simp; rfl)); (case hp => exact (Reps.none _ _)); intro v145 w2 ho3 hb hg_ hnew_; clear hg_ hnew_; (first | rw [← Ny144.out] at ho3 | (simp only [Int.reduceToNat] at ho3; rw [← Ny144.out] at ho3)); have n0_ := (⟨Zm (Kd.R_lower ho3 (Zbz (bk HB.out))), Zm (Zbt (bk HB.out) hb)⟩ : _ ∧ _); clear HB; obtain ⟨HO146, HB⟩ := n0_; clear hb ho3)); go_loopg [3, 9] k (fun kq v3 v9 w' => ∃ (x3_1 : List ByteArray) (x9_1 : Int), v9 = .int .i64 x9_1 ∧ Aside0 (impl_shown.l0 kq x3_1 l0 (l0.length : Int) x9_1 = some r) ∧ Aside0 (kq ≤ k) ∧ Aside0 (Kd.R Kd.string 9 w' w.heap.size (fun _ => True) v3 x3_1) ∧ Aside0 (Below w.heap.size w w'))
 case atStart => exact ⟨(y144), (0), (by first | rfl | (simp; done) | (simp [*]; done)), H', ⟨Nat.le_refl _⟩, ⟨by (with_reducible repeat (first | apply Kd.R_alloc | apply Kd.R_drewN | apply Kd.R_drew)); exact HO146.out⟩, ⟨bk HB.out⟩⟩
 case round =>
  clear H'; obtain ⟨x3_1, x9_1, rfl, HA, HK1, HO_3, HB⟩ := hrel
  cases gk with
  | zero => exact absurd HA.out (by simp [impl_shown.l0])
  | succ k1 =>
   have H := HA.out; clear HA; simp only [impl_shown.l0] at H; by_cases c4 : x9_1 < (l0.length : Int); rotate_left
   · rw [if_neg c4] at H; have c4b0 := decide_eq_false c4; clear c4; replace H := Option.bind_eq_some_iff.mp H; obtain ⟨t153, A130, H⟩ := H; (try dsimp only at H); have A13 := Zm A130; clear A130; obtain rfl := Option.some.inj H; obtain ⟨Ao14, co14, eo14⟩ := Kd.R_slice HO_3.out; subst eo14; go_wp2_with (first | ((with_reducible refine gate_callee (f := 39) rfl ?_); refine ge_ (some 20) Tryd.func39 #[.slice Ao14 x3_1.length co14, .string (⟨#[32]⟩ : ByteArray)] ?_; (with_reducible refine (strings_Join.calls _ _ _ _ _ _ ?side1 ?side2 A13.out).mono ?_); (case side1 => exact pc (Kd.R_reads' HO_3.out).2.2); (case side2 => exact (Kd.R_reads' HO_3.out).2.1); rintro e w15 ⟨rfl, hb⟩; refine ⟨_, rfl, ?_⟩; have n0_ := (⟨Zm (Kd.R_below (by (with_reducible repeat (first | apply Kd.R_alloc | apply Kd.R_drewN | apply Kd.R_drew)); exact HO_3.out) hb), Zm (Zbt (bk HB.out) hb)⟩ : _ ∧ _); clear HO_3 HB; obtain ⟨HO_3, HB⟩ := n0_; (try clear hb); (try clear hb2); (try clear hk); (try clear hi))); go_ret; exact fin_ HB

   rw [if_pos c4] at H
   have c4b0 := decide_eq_true c4
   clear c4
   by_cases c5 : 0 ≤ x9_1
   rotate_left
   · rw [if_neg c5] at H
     exact absurd H (by simp)
   rw [if_pos c5] at H
   have c5b0 := decide_eq_true c5
   clear c5
   by_cases c6 : x9_1 < (l0.length : Int)
   rotate_left
   · rw [if_neg c6] at H
     exact absurd H (by simp)
   rw [if_pos c6] at H
   have c6b0 := decide_eq_true c6
   clear c6
   replace H := Option.bind_eq_some_iff.mp H
   obtain ⟨t149, A70, H⟩ := H
   (try dsimp only at H)
   have A7 := Zm A70
   clear A70
   by_cases c8 : x3_1.length < 8796093022208
   rotate_left
   · rw [if_neg c8] at H
     exact absurd H (by simp)
   rw [if_pos c8] at H
   have LMc8 := Zm c8
   clear c8
   obtain ⟨y150, hy150⟩ : ∃ y_ : List ByteArray, y_ = (x3_1 ++ [t149]) := ⟨_, rfl⟩
   replace H : (impl_shown.l0 k1 y150 l0 (l0.length : Int) (wrap64 (x9_1 + 1))) = some r := by first | (rw [hy150]; with_reducible exact H) | (have H2_ := (Option.bind_some _ _).symm.trans H; rw [hy150]; with_reducible exact H2_) | (have H2_ := (Option.bind_some _ _).symm.trans H; with_reducible exact H2_) | with_reducible exact H | (rw [hy150]; exact H) | exact H
   have Ny150 := Zm hy150
   clear hy150
   have H' := Zm H
   clear H
   have p147 : 0 ≤ (x9_1 : Int) := of_decide_eq_true (by first | (with_reducible assumption) | assumption)
   have q147 : x9_1 < (l0.length : Int) := of_decide_eq_true (by first | (with_reducible assumption) | assumption)
   obtain ⟨ad147, e147, hx147_0, hx147_1, hx147_2⟩ := at_T26 HR0.out x9_1 p147 q147
   cases e147
   replace hx147_0 := hx_ HB hx147_0 (Zlt _ _ hx147_0)
   replace hx147_1 := hx_ HB hx147_1 (Zlt _ _ hx147_1)
   replace hx147_2 := hx_ HB hx147_2 (Zlt _ _ hx147_2)
   replace p147 := eq_true p147
   replace q147 := eq_true q147
   go_wp2_with (first | ((with_reducible refine gate_dst (N := 5) rfl ?_); refine box_event ?hg (N := 5) ?hd (cs := #[.int .i64 0, .string (⟨#[]⟩ : ByteArray), .int .i64 0]) (t := 26) ?hr ?_; (case hd => rfl); (case hg => rfl); (case hr => first | (go_simp; done) | (go_simp; rfl)); intro gb148 hg w9 hbox hb; have n0_ := (⟨Zm (Kd.R_below (by (with_reducible repeat (first | apply Kd.R_alloc | apply Kd.R_drewN | apply Kd.R_drew)); exact HO_3.out) hb), Zm (Zbt (bk HB.out) hb), Zm (hbox), Zm ((by rw [hg]; exact (Zbz (bk HB.out)) : w.heap.size ≤ gb148)), Zm ((by rw [hg]; exact (Zbz (bk HB.out)) : w.heap.size ≤ gb148))⟩ : _ ∧ _ ∧ _ ∧ _ ∧ _); clear HO_3 HB; obtain ⟨HO_3, HB, BK148, GW148, GE148⟩ := n0_; clear hb hbox hg; obtain ⟨hcz10_0, hcz10_1, hcz10_2⟩ := cz3 BK148.out; have hfz10_0 := Zkf BK148.out 0; have hfz10_1 := Zkf BK148.out 1; have hfz10_2 := Zkf BK148.out 2) | ((with_reducible refine gate_callee (f := 10) rfl ?_); refine ge_ (some 15) Tryd.func10 #[.agg #[.int .i64 ((rd_T26 l0 x9_1).f0), .string ((rd_T26 l0 x9_1).f1), .int .i64 ((rd_T26 l0 x9_1).f2)]] ?_; (with_reducible refine (impl_TypeShown.calls _ _ _ _ _ A7.out).mono ?_); rintro e w11 ⟨rfl, hb⟩; refine ⟨_, rfl, ?_⟩; have n0_ := (⟨Zm (Kd.R_below (by (with_reducible repeat (first | apply Kd.R_alloc | apply Kd.R_drewN | apply Kd.R_drew)); exact (Kd.R_mono (Kd.R_far (p := ⟨gb148, 2, none⟩) (Kd.R_far (p := ⟨gb148, 1, none⟩) (Kd.R_far (p := ⟨gb148, 0, none⟩) (Kd.R_types HO_3.out BK148.out (by decide)) (fun _ hk => hk.2) (.int .i64 ((rd_T26 l0 x9_1).f0))) (fun _ hk => hk.2) (.string ((rd_T26 l0 x9_1).f1))) (fun _ hk => hk.2) (.int .i64 ((rd_T26 l0 x9_1).f2))) (fun _ h_ => h_.1))) hb), Zm (Zkb (g := gb148) (o := .cells #[.int .i64 ((rd_T26 l0 x9_1).f0), .string ((rd_T26 l0 x9_1).f1), .int .i64 ((rd_T26 l0 x9_1).f2)] 26 (0, 0)) zc_ hb), Zm (Zbt hb_ hb)⟩ : _ ∧ _ ∧ _); clear HO_3 BK148 HB; obtain ⟨HO_3, BK148, HB⟩ := n0_; (try clear hb); (try clear hb2); (try clear hk); (try clear hi)) | ((with_reducible refine gate_builtin (b := .append) (xs := #[.tmp 13, .tmp 16]) rfl ?_); at_builtin; refine Kd.R_append Kd.string (w0 := w) w.heap.size rfl (.tmp 13) (.tmp 16) 61 9 (.string ⟨#[]⟩) 16 rfl Tryd.underlying61 info9 rfl (by decide) (by omega) u3 x3_1 t149 [.string t149] (fun _ => True) (fun _ => False) rfl rfl ?aP (fun _ hk => hk.elim) ?aF ?aO ?aB ?aS ?aL ?_; (case aP => exact rfl); (case aB => exact (bk HB.out)); (case aF => exact (fun _ _ => trivial)); (case aO => exact (by (with_reducible repeat (first | apply Kd.R_alloc | apply Kd.R_drewN | apply Kd.R_drew)); exact HO_3.out)); (case aS => exact (Zbz (bk HB.out))); (case aL => have := LMc8.out; omega); intro v151 w12 ho hb hg hat; rw [← Ny150.out] at ho; have n0_ := (⟨Zm (blk_grown (pk BK148.out) hg (Kd.R_ne HO_3.out BK148.out (by decide))), Zm (hb), Zm (ho)⟩ : _ ∧ _ ∧ _); clear BK148 HB HO_3; obtain ⟨BK148, HB, HO152⟩ := n0_; clear ho hb hg hat))
   go_roundg k1
   case measure => have := HK1.out; omega
   case rel => exact ⟨(y150), (wrap64 (x9_1 + 1)), (by first | rfl | (simp; done) | (simp [*]; done)), H', ⟨by have := HK1.out; omega⟩, ⟨by (with_reducible repeat (first | apply Kd.R_alloc | apply Kd.R_drewN | apply Kd.R_drew)); exact HO152.out⟩, ⟨bk HB.out⟩⟩
/-! ### impl_FrameShown: function 14 -/
def impl_FrameShown.j0 : Nat → Bool → List (S26) → List (S26) → Option (ByteArray)
 | 0, _, _, _ => none
 | k + 1, x13, x155000, x155001 => if x13 = true then (some (⟨#[]⟩ : ByteArray)) else (if (x155000.length : Int) > 0 then ((impl_shown.f k x155000).bind fun t157 => (if t157.size + 2 ≤ 9223372036854775807 then (if (x155001.length : Int) > 0 then ((impl_shown.f k x155001).bind fun t158 => (if 1 + t158.size ≤ 9223372036854775807 then (if (t157 ++ (⟨#[32, 124]⟩ : ByteArray)).size + ((⟨#[32]⟩ : ByteArray) ++ t158).size ≤ 9223372036854775807 then (some ((t157 ++ (⟨#[32, 124]⟩ : ByteArray)) ++ ((⟨#[32]⟩ : ByteArray) ++ t158))) else (none)) else (none))) else (some (t157 ++ (⟨#[32, 124]⟩ : ByteArray)))) else (none))) else (if (x155001.length : Int) > 0 then ((impl_shown.f k x155001).bind fun t159 => (if 1 + t159.size ≤ 9223372036854775807 then (if 1 + ((⟨#[32]⟩ : ByteArray) ++ t159).size ≤ 9223372036854775807 then (some ((⟨#[124]⟩ : ByteArray) ++ ((⟨#[32]⟩ : ByteArray) ++ t159))) else (none)) else (none))) else (some (⟨#[124]⟩ : ByteArray))))
def impl_FrameShown.f (k : Nat) (l0_0 : List (S26)) (l0_1 : List (S26)) : Option (ByteArray) := (impl_Type.f l0_0).bind fun t155 => (if t155 = true then ((impl_Type.f l0_1).bind fun t156 => (impl_FrameShown.j0 k (!t156) l0_0 l0_1)) else (impl_FrameShown.j0 k true l0_0 l0_1))
set_option maxHeartbeats 8000000 in
set_option maxRecDepth 100000 in
theorem impl_FrameShown.calls (k : Nat) (A0_0 : Option Addr) (c0_0 : Nat) (l0_0 : List (S26)) (A0_1 : Option Addr) (c0_1 : Nat) (l0_1 : List (S26)) (r : ByteArray) (w : World) (hr0_0 : Kd.C k26 w A0_0 l0_0.length l0_0) (hc0_0 : l0_0.length ≤ c0_0) (hr0_1 : Kd.C k26 w A0_1 l0_1.length l0_1) (hc0_1 : l0_1.length ≤ c0_1) (h : impl_FrameShown.f k l0_0 l0_1 = some r) (htab : Go.Lib.TabIs Tryd.prog w "internal/strconv.uint64pow10" .u64 Go.Lib.pow10Tab := by exact tab_) :
 Calls Tryd.prog 14 #[.agg #[.slice A0_0 l0_0.length c0_0, .slice A0_1 l0_1.length c0_1]] w fun e w' => e = .returned (.string r) ∧ Below w.heap.size w w' := by
 have HTAB := Zm htab
 clear htab
 have hu36 := Tryd.underlying36; have HR0_0 := Zm hr0_0; have HC0_0 := Zm hc0_0; clear hr0_0 hc0_0; have HR0_1 := Zm hr0_1; have HC0_1 := Zm hc0_1; clear hr0_1 hc0_1; have HB := Zm (Below.refl w.heap.size w); have H : ((impl_Type.f l0_0).bind fun t155 => (if t155 = true then ((impl_Type.f l0_1).bind fun t156 => (impl_FrameShown.j0 k (!t156) l0_0 l0_1)) else (impl_FrameShown.j0 k true l0_0 l0_1))) = some r := h; clear h; have HC2 := Zm H; clear H; go_enter Tryd.func14, Tryd.ntmps14; go_upto_region 1 with (first | ((with_reducible refine gate_dst (N := 1) rfl ?_); refine box_event ?hg (N := 1) ?hd (cs := #[.slice A0_0 l0_0.length c0_0, .slice A0_1 l0_1.length c0_1]) (t := 36) ?hr ?_; (case hd => rfl); (case hg => rfl); (case hr => first | (go_simp; done) | (go_simp; rfl)); intro gb154 hg w3 hbox hb; have n0_ := (⟨Zm (Zbt (bk HB.out) hb), Zm (hbox), Zm ((by rw [hg]; exact (Zbz (bk HB.out)) : w.heap.size ≤ gb154)), Zm ((by rw [hg]; exact (Zbz (bk HB.out)) : w.heap.size ≤ gb154))⟩ : _ ∧ _ ∧ _ ∧ _); clear HB; obtain ⟨HB, BK154, GW154, GE154⟩ := n0_; clear hb hbox hg)); (try simp only [Act.put, List.setIfInBounds_toArray, List.set_cons_zero, List.set_cons_succ]); go_cut [13] (fun v13 wc => ∃ (kq : Nat) (x13_1 : Bool), v13 = .bool x13_1 ∧ Aside0 (impl_FrameShown.j0 kq x13_1 l0_0 l0_1 = some r) ∧ Aside0 (kq ≤ k) ∧ Aside0 (wc.heap[gb154]? = some (.cells #[(.slice A0_0 l0_0.length c0_0), (.slice A0_1 l0_1.length c0_1)] 36 (0, 0))) ∧ Aside0 (Below w.heap.size w wc))
 case first =>
  have H := HC2.out; clear HC2; replace H := Option.bind_eq_some_iff.mp H; obtain ⟨t155, A40, H⟩ := H; (try dsimp only at H); have A4 := Zm A40; clear A40; by_cases c5 : t155 = true; rotate_left
  · replace c5 := Bool.eq_false_iff.mpr c5; subst c5; rw [if_neg (show ¬ (false = true) by decide)] at H; have H' := Zm H; clear H; obtain ⟨hcz8_0, hcz8_1⟩ := cz2 BK154.out; go_wp2_with (first | ((with_reducible refine gate_callee (f := 27) rfl ?_); refine ge_ (some 6) Tryd.func27 #[.slice A0_0 l0_0.length c0_0] ?_; (with_reducible refine (impl_Type.calls _ _ _ _ _ ?side1 ?side2 A4.out).mono ?_); (case side1 => exact pc (Kd.C_below HR0_0.out HB.out)); (case side2 => exact HC0_0.out); rintro e w' ⟨rfl, ⟨nd, rfl⟩⟩; refine ⟨_, rfl, ?_⟩)); go_meet
    case rel => exact ⟨_, (true), (by first | rfl | (simp; done) | (simp [*]; done)), H', ⟨by first | omega | exact Nat.le_refl _⟩, ⟨pk BK154.out⟩, ⟨bk HB.out⟩⟩
  subst c5; rw [if_pos rfl] at H; replace H := Option.bind_eq_some_iff.mp H; obtain ⟨t156, A60, H⟩ := H; (try dsimp only at H); have A6 := Zm A60; clear A60; have H' := Zm H; clear H; obtain ⟨hcz7_0, hcz7_1⟩ := cz2 BK154.out; go_wp2_with (first | ((with_reducible refine gate_callee (f := 27) rfl ?_); refine ge_ (some 6) Tryd.func27 #[.slice A0_0 l0_0.length c0_0] ?_; (with_reducible refine (impl_Type.calls _ _ _ _ _ ?side1 ?side2 A4.out).mono ?_); (case side1 => exact pc (Kd.C_below HR0_0.out HB.out)); (case side2 => exact HC0_0.out); rintro e w' ⟨rfl, ⟨nd, rfl⟩⟩; refine ⟨_, rfl, ?_⟩) | (go_at_call 27; (first | (with_reducible refine (impl_Type.calls _ _ _ _ _ ?side1 ?side2 A6.out).mono ?_) | (with_reducible refine (calls_of_args ?_ (impl_Type.calls _ _ _ _ _ ?side1 ?side2 A6.out)).mono ?_; focus (simp [*]; done))); (case side1 => exact Kd.C_below HR0_1.out (bk HB.out)); (case side2 => exact HC0_1.out); rintro e w' ⟨rfl, ⟨nd, rfl⟩⟩)); go_meet
  case rel => exact ⟨_, (!t156), (by first | rfl | (simp; done) | (simp [*]; done)), H', ⟨by first | omega | exact Nat.le_refl _⟩, ⟨pk BK154.out⟩, ⟨bk HB.out⟩⟩
 case rest =>
  clear HC2; obtain ⟨kq, x13_1, rfl, HA, HJ1, BK154, HB⟩ := hcut
  cases kq with
  | zero => exact absurd HA.out (by simp [impl_FrameShown.j0])
  | succ kj1 =>
   have H := HA.out; clear HA; simp only [impl_FrameShown.j0] at H; by_cases c9 : x13_1 = true; rotate_left
   · replace c9 := Bool.eq_false_iff.mpr c9; subst c9; rw [if_neg (show ¬ (false = true) by decide)] at H; by_cases c10 : (l0_0.length : Int) > 0; rotate_left
     · rw [if_neg c10] at H; have c10b0 : decide (0 < (l0_0.length : Int)) = false := decide_eq_false c10; have c10b1 : decide (0 < l0_0.length) = false := decide_eq_false (by omega); clear c10; by_cases c23 : (l0_1.length : Int) > 0; rotate_left
       · rw [if_neg c23] at H; have c23b0 : decide (0 < (l0_1.length : Int)) = false := decide_eq_false c23; have c23b1 : decide (0 < l0_1.length) = false := decide_eq_false (by omega); clear c23; obtain rfl := Option.some.inj H; obtain ⟨hcz29_0, hcz29_1⟩ := cz2 BK154.out; go_wp2; go_ret; exact fin_ HB

       rw [if_pos c23] at H
       have c23b0 : decide (0 < (l0_1.length : Int)) = true := decide_eq_true c23
       have c23b1 : decide (0 < l0_1.length) = true := decide_eq_true (by omega)
       clear c23
       replace H := Option.bind_eq_some_iff.mp H
       obtain ⟨t159, A240, H⟩ := H
       (try dsimp only at H)
       have A24 := Zm A240
       clear A240
       by_cases c25 : 1 + t159.size ≤ 9223372036854775807
       rotate_left
       · rw [if_neg c25] at H
         exact absurd H (by simp)
       rw [if_pos c25] at H
       have c25b0 := eq_true c25
       have c25b1 := decide_eq_true c25
       try have c25b2 : (9223372036854775807 < 1 + t159.size) = False := eq_false (Nat.not_lt.2 c25)
       by_cases c26 : 1 + ((⟨#[32]⟩ : ByteArray) ++ t159).size ≤ 9223372036854775807
       rotate_left
       · rw [if_neg c26] at H
         exact absurd H (by simp)
       rw [if_pos c26] at H
       have c26b0 := eq_true c26
       have c26b1 := decide_eq_true c26
       try have c26b2 : (9223372036854775807 < 1 + ((⟨#[32]⟩ : ByteArray) ++ t159).size) = False := eq_false (Nat.not_lt.2 c26)
       try have c26b9 : (9223372036854775807 < 1 + (1 + t159.size)) = False := eq_false (by have h_ := c26; simp only [ByteArray.size_append] at h_; have z0_ : (⟨#[32]⟩ : ByteArray).size = 1 := rfl; omega)
       obtain rfl := Option.some.inj H
       obtain ⟨hcz27_0, hcz27_1⟩ := cz2 BK154.out
       (try clear BK154)
       go_wp2_with (first | ((with_reducible refine gate_callee (f := 28) rfl ?_); refine ge_ (some 29) Tryd.func28 #[.slice A0_1 l0_1.length c0_1] ?_; (with_reducible refine (impl_shown.calls _ _ _ _ _ _ ?side1 ?side2 A24.out).mono ?_); (case side1 => exact pc (Kd.C_below HR0_1.out HB.out)); (case side2 => exact HC0_1.out); rintro e w28 ⟨rfl, hb⟩; refine ⟨_, rfl, ?_⟩; have n0_ := Zm (Zbt (bk HB.out) hb); clear HB; have HB := n0_; clear n0_; (try clear hb); (try clear hb2); (try clear hk); (try clear hi)))
       go_ret
       exact fin_ HB
     rw [if_pos c10] at H
     have c10b0 : decide (0 < (l0_0.length : Int)) = true := decide_eq_true c10
     have c10b1 : decide (0 < l0_0.length) = true := decide_eq_true (by omega)
     clear c10
     replace H := Option.bind_eq_some_iff.mp H
     obtain ⟨t157, A110, H⟩ := H
     (try dsimp only at H)
     have A11 := Zm A110
     clear A110
     by_cases c12 : t157.size + 2 ≤ 9223372036854775807
     rotate_left
     · rw [if_neg c12] at H
       exact absurd H (by simp)
     rw [if_pos c12] at H
     have c12b0 := eq_true c12
     have c12b1 := decide_eq_true c12
     try have c12b2 : (9223372036854775807 < t157.size + 2) = False := eq_false (Nat.not_lt.2 c12)
     have HC13 := Zm H
     clear H
     obtain ⟨hcz14_0, hcz14_1⟩ := cz2 BK154.out
     go_upto_if 25 with (first | ((with_reducible refine gate_callee (f := 28) rfl ?_); refine ge_ (some 20) Tryd.func28 #[.slice A0_0 l0_0.length c0_0] ?_; (with_reducible refine (impl_shown.calls _ _ _ _ _ _ ?side1 ?side2 A11.out).mono ?_); (case side1 => exact pc (Kd.C_below HR0_0.out HB.out)); (case side2 => exact HC0_0.out); rintro e w15 ⟨rfl, hb⟩; refine ⟨_, rfl, ?_⟩; have n0_ := (⟨Zm (Zkb (pk BK154.out) hb), Zm (Zbt (bk HB.out) hb)⟩ : _ ∧ _); clear BK154 HB; obtain ⟨BK154, HB⟩ := n0_; (try clear hb); (try clear hb2); (try clear hk); (try clear hi); obtain ⟨hcz16_0, hcz16_1⟩ := cz2 BK154.out; have hfz16_1 := Zkf BK154.out 1))
     have H := HC13.out
     clear HC13
     by_cases c17 : (l0_1.length : Int) > 0
     rotate_left
     · rw [if_neg c17] at H
       have c17b0 : decide (0 < (l0_1.length : Int)) = false := decide_eq_false c17
       have c17b1 : decide (0 < l0_1.length) = false := decide_eq_false (by omega)
       clear c17
       (first | rw [c17b0] | (simp only [i64_w, i32_w]; rw [c17b0]) | rw [c17b1] | skip)
       obtain rfl := Option.some.inj H
       go_wp2
       go_ret
       exact fin_ HB
     rw [if_pos c17] at H
     have c17b0 : decide (0 < (l0_1.length : Int)) = true := decide_eq_true c17
     have c17b1 : decide (0 < l0_1.length) = true := decide_eq_true (by omega)
     clear c17
     (first | rw [c17b0] | (simp only [i64_w, i32_w]; rw [c17b0]) | rw [c17b1] | skip)
     replace H := Option.bind_eq_some_iff.mp H
     obtain ⟨t158, A180, H⟩ := H
     (try dsimp only at H)
     have A18 := Zm A180
     clear A180
     by_cases c19 : 1 + t158.size ≤ 9223372036854775807
     rotate_left
     · rw [if_neg c19] at H
       exact absurd H (by simp)
     rw [if_pos c19] at H
     have c19b0 := eq_true c19
     have c19b1 := decide_eq_true c19
     try have c19b2 : (9223372036854775807 < 1 + t158.size) = False := eq_false (Nat.not_lt.2 c19)
     by_cases c20 : (t157 ++ (⟨#[32, 124]⟩ : ByteArray)).size + ((⟨#[32]⟩ : ByteArray) ++ t158).size ≤ 9223372036854775807
     rotate_left
     · rw [if_neg c20] at H
       exact absurd H (by simp)
     rw [if_pos c20] at H
     have c20b0 := eq_true c20
     have c20b1 := decide_eq_true c20
     try have c20b2 : (9223372036854775807 < (t157 ++ (⟨#[32, 124]⟩ : ByteArray)).size + ((⟨#[32]⟩ : ByteArray) ++ t158).size) = False := eq_false (Nat.not_lt.2 c20)
     try have c20b9 : (9223372036854775807 < t157.size + 2 + (1 + t158.size)) = False := eq_false (by have h_ := c20; simp only [ByteArray.size_append] at h_; have z0_ : (⟨#[32, 124]⟩ : ByteArray).size = 2 := rfl; have z1_ : (⟨#[32]⟩ : ByteArray).size = 1 := rfl; omega)
     obtain rfl := Option.some.inj H
     obtain ⟨hcz21_0, hcz21_1⟩ := cz2 BK154.out
     (try clear BK154)
     go_wp2_with (first | ((with_reducible refine gate_callee (f := 28) rfl ?_); refine ge_ (some 29) Tryd.func28 #[.slice A0_1 l0_1.length c0_1] ?_; (with_reducible refine (impl_shown.calls _ _ _ _ _ _ ?side1 ?side2 A18.out).mono ?_); (case side1 => exact pc (Kd.C_below HR0_1.out HB.out)); (case side2 => exact HC0_1.out); rintro e w22 ⟨rfl, hb⟩; refine ⟨_, rfl, ?_⟩; have n0_ := Zm (Zbt (bk HB.out) hb); clear HB; have HB := n0_; clear n0_; (try clear hb); (try clear hb2); (try clear hk); (try clear hi)))
     go_ret
     exact fin_ HB
   subst c9
   rw [if_pos rfl] at H
   obtain rfl := Option.some.inj H
   go_wp2
   go_ret
   exact fin_ HB
/-! ### laws_eqType: function 40 -/
def laws_eqType.f (a0_0 : Int) (a0_1 : ByteArray) (a0_2 : Int) (a1_0 : Int) (a1_1 : ByteArray) (a1_2 : Int) : Option (Bool) := if a0_0 = a1_0 then (if a0_1.toList = a1_1.toList then (if a0_2 = a1_2 then (some true) else (some false)) else (some false)) else (some false)
set_option maxHeartbeats 8000000 in
set_option maxRecDepth 100000 in
theorem laws_eqType.calls (a0_0 : Int) (a0_1 : ByteArray) (a0_2 : Int) (a1_0 : Int) (a1_1 : ByteArray) (a1_2 : Int) (r : Bool) (w : World) (h : laws_eqType.f a0_0 a0_1 a0_2 a1_0 a1_1 a1_2 = some r) :
 Calls Tryd.prog 40 #[.agg #[.int .i64 a0_0, .string a0_1, .int .i64 a0_2], .agg #[.int .i64 a1_0, .string a1_1, .int .i64 a1_2]] w fun e w' => e = .returned (.bool r) ∧ Below w.heap.size w w' := by
 have hu26 := Tryd.underlying26; have HB := Zm (Below.refl w.heap.size w); have H : (if a0_0 = a1_0 then (if a0_1.toList = a1_1.toList then (if a0_2 = a1_2 then (some true) else (some false)) else (some false)) else (some false)) = some r := h; clear h; have HC3 := Zm H; clear H; go_enter Tryd.func40, Tryd.ntmps40; go_upto_if 9 with (first | ((with_reducible refine gate_dst (N := 2) rfl ?_); refine box_event ?hg (N := 2) ?hd (cs := #[.int .i64 a0_0, .string a0_1, .int .i64 a0_2]) (t := 26) ?hr ?_; (case hd => rfl); (case hg => rfl); (case hr => first | (go_simp; done) | (go_simp; rfl)); intro gb160 hg w4 hbox hb; have n0_ := (⟨Zm (Zbt (bk HB.out) hb), Zm (hbox), Zm ((by rw [hg]; exact (Zbz (bk HB.out)) : w.heap.size ≤ gb160)), Zm ((by rw [hg]; exact (Zbz (bk HB.out)) : w.heap.size ≤ gb160))⟩ : _ ∧ _ ∧ _ ∧ _); clear HB; obtain ⟨HB, BK160, GW160, GE160⟩ := n0_; clear hb hbox hg) | ((with_reducible refine gate_dst (N := 3) rfl ?_); refine box_event ?hg (N := 3) ?hd (cs := #[.int .i64 a1_0, .string a1_1, .int .i64 a1_2]) (t := 26) ?hr ?_; (case hd => rfl); (case hg => rfl); (case hr => first | (go_simp; done) | (go_simp; rfl)); intro gb161 hg w5 hbox hb; have n0_ := (⟨Zm (Zkb (pk BK160.out) hb), Zm (Zbt (bk HB.out) hb), Zm (hbox), Zm ((by rw [hg]; exact (Zbz (bk HB.out)) : w.heap.size ≤ gb161)), Zm ((by rw [hg]; exact (Zbz (bk HB.out)) : w.heap.size ≤ gb161)), Zm ((by rw [hg]; exact Nat.ne_of_lt (blk_lt (pk BK160.out)) : gb160 ≠ gb161)), Zm ((by rw [hg]; exact Nat.ne_of_gt (blk_lt (pk BK160.out)) : gb161 ≠ gb160))⟩ : _ ∧ _ ∧ _ ∧ _ ∧ _ ∧ _ ∧ _); clear BK160 HB; obtain ⟨BK160, HB, BK161, GW161, GE161, NB160_161, NB161_160⟩ := n0_; clear hb hbox hg; have hnb6 := NB160_161.out; have hnc6 := NB161_160.out; obtain ⟨hcz7_0, hcz7_1, hcz7_2⟩ := cz3 BK160.out; obtain ⟨hcz8_0, hcz8_1, hcz8_2⟩ := cz3 BK161.out; have hfz8_2 := Zkf BK161.out 2)); have H := HC3.out; clear HC3; by_cases c9 : a0_0 = a1_0; rotate_left
 · rw [if_neg c9] at H; have c9b0 : (a0_0 == a1_0) = false := beq_eq_false_iff_ne.mpr c9; have c9b1 : (a0_0 != a1_0) = true := bne_iff_ne.mpr c9; (first | rw [c9b0] | (simp only [i64_w, i32_w]; rw [c9b0]) | skip); obtain rfl := Option.some.inj H; go_wp2; go_ret; exact fin_ HB

 rw [if_pos c9] at H
 have c9b0 : (a0_0 == a1_0) = true := beq_iff_eq.mpr c9
 have c9b1 : (a0_0 != a1_0) = false := bne_eq_false_iff_eq.mpr c9
 clear c9
 (first | rw [c9b0] | (simp only [i64_w, i32_w]; rw [c9b0]) | skip)
 by_cases c10 : a0_1.toList = a1_1.toList
 rotate_left
 · rw [if_neg c10] at H
   have c10b0 : (a0_1.toList == a1_1.toList) = false := beq_eq_false_iff_ne.mpr c10
   have c10b1 : (a0_1.toList != a1_1.toList) = true := bne_iff_ne.mpr c10
   obtain rfl := Option.some.inj H
   have hnb16 := NB160_161.out
   have hnc16 := NB161_160.out
   obtain ⟨hcz17_0, hcz17_1, hcz17_2⟩ := cz3 BK160.out
   obtain ⟨hcz18_0, hcz18_1, hcz18_2⟩ := cz3 BK161.out
   go_wp2
   go_ret
   exact fin_ HB
 rw [if_pos c10] at H
 have c10b0 : (a0_1.toList == a1_1.toList) = true := beq_iff_eq.mpr c10
 have c10b1 : (a0_1.toList != a1_1.toList) = false := bne_eq_false_iff_eq.mpr c10
 clear c10
 have HC11 := Zm H
 clear H
 have hnb12 := NB160_161.out
 have hnc12 := NB161_160.out
 obtain ⟨hcz13_0, hcz13_1, hcz13_2⟩ := cz3 BK160.out
 obtain ⟨hcz14_0, hcz14_1, hcz14_2⟩ := cz3 BK161.out
 go_upto_if 19 with (fail)
 have H := HC11.out
 clear HC11
 by_cases c15 : a0_2 = a1_2
 rotate_left
 · rw [if_neg c15] at H
   have c15b0 : (a0_2 == a1_2) = false := beq_eq_false_iff_ne.mpr c15
   have c15b1 : (a0_2 != a1_2) = true := bne_iff_ne.mpr c15
   (first | rw [c15b0] | (simp only [i64_w, i32_w]; rw [c15b0]) | skip)
   obtain rfl := Option.some.inj H
   go_wp2
   go_ret
   exact fin_ HB
 rw [if_pos c15] at H
 have c15b0 : (a0_2 == a1_2) = true := beq_iff_eq.mpr c15
 have c15b1 : (a0_2 != a1_2) = false := bne_eq_false_iff_eq.mpr c15
 clear c15
 (first | rw [c15b0] | (simp only [i64_w, i32_w]; rw [c15b0]) | skip)
 obtain rfl := Option.some.inj H
 go_wp2
 go_ret
 exact fin_ HB
/-! ### laws_eqTypeS: function 29 -/
def laws_eqTypeS.l0 : Nat → List (S26) → List (S26) → Int → Option (Bool)
 | 0, _, _, _ => none
 | k + 1, x0, x1, x5 => if x5 < (x0.length : Int) then (if 0 ≤ x5 then (if x5 < (x1.length : Int) then ((laws_eqType.f ((rd_T26 x0 x5).f0) ((rd_T26 x0 x5).f1) ((rd_T26 x0 x5).f2) ((rd_T26 x1 x5).f0) ((rd_T26 x1 x5).f1) ((rd_T26 x1 x5).f2)).bind fun t164 => (if t164 = true then (laws_eqTypeS.l0 k x0 x1 (wrap64 (x5 + 1))) else (some false))) else (none)) else (none)) else (some true)
def laws_eqTypeS.f (k : Nat) (l0 : List (S26)) (l1 : List (S26)) : Option (Bool) := if (l0.length : Int) = (l1.length : Int) then (laws_eqTypeS.l0 k l0 l1 0) else (some false)
def laws_eqTypeS.T6 : Bool × List (List Nat × List Nat) := (true, [([], []), ([], []), ([0, 1], [0, 1]), ([2], [2]), ([], []), ([], []), ([4, 5], [4, 5]), ([6], [6]), ([3, 7], [3, 7]), ([8], [8])])
def laws_eqTypeS.B6 : List Nat := [0, 0, 3, 7, 0, 0, 48, 112, 255, 511]
theorem laws_eqTypeS.tab6 : rtab .any (opsOf Tryd.f29 6) = laws_eqTypeS.T6 := by kernel_rfl
theorem laws_eqTypeS.bits6 : waitsOk laws_eqTypeS.T6.2 laws_eqTypeS.B6 = true := by kernel_rfl
set_option maxHeartbeats 8000000 in
set_option maxRecDepth 100000 in
theorem laws_eqTypeS.calls (k : Nat) (A0 : Option Addr) (c0 : Nat) (l0 : List (S26)) (A1 : Option Addr) (c1 : Nat) (l1 : List (S26)) (r : Bool) (w : World) (hr0 : Kd.C k26 w A0 l0.length l0) (hc0 : l0.length ≤ c0) (hr1 : Kd.C k26 w A1 l1.length l1) (hc1 : l1.length ≤ c1) (h : laws_eqTypeS.f k l0 l1 = some r) :
 Calls Tryd.prog 29 #[.slice A0 l0.length c0, .slice A1 l1.length c1] w fun e w' => e = .returned (.bool r) ∧ Below w.heap.size w w' := by
 have hu26 := Tryd.underlying26; have HR0 := Zm hr0; have HC0 := Zm hc0; clear hr0 hc0; have HR1 := Zm hr1; have HC1 := Zm hc1; clear hr1 hc1; have HB := Zm (Below.refl w.heap.size w); have H : (if (l0.length : Int) = (l1.length : Int) then (laws_eqTypeS.l0 k l0 l1 0) else (some false)) = some r := h; clear h; by_cases c3 : (l0.length : Int) = (l1.length : Int); rotate_left
 · rw [if_neg c3] at H; have c3b0 : ((l0.length : Int) == (l1.length : Int)) = false := beq_eq_false_iff_ne.mpr c3; have c3b1 : ((l0.length : Int) != (l1.length : Int)) = true := bne_iff_ne.mpr c3; have c3b2 : (l0.length == l1.length) = false := by first | simpa using c3 | (simp at c3 ⊢; omega)
   obtain rfl := Option.some.inj H; go_enter Tryd.func29, Tryd.ntmps29; go_wp2; go_ret; exact fin_ HB

 rw [if_pos c3] at H
 have c3b0 : ((l0.length : Int) == (l1.length : Int)) = true := beq_iff_eq.mpr c3
 have c3b1 : ((l0.length : Int) != (l1.length : Int)) = false := bne_eq_false_iff_eq.mpr c3
 have c3b2 : (l0.length == l1.length) = true := by first | simpa using c3 | (simp at c3 ⊢; omega)
 clear c3
 have H' := Zm H
 clear H
 go_enter Tryd.func29, Tryd.ntmps29
 go_wp2
 go_loopg [5] k (fun kq v5 w' => ∃ (x5_1 : Int), v5 = .int .i64 x5_1 ∧ Aside0 (laws_eqTypeS.l0 kq l0 l1 x5_1 = some r) ∧ Aside0 (kq ≤ k) ∧ Aside0 (Below w.heap.size w w'))
 case atStart => exact ⟨(0), (by first | rfl | (simp; done) | (simp [*]; done)), H', ⟨Nat.le_refl _⟩, ⟨bk HB.out⟩⟩
 case round =>
  clear H'
  (try clear c3); (try clear c3b0); (try clear c3b1); (try clear c3b2)
  obtain ⟨x5_1, rfl, HA, HK1, HB⟩ := hrel
  cases gk with
  | zero => exact absurd HA.out (by simp [laws_eqTypeS.l0])
  | succ k1 =>
   have H := HA.out
   clear HA
   simp only [laws_eqTypeS.l0] at H
   by_cases c4 : x5_1 < (l0.length : Int)
   rotate_left
   · rw [if_neg c4] at H
     have c4b0 := decide_eq_false c4
     clear c4
     obtain rfl := Option.some.inj H
     go_wp2
     go_ret
     exact fin_ HB
   rw [if_pos c4] at H
   have c4b0 := decide_eq_true c4
   clear c4
   by_cases c5 : 0 ≤ x5_1
   rotate_left
   · rw [if_neg c5] at H
     exact absurd H (by simp)
   rw [if_pos c5] at H
   have c5b0 := decide_eq_true c5
   clear c5
   by_cases c6 : x5_1 < (l1.length : Int)
   rotate_left
   · rw [if_neg c6] at H
     exact absurd H (by simp)
   rw [if_pos c6] at H
   have c6b0 := decide_eq_true c6
   clear c6
   replace H := Option.bind_eq_some_iff.mp H
   obtain ⟨t164, A70, H⟩ := H
   (try dsimp only at H)
   have A7 := Zm A70
   clear A70
   have HC8 := Zm H
   clear H
   try go_wp2
   have n0_ := Zm (Zbd HB.out)
   clear HB
   have HB := n0_
   clear n0_
   have p162 : 0 ≤ (x5_1 : Int) := of_decide_eq_true (by first | (with_reducible assumption) | assumption)
   have q162 : x5_1 < (l0.length : Int) := of_decide_eq_true (by first | (with_reducible assumption) | assumption)
   obtain ⟨ad162, e162, hx162_0, hx162_1, hx162_2⟩ := at_T26 HR0.out x5_1 p162 q162
   have hw162_2 := hx162_2
   have hw162_1 := hx162_1
   have hw162_0 := hx162_0
   cases e162
   replace hx162_0 := hx_ HB hx162_0 (Zlt _ _ hx162_0)
   replace hx162_1 := hx_ HB hx162_1 (Zlt _ _ hx162_1)
   replace hx162_2 := hx_ HB hx162_2 (Zlt _ _ hx162_2)
   replace p162 := eq_true p162
   replace q162 := eq_true q162
   have p163 : 0 ≤ (x5_1 : Int) := of_decide_eq_true (by first | (with_reducible assumption) | assumption)
   have q163 : x5_1 < (l1.length : Int) := of_decide_eq_true (by first | (with_reducible assumption) | assumption)
   obtain ⟨ad163, e163, hx163_0, hx163_1, hx163_2⟩ := at_T26 HR1.out x5_1 p163 q163
   have hw163_2 := hx163_2
   have hw163_1 := hx163_1
   have hw163_0 := hx163_0
   cases e163
   replace hx163_0 := hx_ HB hx163_0 (Zlt _ _ hx163_0)
   replace hx163_1 := hx_ HB hx163_1 (Zlt _ _ hx163_1)
   replace hx163_2 := hx_ HB hx163_2 (Zlt _ _ hx163_2)
   replace p163 := eq_true p163
   replace q163 := eq_true q163
   refine start_ (n := 10) (S := fun w' => w'.cell? (ad162.add ((x5_1).toNat * 3)) = some (.int .i64 ((rd_T26 l0 x5_1).f0)) ∧ w'.cell? ⟨(ad162.add ((x5_1).toNat * 3)).block, (ad162.add ((x5_1).toNat * 3)).off + 1, none⟩ = some (.string ((rd_T26 l0 x5_1).f1)) ∧ w'.cell? ⟨(ad162.add ((x5_1).toNat * 3)).block, (ad162.add ((x5_1).toNat * 3)).off + 2, none⟩ = some (.int .i64 ((rd_T26 l0 x5_1).f2)) ∧ w'.cell? (ad163.add ((x5_1).toNat * 3)) = some (.int .i64 ((rd_T26 l1 x5_1).f0)) ∧ w'.cell? ⟨(ad163.add ((x5_1).toNat * 3)).block, (ad163.add ((x5_1).toNat * 3)).off + 1, none⟩ = some (.string ((rd_T26 l1 x5_1).f1)) ∧ w'.cell? ⟨(ad163.add ((x5_1).toNat * 3)).block, (ad163.add ((x5_1).toNat * 3)).off + 2, none⟩ = some (.int .i64 ((rd_T26 l1 x5_1).f2))) (ds := []) #[false, false, false, false, false, false, false, false, false, false] (by kernel_rfl) rfl rfl ⟨((HB.out.cell (Zlt _ _ hw162_0)).trans hw162_0), ((HB.out.cell (Zlt _ _ hw162_1)).trans hw162_1), ((HB.out.cell (Zlt _ _ hw162_2)).trans hw162_2), ((HB.out.cell (Zlt _ _ hw163_0)).trans hw163_0), ((HB.out.cell (Zlt _ _ hw163_1)).trans hw163_1), ((HB.out.cell (Zlt _ _ hw163_2)).trans hw163_2)⟩ (fun hHeld => ?_); refine with_tabW laws_eqTypeS.tab6 laws_eqTypeS.bits6 (fun HT_ HW_ => ?_)
   generalize wr.drew = w9 at HB hx162_0 hx162_1 hx162_2 hx163_0 hx163_1 hx163_2 hHeld ⊢
   refine pure_ (i := 0) (N := some 17) (v := ?_) (a' := ?_) #[true, false, false, false, false, false, false, false, false, false] rfl rfl (any_of HT_.out (by kernel_rfl)) (fun _ _ _ h => h) (Or.inl ⟨by rfl, ?_⟩) ?_ ?_
   rotate_left
   · intro w'
     go_simp
     with_reducible rfl
   rotate_left
   · simp only [Act.put, List.setIfInBounds_toArray, List.set_cons_zero, List.set_cons_succ, i64_w, i32_w]
     rfl
   refine pure_ (i := 1) (N := some 18) (v := ?_) (a' := ?_) #[true, true, false, false, false, false, false, false, false, false] rfl rfl (any_of HT_.out (by kernel_rfl)) (fun _ _ _ h => h) (Or.inl ⟨by rfl, ?_⟩) ?_ ?_
   rotate_left
   · intro w'
     go_simp
     with_reducible rfl
   rotate_left
   · simp only [Act.put, List.setIfInBounds_toArray, List.set_cons_zero, List.set_cons_succ, i64_w, i32_w]
     rfl
   refine pure_ (i := 2) (N := some 19) (v := ?_) (a' := ?_) #[true, true, true, false, false, false, false, false, false, false] rfl rfl (any_of HT_.out (by kernel_rfl)) (fun _ _ _ h => h) (Or.inl ⟨by rfl, ?_⟩) ?_ ?_
   rotate_left
   · intro w'
     go_simp
     with_reducible rfl
   rotate_left
   · simp only [Act.put, List.setIfInBounds_toArray, List.set_cons_zero, List.set_cons_succ, i64_w, i32_w]
     rfl
   refine pure_ (i := 4) (N := some 21) (v := ?_) (a' := ?_) #[true, true, true, false, true, false, false, false, false, false] rfl rfl (any_of HT_.out (by kernel_rfl)) (fun _ _ _ h => h) (Or.inl ⟨by rfl, ?_⟩) ?_ ?_
   rotate_left
   · intro w'
     go_simp
     with_reducible rfl
   rotate_left
   · simp only [Act.put, List.setIfInBounds_toArray, List.set_cons_zero, List.set_cons_succ, i64_w, i32_w]
     rfl
   refine pure_ (i := 5) (N := some 22) (v := ?_) (a' := ?_) #[true, true, true, false, true, true, false, false, false, false] rfl rfl (any_of HT_.out (by kernel_rfl)) (fun _ _ _ h => h) (Or.inl ⟨by rfl, ?_⟩) ?_ ?_
   rotate_left
   · intro w'
     go_simp
     with_reducible rfl
   rotate_left
   · simp only [Act.put, List.setIfInBounds_toArray, List.set_cons_zero, List.set_cons_succ, i64_w, i32_w]
     rfl
   refine pure_ (i := 6) (N := some 23) (v := ?_) (a' := ?_) #[true, true, true, false, true, true, true, false, false, false] rfl rfl (any_of HT_.out (by kernel_rfl)) (fun _ _ _ h => h) (Or.inl ⟨by rfl, ?_⟩) ?_ ?_
   rotate_left
   · intro w'
     go_simp
     with_reducible rfl
   rotate_left
   · simp only [Act.put, List.setIfInBounds_toArray, List.set_cons_zero, List.set_cons_succ, i64_w, i32_w]
     rfl
   refine take_ (i := 3) (N := some 20) (v := ?_) (a' := ?_) #[true, true, true, true, true, true, true, false, false, false] rfl rfl (take_ofW HT_.out HW_.out (by kernel_rfl)) (fun _ _ _ h => h) (Or.inl ⟨by rfl, ?_⟩) hHeld ?_ ?_
   rotate_left
   · rintro w' ⟨s0, s1, s2, s3, s4, s5⟩
     go_simp
     with_reducible rfl
   rotate_left
   · simp only [Act.put, List.setIfInBounds_toArray, List.set_cons_zero, List.set_cons_succ, i64_w, i32_w]
     rfl
   refine take_ (i := 7) (N := some 24) (v := ?_) (a' := ?_) #[true, true, true, true, true, true, true, true, false, false] rfl rfl (take_ofW HT_.out HW_.out (by kernel_rfl)) (fun _ _ _ h => h) (Or.inl ⟨by rfl, ?_⟩) hHeld ?_ ?_
   rotate_left
   · rintro w' ⟨s0, s1, s2, s3, s4, s5⟩
     go_simp
     with_reducible rfl
   rotate_left
   · simp only [Act.put, List.setIfInBounds_toArray, List.set_cons_zero, List.set_cons_succ, i64_w, i32_w]
     rfl
   refine one_ (i := 8) (N := some 25) #[true, true, true, true, true, true, true, true, true, false] rfl rfl (one_of HT_.out (by kernel_rfl)) (by decide) (fun K hK => ?_)
   refine goes_ Tryd.func40 (by kernel_rfl) rfl #[.agg #[.int .i64 ((rd_T26 l0 x5_1).f0), .string ((rd_T26 l0 x5_1).f1), .int .i64 ((rd_T26 l0 x5_1).f2)], .agg #[.int .i64 ((rd_T26 l1 x5_1).f0), .string ((rd_T26 l1 x5_1).f1), .int .i64 ((rd_T26 l1 x5_1).f2)]] (by rfl) rfl rfl (by (try simp only [List.map_toArray, List.map_cons, List.map_nil]); first | done | rfl | (simp only [List.length_drop, List.length_take]; rfl)) ?_
   with_reducible refine (laws_eqType.calls ((rd_T26 l0 x5_1).f0) ((rd_T26 l0 x5_1).f1) ((rd_T26 l0 x5_1).f2) ((rd_T26 l1 x5_1).f0) ((rd_T26 l1 x5_1).f1) ((rd_T26 l1 x5_1).f2) t164 _ A7.out).mono ?_
   rintro e w10 ⟨rfl, hb⟩
   refine ⟨_, rfl, ?_⟩
   have n0_ := Zm (Zbt (bk HB.out) hb)
   clear HB
   have HB := n0_
   clear n0_
   refine hK.out _ _ ⟨((HB.out.cell (Zlt _ _ hw162_0)).trans hw162_0), ((HB.out.cell (Zlt _ _ hw162_1)).trans hw162_1), ((HB.out.cell (Zlt _ _ hw162_2)).trans hw162_2), ((HB.out.cell (Zlt _ _ hw163_0)).trans hw163_0), ((HB.out.cell (Zlt _ _ hw163_1)).trans hw163_1), ((HB.out.cell (Zlt _ _ hw163_2)).trans hw163_2)⟩ (fun hHeld => ?_)
   clear hK K
   refine norm_ (a' := ?_) ?_ ?_
   rotate_left
   · show Act.put _ (some 25) _ = _
     simp only [Act.put, List.setIfInBounds_toArray, List.set_cons_zero, List.set_cons_succ, i64_w, i32_w]
     rfl
   refine pure_ (i := 9) (N := some 26) (v := ?_) (a' := ?_) #[true, true, true, true, true, true, true, true, true, true] rfl rfl (any_of HT_.out (by kernel_rfl)) (fun _ _ _ h => h) (Or.inl ⟨by rfl, ?_⟩) ?_ ?_
   rotate_left
   · intro w'
     go_simp
     with_reducible rfl
   rotate_left
   · simp only [Act.put, List.setIfInBounds_toArray, List.set_cons_zero, List.set_cons_succ, i64_w, i32_w]
     rfl
   refine done_ (done_of HT_.out (by kernel_rfl)) ?_
   go_upto_if 26 with (fail)
   have H := HC8.out
   clear HC8
   by_cases c11 : t164 = true
   rotate_left
   · replace c11 := Bool.eq_false_iff.mpr c11
     subst c11
     rw [if_neg (show ¬ (false = true) by decide)] at H
     obtain rfl := Option.some.inj H
     go_wp2
     go_ret
     exact fin_ HB
   subst c11
   rw [if_pos rfl] at H
   have H' := Zm H
   clear H
   go_wp2
   go_roundg k1
   case measure => have := HK1.out; omega
   case rel => exact ⟨(wrap64 (x5_1 + 1)), (by first | rfl | (simp; done) | (simp [*]; done)), H', ⟨by have := HK1.out; omega⟩, ⟨bk HB.out⟩⟩
/-! ### laws_eqFrame: function 15 -/
def laws_eqFrame.f (k : Nat) (l0_0 : List (S26)) (l0_1 : List (S26)) (l1_0 : List (S26)) (l1_1 : List (S26)) : Option (Bool) := (laws_eqTypeS.f k l0_0 l1_0).bind fun t167 => (if t167 = true then ((laws_eqTypeS.f k l0_1 l1_1).bind fun t168 => (if t168 = true then (some true) else (some false))) else (some false))
set_option maxHeartbeats 8000000 in
set_option maxRecDepth 100000 in
theorem laws_eqFrame.calls (k : Nat) (A0_0 : Option Addr) (c0_0 : Nat) (l0_0 : List (S26)) (A0_1 : Option Addr) (c0_1 : Nat) (l0_1 : List (S26)) (A1_0 : Option Addr) (c1_0 : Nat) (l1_0 : List (S26)) (A1_1 : Option Addr) (c1_1 : Nat) (l1_1 : List (S26)) (r : Bool) (w : World) (hr0_0 : Kd.C k26 w A0_0 l0_0.length l0_0) (hc0_0 : l0_0.length ≤ c0_0) (hr0_1 : Kd.C k26 w A0_1 l0_1.length l0_1) (hc0_1 : l0_1.length ≤ c0_1) (hr1_0 : Kd.C k26 w A1_0 l1_0.length l1_0) (hc1_0 : l1_0.length ≤ c1_0) (hr1_1 : Kd.C k26 w A1_1 l1_1.length l1_1) (hc1_1 : l1_1.length ≤ c1_1) (h : laws_eqFrame.f k l0_0 l0_1 l1_0 l1_1 = some r) :
 Calls Tryd.prog 15 #[.agg #[.slice A0_0 l0_0.length c0_0, .slice A0_1 l0_1.length c0_1], .agg #[.slice A1_0 l1_0.length c1_0, .slice A1_1 l1_1.length c1_1]] w fun e w' => e = .returned (.bool r) ∧ Below w.heap.size w w' := by
 have hu36 := Tryd.underlying36; have HR0_0 := Zm hr0_0; have HC0_0 := Zm hc0_0; clear hr0_0 hc0_0; have HR0_1 := Zm hr0_1; have HC0_1 := Zm hc0_1; clear hr0_1 hc0_1; have HR1_0 := Zm hr1_0; have HC1_0 := Zm hc1_0; clear hr1_0 hc1_0; have HR1_1 := Zm hr1_1; have HC1_1 := Zm hc1_1; clear hr1_1 hc1_1; have HB := Zm (Below.refl w.heap.size w); have H : ((laws_eqTypeS.f k l0_0 l1_0).bind fun t167 => (if t167 = true then ((laws_eqTypeS.f k l0_1 l1_1).bind fun t168 => (if t168 = true then (some true) else (some false))) else (some false))) = some r := h; clear h; replace H := Option.bind_eq_some_iff.mp H; obtain ⟨t167, A30, H⟩ := H; (try dsimp only at H); have A3 := Zm A30; clear A30; have HC4 := Zm H; clear H; go_enter Tryd.func15, Tryd.ntmps15; go_upto_if 10 with (first | ((with_reducible refine gate_dst (N := 2) rfl ?_); refine box_event ?hg (N := 2) ?hd (cs := #[.slice A0_0 l0_0.length c0_0, .slice A0_1 l0_1.length c0_1]) (t := 36) ?hr ?_; (case hd => rfl); (case hg => rfl); (case hr => first | (go_simp; done) | (go_simp; rfl)); intro gb165 hg w5 hbox hb; have n0_ := (⟨Zm (Zbt (bk HB.out) hb), Zm (hbox), Zm ((by rw [hg]; exact (Zbz (bk HB.out)) : w.heap.size ≤ gb165)), Zm ((by rw [hg]; exact (Zbz (bk HB.out)) : w.heap.size ≤ gb165))⟩ : _ ∧ _ ∧ _ ∧ _); clear HB; obtain ⟨HB, BK165, GW165, GE165⟩ := n0_; clear hb hbox hg) | ((with_reducible refine gate_dst (N := 3) rfl ?_); refine box_event ?hg (N := 3) ?hd (cs := #[.slice A1_0 l1_0.length c1_0, .slice A1_1 l1_1.length c1_1]) (t := 36) ?hr ?_; (case hd => rfl); (case hg => rfl); (case hr => first | (go_simp; done) | (go_simp; rfl)); intro gb166 hg w6 hbox hb; have n0_ := (⟨Zm (Zkb (pk BK165.out) hb), Zm (Zbt (bk HB.out) hb), Zm (hbox), Zm ((by rw [hg]; exact (Zbz (bk HB.out)) : w.heap.size ≤ gb166)), Zm ((by rw [hg]; exact (Zbz (bk HB.out)) : w.heap.size ≤ gb166)), Zm ((by rw [hg]; exact Nat.ne_of_lt (blk_lt (pk BK165.out)) : gb165 ≠ gb166)), Zm ((by rw [hg]; exact Nat.ne_of_gt (blk_lt (pk BK165.out)) : gb166 ≠ gb165))⟩ : _ ∧ _ ∧ _ ∧ _ ∧ _ ∧ _ ∧ _); clear BK165 HB; obtain ⟨BK165, HB, BK166, GW166, GE166, NB165_166, NB166_165⟩ := n0_; clear hb hbox hg; have hnb7 := NB165_166.out; have hnc7 := NB166_165.out; obtain ⟨hcz8_0, hcz8_1⟩ := cz2 BK165.out; obtain ⟨hcz9_0, hcz9_1⟩ := cz2 BK166.out; have hfz9_1 := Zkf BK166.out 1) | ((with_reducible refine gate_callee (f := 29) rfl ?_); refine ge_ (some 9) Tryd.func29 #[.slice A0_0 l0_0.length c0_0, .slice A1_0 l1_0.length c1_0] ?_; (with_reducible refine (laws_eqTypeS.calls _ _ _ _ _ _ _ _ _ ?side1 ?side2 ?side3 ?side4 A3.out).mono ?_); (case side1 => exact pc (Kd.C_below HR0_0.out HB.out)); (case side2 => exact HC0_0.out); (case side3 => exact pc (Kd.C_below HR1_0.out HB.out)); (case side4 => exact HC1_0.out); rintro e w10 ⟨rfl, hb⟩; refine ⟨_, rfl, ?_⟩; have n0_ := (⟨Zm (Zkb (pk BK165.out) hb), Zm (Zkb (pk BK166.out) hb), Zm (Zbt (bk HB.out) hb)⟩ : _ ∧ _ ∧ _); clear BK165 BK166 HB; obtain ⟨BK165, BK166, HB⟩ := n0_; (try clear hb); (try clear hb2); (try clear hk); (try clear hi))); have H := HC4.out; clear HC4; by_cases c11 : t167 = true; rotate_left
 · replace c11 := Bool.eq_false_iff.mpr c11; subst c11; rw [if_neg (show ¬ (false = true) by decide)] at H; obtain rfl := Option.some.inj H; go_wp2; go_ret; exact fin_ HB

 subst c11
 rw [if_pos rfl] at H
 replace H := Option.bind_eq_some_iff.mp H
 obtain ⟨t168, A120, H⟩ := H
 (try dsimp only at H)
 have A12 := Zm A120
 clear A120
 have HC13 := Zm H
 clear H
 have hnb14 := NB165_166.out
 have hnc14 := NB166_165.out
 obtain ⟨hcz15_0, hcz15_1⟩ := cz2 BK165.out
 obtain ⟨hcz16_0, hcz16_1⟩ := cz2 BK166.out
 (try clear BK165)
 (try clear BK166)
 go_upto_if 16 with (first | ((with_reducible refine gate_callee (f := 29) rfl ?_); refine ge_ (some 15) Tryd.func29 #[.slice A0_1 l0_1.length c0_1, .slice A1_1 l1_1.length c1_1] ?_; (with_reducible refine (laws_eqTypeS.calls _ _ _ _ _ _ _ _ _ ?side1 ?side2 ?side3 ?side4 A12.out).mono ?_); (case side1 => exact pc (Kd.C_below HR0_1.out HB.out)); (case side2 => exact HC0_1.out); (case side3 => exact pc (Kd.C_below HR1_1.out HB.out)); (case side4 => exact HC1_1.out); rintro e w17 ⟨rfl, hb⟩; refine ⟨_, rfl, ?_⟩; have n0_ := Zm (Zbt (bk HB.out) hb); clear HB; have HB := n0_; clear n0_; (try clear hb); (try clear hb2); (try clear hk); (try clear hi)))
 have H := HC13.out
 clear HC13
 by_cases c18 : t168 = true
 rotate_left
 · replace c18 := Bool.eq_false_iff.mpr c18
   subst c18
   rw [if_neg (show ¬ (false = true) by decide)] at H
   obtain rfl := Option.some.inj H
   go_wp2
   go_ret
   exact fin_ HB
 subst c18
 rw [if_pos rfl] at H
 obtain rfl := Option.some.inj H
 go_wp2
 go_ret
 exact fin_ HB
end Go.Proofs.YtdfnljchoomliaaDoor.PFnExactFrameShown
