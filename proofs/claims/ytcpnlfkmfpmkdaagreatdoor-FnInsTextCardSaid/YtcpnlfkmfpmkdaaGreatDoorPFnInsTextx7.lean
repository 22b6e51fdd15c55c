/- Functions of the program as plain Lean functions, each with a proof that the program's call comes to the same; no condition. Written by a program of this session. -/
import Derived.Test.YtcpnlfkmfpmkdaaGreatDoorPFnInsTextx0
import Derived.Test.YtcpnlfkmfpmkdaaGreatDoorPFnInsTextx3
import Derived.Test.YtcpnlfkmfpmkdaaGreatDoorPFnInsTextx6
namespace Go.Proofs.YtcpnlfkmfpmkdaaGreatDoor.PFnInsText
open Go.RowKit Go.Proofs.YtcpnlfkmfpmkdaaGreatDoorW.PrintWords Go.Proofs.YtcpnlfkmfpmkdaaGreatDoorW.PrintLast Go.Proofs.YtcpnlfkmfpmkdaaGreatDoorW.PrintMore
open Go.Proofs.YtcpnlfkmfpmkdaaGreatDoorW.PrintWords renaming below_size → Zbz, below_step → Zbt, blk_frozen → Zkf, blk_below → Zkb
open Go.Proofs.YtcpnlfkmfpmkdaaGreatDoorW.PrintWords.Aside0 renaming mk → Zm
attribute [local go_sem] max2_int min2_int max_two min_two max_three min_three max_four min_four   -- for this text's walks alone
set_option linter.unusedVariables false
set_option linter.unusedSimpArgs false

/-! ### impl_insText: function 38 -/
def impl_insText.j0 : Nat → List ByteArray → ByteArray → Bool → Int → Int → ByteArray → ByteArray → ByteArray → Option (ByteArray)
 | 0, _, _, _, _, _, _, _, _ => none
 | k + 1, x3, x10, x11, x406000, x406001, x406002, x406003, x406004 => if x11 = true then ((impl_text.f x406001).bind fun t411 => (if x3.length < 8796093022208 then ((strings_Join.f (x3 ++ [t411]) (⟨#[32]⟩ : ByteArray)).bind fun t415 => (some t415)) else (none))) else (if x10.toList = ([99] : List UInt8) then (if x3.length < 8796093022208 then ((strings_Join.f (x3 ++ [x406002]) (⟨#[32]⟩ : ByteArray)).bind fun t419 => (some t419)) else (none)) else (if x10.toList = ([121] : List UInt8) then (if x3.length < 8796093022208 then ((strings_Join.f (x3 ++ [x406004]) (⟨#[32]⟩ : ByteArray)).bind fun t423 => (some t423)) else (none)) else (if x10.toList = ([102] : List UInt8) then ((some (([x406002, x406003, x406004] : List ByteArray) : List ByteArray)).bind fun y424 => (if x3.length + y424.length < 8796093022208 then ((strings_Join.f (x3 ++ y424) (⟨#[32]⟩ : ByteArray)).bind fun t430 => (some t430)) else (none))) else (if x10.toList = ([109] : List UInt8) then ((some (([x406002, x406003, x406004] : List ByteArray) : List ByteArray)).bind fun y431 => (if x3.length + y431.length < 8796093022208 then ((strings_Join.f (x3 ++ y431) (⟨#[32]⟩ : ByteArray)).bind fun t437 => (some t437)) else (none))) else ((strings_Join.f x3 (⟨#[32]⟩ : ByteArray)).bind fun t438 => (some t438))))))
def impl_insText.f (k : Nat) (a0_0 : Int) (a0_1 : Int) (a0_2 : ByteArray) (a0_3 : ByteArray) (a0_4 : ByteArray) : Option (ByteArray) := (impl_OpName.f a0_0).bind fun t406 => ((some (([t406] : List ByteArray) : List ByteArray)).bind fun y407 => ((impl_OpForm.f a0_0).bind fun t410 => (if t410.toList = ([110] : List UInt8) then (impl_insText.j0 k y407 t410 (t410.toList == ([110] : List UInt8)) a0_0 a0_1 a0_2 a0_3 a0_4) else (if t410.toList = ([105] : List UInt8) then (impl_insText.j0 k y407 t410 (t410.toList == ([105] : List UInt8)) a0_0 a0_1 a0_2 a0_3 a0_4) else (impl_insText.j0 k y407 t410 (t410.toList == ([116] : List UInt8)) a0_0 a0_1 a0_2 a0_3 a0_4)))))
set_option maxHeartbeats 8000000 in
set_option maxRecDepth 100000 in
theorem impl_insText.calls (k : Nat) (a0_0 : Int) (a0_1 : Int) (a0_2 : ByteArray) (a0_3 : ByteArray) (a0_4 : ByteArray) (r : ByteArray) (w : World) (h : impl_insText.f k a0_0 a0_1 a0_2 a0_3 a0_4 = some r) (htab : Tabs w := by exact tab_) :
 Calls Tryz.prog 38 #[.agg #[.int .i64 a0_0, .int .i64 a0_1, .string a0_2, .string a0_3, .string a0_4]] w fun e w' => e = .returned (.string r) ∧ Below w.heap.size w w' := by
 have HTAB := Zm htab
 clear htab
 have hu44 := Tryz.underlying44; have HB := Zm (Below.refl w.heap.size w); have H : ((impl_OpName.f a0_0).bind fun t406 => ((some (([t406] : List ByteArray) : List ByteArray)).bind fun y407 => ((impl_OpForm.f a0_0).bind fun t410 => (if t410.toList = ([110] : List UInt8) then (impl_insText.j0 k y407 t410 (t410.toList == ([110] : List UInt8)) a0_0 a0_1 a0_2 a0_3 a0_4) else (if t410.toList = ([105] : List UInt8) then (impl_insText.j0 k y407 t410 (t410.toList == ([105] : List UInt8)) a0_0 a0_1 a0_2 a0_3 a0_4) else (impl_insText.j0 k y407 t410 (t410.toList == ([116] : List UInt8)) a0_0 a0_1 a0_2 a0_3 a0_4)))))) = some r := h; clear h; replace H := Option.bind_eq_some_iff.mp H; obtain ⟨t406, A20, H⟩ := H; (try dsimp only at H); have A2 := Zm A20; clear A20; obtain ⟨y407, hy407⟩ : ∃ y_ : List ByteArray, y_ = (([t406] : List ByteArray)) := ⟨_, rfl⟩; replace H : ((impl_OpForm.f a0_0).bind fun t410 => (if t410.toList = ([110] : List UInt8) then (impl_insText.j0 k y407 t410 (t410.toList == ([110] : List UInt8)) a0_0 a0_1 a0_2 a0_3 a0_4) else (if t410.toList = ([105] : List UInt8) then (impl_insText.j0 k y407 t410 (t410.toList == ([105] : List UInt8)) a0_0 a0_1 a0_2 a0_3 a0_4) else (impl_insText.j0 k y407 t410 (t410.toList == ([116] : List UInt8)) a0_0 a0_1 a0_2 a0_3 a0_4)))) = some r := by first | (rw [hy407]; with_reducible exact H) | (have H2_ := (Option.bind_some _ _).symm.trans H; rw [hy407]; with_reducible exact H2_) | (have H2_ := (Option.bind_some _ _).symm.trans H; with_reducible exact H2_) | with_reducible exact H | (rw [hy407]; exact H) | exact H
 have Ny407 := Zm hy407; clear hy407; replace H := Option.bind_eq_some_iff.mp H; obtain ⟨t410, A30, H⟩ := H; (try dsimp only at H); have A3 := Zm A30; clear A30; have HC4 := Zm H; clear H; go_enter Tryz.func38, Tryz.ntmps38; go_upto_if 11 with (first | ((with_reducible refine gate_dst (N := 1) rfl ?_); refine box_event ?hg (N := 1) ?hd (cs := #[.int .i64 a0_0, .int .i64 a0_1, .string a0_2, .string a0_3, .string a0_4]) (t := 44) ?hr ?_; (case hd => rfl); (case hg => rfl); (case hr => first | (go_simp; done) | (go_simp; rfl)); intro gb405 hg w5 hbox hb; have n0_ := (⟨Zm (Zbt (bk HB.out) hb), Zm (hbox), Zm ((by rw [hg]; exact (Zbz (bk HB.out)) : w.heap.size ≤ gb405)), Zm ((by rw [hg]; exact (Zbz (bk HB.out)) : w.heap.size ≤ gb405))⟩ : _ ∧ _ ∧ _ ∧ _); clear HB; obtain ⟨HB, BK405, GW405, GE405⟩ := n0_; clear hb hbox hg; obtain ⟨hcz6_0, hcz6_1, hcz6_2, hcz6_3, hcz6_4⟩ := cz5 BK405.out; have hfz6_4 := Zkf BK405.out 4) | ((with_reducible refine gate_callee (f := 23) rfl ?_); refine ge_ (some 6) Tryz.func23 #[.int .i64 a0_0] ?_; (with_reducible refine (impl_OpName.calls _ _ _ A2.out).mono ?_); rintro e w7 ⟨rfl, hb⟩; refine ⟨_, rfl, ?_⟩; have n0_ := (⟨Zm (Zkb (pk BK405.out) hb), Zm (Zbt (bk HB.out) hb)⟩ : _ ∧ _); clear BK405 HB; obtain ⟨BK405, HB⟩ := n0_; (try clear hb); (try clear hb2); (try clear hk); (try clear hi)) | ((with_reducible refine gate_dst (N := 7) rfl ?_); refine Kd.R_lit Kd.string _ 9 ?hg (N := 7) ?hd (xs := ([t406] : List ByteArray)) (inner := [.string t406]) (ok := fun _ => True) (okp := fun _ => True) ?hr ?hp (fun _ hk => hk) trivial (Below.refl _ _) (Nat.le_refl _) (by simp) ?_; (case hd => rfl); (case hg => rfl); (case hr => first | (go_simp; done) | (go_simp; rfl)); (case hp => exact (Reps.one (show Kd.M Kd.string _ _ _ t406 [.string t406] from rfl) (Reps.none _ _))); intro v408 w8 ho9 hb hg_ hnew_; clear hg_ hnew_; (first | rw [← Ny407.out] at ho9 | (simp only [Int.reduceToNat] at ho9; rw [← Ny407.out] at ho9)); have n0_ := (⟨Zm (Kd.R_lower ho9 (Zbz (bk HB.out))), Zm (Zkb (pk BK405.out) hb), Zm (Zbt (bk HB.out) hb)⟩ : _ ∧ _ ∧ _); clear BK405 HB; obtain ⟨HO409, BK405, HB⟩ := n0_; clear hb ho9; obtain ⟨hcz10_0, hcz10_1, hcz10_2, hcz10_3, hcz10_4⟩ := cz5 BK405.out; have hfz10_4 := Zkf BK405.out 4) | ((with_reducible refine gate_callee (f := 48) rfl ?_); refine ge_ (some 10) Tryz.func48 #[.int .i64 a0_0] ?_; (with_reducible refine (impl_OpForm.calls _ _ _ A3.out).mono ?_); rintro e w11 ⟨rfl, hb⟩; refine ⟨_, rfl, ?_⟩; have n0_ := (⟨Zm (Kd.R_below (by (with_reducible repeat (first | apply Kd.R_alloc | apply Kd.R_drewN | apply Kd.R_drew)); exact HO409.out) hb), Zm (Zkb (pk BK405.out) hb), Zm (Zbt (bk HB.out) hb)⟩ : _ ∧ _ ∧ _); clear HO409 BK405 HB; obtain ⟨HO409, BK405, HB⟩ := n0_; (try clear hb); (try clear hb2); (try clear hk); (try clear hi))); (try simp only [Act.put, List.setIfInBounds_toArray, List.set_cons_zero, List.set_cons_succ]); go_cut [11] (fun v11 wc => ∃ (kq : Nat) (x11_3 : Bool), v11 = .bool x11_3 ∧ Aside0 (impl_insText.j0 kq y407 t410 x11_3 a0_0 a0_1 a0_2 a0_3 a0_4 = some r) ∧ Aside0 (kq ≤ k) ∧ Aside0 (Kd.R Kd.string 9 wc w.heap.size (fun _ => True) v408 y407) ∧ Aside0 (wc.heap[gb405]? = some (.cells #[.int .i64 a0_0, .int .i64 a0_1, .string a0_2, .string a0_3, .string a0_4] 44 (0, 0))) ∧ Aside0 (Below w.heap.size w wc))
 case first =>
  have H := HC4.out; clear HC4; by_cases c12 : t410.toList = ([110] : List UInt8); rotate_left
  · rw [if_neg c12] at H; have c12b0 : (t410.toList == ([110] : List UInt8)) = false := beq_eq_false_iff_ne.mpr c12; have c12b1 : (t410.toList != ([110] : List UInt8)) = true := bne_iff_ne.mpr c12; (first | rw [c12b0] | (simp only [i64_w, i32_w]; rw [c12b0]) | skip); by_cases c13 : t410.toList = ([105] : List UInt8); rotate_left
    · rw [if_neg c13] at H; have c13b0 : (t410.toList == ([105] : List UInt8)) = false := beq_eq_false_iff_ne.mpr c13; have c13b1 : (t410.toList != ([105] : List UInt8)) = true := bne_iff_ne.mpr c13; have H' := Zm H; clear H; go_wp2; go_meet
      case rel => exact ⟨_, ((t410.toList == ([116] : List UInt8))), (by first | rfl | (simp; done) | (simp [*]; done)), H', ⟨by first | omega | exact Nat.le_refl _⟩, ⟨by (with_reducible repeat (first | apply Kd.R_alloc | apply Kd.R_drewN | apply Kd.R_drew)); exact HO409.out⟩, ⟨pk BK405.out⟩, ⟨bk HB.out⟩⟩
    rw [if_pos c13] at H; have c13b0 : (t410.toList == ([105] : List UInt8)) = true := beq_iff_eq.mpr c13; have c13b1 : (t410.toList != ([105] : List UInt8)) = false := bne_eq_false_iff_eq.mpr c13; clear c13; have H' := Zm H; clear H; go_wp2; go_meet
    case rel => exact ⟨_, ((t410.toList == ([105] : List UInt8))), (by first | rfl | (simp; done) | (simp [*]; done)), H', ⟨by first | omega | exact Nat.le_refl _⟩, ⟨by (with_reducible repeat (first | apply Kd.R_alloc | apply Kd.R_drewN | apply Kd.R_drew)); exact HO409.out⟩, ⟨pk BK405.out⟩, ⟨bk HB.out⟩⟩
  rw [if_pos c12] at H; have c12b0 : (t410.toList == ([110] : List UInt8)) = true := beq_iff_eq.mpr c12; have c12b1 : (t410.toList != ([110] : List UInt8)) = false := bne_eq_false_iff_eq.mpr c12; clear c12; (first | rw [c12b0] | (simp only [i64_w, i32_w]; rw [c12b0]) | skip); have H' := Zm H; clear H; go_wp2; go_meet
  case rel => exact ⟨_, ((t410.toList == ([110] : List UInt8))), (by first | rfl | (simp; done) | (simp [*]; done)), H', ⟨by first | omega | exact Nat.le_refl _⟩, ⟨by (with_reducible repeat (first | apply Kd.R_alloc | apply Kd.R_drewN | apply Kd.R_drew)); exact HO409.out⟩, ⟨pk BK405.out⟩, ⟨bk HB.out⟩⟩
 case rest =>
  clear HC4; (try clear hcz10_0); (try clear hcz10_1); (try clear hcz10_2); (try clear hcz10_3); (try clear hcz10_4); (try clear hcz6_0); (try clear hcz6_1); (try clear hcz6_2); (try clear hcz6_3); (try clear hcz6_4); (try clear hfz10_4); (try clear hfz6_4); obtain ⟨kq, x11_3, rfl, HA, HJ3, HO_3, BK405, HB⟩ := hcut
  cases kq with
  | zero => exact absurd HA.out (by simp [impl_insText.j0])
  | succ kj3 =>
   have H := HA.out; clear HA; simp only [impl_insText.j0] at H; by_cases c14 : x11_3 = true; rotate_left
   · replace c14 := Bool.eq_false_iff.mpr c14; subst c14; rw [if_neg (show ¬ (false = true) by decide)] at H; by_cases c23 : t410.toList = ([99] : List UInt8); rotate_left
     · rw [if_neg c23] at H; have c23b0 : (t410.toList == ([99] : List UInt8)) = false := beq_eq_false_iff_ne.mpr c23; have c23b1 : (t410.toList != ([99] : List UInt8)) = true := bne_iff_ne.mpr c23; by_cases c30 : t410.toList = ([121] : List UInt8); rotate_left
       · rw [if_neg c30] at H; have c30b0 : (t410.toList == ([121] : List UInt8)) = false := beq_eq_false_iff_ne.mpr c30; have c30b1 : (t410.toList != ([121] : List UInt8)) = true := bne_iff_ne.mpr c30; by_cases c37 : t410.toList = ([102] : List UInt8); rotate_left
         · rw [if_neg c37] at H; have c37b0 : (t410.toList == ([102] : List UInt8)) = false := beq_eq_false_iff_ne.mpr c37; have c37b1 : (t410.toList != ([102] : List UInt8)) = true := bne_iff_ne.mpr c37; by_cases c47 : t410.toList = ([109] : List UInt8); rotate_left
           · rw [if_neg c47] at H; have c47b0 : (t410.toList == ([109] : List UInt8)) = false := beq_eq_false_iff_ne.mpr c47; have c47b1 : (t410.toList != ([109] : List UInt8)) = true := bne_iff_ne.mpr c47; replace H := Option.bind_eq_some_iff.mp H; obtain ⟨t438, A570, H⟩ := H; (try dsimp only at H); have A57 := Zm A570; clear A570; obtain rfl := Option.some.inj H; (try clear BK405); obtain ⟨Ao58, co58, eo58⟩ := Kd.R_slice HO_3.out; subst eo58; go_wp2_with (first | ((with_reducible refine gate_callee (f := 81) rfl ?_); refine ge_ (some 48) Tryz.func81 #[.slice Ao58 y407.length co58, .string (⟨#[32]⟩ : ByteArray)] ?_; (with_reducible refine (strings_Join.calls _ _ _ _ _ _ ?side1 ?side2 A57.out).mono ?_); (case side1 => exact pc (Kd.R_reads' HO_3.out).2.2); (case side2 => exact (Kd.R_reads' HO_3.out).2.1); rintro e w59 ⟨rfl, hb⟩; refine ⟨_, rfl, ?_⟩; have n0_ := (⟨Zm (Kd.R_below (by (with_reducible repeat (first | apply Kd.R_alloc | apply Kd.R_drewN | apply Kd.R_drew)); exact HO_3.out) hb), Zm (Zbt (bk HB.out) hb)⟩ : _ ∧ _); clear HO_3 HB; obtain ⟨HO_3, HB⟩ := n0_; (try clear hb); (try clear hb2); (try clear hk); (try clear hi))); go_ret; exact fin_ HB

           rw [if_pos c47] at H
           have c47b0 : (t410.toList == ([109] : List UInt8)) = true := beq_iff_eq.mpr c47
           have c47b1 : (t410.toList != ([109] : List UInt8)) = false := bne_eq_false_iff_eq.mpr c47
           clear c47
           obtain ⟨y431, hy431⟩ : ∃ y_ : List ByteArray, y_ = (([a0_2, a0_3, a0_4] : List ByteArray)) := ⟨_, rfl⟩
           replace H : (if y407.length + y431.length < 8796093022208 then ((strings_Join.f (y407 ++ y431) (⟨#[32]⟩ : ByteArray)).bind fun t437 => (some t437)) else (none)) = some r := by first | (rw [hy431]; with_reducible exact H) | (have H2_ := (Option.bind_some _ _).symm.trans H; rw [hy431]; with_reducible exact H2_) | (have H2_ := (Option.bind_some _ _).symm.trans H; with_reducible exact H2_) | with_reducible exact H | (rw [hy431]; exact H) | exact H
           have Ny431 := Zm hy431
           clear hy431
           by_cases c48 : y407.length + y431.length < 8796093022208
           rotate_left
           · rw [if_neg c48] at H
             exact absurd H (by simp)
           rw [if_pos c48] at H
           have LMc48 := Zm c48
           clear c48
           obtain ⟨y434, hy434⟩ : ∃ y_ : List ByteArray, y_ = (y407 ++ y431) := ⟨_, rfl⟩
           replace H : ((strings_Join.f y434 (⟨#[32]⟩ : ByteArray)).bind fun t437 => (some t437)) = some r := by first | (rw [hy434]; with_reducible exact H) | (have H2_ := (Option.bind_some _ _).symm.trans H; rw [hy434]; with_reducible exact H2_) | (have H2_ := (Option.bind_some _ _).symm.trans H; with_reducible exact H2_) | with_reducible exact H | (rw [hy434]; exact H) | exact H
           have Ny434 := Zm hy434
           clear hy434
           replace H := Option.bind_eq_some_iff.mp H
           obtain ⟨t437, A490, H⟩ := H
           (try dsimp only at H)
           have A49 := Zm A490
           clear A490
           obtain rfl := Option.some.inj H
           obtain ⟨hcz50_0, hcz50_1, hcz50_2, hcz50_3, hcz50_4⟩ := cz5 BK405.out
           (try clear BK405)
           go_wp2_with (first | ((with_reducible refine gate_dst (N := 45) rfl ?_); refine Kd.R_lit Kd.string _ 9 ?hg (N := 45) ?hd (xs := ([a0_2, a0_3, a0_4] : List ByteArray)) (inner := [.string a0_2, .string a0_3, .string a0_4]) (ok := fun _ => True) (okp := fun _ => True) ?hr ?hp (fun _ hk => hk) trivial (Below.refl _ _) (Nat.le_refl _) (by simp) ?_; (case hd => rfl); (case hg => rfl); (case hr => first | (go_simp; done) | (go_simp; rfl)); (case hp => exact (Reps.one (show Kd.M Kd.string _ _ _ a0_2 [.string a0_2] from rfl) (Reps.one (show Kd.M Kd.string _ _ _ a0_3 [.string a0_3] from rfl) (Reps.one (show Kd.M Kd.string _ _ _ a0_4 [.string a0_4] from rfl) (Reps.none _ _))))); intro v432 w51 ho52 hb hg_ hnew_; clear hg_ hnew_; (first | rw [← Ny431.out] at ho52 | (simp only [Int.reduceToNat] at ho52; rw [← Ny431.out] at ho52)); have n0_ := (⟨Zm (Kd.R_elder' (by (with_reducible repeat (first | apply Kd.R_alloc | apply Kd.R_drewN | apply Kd.R_drew)); exact HO_3.out) (Kd.R_base ho52) hb), Zm (Kd.R_lower (Kd.R_new' ho52 (Kd.R_lt (by (with_reducible repeat (first | apply Kd.R_alloc | apply Kd.R_drewN | apply Kd.R_drew)); exact HO_3.out))) (Zbz (bk HB.out))), Zm (Zbt (bk HB.out) hb)⟩ : _ ∧ _ ∧ _); clear HO_3 HB; obtain ⟨HO_3, HO433, HB⟩ := n0_; clear hb ho52; obtain ⟨Ao54, co54, eo54⟩ := Kd.R_slice HO433.out; subst eo54) | ((with_reducible refine gate_builtin (b := .append) (xs := #[.tmp 38, .tmp 45]) rfl ?_); at_builtin; refine Kd.R_append_rows Kd.string (w0 := w) w.heap.size rfl (.tmp 38) (.tmp 45) 72 9 (.string ⟨#[]⟩) 16 rfl Tryz.underlying72 info9 rfl (by decide) (by omega) v408 y407 y431 _ _ _ (fun k_ => some k_ ≠ (.slice Ao54 y431.length co54 : Value).ownBlock) (fun _ => False) rfl rfl ?aO ?aR (fun _ _ h => h) (fun _ h => h.elim) ?aF ?aB ?aS ?aL ?_; (case aR => exact pc (Kd.R_reads' HO433.out).2.2); (case aB => exact (bk HB.out)); (case aF => exact (fun k_ hk => Kd.fresh' (Kd.R_lt (by (with_reducible repeat (first | apply Kd.R_alloc | apply Kd.R_drewN | apply Kd.R_drew)); exact HO433.out)) k_ hk)); (case aO => exact (by (with_reducible repeat (first | apply Kd.R_alloc | apply Kd.R_drewN | apply Kd.R_drew)); exact Kd.R_mono HO_3.out (fun _ hk => hk.2))); (case aS => exact (Zbz (bk HB.out))); (case aL => have := LMc48.out; omega); intro v435 w53 ho hb hg hat; rw [← Ny434.out] at ho; have n0_ := (⟨Zm (Kd.R_after (ok := (fun _ => True)) (by (with_reducible repeat (first | apply Kd.R_alloc | apply Kd.R_drewN | apply Kd.R_drew)); exact HO433.out) hg hat), Zm (hb), Zm (ho)⟩ : _ ∧ _ ∧ _); clear HO433 HB HO_3; obtain ⟨HO433, HB, HO436⟩ := n0_; clear ho hb hg hat; (try clear HO433); obtain ⟨Ao55, co55, eo55⟩ := Kd.R_slice HO436.out; subst eo55) | ((with_reducible refine gate_callee (f := 81) rfl ?_); refine ge_ (some 48) Tryz.func81 #[.slice Ao55 y434.length co55, .string (⟨#[32]⟩ : ByteArray)] ?_; (with_reducible refine (strings_Join.calls _ _ _ _ _ _ ?side1 ?side2 A49.out).mono ?_); (case side1 => exact pc (Kd.R_reads' HO436.out).2.2); (case side2 => exact (Kd.R_reads' HO436.out).2.1); rintro e w56 ⟨rfl, hb⟩; refine ⟨_, rfl, ?_⟩; have n0_ := (⟨Zm (Kd.R_below (by (with_reducible repeat (first | apply Kd.R_alloc | apply Kd.R_drewN | apply Kd.R_drew)); exact HO436.out) hb), Zm (Zbt (bk HB.out) hb)⟩ : _ ∧ _); clear HO436 HB; obtain ⟨HO436, HB⟩ := n0_; (try clear hb); (try clear hb2); (try clear hk); (try clear hi)))
           go_ret
           exact fin_ HB
         rw [if_pos c37] at H
         have c37b0 : (t410.toList == ([102] : List UInt8)) = true := beq_iff_eq.mpr c37
         have c37b1 : (t410.toList != ([102] : List UInt8)) = false := bne_eq_false_iff_eq.mpr c37
         clear c37
         obtain ⟨y424, hy424⟩ : ∃ y_ : List ByteArray, y_ = (([a0_2, a0_3, a0_4] : List ByteArray)) := ⟨_, rfl⟩
         replace H : (if y407.length + y424.length < 8796093022208 then ((strings_Join.f (y407 ++ y424) (⟨#[32]⟩ : ByteArray)).bind fun t430 => (some t430)) else (none)) = some r := by first | (rw [hy424]; with_reducible exact H) | (have H2_ := (Option.bind_some _ _).symm.trans H; rw [hy424]; with_reducible exact H2_) | (have H2_ := (Option.bind_some _ _).symm.trans H; with_reducible exact H2_) | with_reducible exact H | (rw [hy424]; exact H) | exact H
         have Ny424 := Zm hy424
         clear hy424
         by_cases c38 : y407.length + y424.length < 8796093022208
         rotate_left
         · rw [if_neg c38] at H
           exact absurd H (by simp)
         rw [if_pos c38] at H
         have LMc38 := Zm c38
         clear c38
         obtain ⟨y427, hy427⟩ : ∃ y_ : List ByteArray, y_ = (y407 ++ y424) := ⟨_, rfl⟩
         replace H : ((strings_Join.f y427 (⟨#[32]⟩ : ByteArray)).bind fun t430 => (some t430)) = some r := by first | (rw [hy427]; with_reducible exact H) | (have H2_ := (Option.bind_some _ _).symm.trans H; rw [hy427]; with_reducible exact H2_) | (have H2_ := (Option.bind_some _ _).symm.trans H; with_reducible exact H2_) | with_reducible exact H | (rw [hy427]; exact H) | exact H
         have Ny427 := Zm hy427
         clear hy427
         replace H := Option.bind_eq_some_iff.mp H
         obtain ⟨t430, A390, H⟩ := H
         (try dsimp only at H)
         have A39 := Zm A390
         clear A390
         obtain rfl := Option.some.inj H
         obtain ⟨hcz40_0, hcz40_1, hcz40_2, hcz40_3, hcz40_4⟩ := cz5 BK405.out
         (try clear BK405)
         go_wp2_with (first | ((with_reducible refine gate_dst (N := 45) rfl ?_); refine Kd.R_lit Kd.string _ 9 ?hg (N := 45) ?hd (xs := ([a0_2, a0_3, a0_4] : List ByteArray)) (inner := [.string a0_2, .string a0_3, .string a0_4]) (ok := fun _ => True) (okp := fun _ => True) ?hr ?hp (fun _ hk => hk) trivial (Below.refl _ _) (Nat.le_refl _) (by simp) ?_; (case hd => rfl); (case hg => rfl); (case hr => first | (go_simp; done) | (go_simp; rfl)); (case hp => exact (Reps.one (show Kd.M Kd.string _ _ _ a0_2 [.string a0_2] from rfl) (Reps.one (show Kd.M Kd.string _ _ _ a0_3 [.string a0_3] from rfl) (Reps.one (show Kd.M Kd.string _ _ _ a0_4 [.string a0_4] from rfl) (Reps.none _ _))))); intro v425 w41 ho42 hb hg_ hnew_; clear hg_ hnew_; (first | rw [← Ny424.out] at ho42 | (simp only [Int.reduceToNat] at ho42; rw [← Ny424.out] at ho42)); have n0_ := (⟨Zm (Kd.R_elder' (by (with_reducible repeat (first | apply Kd.R_alloc | apply Kd.R_drewN | apply Kd.R_drew)); exact HO_3.out) (Kd.R_base ho42) hb), Zm (Kd.R_lower (Kd.R_new' ho42 (Kd.R_lt (by (with_reducible repeat (first | apply Kd.R_alloc | apply Kd.R_drewN | apply Kd.R_drew)); exact HO_3.out))) (Zbz (bk HB.out))), Zm (Zbt (bk HB.out) hb)⟩ : _ ∧ _ ∧ _); clear HO_3 HB; obtain ⟨HO_3, HO426, HB⟩ := n0_; clear hb ho42; obtain ⟨Ao44, co44, eo44⟩ := Kd.R_slice HO426.out; subst eo44) | ((with_reducible refine gate_builtin (b := .append) (xs := #[.tmp 38, .tmp 45]) rfl ?_); at_builtin; refine Kd.R_append_rows Kd.string (w0 := w) w.heap.size rfl (.tmp 38) (.tmp 45) 72 9 (.string ⟨#[]⟩) 16 rfl Tryz.underlying72 info9 rfl (by decide) (by omega) v408 y407 y424 _ _ _ (fun k_ => some k_ ≠ (.slice Ao44 y424.length co44 : Value).ownBlock) (fun _ => False) rfl rfl ?aO ?aR (fun _ _ h => h) (fun _ h => h.elim) ?aF ?aB ?aS ?aL ?_; (case aR => exact pc (Kd.R_reads' HO426.out).2.2); (case aB => exact (bk HB.out)); (case aF => exact (fun k_ hk => Kd.fresh' (Kd.R_lt (by (with_reducible repeat (first | apply Kd.R_alloc | apply Kd.R_drewN | apply Kd.R_drew)); exact HO426.out)) k_ hk)); (case aO => exact (by (with_reducible repeat (first | apply Kd.R_alloc | apply Kd.R_drewN | apply Kd.R_drew)); exact Kd.R_mono HO_3.out (fun _ hk => hk.2))); (case aS => exact (Zbz (bk HB.out))); (case aL => have := LMc38.out; omega); intro v428 w43 ho hb hg hat; rw [← Ny427.out] at ho; have n0_ := (⟨Zm (Kd.R_after (ok := (fun _ => True)) (by (with_reducible repeat (first | apply Kd.R_alloc | apply Kd.R_drewN | apply Kd.R_drew)); exact HO426.out) hg hat), Zm (hb), Zm (ho)⟩ : _ ∧ _ ∧ _); clear HO426 HB HO_3; obtain ⟨HO426, HB, HO429⟩ := n0_; clear ho hb hg hat; (try clear HO426); obtain ⟨Ao45, co45, eo45⟩ := Kd.R_slice HO429.out; subst eo45) | ((with_reducible refine gate_callee (f := 81) rfl ?_); refine ge_ (some 48) Tryz.func81 #[.slice Ao45 y427.length co45, .string (⟨#[32]⟩ : ByteArray)] ?_; (with_reducible refine (strings_Join.calls _ _ _ _ _ _ ?side1 ?side2 A39.out).mono ?_); (case side1 => exact pc (Kd.R_reads' HO429.out).2.2); (case side2 => exact (Kd.R_reads' HO429.out).2.1); rintro e w46 ⟨rfl, hb⟩; refine ⟨_, rfl, ?_⟩; have n0_ := (⟨Zm (Kd.R_below (by (with_reducible repeat (first | apply Kd.R_alloc | apply Kd.R_drewN | apply Kd.R_drew)); exact HO429.out) hb), Zm (Zbt (bk HB.out) hb)⟩ : _ ∧ _); clear HO429 HB; obtain ⟨HO429, HB⟩ := n0_; (try clear hb); (try clear hb2); (try clear hk); (try clear hi)))
         go_ret
         exact fin_ HB
       rw [if_pos c30] at H
       have c30b0 : (t410.toList == ([121] : List UInt8)) = true := beq_iff_eq.mpr c30
       have c30b1 : (t410.toList != ([121] : List UInt8)) = false := bne_eq_false_iff_eq.mpr c30
       clear c30
       by_cases c31 : y407.length < 8796093022208
       rotate_left
       · rw [if_neg c31] at H
         exact absurd H (by simp)
       rw [if_pos c31] at H
       have LMc31 := Zm c31
       clear c31
       obtain ⟨y420, hy420⟩ : ∃ y_ : List ByteArray, y_ = (y407 ++ [a0_4]) := ⟨_, rfl⟩
       replace H : ((strings_Join.f y420 (⟨#[32]⟩ : ByteArray)).bind fun t423 => (some t423)) = some r := by first | (rw [hy420]; with_reducible exact H) | (have H2_ := (Option.bind_some _ _).symm.trans H; rw [hy420]; with_reducible exact H2_) | (have H2_ := (Option.bind_some _ _).symm.trans H; with_reducible exact H2_) | with_reducible exact H | (rw [hy420]; exact H) | exact H
       have Ny420 := Zm hy420
       clear hy420
       replace H := Option.bind_eq_some_iff.mp H
       obtain ⟨t423, A320, H⟩ := H
       (try dsimp only at H)
       have A32 := Zm A320
       clear A320
       obtain rfl := Option.some.inj H
       obtain ⟨hcz33_0, hcz33_1, hcz33_2, hcz33_3, hcz33_4⟩ := cz5 BK405.out
       go_wp2_with (first | ((with_reducible refine gate_builtin (b := .append) (xs := #[.tmp 30, .tmp 33]) rfl ?_); at_builtin; refine Kd.R_append Kd.string (w0 := w) w.heap.size rfl (.tmp 30) (.tmp 33) 72 9 (.string ⟨#[]⟩) 16 rfl Tryz.underlying72 info9 rfl (by decide) (by omega) v408 y407 a0_4 [.string a0_4] (fun _ => True) (fun _ => False) rfl rfl ?aP (fun _ hk => hk.elim) ?aF ?aO ?aB ?aS ?aL ?_; (case aP => exact rfl); (case aB => exact (bk HB.out)); (case aF => exact (fun _ _ => trivial)); (case aO => exact (by (with_reducible repeat (first | apply Kd.R_alloc | apply Kd.R_drewN | apply Kd.R_drew)); exact HO_3.out)); (case aS => exact (Zbz (bk HB.out))); (case aL => have := LMc31.out; omega); intro v421 w34 ho hb hg hat; rw [← Ny420.out] at ho; have n0_ := (⟨Zm (blk_grown (pk BK405.out) hg (Kd.R_ne HO_3.out BK405.out (by decide))), Zm (hb), Zm (ho)⟩ : _ ∧ _ ∧ _); clear BK405 HB HO_3; obtain ⟨BK405, HB, HO422⟩ := n0_; clear ho hb hg hat; (try clear BK405); obtain ⟨Ao35, co35, eo35⟩ := Kd.R_slice HO422.out; subst eo35) | ((with_reducible refine gate_callee (f := 81) rfl ?_); refine ge_ (some 48) Tryz.func81 #[.slice Ao35 y420.length co35, .string (⟨#[32]⟩ : ByteArray)] ?_; (with_reducible refine (strings_Join.calls _ _ _ _ _ _ ?side1 ?side2 A32.out).mono ?_); (case side1 => exact pc (Kd.R_reads' HO422.out).2.2); (case side2 => exact (Kd.R_reads' HO422.out).2.1); rintro e w36 ⟨rfl, hb⟩; refine ⟨_, rfl, ?_⟩; have n0_ := (⟨Zm (Kd.R_below (by (with_reducible repeat (first | apply Kd.R_alloc | apply Kd.R_drewN | apply Kd.R_drew)); exact HO422.out) hb), Zm (Zbt (bk HB.out) hb)⟩ : _ ∧ _); clear HO422 HB; obtain ⟨HO422, HB⟩ := n0_; (try clear hb); (try clear hb2); (try clear hk); (try clear hi)))
       go_ret
       exact fin_ HB
     rw [if_pos c23] at H
     have c23b0 : (t410.toList == ([99] : List UInt8)) = true := beq_iff_eq.mpr c23
     have c23b1 : (t410.toList != ([99] : List UInt8)) = false := bne_eq_false_iff_eq.mpr c23
     clear c23
     by_cases c24 : y407.length < 8796093022208
     rotate_left
     · rw [if_neg c24] at H
       exact absurd H (by simp)
     rw [if_pos c24] at H
     have LMc24 := Zm c24
     clear c24
     obtain ⟨y416, hy416⟩ : ∃ y_ : List ByteArray, y_ = (y407 ++ [a0_2]) := ⟨_, rfl⟩
     replace H : ((strings_Join.f y416 (⟨#[32]⟩ : ByteArray)).bind fun t419 => (some t419)) = some r := by first | (rw [hy416]; with_reducible exact H) | (have H2_ := (Option.bind_some _ _).symm.trans H; rw [hy416]; with_reducible exact H2_) | (have H2_ := (Option.bind_some _ _).symm.trans H; with_reducible exact H2_) | with_reducible exact H | (rw [hy416]; exact H) | exact H
     have Ny416 := Zm hy416
     clear hy416
     replace H := Option.bind_eq_some_iff.mp H
     obtain ⟨t419, A250, H⟩ := H
     (try dsimp only at H)
     have A25 := Zm A250
     clear A250
     obtain rfl := Option.some.inj H
     obtain ⟨hcz26_0, hcz26_1, hcz26_2, hcz26_3, hcz26_4⟩ := cz5 BK405.out
     go_wp2_with (first | ((with_reducible refine gate_builtin (b := .append) (xs := #[.tmp 23, .tmp 26]) rfl ?_); at_builtin; refine Kd.R_append Kd.string (w0 := w) w.heap.size rfl (.tmp 23) (.tmp 26) 72 9 (.string ⟨#[]⟩) 16 rfl Tryz.underlying72 info9 rfl (by decide) (by omega) v408 y407 a0_2 [.string a0_2] (fun _ => True) (fun _ => False) rfl rfl ?aP (fun _ hk => hk.elim) ?aF ?aO ?aB ?aS ?aL ?_; (case aP => exact rfl); (case aB => exact (bk HB.out)); (case aF => exact (fun _ _ => trivial)); (case aO => exact (by (with_reducible repeat (first | apply Kd.R_alloc | apply Kd.R_drewN | apply Kd.R_drew)); exact HO_3.out)); (case aS => exact (Zbz (bk HB.out))); (case aL => have := LMc24.out; omega); intro v417 w27 ho hb hg hat; rw [← Ny416.out] at ho; have n0_ := (⟨Zm (blk_grown (pk BK405.out) hg (Kd.R_ne HO_3.out BK405.out (by decide))), Zm (hb), Zm (ho)⟩ : _ ∧ _ ∧ _); clear BK405 HB HO_3; obtain ⟨BK405, HB, HO418⟩ := n0_; clear ho hb hg hat; (try clear BK405); obtain ⟨Ao28, co28, eo28⟩ := Kd.R_slice HO418.out; subst eo28) | ((with_reducible refine gate_callee (f := 81) rfl ?_); refine ge_ (some 48) Tryz.func81 #[.slice Ao28 y416.length co28, .string (⟨#[32]⟩ : ByteArray)] ?_; (with_reducible refine (strings_Join.calls _ _ _ _ _ _ ?side1 ?side2 A25.out).mono ?_); (case side1 => exact pc (Kd.R_reads' HO418.out).2.2); (case side2 => exact (Kd.R_reads' HO418.out).2.1); rintro e w29 ⟨rfl, hb⟩; refine ⟨_, rfl, ?_⟩; have n0_ := (⟨Zm (Kd.R_below (by (with_reducible repeat (first | apply Kd.R_alloc | apply Kd.R_drewN | apply Kd.R_drew)); exact HO418.out) hb), Zm (Zbt (bk HB.out) hb)⟩ : _ ∧ _); clear HO418 HB; obtain ⟨HO418, HB⟩ := n0_; (try clear hb); (try clear hb2); (try clear hk); (try clear hi)))
     go_ret
     exact fin_ HB
   subst c14
   rw [if_pos rfl] at H
   replace H := Option.bind_eq_some_iff.mp H
   obtain ⟨t411, A150, H⟩ := H
   (try dsimp only at H)
   have A15 := Zm A150
   clear A150
   by_cases c16 : y407.length < 8796093022208
   rotate_left
   · rw [if_neg c16] at H
     exact absurd H (by simp)
   rw [if_pos c16] at H
   have LMc16 := Zm c16
   clear c16
   obtain ⟨y412, hy412⟩ : ∃ y_ : List ByteArray, y_ = (y407 ++ [t411]) := ⟨_, rfl⟩
   replace H : ((strings_Join.f y412 (⟨#[32]⟩ : ByteArray)).bind fun t415 => (some t415)) = some r := by first | (rw [hy412]; with_reducible exact H) | (have H2_ := (Option.bind_some _ _).symm.trans H; rw [hy412]; with_reducible exact H2_) | (have H2_ := (Option.bind_some _ _).symm.trans H; with_reducible exact H2_) | with_reducible exact H | (rw [hy412]; exact H) | exact H
   have Ny412 := Zm hy412
   clear hy412
   replace H := Option.bind_eq_some_iff.mp H
   obtain ⟨t415, A170, H⟩ := H
   (try dsimp only at H)
   have A17 := Zm A170
   clear A170
   obtain rfl := Option.some.inj H
   obtain ⟨hcz18_0, hcz18_1, hcz18_2, hcz18_3, hcz18_4⟩ := cz5 BK405.out
   (try clear BK405)
   go_wp2_with (first | ((with_reducible refine gate_callee (f := 72) rfl ?_); refine ge_ (some 18) Tryz.func72 #[.int .i64 a0_1] ?_; (with_reducible refine (impl_text.calls _ _ _ A15.out).mono ?_); rintro e w19 ⟨rfl, hb⟩; refine ⟨_, rfl, ?_⟩; have n0_ := (⟨Zm (Kd.R_below (by (with_reducible repeat (first | apply Kd.R_alloc | apply Kd.R_drewN | apply Kd.R_drew)); exact HO_3.out) hb), Zm (Zbt (bk HB.out) hb)⟩ : _ ∧ _); clear HO_3 HB; obtain ⟨HO_3, HB⟩ := n0_; (try clear hb); (try clear hb2); (try clear hk); (try clear hi)) | ((with_reducible refine gate_builtin (b := .append) (xs := #[.tmp 15, .tmp 19]) rfl ?_); at_builtin; refine Kd.R_append Kd.string (w0 := w) w.heap.size rfl (.tmp 15) (.tmp 19) 72 9 (.string ⟨#[]⟩) 16 rfl Tryz.underlying72 info9 rfl (by decide) (by omega) v408 y407 t411 [.string t411] (fun _ => True) (fun _ => False) rfl rfl ?aP (fun _ hk => hk.elim) ?aF ?aO ?aB ?aS ?aL ?_; (case aP => exact rfl); (case aB => exact (bk HB.out)); (case aF => exact (fun _ _ => trivial)); (case aO => exact (by (with_reducible repeat (first | apply Kd.R_alloc | apply Kd.R_drewN | apply Kd.R_drew)); exact HO_3.out)); (case aS => exact (Zbz (bk HB.out))); (case aL => have := LMc16.out; omega); intro v413 w20 ho hb hg hat; rw [← Ny412.out] at ho; have n0_ := (⟨Zm (hb), Zm (ho)⟩ : _ ∧ _); clear HB HO_3; obtain ⟨HB, HO414⟩ := n0_; clear ho hb hg hat; obtain ⟨Ao21, co21, eo21⟩ := Kd.R_slice HO414.out; subst eo21) | ((with_reducible refine gate_callee (f := 81) rfl ?_); refine ge_ (some 48) Tryz.func81 #[.slice Ao21 y412.length co21, .string (⟨#[32]⟩ : ByteArray)] ?_; (with_reducible refine (strings_Join.calls _ _ _ _ _ _ ?side1 ?side2 A17.out).mono ?_); (case side1 => exact pc (Kd.R_reads' HO414.out).2.2); (case side2 => exact (Kd.R_reads' HO414.out).2.1); rintro e w22 ⟨rfl, hb⟩; refine ⟨_, rfl, ?_⟩; have n0_ := (⟨Zm (Kd.R_below (by (with_reducible repeat (first | apply Kd.R_alloc | apply Kd.R_drewN | apply Kd.R_drew)); exact HO414.out) hb), Zm (Zbt (bk HB.out) hb)⟩ : _ ∧ _); clear HO414 HB; obtain ⟨HO414, HB⟩ := n0_; (try clear hb); (try clear hb2); (try clear hk); (try clear hi)))
   go_ret
   exact fin_ HB
/-! ### impl_InsText: function 17 -/
def impl_InsText.f (k : Nat) (a0_0 : Int) (a0_1 : Int) (a0_2 : ByteArray) (a0_3 : ByteArray) (a0_4 : ByteArray) : Option (ByteArray) := (impl_InsRight.f k a0_0 a0_1 a0_2 a0_3 a0_4).bind fun t440 => (if t440 = true then ((impl_insText.f k a0_0 a0_1 a0_2 a0_3 a0_4).bind fun t441 => (some t441)) else (some (⟨#[]⟩ : ByteArray)))
set_option maxHeartbeats 8000000 in
set_option maxRecDepth 100000 in
theorem impl_InsText.calls (k : Nat) (a0_0 : Int) (a0_1 : Int) (a0_2 : ByteArray) (a0_3 : ByteArray) (a0_4 : ByteArray) (r : ByteArray) (w : World) (h : impl_InsText.f k a0_0 a0_1 a0_2 a0_3 a0_4 = some r) (htab : Tabs w := by exact tab_) :
 Calls Tryz.prog 17 #[.agg #[.int .i64 a0_0, .int .i64 a0_1, .string a0_2, .string a0_3, .string a0_4]] w fun e w' => e = .returned (.string r) ∧ Below w.heap.size w w' := by
 have HTAB := Zm htab
 clear htab
 have hu44 := Tryz.underlying44; have HB := Zm (Below.refl w.heap.size w); have H : ((impl_InsRight.f k a0_0 a0_1 a0_2 a0_3 a0_4).bind fun t440 => (if t440 = true then ((impl_insText.f k a0_0 a0_1 a0_2 a0_3 a0_4).bind fun t441 => (some t441)) else (some (⟨#[]⟩ : ByteArray)))) = some r := h; clear h; replace H := Option.bind_eq_some_iff.mp H; obtain ⟨t440, A20, H⟩ := H; (try dsimp only at H); have A2 := Zm A20; clear A20; have HC3 := Zm H; clear H; go_enter Tryz.func17, Tryz.ntmps17; go_upto_if 5 with (first | ((with_reducible refine gate_dst (N := 1) rfl ?_); refine box_event ?hg (N := 1) ?hd (cs := #[.int .i64 a0_0, .int .i64 a0_1, .string a0_2, .string a0_3, .string a0_4]) (t := 44) ?hr ?_; (case hd => rfl); (case hg => rfl); (case hr => first | (go_simp; done) | (go_simp; rfl)); intro gb439 hg w4 hbox hb; have n0_ := (⟨Zm (Zbt (bk HB.out) hb), Zm (hbox), Zm ((by rw [hg]; exact (Zbz (bk HB.out)) : w.heap.size ≤ gb439)), Zm ((by rw [hg]; exact (Zbz (bk HB.out)) : w.heap.size ≤ gb439))⟩ : _ ∧ _ ∧ _ ∧ _); clear HB; obtain ⟨HB, BK439, GW439, GE439⟩ := n0_; clear hb hbox hg; obtain ⟨hcz5_0, hcz5_1, hcz5_2, hcz5_3, hcz5_4⟩ := cz5 BK439.out; have hfz5_4 := Zkf BK439.out 4) | ((with_reducible refine gate_callee (f := 20) rfl ?_); refine ge_ (some 4) Tryz.func20 #[.agg #[.int .i64 a0_0, .int .i64 a0_1, .string a0_2, .string a0_3, .string a0_4]] ?_; (with_reducible refine (impl_InsRight.calls _ _ _ _ _ _ _ _ A2.out).mono ?_); rintro e w6 ⟨rfl, hb⟩; refine ⟨_, rfl, ?_⟩; have n0_ := (⟨Zm (Zkb (pk BK439.out) hb), Zm (Zbt (bk HB.out) hb)⟩ : _ ∧ _); clear BK439 HB; obtain ⟨BK439, HB⟩ := n0_; (try clear hb); (try clear hb2); (try clear hk); (try clear hi))); have H := HC3.out; clear HC3; by_cases c7 : t440 = true; rotate_left
 · replace c7 := Bool.eq_false_iff.mpr c7; subst c7; rw [if_neg (show ¬ (false = true) by decide)] at H; obtain rfl := Option.some.inj H; go_wp2; go_ret; exact fin_ HB

 subst c7
 rw [if_pos rfl] at H
 replace H := Option.bind_eq_some_iff.mp H
 obtain ⟨t441, A80, H⟩ := H
 (try dsimp only at H)
 have A8 := Zm A80
 clear A80
 obtain rfl := Option.some.inj H
 obtain ⟨hcz9_0, hcz9_1, hcz9_2, hcz9_3, hcz9_4⟩ := cz5 BK439.out
 (try clear BK439)
 go_wp2_with (first | ((with_reducible refine gate_callee (f := 38) rfl ?_); refine ge_ (some 7) Tryz.func38 #[.agg #[.int .i64 a0_0, .int .i64 a0_1, .string a0_2, .string a0_3, .string a0_4]] ?_; (with_reducible refine (impl_insText.calls _ _ _ _ _ _ _ _ A8.out).mono ?_); rintro e w10 ⟨rfl, hb⟩; refine ⟨_, rfl, ?_⟩; have n0_ := Zm (Zbt (bk HB.out) hb); clear HB; have HB := n0_; clear n0_; (try clear hb); (try clear hb2); (try clear hk); (try clear hi)))
 go_ret
 exact fin_ HB
/-! ### spec_l03Empty: function 40 -/
def spec_l03Empty.f (a0_0 : Int) (a0_1 : Int) (a0_2 : ByteArray) (a0_3 : ByteArray) (a0_4 : ByteArray) : Option (Bool) := if a0_2.toList = ([] : List UInt8) then (if a0_3.toList = ([] : List UInt8) then (some (a0_4.toList == ([] : List UInt8))) else (some false)) else (some false)
set_option maxHeartbeats 8000000 in
set_option maxRecDepth 100000 in
theorem spec_l03Empty.calls (a0_0 : Int) (a0_1 : Int) (a0_2 : ByteArray) (a0_3 : ByteArray) (a0_4 : ByteArray) (r : Bool) (w : World) (h : spec_l03Empty.f a0_0 a0_1 a0_2 a0_3 a0_4 = some r) :
 Calls Tryz.prog 40 #[.agg #[.int .i64 a0_0, .int .i64 a0_1, .string a0_2, .string a0_3, .string a0_4]] w fun e w' => e = .returned (.bool r) ∧ Below w.heap.size w w' := by
 have hu44 := Tryz.underlying44; have HB := Zm (Below.refl w.heap.size w); have H : (if a0_2.toList = ([] : List UInt8) then (if a0_3.toList = ([] : List UInt8) then (some (a0_4.toList == ([] : List UInt8))) else (some false)) else (some false)) = some r := h; clear h; by_cases c2 : a0_2.toList = ([] : List UInt8); rotate_left
 · rw [if_neg c2] at H; have c2b0 : (a0_2.toList == ([] : List UInt8)) = false := beq_eq_false_iff_ne.mpr c2; have c2b1 : (a0_2.toList != ([] : List UInt8)) = true := bne_iff_ne.mpr c2; obtain rfl := Option.some.inj H; go_enter Tryz.func40, Tryz.ntmps40; go_wp2_with (first | ((with_reducible refine gate_dst (N := 1) rfl ?_); refine box_event ?hg (N := 1) ?hd (cs := #[.int .i64 a0_0, .int .i64 a0_1, .string a0_2, .string a0_3, .string a0_4]) (t := 44) ?hr ?_; (case hd => rfl); (case hg => rfl); (case hr => first | (go_simp; done) | (go_simp; rfl)); intro gb442 hg w8 hbox hb; have n0_ := (⟨Zm (Zbt (bk HB.out) hb), Zm (hbox), Zm ((by rw [hg]; exact (Zbz (bk HB.out)) : w.heap.size ≤ gb442)), Zm ((by rw [hg]; exact (Zbz (bk HB.out)) : w.heap.size ≤ gb442))⟩ : _ ∧ _ ∧ _ ∧ _); clear HB; obtain ⟨HB, BK442, GW442, GE442⟩ := n0_; clear hb hbox hg; obtain ⟨hcz9_0, hcz9_1, hcz9_2, hcz9_3, hcz9_4⟩ := cz5 BK442.out; have hfz9_4 := Zkf BK442.out 4)); go_ret; exact fin_ HB

 rw [if_pos c2] at H
 have c2b0 : (a0_2.toList == ([] : List UInt8)) = true := beq_iff_eq.mpr c2
 have c2b1 : (a0_2.toList != ([] : List UInt8)) = false := bne_eq_false_iff_eq.mpr c2
 clear c2
 by_cases c3 : a0_3.toList = ([] : List UInt8)
 rotate_left
 · rw [if_neg c3] at H
   have c3b0 : (a0_3.toList == ([] : List UInt8)) = false := beq_eq_false_iff_ne.mpr c3
   have c3b1 : (a0_3.toList != ([] : List UInt8)) = true := bne_iff_ne.mpr c3
   obtain rfl := Option.some.inj H
   go_enter Tryz.func40, Tryz.ntmps40
   go_wp2_with (first | ((with_reducible refine gate_dst (N := 1) rfl ?_); refine box_event ?hg (N := 1) ?hd (cs := #[.int .i64 a0_0, .int .i64 a0_1, .string a0_2, .string a0_3, .string a0_4]) (t := 44) ?hr ?_; (case hd => rfl); (case hg => rfl); (case hr => first | (go_simp; done) | (go_simp; rfl)); intro gb442 hg w6 hbox hb; have n0_ := (⟨Zm (Zbt (bk HB.out) hb), Zm (hbox), Zm ((by rw [hg]; exact (Zbz (bk HB.out)) : w.heap.size ≤ gb442)), Zm ((by rw [hg]; exact (Zbz (bk HB.out)) : w.heap.size ≤ gb442))⟩ : _ ∧ _ ∧ _ ∧ _); clear HB; obtain ⟨HB, BK442, GW442, GE442⟩ := n0_; clear hb hbox hg; obtain ⟨hcz7_0, hcz7_1, hcz7_2, hcz7_3, hcz7_4⟩ := cz5 BK442.out; have hfz7_4 := Zkf BK442.out 4))
   go_ret
   exact fin_ HB
 rw [if_pos c3] at H
 have c3b0 : (a0_3.toList == ([] : List UInt8)) = true := beq_iff_eq.mpr c3
 have c3b1 : (a0_3.toList != ([] : List UInt8)) = false := bne_eq_false_iff_eq.mpr c3
 clear c3
 obtain rfl := Option.some.inj H
 go_enter Tryz.func40, Tryz.ntmps40
 go_wp2_with (first | ((with_reducible refine gate_dst (N := 1) rfl ?_); refine box_event ?hg (N := 1) ?hd (cs := #[.int .i64 a0_0, .int .i64 a0_1, .string a0_2, .string a0_3, .string a0_4]) (t := 44) ?hr ?_; (case hd => rfl); (case hg => rfl); (case hr => first | (go_simp; done) | (go_simp; rfl)); intro gb442 hg w4 hbox hb; have n0_ := (⟨Zm (Zbt (bk HB.out) hb), Zm (hbox), Zm ((by rw [hg]; exact (Zbz (bk HB.out)) : w.heap.size ≤ gb442)), Zm ((by rw [hg]; exact (Zbz (bk HB.out)) : w.heap.size ≤ gb442))⟩ : _ ∧ _ ∧ _ ∧ _); clear HB; obtain ⟨HB, BK442, GW442, GE442⟩ := n0_; clear hb hbox hg; obtain ⟨hcz5_0, hcz5_1, hcz5_2, hcz5_3, hcz5_4⟩ := cz5 BK442.out; have hfz5_4 := Zkf BK442.out 4))
 go_ret
 exact fin_ HB
/-! ### spec_l01Int: function 41 -/
def spec_l01Int.f (a0 : Int) : Option (Bool) := if a0 ≥ (-2147483648) then (some (decide (a0 ≤ 2147483647))) else (some false)
set_option maxHeartbeats 8000000 in
set_option maxRecDepth 100000 in
theorem spec_l01Int.calls (a0 : Int) (r : Bool) (w : World) (h : spec_l01Int.f a0 = some r) :
 Calls Tryz.prog 41 #[.int .i64 a0] w fun e w' => e = .returned (.bool r) ∧ Drawn0 w w' := by
 have H : (if a0 ≥ (-2147483648) then (some (decide (a0 ≤ 2147483647))) else (some false)) = some r := h; clear h; by_cases c2 : a0 ≥ (-2147483648); rotate_left
 · rw [if_neg c2] at H; have c2b0 : decide ((-2147483648) ≤ a0) = false := decide_eq_false c2; clear c2; obtain rfl := Option.some.inj H; go_enter Tryz.func41, Tryz.ntmps41; go_wp2; go_ret; exact ⟨by first | rfl | (simp; done) | (simp [*]; done), by repeat (first | exact Drawn0.refl _ | apply Drawn0.step)⟩

 rw [if_pos c2] at H
 have c2b0 : decide ((-2147483648) ≤ a0) = true := decide_eq_true c2
 clear c2
 obtain rfl := Option.some.inj H
 go_enter Tryz.func41, Tryz.ntmps41
 go_wp2
 go_ret
 exact ⟨by first | rfl | (simp; done) | (simp [*]; done), by repeat (first | exact Drawn0.refl _ | apply Drawn0.step)⟩
/-! ### spec_l01NameByte: function 84 -/
def spec_l01NameByte.f (a0 : Int) (a1 : Bool) : Option (Bool) := if a0 ≥ 97 then (if a0 ≤ 122 then (some true) else (if a0 ≥ 65 then (if a0 ≤ 90 then (some true) else (if a0 = 36 then (some true) else (if a1 = true then (some false) else (if a0 ≥ 48 then (some (decide (a0 ≤ 57))) else (some false))))) else (if a0 = 36 then (some true) else (if a1 = true then (some false) else (if a0 ≥ 48 then (some (decide (a0 ≤ 57))) else (some false)))))) else (if a0 ≥ 65 then (if a0 ≤ 90 then (some true) else (if a0 = 36 then (some true) else (if a1 = true then (some false) else (if a0 ≥ 48 then (some (decide (a0 ≤ 57))) else (some false))))) else (if a0 = 36 then (some true) else (if a1 = true then (some false) else (if a0 ≥ 48 then (some (decide (a0 ≤ 57))) else (some false)))))
set_option maxHeartbeats 8000000 in
set_option maxRecDepth 100000 in
theorem spec_l01NameByte.calls (a0 : Int) (a1 : Bool) (r : Bool) (w : World) (h : spec_l01NameByte.f a0 a1 = some r) :
 Calls Tryz.prog 84 #[.int .u8 a0, .bool a1] w fun e w' => e = .returned (.bool r) ∧ Drawn0 w w' := by
 have H : (if a0 ≥ 97 then (if a0 ≤ 122 then (some true) else (if a0 ≥ 65 then (if a0 ≤ 90 then (some true) else (if a0 = 36 then (some true) else (if a1 = true then (some false) else (if a0 ≥ 48 then (some (decide (a0 ≤ 57))) else (some false))))) else (if a0 = 36 then (some true) else (if a1 = true then (some false) else (if a0 ≥ 48 then (some (decide (a0 ≤ 57))) else (some false)))))) else (if a0 ≥ 65 then (if a0 ≤ 90 then (some true) else (if a0 = 36 then (some true) else (if a1 = true then (some false) else (if a0 ≥ 48 then (some (decide (a0 ≤ 57))) else (some false))))) else (if a0 = 36 then (some true) else (if a1 = true then (some false) else (if a0 ≥ 48 then (some (decide (a0 ≤ 57))) else (some false)))))) = some r := h; clear h; by_cases c3 : a0 ≥ 97; rotate_left
 · rw [if_neg c3] at H; have c3b0 : decide (97 ≤ a0) = false := decide_eq_false c3; clear c3; by_cases c13 : a0 ≥ 65; rotate_left
   · rw [if_neg c13] at H; have c13b0 : decide (65 ≤ a0) = false := decide_eq_false c13; clear c13; by_cases c18 : a0 = 36; rotate_left
     · rw [if_neg c18] at H; have c18b0 : (a0 == 36) = false := beq_eq_false_iff_ne.mpr c18; have c18b1 : (a0 != 36) = true := bne_iff_ne.mpr c18; by_cases c19 : a1 = true; rotate_left
       · replace c19 := Bool.eq_false_iff.mpr c19; subst c19; rw [if_neg (show ¬ (false = true) by decide)] at H; by_cases c20 : a0 ≥ 48; rotate_left
         · rw [if_neg c20] at H; have c20b0 : decide (48 ≤ a0) = false := decide_eq_false c20; clear c20; obtain rfl := Option.some.inj H; go_enter Tryz.func84, Tryz.ntmps84; go_wp2; go_ret; exact ⟨by first | rfl | (simp; done) | (simp [*]; done), by repeat (first | exact Drawn0.refl _ | apply Drawn0.step)⟩

         rw [if_pos c20] at H
         have c20b0 : decide (48 ≤ a0) = true := decide_eq_true c20
         clear c20
         obtain rfl := Option.some.inj H
         go_enter Tryz.func84, Tryz.ntmps84
         go_wp2
         go_ret
         exact ⟨by first | rfl | (simp; done) | (simp [*]; done), by repeat (first | exact Drawn0.refl _ | apply Drawn0.step)⟩
       subst c19
       rw [if_pos rfl] at H
       obtain rfl := Option.some.inj H
       go_enter Tryz.func84, Tryz.ntmps84
       go_wp2
       go_ret
       exact ⟨by first | rfl | (simp; done) | (simp [*]; done), by repeat (first | exact Drawn0.refl _ | apply Drawn0.step)⟩
     rw [if_pos c18] at H
     have c18b0 : (a0 == 36) = true := beq_iff_eq.mpr c18
     have c18b1 : (a0 != 36) = false := bne_eq_false_iff_eq.mpr c18
     clear c18
     obtain rfl := Option.some.inj H
     go_enter Tryz.func84, Tryz.ntmps84
     go_wp2
     go_ret
     exact ⟨by first | rfl | (simp; done) | (simp [*]; done), by repeat (first | exact Drawn0.refl _ | apply Drawn0.step)⟩
   rw [if_pos c13] at H
   have c13b0 : decide (65 ≤ a0) = true := decide_eq_true c13
   clear c13
   by_cases c14 : a0 ≤ 90
   rotate_left
   · rw [if_neg c14] at H
     have c14b0 := decide_eq_false c14
     clear c14
     by_cases c15 : a0 = 36
     rotate_left
     · rw [if_neg c15] at H
       have c15b0 : (a0 == 36) = false := beq_eq_false_iff_ne.mpr c15
       have c15b1 : (a0 != 36) = true := bne_iff_ne.mpr c15
       by_cases c16 : a1 = true
       rotate_left
       · replace c16 := Bool.eq_false_iff.mpr c16
         subst c16
         rw [if_neg (show ¬ (false = true) by decide)] at H
         by_cases c17 : a0 ≥ 48
         rotate_left
         · rw [if_neg c17] at H
           have c17b0 : decide (48 ≤ a0) = false := decide_eq_false c17
           clear c17
           obtain rfl := Option.some.inj H
           go_enter Tryz.func84, Tryz.ntmps84
           go_wp2
           go_ret
           exact ⟨by first | rfl | (simp; done) | (simp [*]; done), by repeat (first | exact Drawn0.refl _ | apply Drawn0.step)⟩
         rw [if_pos c17] at H
         have c17b0 : decide (48 ≤ a0) = true := decide_eq_true c17
         clear c17
         obtain rfl := Option.some.inj H
         go_enter Tryz.func84, Tryz.ntmps84
         go_wp2
         go_ret
         exact ⟨by first | rfl | (simp; done) | (simp [*]; done), by repeat (first | exact Drawn0.refl _ | apply Drawn0.step)⟩
       subst c16
       rw [if_pos rfl] at H
       obtain rfl := Option.some.inj H
       go_enter Tryz.func84, Tryz.ntmps84
       go_wp2
       go_ret
       exact ⟨by first | rfl | (simp; done) | (simp [*]; done), by repeat (first | exact Drawn0.refl _ | apply Drawn0.step)⟩
     rw [if_pos c15] at H
     have c15b0 : (a0 == 36) = true := beq_iff_eq.mpr c15
     have c15b1 : (a0 != 36) = false := bne_eq_false_iff_eq.mpr c15
     clear c15
     obtain rfl := Option.some.inj H
     go_enter Tryz.func84, Tryz.ntmps84
     go_wp2
     go_ret
     exact ⟨by first | rfl | (simp; done) | (simp [*]; done), by repeat (first | exact Drawn0.refl _ | apply Drawn0.step)⟩
   rw [if_pos c14] at H
   have c14b0 := decide_eq_true c14
   clear c14
   obtain rfl := Option.some.inj H
   go_enter Tryz.func84, Tryz.ntmps84
   go_wp2
   go_ret
   exact ⟨by first | rfl | (simp; done) | (simp [*]; done), by repeat (first | exact Drawn0.refl _ | apply Drawn0.step)⟩
 rw [if_pos c3] at H
 have c3b0 : decide (97 ≤ a0) = true := decide_eq_true c3
 clear c3
 by_cases c4 : a0 ≤ 122
 rotate_left
 · rw [if_neg c4] at H
   have c4b0 := decide_eq_false c4
   clear c4
   by_cases c5 : a0 ≥ 65
   rotate_left
   · rw [if_neg c5] at H
     have c5b0 : decide (65 ≤ a0) = false := decide_eq_false c5
     clear c5
     by_cases c10 : a0 = 36
     rotate_left
     · rw [if_neg c10] at H
       have c10b0 : (a0 == 36) = false := beq_eq_false_iff_ne.mpr c10
       have c10b1 : (a0 != 36) = true := bne_iff_ne.mpr c10
       by_cases c11 : a1 = true
       rotate_left
       · replace c11 := Bool.eq_false_iff.mpr c11
         subst c11
         rw [if_neg (show ¬ (false = true) by decide)] at H
         by_cases c12 : a0 ≥ 48
         rotate_left
         · rw [if_neg c12] at H
           have c12b0 : decide (48 ≤ a0) = false := decide_eq_false c12
           clear c12
           obtain rfl := Option.some.inj H
           go_enter Tryz.func84, Tryz.ntmps84
           go_wp2
           go_ret
           exact ⟨by first | rfl | (simp; done) | (simp [*]; done), by repeat (first | exact Drawn0.refl _ | apply Drawn0.step)⟩
         rw [if_pos c12] at H
         have c12b0 : decide (48 ≤ a0) = true := decide_eq_true c12
         clear c12
         obtain rfl := Option.some.inj H
         go_enter Tryz.func84, Tryz.ntmps84
         go_wp2
         go_ret
         exact ⟨by first | rfl | (simp; done) | (simp [*]; done), by repeat (first | exact Drawn0.refl _ | apply Drawn0.step)⟩
       subst c11
       rw [if_pos rfl] at H
       obtain rfl := Option.some.inj H
       go_enter Tryz.func84, Tryz.ntmps84
       go_wp2
       go_ret
       exact ⟨by first | rfl | (simp; done) | (simp [*]; done), by repeat (first | exact Drawn0.refl _ | apply Drawn0.step)⟩
     rw [if_pos c10] at H
     have c10b0 : (a0 == 36) = true := beq_iff_eq.mpr c10
     have c10b1 : (a0 != 36) = false := bne_eq_false_iff_eq.mpr c10
     clear c10
     obtain rfl := Option.some.inj H
     go_enter Tryz.func84, Tryz.ntmps84
     go_wp2
     go_ret
     exact ⟨by first | rfl | (simp; done) | (simp [*]; done), by repeat (first | exact Drawn0.refl _ | apply Drawn0.step)⟩
   rw [if_pos c5] at H
   have c5b0 : decide (65 ≤ a0) = true := decide_eq_true c5
   clear c5
   by_cases c6 : a0 ≤ 90
   rotate_left
   · rw [if_neg c6] at H
     have c6b0 := decide_eq_false c6
     clear c6
     by_cases c7 : a0 = 36
     rotate_left
     · rw [if_neg c7] at H
       have c7b0 : (a0 == 36) = false := beq_eq_false_iff_ne.mpr c7
       have c7b1 : (a0 != 36) = true := bne_iff_ne.mpr c7
       by_cases c8 : a1 = true
       rotate_left
       · replace c8 := Bool.eq_false_iff.mpr c8
         subst c8
         rw [if_neg (show ¬ (false = true) by decide)] at H
         by_cases c9 : a0 ≥ 48
         rotate_left
         · rw [if_neg c9] at H
           have c9b0 : decide (48 ≤ a0) = false := decide_eq_false c9
           clear c9
           obtain rfl := Option.some.inj H
           go_enter Tryz.func84, Tryz.ntmps84
           go_wp2
           go_ret
           exact ⟨by first | rfl | (simp; done) | (simp [*]; done), by repeat (first | exact Drawn0.refl _ | apply Drawn0.step)⟩
         rw [if_pos c9] at H
         have c9b0 : decide (48 ≤ a0) = true := decide_eq_true c9
         clear c9
         obtain rfl := Option.some.inj H
         go_enter Tryz.func84, Tryz.ntmps84
         go_wp2
         go_ret
         exact ⟨by first | rfl | (simp; done) | (simp [*]; done), by repeat (first | exact Drawn0.refl _ | apply Drawn0.step)⟩
       subst c8
       rw [if_pos rfl] at H
       obtain rfl := Option.some.inj H
       go_enter Tryz.func84, Tryz.ntmps84
       go_wp2
       go_ret
       exact ⟨by first | rfl | (simp; done) | (simp [*]; done), by repeat (first | exact Drawn0.refl _ | apply Drawn0.step)⟩
     rw [if_pos c7] at H
     have c7b0 : (a0 == 36) = true := beq_iff_eq.mpr c7
     have c7b1 : (a0 != 36) = false := bne_eq_false_iff_eq.mpr c7
     clear c7
     obtain rfl := Option.some.inj H
     go_enter Tryz.func84, Tryz.ntmps84
     go_wp2
     go_ret
     exact ⟨by first | rfl | (simp; done) | (simp [*]; done), by repeat (first | exact Drawn0.refl _ | apply Drawn0.step)⟩
   rw [if_pos c6] at H
   have c6b0 := decide_eq_true c6
   clear c6
   obtain rfl := Option.some.inj H
   go_enter Tryz.func84, Tryz.ntmps84
   go_wp2
   go_ret
   exact ⟨by first | rfl | (simp; done) | (simp [*]; done), by repeat (first | exact Drawn0.refl _ | apply Drawn0.step)⟩
 rw [if_pos c4] at H
 have c4b0 := decide_eq_true c4
 clear c4
 obtain rfl := Option.some.inj H
 go_enter Tryz.func84, Tryz.ntmps84
 go_wp2
 go_ret
 exact ⟨by first | rfl | (simp; done) | (simp [*]; done), by repeat (first | exact Drawn0.refl _ | apply Drawn0.step)⟩
/-! ### spec_NameRight: function 42 -/
mutual
def spec_NameRight.j0 : Nat → ByteArray → Bool → Option (Bool)
 | 0, _, _ => none
 | k + 1, x0, x11 => if x11 = true then (some false) else (spec_NameRight.l0 k x0 0)
def spec_NameRight.l0 : Nat → ByteArray → Int → Option (Bool)
 | 0, _, _ => none
 | k + 1, x0, x3 => if x3 < (x0.size : Int) then (if 0 ≤ x3 then ((spec_l01NameByte.f (bt x0 x3) (x3 == 0)).bind fun t443 => (if t443 = true then (spec_NameRight.l0 k x0 (wrap64 (x3 + 1))) else (some false))) else (none)) else (some true)
end
def spec_NameRight.f (k : Nat) (a0 : ByteArray) : Option (Bool) := if (a0.size : Int) < 1 then (spec_NameRight.j0 k a0 true) else (spec_NameRight.j0 k a0 (decide ((a0.size : Int) > 20)))
theorem spec_NameRight.mono_l : ∀ k, (∀ y0 y1, LeO (spec_NameRight.j0 k y0 y1) (spec_NameRight.j0 (k + 1) y0 y1)) ∧ (∀ y0 y1, LeO (spec_NameRight.l0 k y0 y1) (spec_NameRight.l0 (k + 1) y0 y1))
 | 0 => ⟨fun _ _ r h => by simp [spec_NameRight.j0] at h, fun _ _ r h => by simp [spec_NameRight.l0] at h⟩
 | k + 1 => by
  obtain ⟨ih0, ih1⟩ := spec_NameRight.mono_l k; refine ⟨?_, ?_⟩
  · intro y0 y1; unfold spec_NameRight.j0
    repeat' first
    | (with_reducible exact ih0 _ _)
    | (with_reducible exact ih1 _ _)
    | (with_reducible exact LeO.refl _)
    | (with_reducible exact LeO.none _)
    | (with_reducible refine LeO.ite ?_ ?_)
    | (with_reducible refine LeO.bind ?_ (fun _ => ?_))
    | exact ih0 _ _
    | exact ih1 _ _
    | exact LeO.none _
    | refine LeO.ite ?_ ?_
    | refine LeO.bind ?_ (fun _ => ?_)
  · intro y0 y1; unfold spec_NameRight.l0
    repeat' first
    | (with_reducible exact ih0 _ _)
    | (with_reducible exact ih1 _ _)
    | (with_reducible exact LeO.refl _)
    | (with_reducible exact LeO.none _)
    | (with_reducible refine LeO.ite ?_ ?_)
    | (with_reducible refine LeO.bind ?_ (fun _ => ?_))
    | exact ih0 _ _
    | exact ih1 _ _
    | exact LeO.none _
    | refine LeO.ite ?_ ?_
    | refine LeO.bind ?_ (fun _ => ?_)
theorem spec_NameRight.mono : ∀ a0 k, LeO (spec_NameRight.f k a0) (spec_NameRight.f (k + 1) a0) := by
 intro a0 k; obtain ⟨ih0, ih1⟩ := spec_NameRight.mono_l k; unfold spec_NameRight.f
 repeat' first
  | (with_reducible exact ih0 _ _)
  | (with_reducible exact ih1 _ _)
  | (with_reducible exact LeO.refl _)
  | (with_reducible exact LeO.none _)
  | (with_reducible refine LeO.ite ?_ ?_)
  | (with_reducible refine LeO.bind ?_ (fun _ => ?_))
  | exact ih0 _ _
  | exact ih1 _ _
  | exact LeO.none _
  | refine LeO.ite ?_ ?_
  | refine LeO.bind ?_ (fun _ => ?_)
set_option maxHeartbeats 8000000 in
set_option maxRecDepth 100000 in
theorem spec_NameRight.calls (k : Nat) (a0 : ByteArray) (r : Bool) (w : World) (h : spec_NameRight.f k a0 = some r) :
 Calls Tryz.prog 42 #[.string a0] w fun e w' => e = .returned (.bool r) ∧ Drawn0 w w' := by
 have H : (if (a0.size : Int) < 1 then (spec_NameRight.j0 k a0 true) else (spec_NameRight.j0 k a0 (decide ((a0.size : Int) > 20)))) = some r := h; clear h; have HC2 := Zm H; clear H; go_enter Tryz.func42, Tryz.ntmps42; go_upto_region 1 with (fail); go_cut [11] (fun v11 wc => ∃ (kq : Nat) (x11_1 : Bool), v11 = .bool x11_1 ∧ Aside0 (spec_NameRight.j0 kq a0 x11_1 = some r) ∧ Aside0 (kq ≤ k) ∧ Drawn0 w wc)
 case first =>
  have H := HC2.out; clear HC2; by_cases c3 : (a0.size : Int) < 1; rotate_left
  · rw [if_neg c3] at H; have c3b0 := decide_eq_false c3; have c3b1 : decide (a0.size < 1) = false := decide_eq_false (by omega); clear c3; (first | rw [c3b0] | (simp only [i64_w, i32_w]; rw [c3b0]) | skip); have H' := Zm H; clear H; go_wp2; go_meet
    case rel => exact ⟨_, (decide ((a0.size : Int) > 20)), (by first | rfl | (simp; done) | (simp [*]; done)), H', ⟨by first | omega | exact Nat.le_refl _⟩, by repeat (first | exact Drawn0.refl _ | apply Drawn0.step)⟩
  rw [if_pos c3] at H; have c3b0 := decide_eq_true c3; have c3b1 : decide (a0.size < 1) = true := decide_eq_true (by omega); clear c3; (first | rw [c3b0] | (simp only [i64_w, i32_w]; rw [c3b0]) | skip); have H' := Zm H; clear H; go_wp2; go_meet
  case rel => exact ⟨_, (true), (by first | rfl | (simp; done) | (simp [*]; done)), H', ⟨by first | omega | exact Nat.le_refl _⟩, by repeat (first | exact Drawn0.refl _ | apply Drawn0.step)⟩
 case rest =>
  clear HC2; obtain ⟨kq, x11_1, rfl, HA, HJ1, ⟨mc1, rfl⟩⟩ := hcut
  cases kq with
  | zero => exact absurd HA.out (by simp [spec_NameRight.j0])
  | succ kj1 =>
   have H := HA.out; clear HA; simp only [spec_NameRight.j0] at H; by_cases c4 : x11_1 = true; rotate_left
   · replace c4 := Bool.eq_false_iff.mpr c4; subst c4; rw [if_neg (show ¬ (false = true) by decide)] at H; have H' := Zm H; clear H; go_wp2; go_loopg [3] kj1 (fun kq v3 w' => ∃ (x3_2 : Int), v3 = .int .i64 x3_2 ∧ Aside0 (spec_NameRight.l0 kq a0 x3_2 = some r) ∧ Aside0 (kq ≤ kj1) ∧ Drawn0 w w')
     case atStart => exact ⟨(0), (by first | rfl | (simp; done) | (simp [*]; done)), H', ⟨Nat.le_refl _⟩, by repeat (first | exact Drawn0.refl _ | apply Drawn0.step)⟩
     case round =>
      clear H'; (try clear c4); obtain ⟨x3_2, rfl, HA, HK2, ⟨m2, rfl⟩⟩ := hrel
      cases gk with
      | zero => exact absurd HA.out (by simp [spec_NameRight.l0])
      | succ k2 =>
       have H := HA.out; clear HA; simp only [spec_NameRight.l0] at H; by_cases c5 : x3_2 < (a0.size : Int); rotate_left
       · rw [if_neg c5] at H; have c5b0 := decide_eq_false c5; clear c5; obtain rfl := Option.some.inj H; go_wp2; go_ret; exact ⟨by first | rfl | (simp; done) | (simp [*]; done), by repeat (first | exact Drawn0.refl _ | apply Drawn0.step)⟩

       rw [if_pos c5] at H
       have c5b0 := decide_eq_true c5
       clear c5
       by_cases c6 : 0 ≤ x3_2
       rotate_left
       · rw [if_neg c6] at H
         exact absurd H (by simp)
       rw [if_pos c6] at H
       have c6b0 := decide_eq_true c6
       clear c6
       replace H := Option.bind_eq_some_iff.mp H
       obtain ⟨t443, A80, H⟩ := H
       (try dsimp only at H)
       have A8 := Zm A80
       clear A80
       have HC9 := Zm H
       clear H
       have p7 : 0 ≤ (x3_2 : Int) := of_decide_eq_true (by first | (with_reducible assumption) | assumption)
       have q7 : x3_2 < (a0.size : Int) := of_decide_eq_true (by first | (with_reducible assumption) | assumption)
       have hx7 := bt_at a0 x3_2
       replace p7 := eq_true p7
       replace q7 := eq_true q7
       go_upto_if 24 with (first | ((with_reducible refine gate_callee (f := 84) rfl ?_); refine ge_ (some 23) Tryz.func84 #[.int .u8 (bt a0 x3_2), .bool (x3_2 == 0)] ?_; (with_reducible refine (spec_l01NameByte.calls _ _ _ _ A8.out).mono ?_); rintro e w' ⟨rfl, ⟨nd, rfl⟩⟩; refine ⟨_, rfl, ?_⟩))
       have H := HC9.out
       clear HC9
       by_cases c10 : t443 = true
       rotate_left
       · replace c10 := Bool.eq_false_iff.mpr c10
         subst c10
         rw [if_neg (show ¬ (false = true) by decide)] at H
         obtain rfl := Option.some.inj H
         go_wp2
         go_ret
         exact ⟨by first | rfl | (simp; done) | (simp [*]; done), by repeat (first | exact Drawn0.refl _ | apply Drawn0.step)⟩
       subst c10
       rw [if_pos rfl] at H
       have H' := Zm H
       clear H
       go_wp2
       go_roundg k2
       case measure => have := HJ1.out; have := HK2.out; omega
       case rel => exact ⟨(wrap64 (x3_2 + 1)), (by first | rfl | (simp; done) | (simp [*]; done)), H', ⟨by have := HJ1.out; have := HK2.out; omega⟩, by repeat (first | exact Drawn0.refl _ | apply Drawn0.step)⟩
   subst c4
   rw [if_pos rfl] at H
   obtain rfl := Option.some.inj H
   go_wp2
   go_ret
   exact ⟨by first | rfl | (simp; done) | (simp [*]; done), by repeat (first | exact Drawn0.refl _ | apply Drawn0.step)⟩
end Go.Proofs.YtcpnlfkmfpmkdaaGreatDoor.PFnInsText
