/- Functions of the program as plain Lean functions, each with a proof that the program's call comes to the same; no condition. Written by a program of this session. -/
import Derived.Test.YtdfnljchoomliaaDoorPFnExactInsTextx0
import Derived.Test.YtdfnljchoomliaaDoorPFnExactInsTextx1
import Derived.Test.YtdfnljchoomliaaDoorPFnExactInsTextx5
import Derived.Test.YtdfnljchoomliaaDoorPFnExactInsTextx8
namespace Go.Proofs.YtdfnljchoomliaaDoor.PFnExactInsText
open Go.RowKit Go.Proofs.YtdfnljchoomliaaDoorW.PrintWords Go.Proofs.YtdfnljchoomliaaDoorW.PrintLast Go.Proofs.YtdfnljchoomliaaDoorW.PrintMore
open Go.Proofs.YtdfnljchoomliaaDoorW.PrintWords renaming below_size → Zbz, below_step → Zbt, blk_frozen → Zkf, blk_below → Zkb
open Go.Proofs.YtdfnljchoomliaaDoorW.PrintWords.Aside0 renaming mk → Zm
attribute [local go_sem] max2_int min2_int max_two min_two max_three min_three max_four min_four   -- for this text's walks alone
set_option linter.unusedVariables false
set_option linter.unusedSimpArgs false

/-! ### impl_insText: function 33 -/
def impl_insText.j0 : Nat → List ByteArray → ByteArray → Bool → Int → Int → ByteArray → ByteArray → ByteArray → Option (ByteArray)
 | 0, _, _, _, _, _, _, _, _ => none
 | k + 1, x3, x10, x11, x364000, x364001, x364002, x364003, x364004 => if x11 = true then ((impl_text.f x364001).bind fun t369 => (if x3.length < 8796093022208 then ((strings_Join.f (x3 ++ [t369]) (⟨#[32]⟩ : ByteArray)).bind fun t373 => (some t373)) else (none))) else (if x10.toList = ([99] : List UInt8) then (if x3.length < 8796093022208 then ((strings_Join.f (x3 ++ [x364002]) (⟨#[32]⟩ : ByteArray)).bind fun t377 => (some t377)) else (none)) else (if x10.toList = ([121] : List UInt8) then (if x3.length < 8796093022208 then ((strings_Join.f (x3 ++ [x364004]) (⟨#[32]⟩ : ByteArray)).bind fun t381 => (some t381)) else (none)) else (if x10.toList = ([102] : List UInt8) then ((some (([x364002, x364003, x364004] : List ByteArray) : List ByteArray)).bind fun y382 => (if x3.length + y382.length < 8796093022208 then ((strings_Join.f (x3 ++ y382) (⟨#[32]⟩ : ByteArray)).bind fun t388 => (some t388)) else (none))) else (if x10.toList = ([109] : List UInt8) then ((some (([x364002, x364003, x364004] : List ByteArray) : List ByteArray)).bind fun y389 => (if x3.length + y389.length < 8796093022208 then ((strings_Join.f (x3 ++ y389) (⟨#[32]⟩ : ByteArray)).bind fun t395 => (some t395)) else (none))) else ((strings_Join.f x3 (⟨#[32]⟩ : ByteArray)).bind fun t396 => (some t396))))))
def impl_insText.f (k : Nat) (a0_0 : Int) (a0_1 : Int) (a0_2 : ByteArray) (a0_3 : ByteArray) (a0_4 : ByteArray) : Option (ByteArray) := (impl_OpName.f a0_0).bind fun t364 => ((some (([t364] : List ByteArray) : List ByteArray)).bind fun y365 => ((impl_OpForm.f a0_0).bind fun t368 => (if t368.toList = ([110] : List UInt8) then (impl_insText.j0 k y365 t368 (t368.toList == ([110] : List UInt8)) a0_0 a0_1 a0_2 a0_3 a0_4) else (if t368.toList = ([105] : List UInt8) then (impl_insText.j0 k y365 t368 (t368.toList == ([105] : List UInt8)) a0_0 a0_1 a0_2 a0_3 a0_4) else (impl_insText.j0 k y365 t368 (t368.toList == ([116] : List UInt8)) a0_0 a0_1 a0_2 a0_3 a0_4)))))
set_option maxHeartbeats 8000000 in
set_option maxRecDepth 100000 in
theorem impl_insText.calls (k : Nat) (a0_0 : Int) (a0_1 : Int) (a0_2 : ByteArray) (a0_3 : ByteArray) (a0_4 : ByteArray) (r : ByteArray) (w : World) (h : impl_insText.f k a0_0 a0_1 a0_2 a0_3 a0_4 = some r) (htab : Go.Lib.TabIs Tryd.prog w "internal/strconv.uint64pow10" .u64 Go.Lib.pow10Tab := by exact tab_) :
 Calls Tryd.prog 33 #[.agg #[.int .i64 a0_0, .int .i64 a0_1, .string a0_2, .string a0_3, .string a0_4]] w fun e w' => e = .returned (.string r) ∧ Below w.heap.size w w' := by
 have HTAB := Zm htab
 clear htab
 have hu44 := Tryd.underlying44; have HB := Zm (Below.refl w.heap.size w); have H : ((impl_OpName.f a0_0).bind fun t364 => ((some (([t364] : List ByteArray) : List ByteArray)).bind fun y365 => ((impl_OpForm.f a0_0).bind fun t368 => (if t368.toList = ([110] : List UInt8) then (impl_insText.j0 k y365 t368 (t368.toList == ([110] : List UInt8)) a0_0 a0_1 a0_2 a0_3 a0_4) else (if t368.toList = ([105] : List UInt8) then (impl_insText.j0 k y365 t368 (t368.toList == ([105] : List UInt8)) a0_0 a0_1 a0_2 a0_3 a0_4) else (impl_insText.j0 k y365 t368 (t368.toList == ([116] : List UInt8)) a0_0 a0_1 a0_2 a0_3 a0_4)))))) = some r := h; clear h; replace H := Option.bind_eq_some_iff.mp H; obtain ⟨t364, A20, H⟩ := H; (try dsimp only at H); have A2 := Zm A20; clear A20; obtain ⟨y365, hy365⟩ : ∃ y_ : List ByteArray, y_ = (([t364] : List ByteArray)) := ⟨_, rfl⟩; replace H : ((impl_OpForm.f a0_0).bind fun t368 => (if t368.toList = ([110] : List UInt8) then (impl_insText.j0 k y365 t368 (t368.toList == ([110] : List UInt8)) a0_0 a0_1 a0_2 a0_3 a0_4) else (if t368.toList = ([105] : List UInt8) then (impl_insText.j0 k y365 t368 (t368.toList == ([105] : List UInt8)) a0_0 a0_1 a0_2 a0_3 a0_4) else (impl_insText.j0 k y365 t368 (t368.toList == ([116] : List UInt8)) a0_0 a0_1 a0_2 a0_3 a0_4)))) = some r := by first | (rw [hy365]; with_reducible exact H) | (have H2_ := (Option.bind_some _ _).symm.trans H; rw [hy365]; with_reducible exact H2_) | (have H2_ := (Option.bind_some _ _).symm.trans H; with_reducible exact H2_) | with_reducible exact H | (rw [hy365]; exact H) | exact H
 have Ny365 := Zm hy365; clear hy365; replace H := Option.bind_eq_some_iff.mp H; obtain ⟨t368, A30, H⟩ := H; (try dsimp only at H); have A3 := Zm A30; clear A30; have HC4 := Zm H; clear H; go_enter Tryd.func33, Tryd.ntmps33; go_upto_if 11 with (first | ((with_reducible refine gate_dst (N := 1) rfl ?_); refine box_event ?hg (N := 1) ?hd (cs := #[.int .i64 a0_0, .int .i64 a0_1, .string a0_2, .string a0_3, .string a0_4]) (t := 44) ?hr ?_; (case hd => rfl); (case hg => rfl); (case hr => first | (go_simp; done) | (go_simp; rfl)); intro gb363 hg w5 hbox hb; have n0_ := (⟨Zm (Zbt (bk HB.out) hb), Zm (hbox), Zm ((by rw [hg]; exact (Zbz (bk HB.out)) : w.heap.size ≤ gb363)), Zm ((by rw [hg]; exact (Zbz (bk HB.out)) : w.heap.size ≤ gb363))⟩ : _ ∧ _ ∧ _ ∧ _); clear HB; obtain ⟨HB, BK363, GW363, GE363⟩ := n0_; clear hb hbox hg; obtain ⟨hcz6_0, hcz6_1, hcz6_2, hcz6_3, hcz6_4⟩ := cz5 BK363.out; have hfz6_4 := Zkf BK363.out 4) | ((with_reducible refine gate_callee (f := 55) rfl ?_); refine ge_ (some 6) Tryd.func55 #[.int .i64 a0_0] ?_; (with_reducible refine (impl_OpName.calls _ _ _ A2.out).mono ?_); rintro e w7 ⟨rfl, hb⟩; refine ⟨_, rfl, ?_⟩; have n0_ := (⟨Zm (Zkb (pk BK363.out) hb), Zm (Zbt (bk HB.out) hb)⟩ : _ ∧ _); clear BK363 HB; obtain ⟨BK363, HB⟩ := n0_; (try clear hb); (try clear hb2); (try clear hk); (try clear hi)) | ((with_reducible refine gate_dst (N := 7) rfl ?_); refine Kd.R_lit Kd.string _ 9 ?hg (N := 7) ?hd (xs := ([t364] : List ByteArray)) (inner := [.string t364]) (ok := fun _ => True) (okp := fun _ => True) ?hr ?hp (fun _ hk => hk) trivial (Below.refl _ _) (Nat.le_refl _) (by simp) ?_; (case hd => rfl); (case hg => rfl); (case hr => first | (go_simp; done) | (go_simp; rfl)); (case hp => exact (Reps.one (show Kd.M Kd.string _ _ _ t364 [.string t364] from rfl) (Reps.none _ _))); intro v366 w8 ho9 hb hg_ hnew_; clear hg_ hnew_; (first | rw [← Ny365.out] at ho9 | (simp only [Int.reduceToNat] at ho9; rw [← Ny365.out] at ho9)); have n0_ := (⟨Zm (Kd.R_lower ho9 (Zbz (bk HB.out))), Zm (Zkb (pk BK363.out) hb), Zm (Zbt (bk HB.out) hb)⟩ : _ ∧ _ ∧ _); clear BK363 HB; obtain ⟨HO367, BK363, HB⟩ := n0_; clear hb ho9; obtain ⟨hcz10_0, hcz10_1, hcz10_2, hcz10_3, hcz10_4⟩ := cz5 BK363.out; have hfz10_4 := Zkf BK363.out 4) | ((with_reducible refine gate_callee (f := 48) rfl ?_); refine ge_ (some 10) Tryd.func48 #[.int .i64 a0_0] ?_; (with_reducible refine (impl_OpForm.calls _ _ _ A3.out).mono ?_); rintro e w11 ⟨rfl, hb⟩; refine ⟨_, rfl, ?_⟩; have n0_ := (⟨Zm (Kd.R_below (by (with_reducible repeat (first | apply Kd.R_alloc | apply Kd.R_drewN | apply Kd.R_drew)); exact HO367.out) hb), Zm (Zkb (pk BK363.out) hb), Zm (Zbt (bk HB.out) hb)⟩ : _ ∧ _ ∧ _); clear HO367 BK363 HB; obtain ⟨HO367, BK363, HB⟩ := n0_; (try clear hb); (try clear hb2); (try clear hk); (try clear hi))); (try simp only [Act.put, List.setIfInBounds_toArray, List.set_cons_zero, List.set_cons_succ]); go_cut [11] (fun v11 wc => ∃ (kq : Nat) (x11_3 : Bool), v11 = .bool x11_3 ∧ Aside0 (impl_insText.j0 kq y365 t368 x11_3 a0_0 a0_1 a0_2 a0_3 a0_4 = some r) ∧ Aside0 (kq ≤ k) ∧ Aside0 (Kd.R Kd.string 9 wc w.heap.size (fun _ => True) v366 y365) ∧ Aside0 (wc.heap[gb363]? = some (.cells #[.int .i64 a0_0, .int .i64 a0_1, .string a0_2, .string a0_3, .string a0_4] 44 (0, 0))) ∧ Aside0 (Below w.heap.size w wc))
 case first =>
  have H := HC4.out; clear HC4; by_cases c12 : t368.toList = ([110] : List UInt8); rotate_left
  · rw [if_neg c12] at H; have c12b0 : (t368.toList == ([110] : List UInt8)) = false := beq_eq_false_iff_ne.mpr c12; have c12b1 : (t368.toList != ([110] : List UInt8)) = true := bne_iff_ne.mpr c12; (first | rw [c12b0] | (simp only [i64_w, i32_w]; rw [c12b0]) | skip); by_cases c13 : t368.toList = ([105] : List UInt8); rotate_left
    · rw [if_neg c13] at H; have c13b0 : (t368.toList == ([105] : List UInt8)) = false := beq_eq_false_iff_ne.mpr c13; have c13b1 : (t368.toList != ([105] : List UInt8)) = true := bne_iff_ne.mpr c13; have H' := Zm H; clear H; go_wp2; go_meet
      case rel => exact ⟨_, ((t368.toList == ([116] : List UInt8))), (by first | rfl | (simp; done) | (simp [*]; done)), H', ⟨by first | omega | exact Nat.le_refl _⟩, ⟨by (with_reducible repeat (first | apply Kd.R_alloc | apply Kd.R_drewN | apply Kd.R_drew)); exact HO367.out⟩, ⟨pk BK363.out⟩, ⟨bk HB.out⟩⟩
    rw [if_pos c13] at H; have c13b0 : (t368.toList == ([105] : List UInt8)) = true := beq_iff_eq.mpr c13; have c13b1 : (t368.toList != ([105] : List UInt8)) = false := bne_eq_false_iff_eq.mpr c13; clear c13; have H' := Zm H; clear H; go_wp2; go_meet
    case rel => exact ⟨_, ((t368.toList == ([105] : List UInt8))), (by first | rfl | (simp; done) | (simp [*]; done)), H', ⟨by first | omega | exact Nat.le_refl _⟩, ⟨by (with_reducible repeat (first | apply Kd.R_alloc | apply Kd.R_drewN | apply Kd.R_drew)); exact HO367.out⟩, ⟨pk BK363.out⟩, ⟨bk HB.out⟩⟩
  rw [if_pos c12] at H; have c12b0 : (t368.toList == ([110] : List UInt8)) = true := beq_iff_eq.mpr c12; have c12b1 : (t368.toList != ([110] : List UInt8)) = false := bne_eq_false_iff_eq.mpr c12; clear c12; (first | rw [c12b0] | (simp only [i64_w, i32_w]; rw [c12b0]) | skip); have H' := Zm H; clear H; go_wp2; go_meet
  case rel => exact ⟨_, ((t368.toList == ([110] : List UInt8))), (by first | rfl | (simp; done) | (simp [*]; done)), H', ⟨by first | omega | exact Nat.le_refl _⟩, ⟨by (with_reducible repeat (first | apply Kd.R_alloc | apply Kd.R_drewN | apply Kd.R_drew)); exact HO367.out⟩, ⟨pk BK363.out⟩, ⟨bk HB.out⟩⟩
 case rest =>
  clear HC4; (try clear hcz10_0); (try clear hcz10_1); (try clear hcz10_2); (try clear hcz10_3); (try clear hcz10_4); (try clear hcz6_0); (try clear hcz6_1); (try clear hcz6_2); (try clear hcz6_3); (try clear hcz6_4); (try clear hfz10_4); (try clear hfz6_4); obtain ⟨kq, x11_3, rfl, HA, HJ3, HO_3, BK363, HB⟩ := hcut
  cases kq with
  | zero => exact absurd HA.out (by simp [impl_insText.j0])
  | succ kj3 =>
   have H := HA.out; clear HA; simp only [impl_insText.j0] at H; by_cases c14 : x11_3 = true; rotate_left
   · replace c14 := Bool.eq_false_iff.mpr c14; subst c14; rw [if_neg (show ¬ (false = true) by decide)] at H; by_cases c23 : t368.toList = ([99] : List UInt8); rotate_left
     · rw [if_neg c23] at H; have c23b0 : (t368.toList == ([99] : List UInt8)) = false := beq_eq_false_iff_ne.mpr c23; have c23b1 : (t368.toList != ([99] : List UInt8)) = true := bne_iff_ne.mpr c23; by_cases c30 : t368.toList = ([121] : List UInt8); rotate_left
       · rw [if_neg c30] at H; have c30b0 : (t368.toList == ([121] : List UInt8)) = false := beq_eq_false_iff_ne.mpr c30; have c30b1 : (t368.toList != ([121] : List UInt8)) = true := bne_iff_ne.mpr c30; by_cases c37 : t368.toList = ([102] : List UInt8); rotate_left
         · rw [if_neg c37] at H; have c37b0 : (t368.toList == ([102] : List UInt8)) = false := beq_eq_false_iff_ne.mpr c37; have c37b1 : (t368.toList != ([102] : List UInt8)) = true := bne_iff_ne.mpr c37; by_cases c47 : t368.toList = ([109] : List UInt8); rotate_left
           · rw [if_neg c47] at H; have c47b0 : (t368.toList == ([109] : List UInt8)) = false := beq_eq_false_iff_ne.mpr c47; have c47b1 : (t368.toList != ([109] : List UInt8)) = true := bne_iff_ne.mpr c47; replace H := Option.bind_eq_some_iff.mp H; obtain ⟨t396, A570, H⟩ := H; (try dsimp only at H); have A57 := Zm A570; clear A570; obtain rfl := Option.some.inj H; (try clear BK363); obtain ⟨Ao58, co58, eo58⟩ := Kd.R_slice HO_3.out; subst eo58; go_wp2_with (first | ((with_reducible refine gate_callee (f := 39) rfl ?_); refine ge_ (some 48) Tryd.func39 #[.slice Ao58 y365.length co58, .string (⟨#[32]⟩ : ByteArray)] ?_; (with_reducible refine (strings_Join.calls _ _ _ _ _ _ ?side1 ?side2 A57.out).mono ?_); (case side1 => exact pc (Kd.R_reads' HO_3.out).2.2); (case side2 => exact (Kd.R_reads' HO_3.out).2.1); rintro e w59 ⟨rfl, hb⟩; refine ⟨_, rfl, ?_⟩; have n0_ := (⟨Zm (Kd.R_below (by (with_reducible repeat (first | apply Kd.R_alloc | apply Kd.R_drewN | apply Kd.R_drew)); exact HO_3.out) hb), Zm (Zbt (bk HB.out) hb)⟩ : _ ∧ _); clear HO_3 HB; obtain ⟨HO_3, HB⟩ := n0_; (try clear hb); (try clear hb2); (try clear hk); (try clear hi))); go_ret; exact fin_ HB

           rw [if_pos c47] at H
           have c47b0 : (t368.toList == ([109] : List UInt8)) = true := beq_iff_eq.mpr c47
           have c47b1 : (t368.toList != ([109] : List UInt8)) = false := bne_eq_false_iff_eq.mpr c47
           clear c47
           obtain ⟨y389, hy389⟩ : ∃ y_ : List ByteArray, y_ = (([a0_2, a0_3, a0_4] : List ByteArray)) := ⟨_, rfl⟩
           replace H : (if y365.length + y389.length < 8796093022208 then ((strings_Join.f (y365 ++ y389) (⟨#[32]⟩ : ByteArray)).bind fun t395 => (some t395)) else (none)) = some r := by first | (rw [hy389]; with_reducible exact H) | (have H2_ := (Option.bind_some _ _).symm.trans H; rw [hy389]; with_reducible exact H2_) | (have H2_ := (Option.bind_some _ _).symm.trans H; with_reducible exact H2_) | with_reducible exact H | (rw [hy389]; exact H) | exact H
           have Ny389 := Zm hy389
           clear hy389
           by_cases c48 : y365.length + y389.length < 8796093022208
           rotate_left
           · rw [if_neg c48] at H
             exact absurd H (by simp)
           rw [if_pos c48] at H
           have LMc48 := Zm c48
           clear c48
           obtain ⟨y392, hy392⟩ : ∃ y_ : List ByteArray, y_ = (y365 ++ y389) := ⟨_, rfl⟩
           replace H : ((strings_Join.f y392 (⟨#[32]⟩ : ByteArray)).bind fun t395 => (some t395)) = some r := by first | (rw [hy392]; with_reducible exact H) | (have H2_ := (Option.bind_some _ _).symm.trans H; rw [hy392]; with_reducible exact H2_) | (have H2_ := (Option.bind_some _ _).symm.trans H; with_reducible exact H2_) | with_reducible exact H | (rw [hy392]; exact H) | exact H
           have Ny392 := Zm hy392
           clear hy392
           replace H := Option.bind_eq_some_iff.mp H
           obtain ⟨t395, A490, H⟩ := H
           (try dsimp only at H)
           have A49 := Zm A490
           clear A490
           obtain rfl := Option.some.inj H
           obtain ⟨hcz50_0, hcz50_1, hcz50_2, hcz50_3, hcz50_4⟩ := cz5 BK363.out
           (try clear BK363)
           go_wp2_with (first | ((with_reducible refine gate_dst (N := 45) rfl ?_); refine Kd.R_lit Kd.string _ 9 ?hg (N := 45) ?hd (xs := ([a0_2, a0_3, a0_4] : List ByteArray)) (inner := [.string a0_2, .string a0_3, .string a0_4]) (ok := fun _ => True) (okp := fun _ => True) ?hr ?hp (fun _ hk => hk) trivial (Below.refl _ _) (Nat.le_refl _) (by simp) ?_; (case hd => rfl); (case hg => rfl); (case hr => first | (go_simp; done) | (go_simp; rfl)); (case hp => exact (Reps.one (show Kd.M Kd.string _ _ _ a0_2 [.string a0_2] from rfl) (Reps.one (show Kd.M Kd.string _ _ _ a0_3 [.string a0_3] from rfl) (Reps.one (show Kd.M Kd.string _ _ _ a0_4 [.string a0_4] from rfl) (Reps.none _ _))))); intro v390 w51 ho52 hb hg_ hnew_; clear hg_ hnew_; (first | rw [← Ny389.out] at ho52 | (simp only [Int.reduceToNat] at ho52; rw [← Ny389.out] at ho52)); have n0_ := (⟨Zm (Kd.R_elder' (by (with_reducible repeat (first | apply Kd.R_alloc | apply Kd.R_drewN | apply Kd.R_drew)); exact HO_3.out) (Kd.R_base ho52) hb), Zm (Kd.R_lower (Kd.R_new' ho52 (Kd.R_lt (by (with_reducible repeat (first | apply Kd.R_alloc | apply Kd.R_drewN | apply Kd.R_drew)); exact HO_3.out))) (Zbz (bk HB.out))), Zm (Zbt (bk HB.out) hb)⟩ : _ ∧ _ ∧ _); clear HO_3 HB; obtain ⟨HO_3, HO391, HB⟩ := n0_; clear hb ho52; obtain ⟨Ao54, co54, eo54⟩ := Kd.R_slice HO391.out; subst eo54) | ((with_reducible refine gate_builtin (b := .append) (xs := #[.tmp 38, .tmp 45]) rfl ?_); at_builtin; refine Kd.R_append_rows Kd.string (w0 := w) w.heap.size rfl (.tmp 38) (.tmp 45) 61 9 (.string ⟨#[]⟩) 16 rfl Tryd.underlying61 info9 rfl (by decide) (by omega) v366 y365 y389 _ _ _ (fun k_ => some k_ ≠ (.slice Ao54 y389.length co54 : Value).ownBlock) (fun _ => False) rfl rfl ?aO ?aR (fun _ _ h => h) (fun _ h => h.elim) ?aF ?aB ?aS ?aL ?_; (case aR => exact pc (Kd.R_reads' HO391.out).2.2); (case aB => exact (bk HB.out)); (case aF => exact (fun k_ hk => Kd.fresh' (Kd.R_lt (by (with_reducible repeat (first | apply Kd.R_alloc | apply Kd.R_drewN | apply Kd.R_drew)); exact HO391.out)) k_ hk)); (case aO => exact (by (with_reducible repeat (first | apply Kd.R_alloc | apply Kd.R_drewN | apply Kd.R_drew)); exact Kd.R_mono HO_3.out (fun _ hk => hk.2))); (case aS => exact (Zbz (bk HB.out))); (case aL => have := LMc48.out; omega); intro v393 w53 ho hb hg hat; rw [← Ny392.out] at ho; have n0_ := (⟨Zm (Kd.R_after (ok := (fun _ => True)) (by (with_reducible repeat (first | apply Kd.R_alloc | apply Kd.R_drewN | apply Kd.R_drew)); exact HO391.out) hg hat), Zm (hb), Zm (ho)⟩ : _ ∧ _ ∧ _); clear HO391 HB HO_3; obtain ⟨HO391, HB, HO394⟩ := n0_; clear ho hb hg hat; (try clear HO391); obtain ⟨Ao55, co55, eo55⟩ := Kd.R_slice HO394.out; subst eo55) | ((with_reducible refine gate_callee (f := 39) rfl ?_); refine ge_ (some 48) Tryd.func39 #[.slice Ao55 y392.length co55, .string (⟨#[32]⟩ : ByteArray)] ?_; (with_reducible refine (strings_Join.calls _ _ _ _ _ _ ?side1 ?side2 A49.out).mono ?_); (case side1 => exact pc (Kd.R_reads' HO394.out).2.2); (case side2 => exact (Kd.R_reads' HO394.out).2.1); rintro e w56 ⟨rfl, hb⟩; refine ⟨_, rfl, ?_⟩; have n0_ := (⟨Zm (Kd.R_below (by (with_reducible repeat (first | apply Kd.R_alloc | apply Kd.R_drewN | apply Kd.R_drew)); exact HO394.out) hb), Zm (Zbt (bk HB.out) hb)⟩ : _ ∧ _); clear HO394 HB; obtain ⟨HO394, HB⟩ := n0_; (try clear hb); (try clear hb2); (try clear hk); (try clear hi)))
           go_ret
           exact fin_ HB
         rw [if_pos c37] at H
         have c37b0 : (t368.toList == ([102] : List UInt8)) = true := beq_iff_eq.mpr c37
         have c37b1 : (t368.toList != ([102] : List UInt8)) = false := bne_eq_false_iff_eq.mpr c37
         clear c37
         obtain ⟨y382, hy382⟩ : ∃ y_ : List ByteArray, y_ = (([a0_2, a0_3, a0_4] : List ByteArray)) := ⟨_, rfl⟩
         replace H : (if y365.length + y382.length < 8796093022208 then ((strings_Join.f (y365 ++ y382) (⟨#[32]⟩ : ByteArray)).bind fun t388 => (some t388)) else (none)) = some r := by first | (rw [hy382]; with_reducible exact H) | (have H2_ := (Option.bind_some _ _).symm.trans H; rw [hy382]; with_reducible exact H2_) | (have H2_ := (Option.bind_some _ _).symm.trans H; with_reducible exact H2_) | with_reducible exact H | (rw [hy382]; exact H) | exact H
         have Ny382 := Zm hy382
         clear hy382
         by_cases c38 : y365.length + y382.length < 8796093022208
         rotate_left
         · rw [if_neg c38] at H
           exact absurd H (by simp)
         rw [if_pos c38] at H
         have LMc38 := Zm c38
         clear c38
         obtain ⟨y385, hy385⟩ : ∃ y_ : List ByteArray, y_ = (y365 ++ y382) := ⟨_, rfl⟩
         replace H : ((strings_Join.f y385 (⟨#[32]⟩ : ByteArray)).bind fun t388 => (some t388)) = some r := by first | (rw [hy385]; with_reducible exact H) | (have H2_ := (Option.bind_some _ _).symm.trans H; rw [hy385]; with_reducible exact H2_) | (have H2_ := (Option.bind_some _ _).symm.trans H; with_reducible exact H2_) | with_reducible exact H | (rw [hy385]; exact H) | exact H
         have Ny385 := Zm hy385
         clear hy385
         replace H := Option.bind_eq_some_iff.mp H
         obtain ⟨t388, A390, H⟩ := H
         (try dsimp only at H)
         have A39 := Zm A390
         clear A390
         obtain rfl := Option.some.inj H
         obtain ⟨hcz40_0, hcz40_1, hcz40_2, hcz40_3, hcz40_4⟩ := cz5 BK363.out
         (try clear BK363)
         go_wp2_with (first | ((with_reducible refine gate_dst (N := 45) rfl ?_); refine Kd.R_lit Kd.string _ 9 ?hg (N := 45) ?hd (xs := ([a0_2, a0_3, a0_4] : List ByteArray)) (inner := [.string a0_2, .string a0_3, .string a0_4]) (ok := fun _ => True) (okp := fun _ => True) ?hr ?hp (fun _ hk => hk) trivial (Below.refl _ _) (Nat.le_refl _) (by simp) ?_; (case hd => rfl); (case hg => rfl); (case hr => first | (go_simp; done) | (go_simp; rfl)); (case hp => exact (Reps.one (show Kd.M Kd.string _ _ _ a0_2 [.string a0_2] from rfl) (Reps.one (show Kd.M Kd.string _ _ _ a0_3 [.string a0_3] from rfl) (Reps.one (show Kd.M Kd.string _ _ _ a0_4 [.string a0_4] from rfl) (Reps.none _ _))))); intro v383 w41 ho42 hb hg_ hnew_; clear hg_ hnew_; (first | rw [← Ny382.out] at ho42 | (simp only [Int.reduceToNat] at ho42; rw [← Ny382.out] at ho42)); have n0_ := (⟨Zm (Kd.R_elder' (by (with_reducible repeat (first | apply Kd.R_alloc | apply Kd.R_drewN | apply Kd.R_drew)); exact HO_3.out) (Kd.R_base ho42) hb), Zm (Kd.R_lower (Kd.R_new' ho42 (Kd.R_lt (by (with_reducible repeat (first | apply Kd.R_alloc | apply Kd.R_drewN | apply Kd.R_drew)); exact HO_3.out))) (Zbz (bk HB.out))), Zm (Zbt (bk HB.out) hb)⟩ : _ ∧ _ ∧ _); clear HO_3 HB; obtain ⟨HO_3, HO384, HB⟩ := n0_; clear hb ho42; obtain ⟨Ao44, co44, eo44⟩ := Kd.R_slice HO384.out; subst eo44) | ((with_reducible refine gate_builtin (b := .append) (xs := #[.tmp 38, .tmp 45]) rfl ?_); at_builtin; refine Kd.R_append_rows Kd.string (w0 := w) w.heap.size rfl (.tmp 38) (.tmp 45) 61 9 (.string ⟨#[]⟩) 16 rfl Tryd.underlying61 info9 rfl (by decide) (by omega) v366 y365 y382 _ _ _ (fun k_ => some k_ ≠ (.slice Ao44 y382.length co44 : Value).ownBlock) (fun _ => False) rfl rfl ?aO ?aR (fun _ _ h => h) (fun _ h => h.elim) ?aF ?aB ?aS ?aL ?_; (case aR => exact pc (Kd.R_reads' HO384.out).2.2); (case aB => exact (bk HB.out)); (case aF => exact (fun k_ hk => Kd.fresh' (Kd.R_lt (by (with_reducible repeat (first | apply Kd.R_alloc | apply Kd.R_drewN | apply Kd.R_drew)); exact HO384.out)) k_ hk)); (case aO => exact (by (with_reducible repeat (first | apply Kd.R_alloc | apply Kd.R_drewN | apply Kd.R_drew)); exact Kd.R_mono HO_3.out (fun _ hk => hk.2))); (case aS => exact (Zbz (bk HB.out))); (case aL => have := LMc38.out; omega); intro v386 w43 ho hb hg hat; rw [← Ny385.out] at ho; have n0_ := (⟨Zm (Kd.R_after (ok := (fun _ => True)) (by (with_reducible repeat (first | apply Kd.R_alloc | apply Kd.R_drewN | apply Kd.R_drew)); exact HO384.out) hg hat), Zm (hb), Zm (ho)⟩ : _ ∧ _ ∧ _); clear HO384 HB HO_3; obtain ⟨HO384, HB, HO387⟩ := n0_; clear ho hb hg hat; (try clear HO384); obtain ⟨Ao45, co45, eo45⟩ := Kd.R_slice HO387.out; subst eo45) | ((with_reducible refine gate_callee (f := 39) rfl ?_); refine ge_ (some 48) Tryd.func39 #[.slice Ao45 y385.length co45, .string (⟨#[32]⟩ : ByteArray)] ?_; (with_reducible refine (strings_Join.calls _ _ _ _ _ _ ?side1 ?side2 A39.out).mono ?_); (case side1 => exact pc (Kd.R_reads' HO387.out).2.2); (case side2 => exact (Kd.R_reads' HO387.out).2.1); rintro e w46 ⟨rfl, hb⟩; refine ⟨_, rfl, ?_⟩; have n0_ := (⟨Zm (Kd.R_below (by (with_reducible repeat (first | apply Kd.R_alloc | apply Kd.R_drewN | apply Kd.R_drew)); exact HO387.out) hb), Zm (Zbt (bk HB.out) hb)⟩ : _ ∧ _); clear HO387 HB; obtain ⟨HO387, HB⟩ := n0_; (try clear hb); (try clear hb2); (try clear hk); (try clear hi)))
         go_ret
         exact fin_ HB
       rw [if_pos c30] at H
       have c30b0 : (t368.toList == ([121] : List UInt8)) = true := beq_iff_eq.mpr c30
       have c30b1 : (t368.toList != ([121] : List UInt8)) = false := bne_eq_false_iff_eq.mpr c30
       clear c30
       by_cases c31 : y365.length < 8796093022208
       rotate_left
       · rw [if_neg c31] at H
         exact absurd H (by simp)
       rw [if_pos c31] at H
       have LMc31 := Zm c31
       clear c31
       obtain ⟨y378, hy378⟩ : ∃ y_ : List ByteArray, y_ = (y365 ++ [a0_4]) := ⟨_, rfl⟩
       replace H : ((strings_Join.f y378 (⟨#[32]⟩ : ByteArray)).bind fun t381 => (some t381)) = some r := by first | (rw [hy378]; with_reducible exact H) | (have H2_ := (Option.bind_some _ _).symm.trans H; rw [hy378]; with_reducible exact H2_) | (have H2_ := (Option.bind_some _ _).symm.trans H; with_reducible exact H2_) | with_reducible exact H | (rw [hy378]; exact H) | exact H
       have Ny378 := Zm hy378
       clear hy378
       replace H := Option.bind_eq_some_iff.mp H
       obtain ⟨t381, A320, H⟩ := H
       (try dsimp only at H)
       have A32 := Zm A320
       clear A320
       obtain rfl := Option.some.inj H
       obtain ⟨hcz33_0, hcz33_1, hcz33_2, hcz33_3, hcz33_4⟩ := cz5 BK363.out
       go_wp2_with (first | ((with_reducible refine gate_builtin (b := .append) (xs := #[.tmp 30, .tmp 33]) rfl ?_); at_builtin; refine Kd.R_append Kd.string (w0 := w) w.heap.size rfl (.tmp 30) (.tmp 33) 61 9 (.string ⟨#[]⟩) 16 rfl Tryd.underlying61 info9 rfl (by decide) (by omega) v366 y365 a0_4 [.string a0_4] (fun _ => True) (fun _ => False) rfl rfl ?aP (fun _ hk => hk.elim) ?aF ?aO ?aB ?aS ?aL ?_; (case aP => exact rfl); (case aB => exact (bk HB.out)); (case aF => exact (fun _ _ => trivial)); (case aO => exact (by (with_reducible repeat (first | apply Kd.R_alloc | apply Kd.R_drewN | apply Kd.R_drew)); exact HO_3.out)); (case aS => exact (Zbz (bk HB.out))); (case aL => have := LMc31.out; omega); intro v379 w34 ho hb hg hat; rw [← Ny378.out] at ho; have n0_ := (⟨Zm (blk_grown (pk BK363.out) hg (Kd.R_ne HO_3.out BK363.out (by decide))), Zm (hb), Zm (ho)⟩ : _ ∧ _ ∧ _); clear BK363 HB HO_3; obtain ⟨BK363, HB, HO380⟩ := n0_; clear ho hb hg hat; (try clear BK363); obtain ⟨Ao35, co35, eo35⟩ := Kd.R_slice HO380.out; subst eo35) | ((with_reducible refine gate_callee (f := 39) rfl ?_); refine ge_ (some 48) Tryd.func39 #[.slice Ao35 y378.length co35, .string (⟨#[32]⟩ : ByteArray)] ?_; (with_reducible refine (strings_Join.calls _ _ _ _ _ _ ?side1 ?side2 A32.out).mono ?_); (case side1 => exact pc (Kd.R_reads' HO380.out).2.2); (case side2 => exact (Kd.R_reads' HO380.out).2.1); rintro e w36 ⟨rfl, hb⟩; refine ⟨_, rfl, ?_⟩; have n0_ := (⟨Zm (Kd.R_below (by (with_reducible repeat (first | apply Kd.R_alloc | apply Kd.R_drewN | apply Kd.R_drew)); exact HO380.out) hb), Zm (Zbt (bk HB.out) hb)⟩ : _ ∧ _); clear HO380 HB; obtain ⟨HO380, HB⟩ := n0_; (try clear hb); (try clear hb2); (try clear hk); (try clear hi)))
       go_ret
       exact fin_ HB
     rw [if_pos c23] at H
     have c23b0 : (t368.toList == ([99] : List UInt8)) = true := beq_iff_eq.mpr c23
     have c23b1 : (t368.toList != ([99] : List UInt8)) = false := bne_eq_false_iff_eq.mpr c23
     clear c23
     by_cases c24 : y365.length < 8796093022208
     rotate_left
     · rw [if_neg c24] at H
       exact absurd H (by simp)
     rw [if_pos c24] at H
     have LMc24 := Zm c24
     clear c24
     obtain ⟨y374, hy374⟩ : ∃ y_ : List ByteArray, y_ = (y365 ++ [a0_2]) := ⟨_, rfl⟩
     replace H : ((strings_Join.f y374 (⟨#[32]⟩ : ByteArray)).bind fun t377 => (some t377)) = some r := by first | (rw [hy374]; with_reducible exact H) | (have H2_ := (Option.bind_some _ _).symm.trans H; rw [hy374]; with_reducible exact H2_) | (have H2_ := (Option.bind_some _ _).symm.trans H; with_reducible exact H2_) | with_reducible exact H | (rw [hy374]; exact H) | exact H
     have Ny374 := Zm hy374
     clear hy374
     replace H := Option.bind_eq_some_iff.mp H
     obtain ⟨t377, A250, H⟩ := H
     (try dsimp only at H)
     have A25 := Zm A250
     clear A250
     obtain rfl := Option.some.inj H
     obtain ⟨hcz26_0, hcz26_1, hcz26_2, hcz26_3, hcz26_4⟩ := cz5 BK363.out
     go_wp2_with (first | ((with_reducible refine gate_builtin (b := .append) (xs := #[.tmp 23, .tmp 26]) rfl ?_); at_builtin; refine Kd.R_append Kd.string (w0 := w) w.heap.size rfl (.tmp 23) (.tmp 26) 61 9 (.string ⟨#[]⟩) 16 rfl Tryd.underlying61 info9 rfl (by decide) (by omega) v366 y365 a0_2 [.string a0_2] (fun _ => True) (fun _ => False) rfl rfl ?aP (fun _ hk => hk.elim) ?aF ?aO ?aB ?aS ?aL ?_; (case aP => exact rfl); (case aB => exact (bk HB.out)); (case aF => exact (fun _ _ => trivial)); (case aO => exact (by (with_reducible repeat (first | apply Kd.R_alloc | apply Kd.R_drewN | apply Kd.R_drew)); exact HO_3.out)); (case aS => exact (Zbz (bk HB.out))); (case aL => have := LMc24.out; omega); intro v375 w27 ho hb hg hat; rw [← Ny374.out] at ho; have n0_ := (⟨Zm (blk_grown (pk BK363.out) hg (Kd.R_ne HO_3.out BK363.out (by decide))), Zm (hb), Zm (ho)⟩ : _ ∧ _ ∧ _); clear BK363 HB HO_3; obtain ⟨BK363, HB, HO376⟩ := n0_; clear ho hb hg hat; (try clear BK363); obtain ⟨Ao28, co28, eo28⟩ := Kd.R_slice HO376.out; subst eo28) | ((with_reducible refine gate_callee (f := 39) rfl ?_); refine ge_ (some 48) Tryd.func39 #[.slice Ao28 y374.length co28, .string (⟨#[32]⟩ : ByteArray)] ?_; (with_reducible refine (strings_Join.calls _ _ _ _ _ _ ?side1 ?side2 A25.out).mono ?_); (case side1 => exact pc (Kd.R_reads' HO376.out).2.2); (case side2 => exact (Kd.R_reads' HO376.out).2.1); rintro e w29 ⟨rfl, hb⟩; refine ⟨_, rfl, ?_⟩; have n0_ := (⟨Zm (Kd.R_below (by (with_reducible repeat (first | apply Kd.R_alloc | apply Kd.R_drewN | apply Kd.R_drew)); exact HO376.out) hb), Zm (Zbt (bk HB.out) hb)⟩ : _ ∧ _); clear HO376 HB; obtain ⟨HO376, HB⟩ := n0_; (try clear hb); (try clear hb2); (try clear hk); (try clear hi)))
     go_ret
     exact fin_ HB
   subst c14
   rw [if_pos rfl] at H
   replace H := Option.bind_eq_some_iff.mp H
   obtain ⟨t369, A150, H⟩ := H
   (try dsimp only at H)
   have A15 := Zm A150
   clear A150
   by_cases c16 : y365.length < 8796093022208
   rotate_left
   · rw [if_neg c16] at H
     exact absurd H (by simp)
   rw [if_pos c16] at H
   have LMc16 := Zm c16
   clear c16
   obtain ⟨y370, hy370⟩ : ∃ y_ : List ByteArray, y_ = (y365 ++ [t369]) := ⟨_, rfl⟩
   replace H : ((strings_Join.f y370 (⟨#[32]⟩ : ByteArray)).bind fun t373 => (some t373)) = some r := by first | (rw [hy370]; with_reducible exact H) | (have H2_ := (Option.bind_some _ _).symm.trans H; rw [hy370]; with_reducible exact H2_) | (have H2_ := (Option.bind_some _ _).symm.trans H; with_reducible exact H2_) | with_reducible exact H | (rw [hy370]; exact H) | exact H
   have Ny370 := Zm hy370
   clear hy370
   replace H := Option.bind_eq_some_iff.mp H
   obtain ⟨t373, A170, H⟩ := H
   (try dsimp only at H)
   have A17 := Zm A170
   clear A170
   obtain rfl := Option.some.inj H
   obtain ⟨hcz18_0, hcz18_1, hcz18_2, hcz18_3, hcz18_4⟩ := cz5 BK363.out
   (try clear BK363)
   go_wp2_with (first | ((with_reducible refine gate_callee (f := 24) rfl ?_); refine ge_ (some 18) Tryd.func24 #[.int .i64 a0_1] ?_; (with_reducible refine (impl_text.calls _ _ _ A15.out).mono ?_); rintro e w19 ⟨rfl, hb⟩; refine ⟨_, rfl, ?_⟩; have n0_ := (⟨Zm (Kd.R_below (by (with_reducible repeat (first | apply Kd.R_alloc | apply Kd.R_drewN | apply Kd.R_drew)); exact HO_3.out) hb), Zm (Zbt (bk HB.out) hb)⟩ : _ ∧ _); clear HO_3 HB; obtain ⟨HO_3, HB⟩ := n0_; (try clear hb); (try clear hb2); (try clear hk); (try clear hi)) | ((with_reducible refine gate_builtin (b := .append) (xs := #[.tmp 15, .tmp 19]) rfl ?_); at_builtin; refine Kd.R_append Kd.string (w0 := w) w.heap.size rfl (.tmp 15) (.tmp 19) 61 9 (.string ⟨#[]⟩) 16 rfl Tryd.underlying61 info9 rfl (by decide) (by omega) v366 y365 t369 [.string t369] (fun _ => True) (fun _ => False) rfl rfl ?aP (fun _ hk => hk.elim) ?aF ?aO ?aB ?aS ?aL ?_; (case aP => exact rfl); (case aB => exact (bk HB.out)); (case aF => exact (fun _ _ => trivial)); (case aO => exact (by (with_reducible repeat (first | apply Kd.R_alloc | apply Kd.R_drewN | apply Kd.R_drew)); exact HO_3.out)); (case aS => exact (Zbz (bk HB.out))); (case aL => have := LMc16.out; omega); intro v371 w20 ho hb hg hat; rw [← Ny370.out] at ho; have n0_ := (⟨Zm (hb), Zm (ho)⟩ : _ ∧ _); clear HB HO_3; obtain ⟨HB, HO372⟩ := n0_; clear ho hb hg hat; obtain ⟨Ao21, co21, eo21⟩ := Kd.R_slice HO372.out; subst eo21) | ((with_reducible refine gate_callee (f := 39) rfl ?_); refine ge_ (some 48) Tryd.func39 #[.slice Ao21 y370.length co21, .string (⟨#[32]⟩ : ByteArray)] ?_; (with_reducible refine (strings_Join.calls _ _ _ _ _ _ ?side1 ?side2 A17.out).mono ?_); (case side1 => exact pc (Kd.R_reads' HO372.out).2.2); (case side2 => exact (Kd.R_reads' HO372.out).2.1); rintro e w22 ⟨rfl, hb⟩; refine ⟨_, rfl, ?_⟩; have n0_ := (⟨Zm (Kd.R_below (by (with_reducible repeat (first | apply Kd.R_alloc | apply Kd.R_drewN | apply Kd.R_drew)); exact HO372.out) hb), Zm (Zbt (bk HB.out) hb)⟩ : _ ∧ _); clear HO372 HB; obtain ⟨HO372, HB⟩ := n0_; (try clear hb); (try clear hb2); (try clear hk); (try clear hi)))
   go_ret
   exact fin_ HB
/-! ### impl_InsText: function 19 -/
def impl_InsText.f (k : Nat) (a0_0 : Int) (a0_1 : Int) (a0_2 : ByteArray) (a0_3 : ByteArray) (a0_4 : ByteArray) : Option (ByteArray) := (impl_InsRight.f k a0_0 a0_1 a0_2 a0_3 a0_4).bind fun t398 => (if t398 = true then ((impl_insText.f k a0_0 a0_1 a0_2 a0_3 a0_4).bind fun t399 => (some t399)) else (some (⟨#[]⟩ : ByteArray)))
set_option maxHeartbeats 8000000 in
set_option maxRecDepth 100000 in
theorem impl_InsText.calls (k : Nat) (a0_0 : Int) (a0_1 : Int) (a0_2 : ByteArray) (a0_3 : ByteArray) (a0_4 : ByteArray) (r : ByteArray) (w : World) (h : impl_InsText.f k a0_0 a0_1 a0_2 a0_3 a0_4 = some r) (htab : Go.Lib.TabIs Tryd.prog w "internal/strconv.uint64pow10" .u64 Go.Lib.pow10Tab := by exact tab_) :
 Calls Tryd.prog 19 #[.agg #[.int .i64 a0_0, .int .i64 a0_1, .string a0_2, .string a0_3, .string a0_4]] w fun e w' => e = .returned (.string r) ∧ Below w.heap.size w w' := by
 have HTAB := Zm htab
 clear htab
 have hu44 := Tryd.underlying44; have HB := Zm (Below.refl w.heap.size w); have H : ((impl_InsRight.f k a0_0 a0_1 a0_2 a0_3 a0_4).bind fun t398 => (if t398 = true then ((impl_insText.f k a0_0 a0_1 a0_2 a0_3 a0_4).bind fun t399 => (some t399)) else (some (⟨#[]⟩ : ByteArray)))) = some r := h; clear h; replace H := Option.bind_eq_some_iff.mp H; obtain ⟨t398, A20, H⟩ := H; (try dsimp only at H); have A2 := Zm A20; clear A20; have HC3 := Zm H; clear H; go_enter Tryd.func19, Tryd.ntmps19; go_upto_if 5 with (first | ((with_reducible refine gate_dst (N := 1) rfl ?_); refine box_event ?hg (N := 1) ?hd (cs := #[.int .i64 a0_0, .int .i64 a0_1, .string a0_2, .string a0_3, .string a0_4]) (t := 44) ?hr ?_; (case hd => rfl); (case hg => rfl); (case hr => first | (go_simp; done) | (go_simp; rfl)); intro gb397 hg w4 hbox hb; have n0_ := (⟨Zm (Zbt (bk HB.out) hb), Zm (hbox), Zm ((by rw [hg]; exact (Zbz (bk HB.out)) : w.heap.size ≤ gb397)), Zm ((by rw [hg]; exact (Zbz (bk HB.out)) : w.heap.size ≤ gb397))⟩ : _ ∧ _ ∧ _ ∧ _); clear HB; obtain ⟨HB, BK397, GW397, GE397⟩ := n0_; clear hb hbox hg; obtain ⟨hcz5_0, hcz5_1, hcz5_2, hcz5_3, hcz5_4⟩ := cz5 BK397.out; have hfz5_4 := Zkf BK397.out 4) | ((with_reducible refine gate_callee (f := 32) rfl ?_); refine ge_ (some 4) Tryd.func32 #[.agg #[.int .i64 a0_0, .int .i64 a0_1, .string a0_2, .string a0_3, .string a0_4]] ?_; (with_reducible refine (impl_InsRight.calls _ _ _ _ _ _ _ _ A2.out).mono ?_); rintro e w6 ⟨rfl, hb⟩; refine ⟨_, rfl, ?_⟩; have n0_ := (⟨Zm (Zkb (pk BK397.out) hb), Zm (Zbt (bk HB.out) hb)⟩ : _ ∧ _); clear BK397 HB; obtain ⟨BK397, HB⟩ := n0_; (try clear hb); (try clear hb2); (try clear hk); (try clear hi))); have H := HC3.out; clear HC3; by_cases c7 : t398 = true; rotate_left
 · replace c7 := Bool.eq_false_iff.mpr c7; subst c7; rw [if_neg (show ¬ (false = true) by decide)] at H; obtain rfl := Option.some.inj H; go_wp2; go_ret; exact fin_ HB

 subst c7
 rw [if_pos rfl] at H
 replace H := Option.bind_eq_some_iff.mp H
 obtain ⟨t399, A80, H⟩ := H
 (try dsimp only at H)
 have A8 := Zm A80
 clear A80
 obtain rfl := Option.some.inj H
 obtain ⟨hcz9_0, hcz9_1, hcz9_2, hcz9_3, hcz9_4⟩ := cz5 BK397.out
 (try clear BK397)
 go_wp2_with (first | ((with_reducible refine gate_callee (f := 33) rfl ?_); refine ge_ (some 7) Tryd.func33 #[.agg #[.int .i64 a0_0, .int .i64 a0_1, .string a0_2, .string a0_3, .string a0_4]] ?_; (with_reducible refine (impl_insText.calls _ _ _ _ _ _ _ _ A8.out).mono ?_); rintro e w10 ⟨rfl, hb⟩; refine ⟨_, rfl, ?_⟩; have n0_ := Zm (Zbt (bk HB.out) hb); clear HB; have HB := n0_; clear n0_; (try clear hb); (try clear hb2); (try clear hk); (try clear hi)))
 go_ret
 exact fin_ HB
/-! ### laws_FnExactInsText: function 5 -/
def laws_FnExactInsText.f (k : Nat) (a0_0 : Int) (a0_1 : Int) (a0_2 : ByteArray) (a0_3 : ByteArray) (a0_4 : ByteArray) : Option (Bool) := (laws_szIns.f a0_0 a0_1 a0_2 a0_3 a0_4 1048576).bind fun t401 => (if t401 < 0 then (some true) else ((laws_toIns.f a0_0 a0_1 a0_2 a0_3 a0_4).bind fun bt402 => ((spec_InsText.f k bt402.1 bt402.2.1 bt402.2.2.1 bt402.2.2.2.1 bt402.2.2.2.2).bind fun t407 => ((laws_toIns.f a0_0 a0_1 a0_2 a0_3 a0_4).bind fun bt408 => ((impl_InsText.f k bt408.1 bt408.2.1 bt408.2.2.1 bt408.2.2.2.1 bt408.2.2.2.2).bind fun t413 => (if t413.toList = t407.toList then (some true) else (some false)))))))
set_option maxHeartbeats 8000000 in
set_option maxRecDepth 100000 in
theorem laws_FnExactInsText.calls (k : Nat) (a0_0 : Int) (a0_1 : Int) (a0_2 : ByteArray) (a0_3 : ByteArray) (a0_4 : ByteArray) (r : Bool) (w : World) (hT_ : r = true) (h : laws_FnExactInsText.f k a0_0 a0_1 a0_2 a0_3 a0_4 = some r) (htab : Go.Lib.TabIs Tryd.prog w "internal/strconv.uint64pow10" .u64 Go.Lib.pow10Tab := by exact tab_) :
 Calls Tryd.prog 5 #[.agg #[.int .i64 a0_0, .int .i64 a0_1, .string a0_2, .string a0_3, .string a0_4]] w fun e w' => e = .returned (.bool r) ∧ Below w.heap.size w w' := by
 have HTAB := Zm htab
 clear htab
 have hu41 := Tryd.underlying41; have HB := Zm (Below.refl w.heap.size w); have H : ((laws_szIns.f a0_0 a0_1 a0_2 a0_3 a0_4 1048576).bind fun t401 => (if t401 < 0 then (some true) else ((laws_toIns.f a0_0 a0_1 a0_2 a0_3 a0_4).bind fun bt402 => ((spec_InsText.f k bt402.1 bt402.2.1 bt402.2.2.1 bt402.2.2.2.1 bt402.2.2.2.2).bind fun t407 => ((laws_toIns.f a0_0 a0_1 a0_2 a0_3 a0_4).bind fun bt408 => ((impl_InsText.f k bt408.1 bt408.2.1 bt408.2.2.1 bt408.2.2.2.1 bt408.2.2.2.2).bind fun t413 => (if t413.toList = t407.toList then (some true) else (some false)))))))) = some r := h; clear h; replace H := Option.bind_eq_some_iff.mp H; obtain ⟨t401, A20, H⟩ := H; (try dsimp only at H); have A2 := Zm A20; clear A20; have HC3 := Zm H; clear H; go_enter Tryd.func5, Tryd.ntmps5; go_upto_if 10 with (first | ((with_reducible refine gate_dst (N := 1) rfl ?_); refine box_event ?hg (N := 1) ?hd (cs := #[.int .i64 a0_0, .int .i64 a0_1, .string a0_2, .string a0_3, .string a0_4]) (t := 41) ?hr ?_; (case hd => rfl); (case hg => rfl); (case hr => first | (go_simp; done) | (go_simp; rfl)); intro gb400 hg w4 hbox hb; have n0_ := (⟨Zm (Zbt (bk HB.out) hb), Zm (hbox), Zm ((by rw [hg]; exact (Zbz (bk HB.out)) : w.heap.size ≤ gb400)), Zm ((by rw [hg]; exact (Zbz (bk HB.out)) : w.heap.size ≤ gb400))⟩ : _ ∧ _ ∧ _ ∧ _); clear HB; obtain ⟨HB, BK400, GW400, GE400⟩ := n0_; clear hb hbox hg; obtain ⟨hcz5_0, hcz5_1, hcz5_2, hcz5_3, hcz5_4⟩ := cz5 BK400.out; have hfz5_4 := Zkf BK400.out 4) | ((with_reducible refine gate_callee (f := 16) rfl ?_); refine ge_ (some 8) Tryd.func16 #[.agg #[.int .i64 a0_0, .int .i64 a0_1, .string a0_2, .string a0_3, .string a0_4], .int .i64 1048576] ?_; (with_reducible refine (laws_szIns.calls _ _ _ _ _ _ _ _ A2.out).mono ?_); rintro e w6 ⟨rfl, hb⟩; refine ⟨_, rfl, ?_⟩; have n0_ := (⟨Zm (Zkb (pk BK400.out) hb), Zm (Zbt (bk HB.out) hb)⟩ : _ ∧ _); clear BK400 HB; obtain ⟨BK400, HB⟩ := n0_; (try clear hb); (try clear hb2); (try clear hk); (try clear hi))); have H := HC3.out; clear HC3; by_cases c7 : t401 < 0; rotate_left
 · rw [if_neg c7] at H; have c7b0 := decide_eq_false c7; clear c7; (first | rw [c7b0] | (simp only [i64_w, i32_w]; rw [c7b0]) | skip); replace H := Option.bind_eq_some_iff.mp H; obtain ⟨⟨t402, t403, t404, t405, t406⟩, A80, H⟩ := H; (try dsimp only at H); have A8 := Zm A80; clear A80; replace H := Option.bind_eq_some_iff.mp H; obtain ⟨t407, A90, H⟩ := H; (try dsimp only at H); have A9 := Zm A90; clear A90; replace H := Option.bind_eq_some_iff.mp H; obtain ⟨⟨t408, t409, t410, t411, t412⟩, A100, H⟩ := H; (try dsimp only at H); have A10 := Zm A100; clear A100; replace H := Option.bind_eq_some_iff.mp H; obtain ⟨t413, A110, H⟩ := H; (try dsimp only at H); have A11 := Zm A110; clear A110; by_cases c12 : t413.toList = t407.toList; rotate_left
   · rw [if_neg c12] at H; have c12b0 : (t413.toList == t407.toList) = false := beq_eq_false_iff_ne.mpr c12; have c12b1 : (t413.toList != t407.toList) = true := bne_iff_ne.mpr c12; exact absurd (H.trans (congrArg some hT_)) (by simp)
   rw [if_pos c12] at H; have c12b0 : (t413.toList == t407.toList) = true := beq_iff_eq.mpr c12; have c12b1 : (t413.toList != t407.toList) = false := bne_eq_false_iff_eq.mpr c12; clear c12; clear hT_; obtain rfl := Option.some.inj H; obtain ⟨hcz13_0, hcz13_1, hcz13_2, hcz13_3, hcz13_4⟩ := cz5 BK400.out; go_wp2_with (first | ((with_reducible refine gate_callee (f := 18) rfl ?_); refine ge_ (some 12) Tryd.func18 #[.agg #[.int .i64 a0_0, .int .i64 a0_1, .string a0_2, .string a0_3, .string a0_4]] ?_; (with_reducible refine (laws_toIns.calls _ _ _ _ _ _ _ _ _ _ _ A8.out).mono ?_); rintro e w14 ⟨rfl, hb⟩; refine ⟨_, rfl, ?_⟩; have n0_ := (⟨Zm (Zkb (pk BK400.out) hb), Zm (Zbt (bk HB.out) hb)⟩ : _ ∧ _); clear BK400 HB; obtain ⟨BK400, HB⟩ := n0_; (try clear hb); (try clear hb2); (try clear hk); (try clear hi)) | ((with_reducible refine gate_callee (f := 17) rfl ?_); refine ge_ (some 13) Tryd.func17 #[.agg #[.int .i64 t402, .int .i64 t403, .string t404, .string t405, .string t406]] ?_; (with_reducible refine (spec_InsText.calls _ _ _ _ _ _ _ _ A9.out).mono ?_); rintro e w15 ⟨rfl, hb⟩; refine ⟨_, rfl, ?_⟩; have n0_ := (⟨Zm (Zkb (pk BK400.out) hb), Zm (Zbt (bk HB.out) hb)⟩ : _ ∧ _); clear BK400 HB; obtain ⟨BK400, HB⟩ := n0_; (try clear hb); (try clear hb2); (try clear hk); (try clear hi); obtain ⟨hcz16_0, hcz16_1, hcz16_2, hcz16_3, hcz16_4⟩ := cz5 BK400.out; (try clear BK400)) | ((with_reducible refine gate_callee (f := 18) rfl ?_); refine ge_ (some 15) Tryd.func18 #[.agg #[.int .i64 a0_0, .int .i64 a0_1, .string a0_2, .string a0_3, .string a0_4]] ?_; (with_reducible refine (laws_toIns.calls _ _ _ _ _ _ _ _ _ _ _ A10.out).mono ?_); rintro e w17 ⟨rfl, hb⟩; refine ⟨_, rfl, ?_⟩; have n0_ := Zm (Zbt (bk HB.out) hb); clear HB; have HB := n0_; clear n0_; (try clear hb); (try clear hb2); (try clear hk); (try clear hi)) | ((with_reducible refine gate_callee (f := 19) rfl ?_); refine ge_ (some 16) Tryd.func19 #[.agg #[.int .i64 t408, .int .i64 t409, .string t410, .string t411, .string t412]] ?_; (with_reducible refine (impl_InsText.calls _ _ _ _ _ _ _ _ A11.out).mono ?_); rintro e w18 ⟨rfl, hb⟩; refine ⟨_, rfl, ?_⟩; have n0_ := Zm (Zbt (bk HB.out) hb); clear HB; have HB := n0_; clear n0_; (try clear hb); (try clear hb2); (try clear hk); (try clear hi))); go_ret; exact fin_ HB
 rw [if_pos c7] at H; have c7b0 := decide_eq_true c7; clear c7; (first | rw [c7b0] | (simp only [i64_w, i32_w]; rw [c7b0]) | skip); clear hT_; obtain rfl := Option.some.inj H; go_wp2; go_ret; exact fin_ HB
def ok41 (x : S41) : Prop := (Lit.int .i64 x.f0).wf = true ∧ (Lit.int .i64 x.f1).wf = true ∧ x.f2.size ≤ maxLen ∧ x.f3.size ≤ maxLen ∧ x.f4.size ≤ maxLen
/-- THE ONE PURE STATEMENT of laws_FnExactInsText: yours. -/
def laws_FnExactInsText.Pure : Prop := ∀ (x0 : S41), ok41 x0 → ∃ k, laws_FnExactInsText.f k x0.f0 x0.f1 x0.f2 x0.f3 x0.f4 = some true

end Go.Proofs.YtdfnljchoomliaaDoor.PFnExactInsText
