/- Functions of the program as plain Lean functions, each with a proof that the program's call comes to the same; no condition. Written by a program of this session. -/
import Derived.Test.YtcpnlfkmfpmkdaaGreatDoorPFnInsTextx0
import Derived.Test.YtcpnlfkmfpmkdaaGreatDoorPFnInsTextx2
import Derived.Test.YtcpnlfkmfpmkdaaGreatDoorPFnInsTextx4
import Derived.Test.YtcpnlfkmfpmkdaaGreatDoorPFnInsTextx6
import Derived.Test.YtcpnlfkmfpmkdaaGreatDoorPFnInsTextx11
namespace Go.Proofs.YtcpnlfkmfpmkdaaGreatDoor.PFnInsText
open Go.RowKit Go.Proofs.YtcpnlfkmfpmkdaaGreatDoorW.PrintWords Go.Proofs.YtcpnlfkmfpmkdaaGreatDoorW.PrintLast Go.Proofs.YtcpnlfkmfpmkdaaGreatDoorW.PrintMore
open Go.Proofs.YtcpnlfkmfpmkdaaGreatDoorW.PrintWords renaming below_alloc → Zba, pw_below_drewN → Zbn, below_drew1 → Zbd, below_set → Zbs, below_size → Zbz, below_step → Zbt, blk_drewN → Zkn, blk_drew → Zkd, blk_alloc → Zka, blk_frozen → Zkf, blk_far → Zkr, blk_put → Zkp, blk_below → Zkb
open Go.Proofs.YtcpnlfkmfpmkdaaGreatDoorW.PrintWords.Aside0 renaming mk → Zm
attribute [local go_sem] max2_int min2_int max_two min_two max_three min_three max_four min_four   -- for this text's walks alone
set_option linter.unusedVariables false
set_option linter.unusedSimpArgs false

/-! ### strings_Split: function 47 -/
def strings_Split.f (a0 : ByteArray) (a1 : ByteArray) : Option (List ByteArray) := if a0.size < 4294967281 ∧ 1 ≤ a1.size then some (Lib.splitB a1 0 (Lib.countB a0 a1) a0) else none
set_option maxHeartbeats 8000000 in
set_option maxRecDepth 100000 in
theorem strings_Split.calls (a0 : ByteArray) (a1 : ByteArray) (r : List ByteArray) (w : World) (h : strings_Split.f a0 a1 = some r) (htab : Tabs w := by exact tab_) :
    Calls Tryz.prog 47 #[.string a0, .string a1] w fun e w' => ∃ v0_ : Value, e = .returned (v0_) ∧ Kd.R Kd.string 9 w' w.heap.size (fun _ => True) v0_ r ∧ Below w.heap.size w w' := by
  have HTAB := Zm htab
  clear htab
  unfold strings_Split.f at h; split at h
  · rename_i hc; obtain rfl := Option.some.inj h; obtain ⟨m, hm⟩ := HTAB.out.max; refine (Tryz.strings_Split a0 a1 m w hc.1 hm hc.2).mono fun e w' ⟨he, hw⟩ => ?_
    subst hw; have hl := Lib.splitB_all a1 hc.2 0 _ a0 rfl; have hz := Lib.countB_le a1 hc.2 _ a0 (Nat.le_refl _); refine ⟨_, he, ?_, Zba (Below.refl _ _) _⟩; rw [← hl]; refine Kd.R_of_own ?_ (fun _ _ => trivial); simpa [encs] using World.ownsRow_lit (base := w.heap.size) (e := 9) (size := 1) w ((Lib.splitB a1 0 (Lib.countB a0 a1) a0).map Value.string).toArray (Lib.splitB a1 0 (Lib.countB a0 a1) a0).length (Nat.le_refl _) (by unfold maxLen; omega) (by simp)
  · cases h

/-! ### impl_InsParse: function 19 -/
def impl_InsParse.f (k : Nat) (a0 : ByteArray) : Option (Int × Int × ByteArray × ByteArray × ByteArray) := (impl_isText.f k (([a0] : List ByteArray))).bind fun t554 => (if t554 = true then ((strings_Split.f a0 (⟨#[32]⟩ : ByteArray)).bind fun t555 => ((impl_insOf.f k t555).bind fun bt558 => (if bt558.2.2.2.2.2 = true then ((impl_InsRight.f k bt558.1 bt558.2.1 bt558.2.2.1 bt558.2.2.2.1 bt558.2.2.2.2.1).bind fun t565 => (if t565 = true then (some (bt558.1, bt558.2.1, bt558.2.2.1, bt558.2.2.2.1, bt558.2.2.2.2.1)) else (some (0, 0, (⟨#[]⟩ : ByteArray), (⟨#[]⟩ : ByteArray), (⟨#[]⟩ : ByteArray))))) else (some (0, 0, (⟨#[]⟩ : ByteArray), (⟨#[]⟩ : ByteArray), (⟨#[]⟩ : ByteArray)))))) else (some (0, 0, (⟨#[]⟩ : ByteArray), (⟨#[]⟩ : ByteArray), (⟨#[]⟩ : ByteArray))))
set_option maxHeartbeats 8000000 in
set_option maxRecDepth 100000 in
theorem impl_InsParse.calls (k : Nat) (a0 : ByteArray) (r1 : Int) (r2 : Int) (r3 : ByteArray) (r4 : ByteArray) (r5 : ByteArray) (w : World) (h : impl_InsParse.f k a0 = some (r1, r2, r3, r4, r5)) (htab : Tabs w := by exact tab_) :
 Calls Tryz.prog 19 #[.string a0] w fun e w' => e = .returned (.agg #[.int .i64 r1, .int .i64 r2, .string r3, .string r4, .string r5]) ∧ Below w.heap.size w w' := by
 have HTAB := Zm htab
 clear htab
 have hu44 := Tryz.underlying44; have HB := Zm (Below.refl w.heap.size w); have H : ((impl_isText.f k (([a0] : List ByteArray))).bind fun t554 => (if t554 = true then ((strings_Split.f a0 (⟨#[32]⟩ : ByteArray)).bind fun t555 => ((impl_insOf.f k t555).bind fun bt558 => (if bt558.2.2.2.2.2 = true then ((impl_InsRight.f k bt558.1 bt558.2.1 bt558.2.2.1 bt558.2.2.2.1 bt558.2.2.2.2.1).bind fun t565 => (if t565 = true then (some (bt558.1, bt558.2.1, bt558.2.2.1, bt558.2.2.2.1, bt558.2.2.2.2.1)) else (some (0, 0, (⟨#[]⟩ : ByteArray), (⟨#[]⟩ : ByteArray), (⟨#[]⟩ : ByteArray))))) else (some (0, 0, (⟨#[]⟩ : ByteArray), (⟨#[]⟩ : ByteArray), (⟨#[]⟩ : ByteArray)))))) else (some (0, 0, (⟨#[]⟩ : ByteArray), (⟨#[]⟩ : ByteArray), (⟨#[]⟩ : ByteArray))))) = some (r1, r2, r3, r4, r5) := h; clear h; obtain ⟨y551, hy551⟩ : ∃ y_ : List ByteArray, y_ = (([a0] : List ByteArray)) := ⟨_, rfl⟩; replace H : ((impl_isText.f k y551).bind fun t554 => (if t554 = true then ((strings_Split.f a0 (⟨#[32]⟩ : ByteArray)).bind fun t555 => ((impl_insOf.f k t555).bind fun bt558 => (if bt558.2.2.2.2.2 = true then ((impl_InsRight.f k bt558.1 bt558.2.1 bt558.2.2.1 bt558.2.2.2.1 bt558.2.2.2.2.1).bind fun t565 => (if t565 = true then (some (bt558.1, bt558.2.1, bt558.2.2.1, bt558.2.2.2.1, bt558.2.2.2.2.1)) else (some (0, 0, (⟨#[]⟩ : ByteArray), (⟨#[]⟩ : ByteArray), (⟨#[]⟩ : ByteArray))))) else (some (0, 0, (⟨#[]⟩ : ByteArray), (⟨#[]⟩ : ByteArray), (⟨#[]⟩ : ByteArray)))))) else (some (0, 0, (⟨#[]⟩ : ByteArray), (⟨#[]⟩ : ByteArray), (⟨#[]⟩ : ByteArray))))) = some (r1, r2, r3, r4, r5) := by first | (rw [hy551]; with_reducible exact H) | (have H2_ := (Option.bind_some _ _).symm.trans H; rw [hy551]; with_reducible exact H2_) | (have H2_ := (Option.bind_some _ _).symm.trans H; with_reducible exact H2_) | with_reducible exact H | (rw [hy551]; exact H) | exact H
 have Ny551 := Zm hy551; clear hy551; replace H := Option.bind_eq_some_iff.mp H; obtain ⟨t554, A20, H⟩ := H; replace H : (if t554 = true then ((strings_Split.f a0 (⟨#[32]⟩ : ByteArray)).bind fun t555 => ((impl_insOf.f k t555).bind fun bt558 => (if bt558.2.2.2.2.2 = true then ((impl_InsRight.f k bt558.1 bt558.2.1 bt558.2.2.1 bt558.2.2.2.1 bt558.2.2.2.2.1).bind fun t565 => (if t565 = true then (some (bt558.1, bt558.2.1, bt558.2.2.1, bt558.2.2.2.1, bt558.2.2.2.2.1)) else (some (0, 0, (⟨#[]⟩ : ByteArray), (⟨#[]⟩ : ByteArray), (⟨#[]⟩ : ByteArray))))) else (some (0, 0, (⟨#[]⟩ : ByteArray), (⟨#[]⟩ : ByteArray), (⟨#[]⟩ : ByteArray)))))) else (some (0, 0, (⟨#[]⟩ : ByteArray), (⟨#[]⟩ : ByteArray), (⟨#[]⟩ : ByteArray)))) = some (r1, r2, r3, r4, r5) := H; have A2 := Zm A20; clear A20; have HC3 := Zm H; clear H; go_enter Tryz.func19, Tryz.ntmps19; go_upto_if 8 with (first | ((with_reducible refine gate_dst (N := 2) rfl ?_); refine box_event ?hg (N := 2) ?hd (cs := #[.int .i64 0, .int .i64 0, .string (⟨#[]⟩ : ByteArray), .string (⟨#[]⟩ : ByteArray), .string (⟨#[]⟩ : ByteArray)]) (t := 44) ?hr ?_; (case hd => rfl); (case hg => rfl); (case hr => first | (go_simp; done) | (go_simp; rfl)); intro gb550 hg w4 hbox hb; have n0_ := (⟨Zm (Zbt (bk HB.out) hb), Zm (hbox), Zm ((by rw [hg]; exact (Zbz (bk HB.out)) : w.heap.size ≤ gb550)), Zm ((by rw [hg]; exact (Zbz (bk HB.out)) : w.heap.size ≤ gb550))⟩ : _ ∧ _ ∧ _ ∧ _); clear HB; obtain ⟨HB, BK550, GW550, GE550⟩ := n0_; clear hb hbox hg) | ((with_reducible refine gate_dst (N := 6) rfl ?_); refine Kd.R_lit Kd.string _ 9 ?hg (N := 6) ?hd (xs := ([a0] : List ByteArray)) (inner := [.string a0]) (ok := fun _ => True) (okp := fun _ => True) ?hr ?hp (fun _ hk => hk) trivial (Below.refl _ _) (Nat.le_refl _) (by simp) ?_; (case hd => rfl); (case hg => rfl); (case hr => first | (go_simp; done) | (go_simp; rfl)); (case hp => exact (Reps.one (show Kd.M Kd.string _ _ _ a0 [.string a0] from rfl) (Reps.none _ _))); intro v552 w5 ho6 hb hg_ hnew_; clear hg_ hnew_; (first | rw [← Ny551.out] at ho6 | (simp only [Int.reduceToNat] at ho6; rw [← Ny551.out] at ho6)); have n0_ := (⟨Zm (Kd.R_lower ho6 (Zbz (bk HB.out))), Zm (Zkb (pk BK550.out) hb), Zm (Zbt (bk HB.out) hb)⟩ : _ ∧ _ ∧ _); clear BK550 HB; obtain ⟨HO553, BK550, HB⟩ := n0_; clear hb ho6; obtain ⟨Ao7, co7, eo7⟩ := Kd.R_slice HO553.out; subst eo7) | ((with_reducible refine gate_callee (f := 45) rfl ?_); refine ge_ (some 7) Tryz.func45 #[.slice Ao7 y551.length co7] ?_; (with_reducible refine (impl_isText.calls _ _ _ _ _ _ ?side1 ?side2 A2.out).mono ?_); (case side1 => exact pc (Kd.R_reads' HO553.out).2.2); (case side2 => exact (Kd.R_reads' HO553.out).2.1); rintro e w' ⟨rfl, ⟨nd, rfl⟩⟩; refine ⟨_, rfl, ?_⟩)); have H := HC3.out; clear HC3; by_cases c8 : t554 = true; rotate_left
 · replace c8 := Bool.eq_false_iff.mpr c8; subst c8; rw [if_neg (show ¬ (false = true) by decide)] at H; simp only [Option.some.injEq, Prod.mk.injEq] at H; obtain ⟨rfl, rfl, rfl, rfl, rfl⟩ := H; obtain ⟨hcz34_0, hcz34_1, hcz34_2, hcz34_3, hcz34_4, hfz34_0, hfz34_1, hfz34_2, hfz34_3, hfz34_4⟩ := cf5 BK550.out; go_wp2; refine bodyPost_ret (results_cell_row rfl _ _ gb550 44 #[.int .i64 0, .int .i64 0, .string (⟨#[]⟩ : ByteArray), .string (⟨#[]⟩ : ByteArray), .string (⟨#[]⟩ : ByteArray)] (0, 0) _ rfl zc_ Tryz.underlying44 rfl (by kernel_rfl)) rfl ?_; exact ⟨by first | rfl | (simp [*] <;> rfl), hb_⟩

 subst c8
 rw [if_pos rfl] at H
 replace H := Option.bind_eq_some_iff.mp H
 obtain ⟨t555, A90, H⟩ := H
 replace H : ((impl_insOf.f k t555).bind fun bt558 => (if bt558.2.2.2.2.2 = true then ((impl_InsRight.f k bt558.1 bt558.2.1 bt558.2.2.1 bt558.2.2.2.1 bt558.2.2.2.2.1).bind fun t565 => (if t565 = true then (some (bt558.1, bt558.2.1, bt558.2.2.1, bt558.2.2.2.1, bt558.2.2.2.2.1)) else (some (0, 0, (⟨#[]⟩ : ByteArray), (⟨#[]⟩ : ByteArray), (⟨#[]⟩ : ByteArray))))) else (some (0, 0, (⟨#[]⟩ : ByteArray), (⟨#[]⟩ : ByteArray), (⟨#[]⟩ : ByteArray))))) = some (r1, r2, r3, r4, r5) := H
 have A9 := Zm A90
 clear A90
 replace H := Option.bind_eq_some_iff.mp H
 obtain ⟨⟨t558, t559, t560, t561, t562, t563⟩, A100, H⟩ := H
 replace H : (if t563 = true then ((impl_InsRight.f k t558 t559 t560 t561 t562).bind fun t565 => (if t565 = true then (some (t558, t559, t560, t561, t562)) else (some (0, 0, (⟨#[]⟩ : ByteArray), (⟨#[]⟩ : ByteArray), (⟨#[]⟩ : ByteArray))))) else (some (0, 0, (⟨#[]⟩ : ByteArray), (⟨#[]⟩ : ByteArray), (⟨#[]⟩ : ByteArray)))) = some (r1, r2, r3, r4, r5) := H
 have A10 := Zm A100
 clear A100
 by_cases c11 : t563 = true
 rotate_left
 · replace c11 := Bool.eq_false_iff.mpr c11
   subst c11
   rw [if_neg (show ¬ (false = true) by decide)] at H
   simp only [Option.some.injEq, Prod.mk.injEq] at H
   obtain ⟨rfl, rfl, rfl, rfl, rfl⟩ := H
   (try clear HO553)
   go_wp2_with (first | ((with_reducible refine gate_callee (f := 47) rfl ?_); refine ge_ (some 12) Tryz.func47 #[.string a0, .string (⟨#[32]⟩ : ByteArray)] ?_; (with_reducible refine (strings_Split.calls _ _ _ _ A9.out).mono ?_); rintro e w27 ⟨v556, rfl, ho0, hb⟩; refine ⟨_, rfl, ?_⟩; have n0_ := (⟨Zm (Kd.R_lower ho0 (Zbz (bk HB.out))), Zm (Zkb (pk BK550.out) hb), Zm (Zbt (bk HB.out) hb)⟩ : _ ∧ _ ∧ _); clear BK550 HB; obtain ⟨HO557, BK550, HB⟩ := n0_; (try clear hb); (try clear hb2); (try clear hk); (try clear hi); (try clear ho0); obtain ⟨Ao28, co28, eo28⟩ := Kd.R_slice HO557.out; subst eo28) | ((with_reducible refine gate_callee (f := 46) rfl ?_); refine ge_ (some 13) Tryz.func46 #[.slice Ao28 t555.length co28] ?_; (with_reducible refine (impl_insOf.calls _ _ _ _ _ _ _ _ _ _ _ ?side1 ?side2 A10.out).mono ?_); (case side1 => exact pc (Kd.R_reads' HO557.out).2.2); (case side2 => exact (Kd.R_reads' HO557.out).2.1); rintro e w29 ⟨rfl, hb⟩; refine ⟨_, rfl, ?_⟩; have n0_ := (⟨Zm (Kd.R_below (by (with_reducible repeat (first | apply Kd.R_alloc | apply Kd.R_drewN | apply Kd.R_drew)); exact HO557.out) hb), Zm (Zkb (pk BK550.out) hb), Zm (Zbt (bk HB.out) hb)⟩ : _ ∧ _ ∧ _); clear HO557 BK550 HB; obtain ⟨HO557, BK550, HB⟩ := n0_; (try clear hb); (try clear hb2); (try clear hk); (try clear hi); (try clear HO557)) | ((with_reducible refine gate_dst (N := 3) rfl ?_); refine box_event ?hg (N := 3) ?hd (cs := #[.int .i64 0, .int .i64 0, .string (⟨#[]⟩ : ByteArray), .string (⟨#[]⟩ : ByteArray), .string (⟨#[]⟩ : ByteArray)]) (t := 44) ?hr ?_; (case hd => rfl); (case hg => rfl); (case hr => first | (go_simp; done) | (go_simp; rfl)); intro gb564 hg w30 hbox hb; have n0_ := (⟨Zm (Zkb (pk BK550.out) hb), Zm (Zbt (bk HB.out) hb), Zm (hbox), Zm ((by rw [hg]; exact (Zbz (bk HB.out)) : w.heap.size ≤ gb564)), Zm ((by rw [hg]; exact (Zbz (bk HB.out)) : w.heap.size ≤ gb564)), Zm ((by rw [hg]; exact Nat.ne_of_lt (blk_lt (pk BK550.out)) : gb550 ≠ gb564)), Zm ((by rw [hg]; exact Nat.ne_of_gt (blk_lt (pk BK550.out)) : gb564 ≠ gb550))⟩ : _ ∧ _ ∧ _ ∧ _ ∧ _ ∧ _ ∧ _); clear BK550 HB; obtain ⟨BK550, HB, BK564, GW564, GE564, NB550_564, NB564_550⟩ := n0_; clear hb hbox hg; have hnb31 := NB564_550.out; have hnc31 := NB550_564.out; obtain ⟨hcz32_0, hcz32_1, hcz32_2, hcz32_3, hcz32_4, hfz32_0, hfz32_1, hfz32_2, hfz32_3, hfz32_4⟩ := cf5 BK564.out; obtain ⟨hcz33_0, hcz33_1, hcz33_2, hcz33_3, hcz33_4, hfz33_0, hfz33_1, hfz33_2, hfz33_3, hfz33_4⟩ := cf5 BK550.out))
   refine bodyPost_ret (results_cell_row rfl _ _ gb550 44 #[.int .i64 0, .int .i64 0, .string (⟨#[]⟩ : ByteArray), .string (⟨#[]⟩ : ByteArray), .string (⟨#[]⟩ : ByteArray)] (0, 0) _ rfl zc_ Tryz.underlying44 rfl (by kernel_rfl)) rfl ?_
   exact ⟨by first | rfl | (simp [*] <;> rfl), hb_⟩
 subst c11
 rw [if_pos rfl] at H
 replace H := Option.bind_eq_some_iff.mp H
 obtain ⟨t565, A120, H⟩ := H
 replace H : (if t565 = true then (some (t558, t559, t560, t561, t562)) else (some (0, 0, (⟨#[]⟩ : ByteArray), (⟨#[]⟩ : ByteArray), (⟨#[]⟩ : ByteArray)))) = some (r1, r2, r3, r4, r5) := H
 have A12 := Zm A120
 clear A120
 have HC13 := Zm H
 clear H
 (try clear HO553)
 go_upto_if 22 with (first | ((with_reducible refine gate_callee (f := 47) rfl ?_); refine ge_ (some 12) Tryz.func47 #[.string a0, .string (⟨#[32]⟩ : ByteArray)] ?_; (with_reducible refine (strings_Split.calls _ _ _ _ A9.out).mono ?_); rintro e w14 ⟨v556, rfl, ho0, hb⟩; refine ⟨_, rfl, ?_⟩; have n0_ := (⟨Zm (Kd.R_lower ho0 (Zbz (bk HB.out))), Zm (Zkb (pk BK550.out) hb), Zm (Zbt (bk HB.out) hb)⟩ : _ ∧ _ ∧ _); clear BK550 HB; obtain ⟨HO557, BK550, HB⟩ := n0_; (try clear hb); (try clear hb2); (try clear hk); (try clear hi); (try clear ho0); obtain ⟨Ao15, co15, eo15⟩ := Kd.R_slice HO557.out; subst eo15) | ((with_reducible refine gate_callee (f := 46) rfl ?_); refine ge_ (some 13) Tryz.func46 #[.slice Ao15 t555.length co15] ?_; (with_reducible refine (impl_insOf.calls _ _ _ _ _ _ _ _ _ _ _ ?side1 ?side2 A10.out).mono ?_); (case side1 => exact pc (Kd.R_reads' HO557.out).2.2); (case side2 => exact (Kd.R_reads' HO557.out).2.1); rintro e w16 ⟨rfl, hb⟩; refine ⟨_, rfl, ?_⟩; have n0_ := (⟨Zm (Kd.R_below (by (with_reducible repeat (first | apply Kd.R_alloc | apply Kd.R_drewN | apply Kd.R_drew)); exact HO557.out) hb), Zm (Zkb (pk BK550.out) hb), Zm (Zbt (bk HB.out) hb)⟩ : _ ∧ _ ∧ _); clear HO557 BK550 HB; obtain ⟨HO557, BK550, HB⟩ := n0_; (try clear hb); (try clear hb2); (try clear hk); (try clear hi); (try clear HO557)) | ((with_reducible refine gate_dst (N := 3) rfl ?_); refine box_event ?hg (N := 3) ?hd (cs := #[.int .i64 0, .int .i64 0, .string (⟨#[]⟩ : ByteArray), .string (⟨#[]⟩ : ByteArray), .string (⟨#[]⟩ : ByteArray)]) (t := 44) ?hr ?_; (case hd => rfl); (case hg => rfl); (case hr => first | (go_simp; done) | (go_simp; rfl)); intro gb564 hg w17 hbox hb; have n0_ := (⟨Zm (Zkb (pk BK550.out) hb), Zm (Zbt (bk HB.out) hb), Zm (hbox), Zm ((by rw [hg]; exact (Zbz (bk HB.out)) : w.heap.size ≤ gb564)), Zm ((by rw [hg]; exact (Zbz (bk HB.out)) : w.heap.size ≤ gb564)), Zm ((by rw [hg]; exact Nat.ne_of_lt (blk_lt (pk BK550.out)) : gb550 ≠ gb564)), Zm ((by rw [hg]; exact Nat.ne_of_gt (blk_lt (pk BK550.out)) : gb564 ≠ gb550))⟩ : _ ∧ _ ∧ _ ∧ _ ∧ _ ∧ _ ∧ _); clear BK550 HB; obtain ⟨BK550, HB, BK564, GW564, GE564, NB550_564, NB564_550⟩ := n0_; clear hb hbox hg; have hnb18 := NB564_550.out; have hnc18 := NB550_564.out; obtain ⟨hcz19_0, hcz19_1, hcz19_2, hcz19_3, hcz19_4, hfz19_0, hfz19_1, hfz19_2, hfz19_3, hfz19_4⟩ := cf5 BK564.out) | (go_at_call 20; (first | (with_reducible refine (impl_InsRight.calls _ _ _ _ _ _ _ _ A12.out).mono ?_) | (with_reducible refine (calls_of_args ?_ (impl_InsRight.calls _ _ _ _ _ _ _ _ A12.out)).mono ?_; focus (simp [*]; done))); rintro e w20 ⟨rfl, hb⟩; have n0_ := (⟨Zm (Zkb (g := gb550) (o := .cells #[.int .i64 0, .int .i64 0, .string (⟨#[]⟩ : ByteArray), .string (⟨#[]⟩ : ByteArray), .string (⟨#[]⟩ : ByteArray)] 44 (0, 0)) zc_ hb), Zm (Zkb (g := gb564) (o := .cells #[.int .i64 t558, .int .i64 t559, .string t560, .string t561, .string t562] 44 (0, 0)) zc_ hb), Zm (Zbt hb_ hb)⟩ : _ ∧ _ ∧ _); clear BK550 BK564 HB; obtain ⟨BK550, BK564, HB⟩ := n0_; (try clear hb); (try clear hb2); (try clear hk); (try clear hi)))
 have H := HC13.out
 clear HC13
 by_cases c21 : t565 = true
 rotate_left
 · replace c21 := Bool.eq_false_iff.mpr c21
   subst c21
   rw [if_neg (show ¬ (false = true) by decide)] at H
   simp only [Option.some.injEq, Prod.mk.injEq] at H
   obtain ⟨rfl, rfl, rfl, rfl, rfl⟩ := H
   have hnb25 := NB550_564.out
   have hnc25 := NB564_550.out
   obtain ⟨hcz26_0, hcz26_1, hcz26_2, hcz26_3, hcz26_4, hfz26_0, hfz26_1, hfz26_2, hfz26_3, hfz26_4⟩ := cf5 BK550.out
   go_wp2
   refine bodyPost_ret (results_cell_row rfl _ _ gb550 44 #[.int .i64 0, .int .i64 0, .string (⟨#[]⟩ : ByteArray), .string (⟨#[]⟩ : ByteArray), .string (⟨#[]⟩ : ByteArray)] (0, 0) _ rfl zc_ Tryz.underlying44 rfl (by kernel_rfl)) rfl ?_
   exact ⟨by first | rfl | (simp [*] <;> rfl), hb_⟩
 subst c21
 rw [if_pos rfl] at H
 simp only [Option.some.injEq, Prod.mk.injEq] at H
 obtain ⟨rfl, rfl, rfl, rfl, rfl⟩ := H
 have hnb22 := NB564_550.out
 have hnc22 := NB550_564.out
 obtain ⟨hcz23_0, hcz23_1, hcz23_2, hcz23_3, hcz23_4, hfz23_0, hfz23_1, hfz23_2, hfz23_3, hfz23_4⟩ := cf5 BK564.out
 obtain ⟨hcz24_0, hcz24_1, hcz24_2, hcz24_3, hcz24_4, hfz24_0, hfz24_1, hfz24_2, hfz24_3, hfz24_4⟩ := cf5 BK550.out
 go_wp2
 refine bodyPost_ret (results_cell_row rfl _ _ gb550 44 #[.int .i64 t558, .int .i64 t559, .string t560, .string t561, .string t562] (0, 0) _ rfl zc_ Tryz.underlying44 rfl (by kernel_rfl)) rfl ?_
 exact ⟨by first | rfl | (simp [*] <;> rfl), hb_⟩
/-! ### spec_l01Dec: function 65 -/
def spec_l01Dec.l0 : Nat → Int → Bool → ByteArray → Option (ByteArray)
 | 0, _, _, _ => none
 | k + 1, x0, x3, x4 => if x0 = 0 then (if x3 = true then (if 1 + x4.size ≤ 9223372036854775807 then (some ((⟨#[45]⟩ : ByteArray) ++ x4)) else (none)) else (some x4)) else (if (Int.tmod x0 10) < 0 then ((some (([(wrap64 (48 + (wrap64 (-(Int.tmod x0 10))))) % 256] : List Int) : List Int)).bind fun y566 => (if (strOfNums y566).size + x4.size ≤ 9223372036854775807 then (spec_l01Dec.l0 k (wrap64 (Int.tdiv x0 10)) x3 ((strOfNums y566) ++ x4)) else (none))) else ((some (([(wrap64 (48 + (Int.tmod x0 10))) % 256] : List Int) : List Int)).bind fun y569 => (if (strOfNums y569).size + x4.size ≤ 9223372036854775807 then (spec_l01Dec.l0 k (wrap64 (Int.tdiv x0 10)) x3 ((strOfNums y569) ++ x4)) else (none))))
def spec_l01Dec.f (k : Nat) (a0 : Int) : Option (ByteArray) := if a0 = 0 then (some (⟨#[48]⟩ : ByteArray)) else (spec_l01Dec.l0 k a0 (decide (a0 < 0)) (⟨#[]⟩ : ByteArray))
set_option maxHeartbeats 8000000 in
set_option maxRecDepth 100000 in
theorem spec_l01Dec.calls (k : Nat) (a0 : Int) (r : ByteArray) (w : World) (h : spec_l01Dec.f k a0 = some r) :
 Calls Tryz.prog 65 #[.int .i64 a0] w fun e w' => e = .returned (.string r) ∧ Below w.heap.size w w' := by
 have HB := Zm (Below.refl w.heap.size w); have H : (if a0 = 0 then (some (⟨#[48]⟩ : ByteArray)) else (spec_l01Dec.l0 k a0 (decide (a0 < 0)) (⟨#[]⟩ : ByteArray))) = some r := h; clear h; by_cases c2 : a0 = 0; rotate_left
 · rw [if_neg c2] at H; have c2b0 : (a0 == 0) = false := beq_eq_false_iff_ne.mpr c2; have c2b1 : (a0 != 0) = true := bne_iff_ne.mpr c2; have H' := Zm H; clear H; go_enter Tryz.func65, Tryz.ntmps65; go_wp2; go_loopg [0, 4] k (fun kq v0 v4 w' => ∃ (x0_1 : Int) (x4_1 : ByteArray), v0 = .int .i64 x0_1 ∧ v4 = .string x4_1 ∧ Aside0 (spec_l01Dec.l0 kq x0_1 (decide (a0 < 0)) x4_1 = some r) ∧ Aside0 (kq ≤ k) ∧ Aside0 (Below w.heap.size w w'))
   case atStart => exact ⟨(a0), ((⟨#[]⟩ : ByteArray)), (by first | rfl | (simp; done) | (simp [*]; done)), (by first | rfl | (simp; done) | (simp [*]; done)), H', ⟨Nat.le_refl _⟩, ⟨bk HB.out⟩⟩
   case round =>
    clear H'; (try clear c2); (try clear c2b0); (try clear c2b1); obtain ⟨x0_1, x4_1, rfl, rfl, HA, HK1, HB⟩ := hrel
    cases gk with
    | zero => exact absurd HA.out (by simp [spec_l01Dec.l0])
    | succ k1 =>
     have H := HA.out; clear HA; simp only [spec_l01Dec.l0] at H; by_cases c3 : x0_1 = 0; rotate_left
     · rw [if_neg c3] at H; have c3b0 : (x0_1 == 0) = false := beq_eq_false_iff_ne.mpr c3; have c3b1 : (x0_1 != 0) = true := bne_iff_ne.mpr c3; by_cases c6 : (Int.tmod x0_1 10) < 0; rotate_left
       · rw [if_neg c6] at H; have c6b0 := decide_eq_false c6; clear c6; obtain ⟨y569, hy569⟩ : ∃ y_ : List Int, y_ = (([(wrap64 (48 + (Int.tmod x0_1 10))) % 256] : List Int)) := ⟨_, rfl⟩; replace H : (if (strOfNums y569).size + x4_1.size ≤ 9223372036854775807 then (spec_l01Dec.l0 k1 (wrap64 (Int.tdiv x0_1 10)) (decide (a0 < 0)) ((strOfNums y569) ++ x4_1)) else (none)) = some r := by first | (rw [hy569]; with_reducible exact H) | (have H2_ := (Option.bind_some _ _).symm.trans H; rw [hy569]; with_reducible exact H2_) | (have H2_ := (Option.bind_some _ _).symm.trans H; with_reducible exact H2_) | with_reducible exact H | (rw [hy569]; exact H) | exact H
         have Ny569 := Zm hy569; clear hy569; by_cases c11 : (strOfNums y569).size + x4_1.size ≤ 9223372036854775807; rotate_left
         · rw [if_neg c11] at H; exact absurd H (by simp)

         rw [if_pos c11] at H
         have c11b0 := eq_true c11
         have c11b1 := decide_eq_true c11
         try have c11b2 : (9223372036854775807 < (strOfNums y569).size + x4_1.size) = False := eq_false (Nat.not_lt.2 c11)
         have H' := Zm H
         clear H
         go_wp2_with (first | ((with_reducible refine gate_dst (N := 21) rfl ?_); refine Kd.R_lit (Kd.int .u8) _ 5 ?hg (N := 21) ?hd (xs := ([(wrap64 (48 + (Int.tmod x0_1 10))) % 256] : List Int)) (inner := [.int .u8 ((wrap64 (48 + (Int.tmod x0_1 10))) % 256)]) (ok := fun _ => True) (okp := fun _ => True) ?hr ?hp (fun _ hk => hk) trivial (Below.refl _ _) (Nat.le_refl _) (by simp) ?_; (case hd => rfl); (case hg => rfl); (case hr => first | (go_simp; done) | (go_simp; rfl)); (case hp => exact (Reps.one (show Kd.M (Kd.int .u8) _ _ _ ((wrap64 (48 + (Int.tmod x0_1 10))) % 256) [.int .u8 ((wrap64 (48 + (Int.tmod x0_1 10))) % 256)] from rfl) (Reps.none _ _))); intro v570 w12 ho13 hb hg_ hnew_; clear hg_ hnew_; (first | rw [← Ny569.out] at ho13 | (simp only [Int.reduceToNat] at ho13; rw [← Ny569.out] at ho13)); have n0_ := (⟨Zm (Kd.R_lower ho13 (Zbz (bk HB.out))), Zm (Zbt (bk HB.out) hb)⟩ : _ ∧ _); clear HB; obtain ⟨HO571, HB⟩ := n0_; clear hb ho13; have hcv14 := own_string (P := Tryz.prog) Tryz.underlying42 Tryz.underlying5 Tryz.underlying9 (Kd.own_of_R HO571.out)))
         go_roundg k1
         case measure => have := HK1.out; omega
         case rel => exact ⟨(wrap64 (Int.tdiv x0_1 10)), ((strOfNums y569) ++ x4_1), (by first | rfl | (simp; done) | (simp [*]; done)), (by first | rfl | (simp; done) | (simp [*]; done)), H', ⟨by have := HK1.out; omega⟩, ⟨bk HB.out⟩⟩
       rw [if_pos c6] at H
       have c6b0 := decide_eq_true c6
       clear c6
       obtain ⟨y566, hy566⟩ : ∃ y_ : List Int, y_ = (([(wrap64 (48 + (wrap64 (-(Int.tmod x0_1 10))))) % 256] : List Int)) := ⟨_, rfl⟩
       replace H : (if (strOfNums y566).size + x4_1.size ≤ 9223372036854775807 then (spec_l01Dec.l0 k1 (wrap64 (Int.tdiv x0_1 10)) (decide (a0 < 0)) ((strOfNums y566) ++ x4_1)) else (none)) = some r := by first | (rw [hy566]; with_reducible exact H) | (have H2_ := (Option.bind_some _ _).symm.trans H; rw [hy566]; with_reducible exact H2_) | (have H2_ := (Option.bind_some _ _).symm.trans H; with_reducible exact H2_) | with_reducible exact H | (rw [hy566]; exact H) | exact H
       have Ny566 := Zm hy566
       clear hy566
       by_cases c7 : (strOfNums y566).size + x4_1.size ≤ 9223372036854775807
       rotate_left
       · rw [if_neg c7] at H
         exact absurd H (by simp)
       rw [if_pos c7] at H
       have c7b0 := eq_true c7
       have c7b1 := decide_eq_true c7
       try have c7b2 : (9223372036854775807 < (strOfNums y566).size + x4_1.size) = False := eq_false (Nat.not_lt.2 c7)
       have H' := Zm H
       clear H
       go_wp2_with (first | ((with_reducible refine gate_dst (N := 21) rfl ?_); refine Kd.R_lit (Kd.int .u8) _ 5 ?hg (N := 21) ?hd (xs := ([(wrap64 (48 + (wrap64 (-(Int.tmod x0_1 10))))) % 256] : List Int)) (inner := [.int .u8 ((wrap64 (48 + (wrap64 (-(Int.tmod x0_1 10))))) % 256)]) (ok := fun _ => True) (okp := fun _ => True) ?hr ?hp (fun _ hk => hk) trivial (Below.refl _ _) (Nat.le_refl _) (by simp) ?_; (case hd => rfl); (case hg => rfl); (case hr => first | (go_simp; done) | (go_simp; rfl)); (case hp => exact (Reps.one (show Kd.M (Kd.int .u8) _ _ _ ((wrap64 (48 + (wrap64 (-(Int.tmod x0_1 10))))) % 256) [.int .u8 ((wrap64 (48 + (wrap64 (-(Int.tmod x0_1 10))))) % 256)] from rfl) (Reps.none _ _))); intro v567 w8 ho9 hb hg_ hnew_; clear hg_ hnew_; (first | rw [← Ny566.out] at ho9 | (simp only [Int.reduceToNat] at ho9; rw [← Ny566.out] at ho9)); have n0_ := (⟨Zm (Kd.R_lower ho9 (Zbz (bk HB.out))), Zm (Zbt (bk HB.out) hb)⟩ : _ ∧ _); clear HB; obtain ⟨HO568, HB⟩ := n0_; clear hb ho9; have hcv10 := own_string (P := Tryz.prog) Tryz.underlying42 Tryz.underlying5 Tryz.underlying9 (Kd.own_of_R HO568.out)))
       go_roundg k1
       case measure => have := HK1.out; omega
       case rel => exact ⟨(wrap64 (Int.tdiv x0_1 10)), ((strOfNums y566) ++ x4_1), (by first | rfl | (simp; done) | (simp [*]; done)), (by first | rfl | (simp; done) | (simp [*]; done)), H', ⟨by have := HK1.out; omega⟩, ⟨bk HB.out⟩⟩
     rw [if_pos c3] at H
     have c3b0 : (x0_1 == 0) = true := beq_iff_eq.mpr c3
     have c3b1 : (x0_1 != 0) = false := bne_eq_false_iff_eq.mpr c3
     clear c3
     by_cases c4 : (decide (a0 < 0)) = true
     rotate_left
     · rw [if_neg c4] at H
       have c4b0 : (decide (a0 < 0)) = false := by simpa using c4
       try have c4b8 := of_decide_eq_false c4b0
       clear c4
       obtain rfl := Option.some.inj H
       go_wp2
       go_ret
       exact fin_ HB
     rw [if_pos c4] at H
     have c4b0 : (decide (a0 < 0)) = true := c4
     try have c4b8 := of_decide_eq_true c4b0
     clear c4
     by_cases c5 : 1 + x4_1.size ≤ 9223372036854775807
     rotate_left
     · rw [if_neg c5] at H
       exact absurd H (by simp)
     rw [if_pos c5] at H
     have c5b0 := eq_true c5
     have c5b1 := decide_eq_true c5
     try have c5b2 : (9223372036854775807 < 1 + x4_1.size) = False := eq_false (Nat.not_lt.2 c5)
     obtain rfl := Option.some.inj H
     go_wp2
     go_ret
     exact fin_ HB
 rw [if_pos c2] at H
 have c2b0 : (a0 == 0) = true := beq_iff_eq.mpr c2
 have c2b1 : (a0 != 0) = false := bne_eq_false_iff_eq.mpr c2
 clear c2
 obtain rfl := Option.some.inj H
 go_enter Tryz.func65, Tryz.ntmps65
 go_wp2
 go_ret
 exact fin_ HB
/-! ### spec_OpName: function 94 -/
def spec_OpName.f (k : Nat) (a0 : Int) : Option (ByteArray) := (spec_l03Ops.f).bind fun t572 => (if a0 < 1 then (some (⟨#[]⟩ : ByteArray)) else (if a0 ≥ (t572.length : Int) then (some (⟨#[]⟩ : ByteArray)) else (if 0 ≤ a0 then (if a0 < (t572.length : Int) then ((spec_l01Split.f k (rdOf ByteArray.empty t572 a0) 32).bind fun t576 => (if 0 < (t576.length : Int) then (some (rdOf ByteArray.empty t576 0)) else (none))) else (none)) else (none))))
theorem spec_OpName.mono : ∀ a0 k, LeO (spec_OpName.f k a0) (spec_OpName.f (k + 1) a0) := by
 intro a0 k; unfold spec_OpName.f
 repeat' first
  | (with_reducible exact spec_l01Split.mono _ _ _)
  | (with_reducible exact LeO.refl _)
  | (with_reducible exact LeO.none _)
  | (with_reducible refine LeO.ite ?_ ?_)
  | (with_reducible refine LeO.bind ?_ (fun _ => ?_))
  | exact spec_l01Split.mono _ _ _
  | exact LeO.none _
  | refine LeO.ite ?_ ?_
  | refine LeO.bind ?_ (fun _ => ?_)
set_option maxHeartbeats 8000000 in
set_option maxRecDepth 100000 in
theorem spec_OpName.calls (k : Nat) (a0 : Int) (r : ByteArray) (w : World) (h : spec_OpName.f k a0 = some r) :
 Calls Tryz.prog 94 #[.int .i64 a0] w fun e w' => e = .returned (.string r) ∧ Below w.heap.size w w' := by
 have HB := Zm (Below.refl w.heap.size w); have H : ((spec_l03Ops.f).bind fun t572 => (if a0 < 1 then (some (⟨#[]⟩ : ByteArray)) else (if a0 ≥ (t572.length : Int) then (some (⟨#[]⟩ : ByteArray)) else (if 0 ≤ a0 then (if a0 < (t572.length : Int) then ((spec_l01Split.f k (rdOf ByteArray.empty t572 a0) 32).bind fun t576 => (if 0 < (t576.length : Int) then (some (rdOf ByteArray.empty t576 0)) else (none))) else (none)) else (none))))) = some r := h; clear h; replace H := Option.bind_eq_some_iff.mp H; obtain ⟨t572, A20, H⟩ := H; (try dsimp only at H); have A2 := Zm A20; clear A20; by_cases c3 : a0 < 1; rotate_left
 · rw [if_neg c3] at H; have c3b0 := decide_eq_false c3; clear c3; have HC5 := Zm H; clear H; go_enter Tryz.func94, Tryz.ntmps94; go_upto_if 12 with (first | ((with_reducible refine gate_callee (f := 82) rfl ?_); refine ge_ (some 4) Tryz.func82 #[] ?_; (with_reducible refine (spec_l03Ops.calls _ _ A2.out).mono ?_); rintro e w6 ⟨v573, rfl, ho0, hb⟩; refine ⟨_, rfl, ?_⟩; have n0_ := (⟨Zm (Kd.R_lower ho0 (Zbz (bk HB.out))), Zm (Zbt (bk HB.out) hb)⟩ : _ ∧ _); clear HB; obtain ⟨HO574, HB⟩ := n0_; (try clear hb); (try clear hb2); (try clear hk); (try clear hi); (try clear ho0); obtain ⟨Ao7, co7, eo7⟩ := Kd.R_slice HO574.out; subst eo7)); have H := HC5.out; clear HC5; by_cases c8 : a0 ≥ (t572.length : Int); rotate_left
   · rw [if_neg c8] at H; have c8b0 : decide ((t572.length : Int) ≤ a0) = false := decide_eq_false c8; clear c8; (first | rw [c8b0] | (simp only [i64_w, i32_w]; rw [c8b0]) | rw [c8b1] | skip); by_cases c9 : 0 ≤ a0; rotate_left
     · rw [if_neg c9] at H; exact absurd H (by simp)

     rw [if_pos c9] at H
     have c9b0 := decide_eq_true c9
     clear c9
     by_cases c10 : a0 < (t572.length : Int)
     rotate_left
     · rw [if_neg c10] at H
       exact absurd H (by simp)
     rw [if_pos c10] at H
     have c10b0 := decide_eq_true c10
     clear c10
     replace H := Option.bind_eq_some_iff.mp H
     obtain ⟨t576, A110, H⟩ := H
     (try dsimp only at H)
     have A11 := Zm A110
     clear A110
     by_cases c12 : 0 < (t576.length : Int)
     rotate_left
     · rw [if_neg c12] at H
       exact absurd H (by simp)
     rw [if_pos c12] at H
     have c12b0 := decide_eq_true c12
     have c12b1 : decide (0 < t576.length) = true := decide_eq_true (by omega)
     clear c12
     obtain rfl := Option.some.inj H
     have p575 : 0 ≤ (a0 : Int) := of_decide_eq_true (by first | (with_reducible assumption) | assumption)
     have q575 : a0 < (t572.length : Int) := of_decide_eq_true (by first | (with_reducible assumption) | assumption)
     obtain ⟨ad575, e575, hx575_0⟩ := Kd.at_string (Kd.R_reads' HO574.out).2.2 a0 p575 q575
     cases e575
     replace p575 := eq_true p575
     replace q575 := eq_true q575
     (try clear HO574)
     go_wp2_with (first | ((with_reducible refine gate_callee (f := 83) rfl ?_); refine ge_ (some 17) Tryz.func83 #[.string (rdOf ByteArray.empty t572 a0), .int .u8 32] ?_; (with_reducible refine (spec_l01Split.calls _ _ _ _ _ A11.out).mono ?_); rintro e w13 ⟨v577, rfl, ho0, hb⟩; refine ⟨_, rfl, ?_⟩; have n0_ := (⟨Zm (Kd.R_lower ho0 (Zbz (bk HB.out))), Zm (Zbt (bk HB.out) hb)⟩ : _ ∧ _); clear HB; obtain ⟨HO578, HB⟩ := n0_; (try clear hb); (try clear hb2); (try clear hk); (try clear hi); (try clear ho0); obtain ⟨Ao14, co14, eo14⟩ := Kd.R_slice HO578.out; subst eo14; have p579 : 0 ≤ (0 : Int) := (by omega); have q579 : 0 < (t576.length : Int) := of_decide_eq_true (by first | (with_reducible assumption) | assumption); obtain ⟨ad579, e579, hx579_0⟩ := Kd.at_string (Kd.R_reads' HO578.out).2.2 0 p579 q579; cases e579; have qi579 : (0 < t576.length) = True := eq_true (by omega); (try rw [show ((0 : Int)).toNat = 0 from rfl] at hx579_0); (try rw [Addr.add_zero'] at hx579_0); replace p579 := eq_true p579; replace q579 := eq_true q579))
     go_ret
     exact fin_ HB
   rw [if_pos c8] at H
   have c8b0 : decide ((t572.length : Int) ≤ a0) = true := decide_eq_true c8
   clear c8
   (first | rw [c8b0] | (simp only [i64_w, i32_w]; rw [c8b0]) | rw [c8b1] | skip)
   obtain rfl := Option.some.inj H
   go_wp2
   go_ret
   exact fin_ HB
 rw [if_pos c3] at H
 have c3b0 := decide_eq_true c3
 clear c3
 obtain rfl := Option.some.inj H
 go_enter Tryz.func94, Tryz.ntmps94
 go_wp2_with (first | ((with_reducible refine gate_callee (f := 82) rfl ?_); refine ge_ (some 4) Tryz.func82 #[] ?_; (with_reducible refine (spec_l03Ops.calls _ _ A2.out).mono ?_); rintro e w4 ⟨v573, rfl, ho0, hb⟩; refine ⟨_, rfl, ?_⟩; have n0_ := (⟨Zm (Kd.R_lower ho0 (Zbz (bk HB.out))), Zm (Zbt (bk HB.out) hb)⟩ : _ ∧ _); clear HB; obtain ⟨HO574, HB⟩ := n0_; (try clear hb); (try clear hb2); (try clear hk); (try clear hi); (try clear ho0)))
 go_ret
 exact fin_ HB
/-! ### spec_l14Ins: function 55 -/
def spec_l14Ins.j0 : Nat → ByteArray → ByteArray → Bool → Int → Int → ByteArray → ByteArray → ByteArray → Option (ByteArray)
 | 0, _, _, _, _, _, _, _, _ => none
 | k + 1, x3, x9, x10, x581000, x581001, x581002, x581003, x581004 => if x10 = true then (if x3.size + 1 ≤ 9223372036854775807 then ((spec_l01Dec.f k x581001).bind fun t583 => (if (x3 ++ (⟨#[32]⟩ : ByteArray)).size + t583.size ≤ 9223372036854775807 then (some ((x3 ++ (⟨#[32]⟩ : ByteArray)) ++ t583)) else (none))) else (none)) else (if x9.toList = ([99] : List UInt8) then (if x3.size + 1 ≤ 9223372036854775807 then (if (x3 ++ (⟨#[32]⟩ : ByteArray)).size + x581002.size ≤ 9223372036854775807 then (some ((x3 ++ (⟨#[32]⟩ : ByteArray)) ++ x581002)) else (none)) else (none)) else (if x9.toList = ([121] : List UInt8) then (if x3.size + 1 ≤ 9223372036854775807 then (if (x3 ++ (⟨#[32]⟩ : ByteArray)).size + x581004.size ≤ 9223372036854775807 then (some ((x3 ++ (⟨#[32]⟩ : ByteArray)) ++ x581004)) else (none)) else (none)) else (if x9.toList = ([102] : List UInt8) then (if x3.size + 1 ≤ 9223372036854775807 then (if (x3 ++ (⟨#[32]⟩ : ByteArray)).size + x581002.size ≤ 9223372036854775807 then (if ((x3 ++ (⟨#[32]⟩ : ByteArray)) ++ x581002).size + 1 ≤ 9223372036854775807 then (if (((x3 ++ (⟨#[32]⟩ : ByteArray)) ++ x581002) ++ (⟨#[32]⟩ : ByteArray)).size + x581003.size ≤ 9223372036854775807 then (if ((((x3 ++ (⟨#[32]⟩ : ByteArray)) ++ x581002) ++ (⟨#[32]⟩ : ByteArray)) ++ x581003).size + 1 ≤ 9223372036854775807 then (if (((((x3 ++ (⟨#[32]⟩ : ByteArray)) ++ x581002) ++ (⟨#[32]⟩ : ByteArray)) ++ x581003) ++ (⟨#[32]⟩ : ByteArray)).size + x581004.size ≤ 9223372036854775807 then (some ((((((x3 ++ (⟨#[32]⟩ : ByteArray)) ++ x581002) ++ (⟨#[32]⟩ : ByteArray)) ++ x581003) ++ (⟨#[32]⟩ : ByteArray)) ++ x581004)) else (none)) else (none)) else (none)) else (none)) else (none)) else (none)) else (if x9.toList = ([109] : List UInt8) then (if x3.size + 1 ≤ 9223372036854775807 then (if (x3 ++ (⟨#[32]⟩ : ByteArray)).size + x581002.size ≤ 9223372036854775807 then (if ((x3 ++ (⟨#[32]⟩ : ByteArray)) ++ x581002).size + 1 ≤ 9223372036854775807 then (if (((x3 ++ (⟨#[32]⟩ : ByteArray)) ++ x581002) ++ (⟨#[32]⟩ : ByteArray)).size + x581003.size ≤ 9223372036854775807 then (if ((((x3 ++ (⟨#[32]⟩ : ByteArray)) ++ x581002) ++ (⟨#[32]⟩ : ByteArray)) ++ x581003).size + 1 ≤ 9223372036854775807 then (if (((((x3 ++ (⟨#[32]⟩ : ByteArray)) ++ x581002) ++ (⟨#[32]⟩ : ByteArray)) ++ x581003) ++ (⟨#[32]⟩ : ByteArray)).size + x581004.size ≤ 9223372036854775807 then (some ((((((x3 ++ (⟨#[32]⟩ : ByteArray)) ++ x581002) ++ (⟨#[32]⟩ : ByteArray)) ++ x581003) ++ (⟨#[32]⟩ : ByteArray)) ++ x581004)) else (none)) else (none)) else (none)) else (none)) else (none)) else (none)) else (some x3)))))
def spec_l14Ins.f (k : Nat) (a0_0 : Int) (a0_1 : Int) (a0_2 : ByteArray) (a0_3 : ByteArray) (a0_4 : ByteArray) : Option (ByteArray) := (spec_OpName.f k a0_0).bind fun t581 => ((spec_OpForm.f k a0_0).bind fun t582 => (if t582.toList = ([110] : List UInt8) then (spec_l14Ins.j0 k t581 t582 (t582.toList == ([110] : List UInt8)) a0_0 a0_1 a0_2 a0_3 a0_4) else (if t582.toList = ([105] : List UInt8) then (spec_l14Ins.j0 k t581 t582 (t582.toList == ([105] : List UInt8)) a0_0 a0_1 a0_2 a0_3 a0_4) else (spec_l14Ins.j0 k t581 t582 (t582.toList == ([116] : List UInt8)) a0_0 a0_1 a0_2 a0_3 a0_4))))
set_option maxHeartbeats 8000000 in
set_option maxRecDepth 100000 in
theorem spec_l14Ins.calls (k : Nat) (a0_0 : Int) (a0_1 : Int) (a0_2 : ByteArray) (a0_3 : ByteArray) (a0_4 : ByteArray) (r : ByteArray) (w : World) (h : spec_l14Ins.f k a0_0 a0_1 a0_2 a0_3 a0_4 = some r) :
 Calls Tryz.prog 55 #[.agg #[.int .i64 a0_0, .int .i64 a0_1, .string a0_2, .string a0_3, .string a0_4]] w fun e w' => e = .returned (.string r) ∧ Below w.heap.size w w' := by
 have hu44 := Tryz.underlying44; have HB := Zm (Below.refl w.heap.size w); have H : ((spec_OpName.f k a0_0).bind fun t581 => ((spec_OpForm.f k a0_0).bind fun t582 => (if t582.toList = ([110] : List UInt8) then (spec_l14Ins.j0 k t581 t582 (t582.toList == ([110] : List UInt8)) a0_0 a0_1 a0_2 a0_3 a0_4) else (if t582.toList = ([105] : List UInt8) then (spec_l14Ins.j0 k t581 t582 (t582.toList == ([105] : List UInt8)) a0_0 a0_1 a0_2 a0_3 a0_4) else (spec_l14Ins.j0 k t581 t582 (t582.toList == ([116] : List UInt8)) a0_0 a0_1 a0_2 a0_3 a0_4))))) = some r := h; clear h; replace H := Option.bind_eq_some_iff.mp H; obtain ⟨t581, A20, H⟩ := H; (try dsimp only at H); have A2 := Zm A20; clear A20; replace H := Option.bind_eq_some_iff.mp H; obtain ⟨t582, A30, H⟩ := H; (try dsimp only at H); have A3 := Zm A30; clear A30; have HC4 := Zm H; clear H; go_enter Tryz.func55, Tryz.ntmps55; go_upto_if 10 with (first | ((with_reducible refine gate_dst (N := 1) rfl ?_); refine box_event ?hg (N := 1) ?hd (cs := #[.int .i64 a0_0, .int .i64 a0_1, .string a0_2, .string a0_3, .string a0_4]) (t := 44) ?hr ?_; (case hd => rfl); (case hg => rfl); (case hr => first | (go_simp; done) | (go_simp; rfl)); intro gb580 hg w5 hbox hb; have n0_ := (⟨Zm (Zbt (bk HB.out) hb), Zm (hbox), Zm ((by rw [hg]; exact (Zbz (bk HB.out)) : w.heap.size ≤ gb580)), Zm ((by rw [hg]; exact (Zbz (bk HB.out)) : w.heap.size ≤ gb580))⟩ : _ ∧ _ ∧ _ ∧ _); clear HB; obtain ⟨HB, BK580, GW580, GE580⟩ := n0_; clear hb hbox hg; obtain ⟨hcz6_0, hcz6_1, hcz6_2, hcz6_3, hcz6_4⟩ := cz5 BK580.out; have hfz6_4 := Zkf BK580.out 4) | ((with_reducible refine gate_callee (f := 94) rfl ?_); refine ge_ (some 6) Tryz.func94 #[.int .i64 a0_0] ?_; (with_reducible refine (spec_OpName.calls _ _ _ _ A2.out).mono ?_); rintro e w7 ⟨rfl, hb⟩; refine ⟨_, rfl, ?_⟩; have n0_ := (⟨Zm (Zkb (pk BK580.out) hb), Zm (Zbt (bk HB.out) hb)⟩ : _ ∧ _); clear BK580 HB; obtain ⟨BK580, HB⟩ := n0_; (try clear hb); (try clear hb2); (try clear hk); (try clear hi); obtain ⟨hcz8_0, hcz8_1, hcz8_2, hcz8_3, hcz8_4⟩ := cz5 BK580.out; have hfz8_4 := Zkf BK580.out 4) | ((with_reducible refine gate_callee (f := 39) rfl ?_); refine ge_ (some 9) Tryz.func39 #[.int .i64 a0_0] ?_; (with_reducible refine (spec_OpForm.calls _ _ _ _ A3.out).mono ?_); rintro e w9 ⟨rfl, hb⟩; refine ⟨_, rfl, ?_⟩; have n0_ := (⟨Zm (Zkb (pk BK580.out) hb), Zm (Zbt (bk HB.out) hb)⟩ : _ ∧ _); clear BK580 HB; obtain ⟨BK580, HB⟩ := n0_; (try clear hb); (try clear hb2); (try clear hk); (try clear hi))); (try simp only [Act.put, List.setIfInBounds_toArray, List.set_cons_zero, List.set_cons_succ]); go_cut [10] (fun v10 wc => ∃ (kq : Nat) (x10_3 : Bool), v10 = .bool x10_3 ∧ Aside0 (spec_l14Ins.j0 kq t581 t582 x10_3 a0_0 a0_1 a0_2 a0_3 a0_4 = some r) ∧ Aside0 (kq ≤ k) ∧ Aside0 (wc.heap[gb580]? = some (.cells #[.int .i64 a0_0, .int .i64 a0_1, .string a0_2, .string a0_3, .string a0_4] 44 (0, 0))) ∧ Aside0 (Below w.heap.size w wc))
 case first =>
  have H := HC4.out; clear HC4; by_cases c10 : t582.toList = ([110] : List UInt8); rotate_left
  · rw [if_neg c10] at H; have c10b0 : (t582.toList == ([110] : List UInt8)) = false := beq_eq_false_iff_ne.mpr c10; have c10b1 : (t582.toList != ([110] : List UInt8)) = true := bne_iff_ne.mpr c10; (first | rw [c10b0] | (simp only [i64_w, i32_w]; rw [c10b0]) | skip); by_cases c11 : t582.toList = ([105] : List UInt8); rotate_left
    · rw [if_neg c11] at H; have c11b0 : (t582.toList == ([105] : List UInt8)) = false := beq_eq_false_iff_ne.mpr c11; have c11b1 : (t582.toList != ([105] : List UInt8)) = true := bne_iff_ne.mpr c11; have H' := Zm H; clear H; go_wp2; go_meet
      case rel => exact ⟨_, ((t582.toList == ([116] : List UInt8))), (by first | rfl | (simp; done) | (simp [*]; done)), H', ⟨by first | omega | exact Nat.le_refl _⟩, ⟨pk BK580.out⟩, ⟨bk HB.out⟩⟩
    rw [if_pos c11] at H; have c11b0 : (t582.toList == ([105] : List UInt8)) = true := beq_iff_eq.mpr c11; have c11b1 : (t582.toList != ([105] : List UInt8)) = false := bne_eq_false_iff_eq.mpr c11; clear c11; have H' := Zm H; clear H; go_wp2; go_meet
    case rel => exact ⟨_, ((t582.toList == ([105] : List UInt8))), (by first | rfl | (simp; done) | (simp [*]; done)), H', ⟨by first | omega | exact Nat.le_refl _⟩, ⟨pk BK580.out⟩, ⟨bk HB.out⟩⟩
  rw [if_pos c10] at H; have c10b0 : (t582.toList == ([110] : List UInt8)) = true := beq_iff_eq.mpr c10; have c10b1 : (t582.toList != ([110] : List UInt8)) = false := bne_eq_false_iff_eq.mpr c10; clear c10; (first | rw [c10b0] | (simp only [i64_w, i32_w]; rw [c10b0]) | skip); have H' := Zm H; clear H; go_wp2; go_meet
  case rel => exact ⟨_, ((t582.toList == ([110] : List UInt8))), (by first | rfl | (simp; done) | (simp [*]; done)), H', ⟨by first | omega | exact Nat.le_refl _⟩, ⟨pk BK580.out⟩, ⟨bk HB.out⟩⟩
 case rest =>
  clear HC4; (try clear hcz6_0); (try clear hcz6_1); (try clear hcz6_2); (try clear hcz6_3); (try clear hcz6_4); (try clear hcz8_0); (try clear hcz8_1); (try clear hcz8_2); (try clear hcz8_3); (try clear hcz8_4); (try clear hfz6_4); (try clear hfz8_4); obtain ⟨kq, x10_3, rfl, HA, HJ3, BK580, HB⟩ := hcut
  cases kq with
  | zero => exact absurd HA.out (by simp [spec_l14Ins.j0])
  | succ kj3 =>
   have H := HA.out; clear HA; simp only [spec_l14Ins.j0] at H; by_cases c12 : x10_3 = true; rotate_left
   · replace c12 := Bool.eq_false_iff.mpr c12; subst c12; rw [if_neg (show ¬ (false = true) by decide)] at H; by_cases c18 : t582.toList = ([99] : List UInt8); rotate_left
     · rw [if_neg c18] at H; have c18b0 : (t582.toList == ([99] : List UInt8)) = false := beq_eq_false_iff_ne.mpr c18; have c18b1 : (t582.toList != ([99] : List UInt8)) = true := bne_iff_ne.mpr c18; by_cases c22 : t582.toList = ([121] : List UInt8); rotate_left
       · rw [if_neg c22] at H; have c22b0 : (t582.toList == ([121] : List UInt8)) = false := beq_eq_false_iff_ne.mpr c22; have c22b1 : (t582.toList != ([121] : List UInt8)) = true := bne_iff_ne.mpr c22; by_cases c26 : t582.toList = ([102] : List UInt8); rotate_left
         · rw [if_neg c26] at H; have c26b0 : (t582.toList == ([102] : List UInt8)) = false := beq_eq_false_iff_ne.mpr c26; have c26b1 : (t582.toList != ([102] : List UInt8)) = true := bne_iff_ne.mpr c26; by_cases c34 : t582.toList = ([109] : List UInt8); rotate_left
           · rw [if_neg c34] at H; have c34b0 : (t582.toList == ([109] : List UInt8)) = false := beq_eq_false_iff_ne.mpr c34; have c34b1 : (t582.toList != ([109] : List UInt8)) = true := bne_iff_ne.mpr c34; obtain rfl := Option.some.inj H; go_wp2; go_ret; exact fin_ HB

           rw [if_pos c34] at H
           have c34b0 : (t582.toList == ([109] : List UInt8)) = true := beq_iff_eq.mpr c34
           have c34b1 : (t582.toList != ([109] : List UInt8)) = false := bne_eq_false_iff_eq.mpr c34
           clear c34
           by_cases c35 : t581.size + 1 ≤ 9223372036854775807
           rotate_left
           · rw [if_neg c35] at H
             exact absurd H (by simp)
           rw [if_pos c35] at H
           have c35b0 := eq_true c35
           have c35b1 := decide_eq_true c35
           try have c35b2 : (9223372036854775807 < t581.size + 1) = False := eq_false (Nat.not_lt.2 c35)
           by_cases c36 : (t581 ++ (⟨#[32]⟩ : ByteArray)).size + a0_2.size ≤ 9223372036854775807
           rotate_left
           · rw [if_neg c36] at H
             exact absurd H (by simp)
           rw [if_pos c36] at H
           have c36b0 := eq_true c36
           have c36b1 := decide_eq_true c36
           try have c36b2 : (9223372036854775807 < (t581 ++ (⟨#[32]⟩ : ByteArray)).size + a0_2.size) = False := eq_false (Nat.not_lt.2 c36)
           try have c36b9 : (9223372036854775807 < t581.size + 1 + a0_2.size) = False := eq_false (by have h_ := c36; simp only [ByteArray.size_append] at h_; have z0_ : (⟨#[32]⟩ : ByteArray).size = 1 := rfl; omega)
           by_cases c37 : ((t581 ++ (⟨#[32]⟩ : ByteArray)) ++ a0_2).size + 1 ≤ 9223372036854775807
           rotate_left
           · rw [if_neg c37] at H
             exact absurd H (by simp)
           rw [if_pos c37] at H
           have c37b0 := eq_true c37
           have c37b1 := decide_eq_true c37
           try have c37b2 : (9223372036854775807 < ((t581 ++ (⟨#[32]⟩ : ByteArray)) ++ a0_2).size + 1) = False := eq_false (Nat.not_lt.2 c37)
           try have c37b9 : (9223372036854775807 < t581.size + 1 + a0_2.size + 1) = False := eq_false (by have h_ := c37; simp only [ByteArray.size_append] at h_; have z0_ : (⟨#[32]⟩ : ByteArray).size = 1 := rfl; omega)
           by_cases c38 : (((t581 ++ (⟨#[32]⟩ : ByteArray)) ++ a0_2) ++ (⟨#[32]⟩ : ByteArray)).size + a0_3.size ≤ 9223372036854775807
           rotate_left
           · rw [if_neg c38] at H
             exact absurd H (by simp)
           rw [if_pos c38] at H
           have c38b0 := eq_true c38
           have c38b1 := decide_eq_true c38
           try have c38b2 : (9223372036854775807 < (((t581 ++ (⟨#[32]⟩ : ByteArray)) ++ a0_2) ++ (⟨#[32]⟩ : ByteArray)).size + a0_3.size) = False := eq_false (Nat.not_lt.2 c38)
           try have c38b9 : (9223372036854775807 < t581.size + 1 + a0_2.size + 1 + a0_3.size) = False := eq_false (by have h_ := c38; simp only [ByteArray.size_append] at h_; have z0_ : (⟨#[32]⟩ : ByteArray).size = 1 := rfl; omega)
           by_cases c39 : ((((t581 ++ (⟨#[32]⟩ : ByteArray)) ++ a0_2) ++ (⟨#[32]⟩ : ByteArray)) ++ a0_3).size + 1 ≤ 9223372036854775807
           rotate_left
           · rw [if_neg c39] at H
             exact absurd H (by simp)
           rw [if_pos c39] at H
           have c39b0 := eq_true c39
           have c39b1 := decide_eq_true c39
           try have c39b2 : (9223372036854775807 < ((((t581 ++ (⟨#[32]⟩ : ByteArray)) ++ a0_2) ++ (⟨#[32]⟩ : ByteArray)) ++ a0_3).size + 1) = False := eq_false (Nat.not_lt.2 c39)
           try have c39b9 : (9223372036854775807 < t581.size + 1 + a0_2.size + 1 + a0_3.size + 1) = False := eq_false (by have h_ := c39; simp only [ByteArray.size_append] at h_; have z0_ : (⟨#[32]⟩ : ByteArray).size = 1 := rfl; omega)
           by_cases c40 : (((((t581 ++ (⟨#[32]⟩ : ByteArray)) ++ a0_2) ++ (⟨#[32]⟩ : ByteArray)) ++ a0_3) ++ (⟨#[32]⟩ : ByteArray)).size + a0_4.size ≤ 9223372036854775807
           rotate_left
           · rw [if_neg c40] at H
             exact absurd H (by simp)
           rw [if_pos c40] at H
           have c40b0 := eq_true c40
           have c40b1 := decide_eq_true c40
           try have c40b2 : (9223372036854775807 < (((((t581 ++ (⟨#[32]⟩ : ByteArray)) ++ a0_2) ++ (⟨#[32]⟩ : ByteArray)) ++ a0_3) ++ (⟨#[32]⟩ : ByteArray)).size + a0_4.size) = False := eq_false (Nat.not_lt.2 c40)
           try have c40b9 : (9223372036854775807 < t581.size + 1 + a0_2.size + 1 + a0_3.size + 1 + a0_4.size) = False := eq_false (by have h_ := c40; simp only [ByteArray.size_append] at h_; have z0_ : (⟨#[32]⟩ : ByteArray).size = 1 := rfl; omega)
           obtain rfl := Option.some.inj H
           obtain ⟨hcz41_0, hcz41_1, hcz41_2, hcz41_3, hcz41_4⟩ := cz5 BK580.out
           go_wp2
           go_ret
           exact fin_ HB
         rw [if_pos c26] at H
         have c26b0 : (t582.toList == ([102] : List UInt8)) = true := beq_iff_eq.mpr c26
         have c26b1 : (t582.toList != ([102] : List UInt8)) = false := bne_eq_false_iff_eq.mpr c26
         clear c26
         by_cases c27 : t581.size + 1 ≤ 9223372036854775807
         rotate_left
         · rw [if_neg c27] at H
           exact absurd H (by simp)
         rw [if_pos c27] at H
         have c27b0 := eq_true c27
         have c27b1 := decide_eq_true c27
         try have c27b2 : (9223372036854775807 < t581.size + 1) = False := eq_false (Nat.not_lt.2 c27)
         by_cases c28 : (t581 ++ (⟨#[32]⟩ : ByteArray)).size + a0_2.size ≤ 9223372036854775807
         rotate_left
         · rw [if_neg c28] at H
           exact absurd H (by simp)
         rw [if_pos c28] at H
         have c28b0 := eq_true c28
         have c28b1 := decide_eq_true c28
         try have c28b2 : (9223372036854775807 < (t581 ++ (⟨#[32]⟩ : ByteArray)).size + a0_2.size) = False := eq_false (Nat.not_lt.2 c28)
         try have c28b9 : (9223372036854775807 < t581.size + 1 + a0_2.size) = False := eq_false (by have h_ := c28; simp only [ByteArray.size_append] at h_; have z0_ : (⟨#[32]⟩ : ByteArray).size = 1 := rfl; omega)
         by_cases c29 : ((t581 ++ (⟨#[32]⟩ : ByteArray)) ++ a0_2).size + 1 ≤ 9223372036854775807
         rotate_left
         · rw [if_neg c29] at H
           exact absurd H (by simp)
         rw [if_pos c29] at H
         have c29b0 := eq_true c29
         have c29b1 := decide_eq_true c29
         try have c29b2 : (9223372036854775807 < ((t581 ++ (⟨#[32]⟩ : ByteArray)) ++ a0_2).size + 1) = False := eq_false (Nat.not_lt.2 c29)
         try have c29b9 : (9223372036854775807 < t581.size + 1 + a0_2.size + 1) = False := eq_false (by have h_ := c29; simp only [ByteArray.size_append] at h_; have z0_ : (⟨#[32]⟩ : ByteArray).size = 1 := rfl; omega)
         by_cases c30 : (((t581 ++ (⟨#[32]⟩ : ByteArray)) ++ a0_2) ++ (⟨#[32]⟩ : ByteArray)).size + a0_3.size ≤ 9223372036854775807
         rotate_left
         · rw [if_neg c30] at H
           exact absurd H (by simp)
         rw [if_pos c30] at H
         have c30b0 := eq_true c30
         have c30b1 := decide_eq_true c30
         try have c30b2 : (9223372036854775807 < (((t581 ++ (⟨#[32]⟩ : ByteArray)) ++ a0_2) ++ (⟨#[32]⟩ : ByteArray)).size + a0_3.size) = False := eq_false (Nat.not_lt.2 c30)
         try have c30b9 : (9223372036854775807 < t581.size + 1 + a0_2.size + 1 + a0_3.size) = False := eq_false (by have h_ := c30; simp only [ByteArray.size_append] at h_; have z0_ : (⟨#[32]⟩ : ByteArray).size = 1 := rfl; omega)
         by_cases c31 : ((((t581 ++ (⟨#[32]⟩ : ByteArray)) ++ a0_2) ++ (⟨#[32]⟩ : ByteArray)) ++ a0_3).size + 1 ≤ 9223372036854775807
         rotate_left
         · rw [if_neg c31] at H
           exact absurd H (by simp)
         rw [if_pos c31] at H
         have c31b0 := eq_true c31
         have c31b1 := decide_eq_true c31
         try have c31b2 : (9223372036854775807 < ((((t581 ++ (⟨#[32]⟩ : ByteArray)) ++ a0_2) ++ (⟨#[32]⟩ : ByteArray)) ++ a0_3).size + 1) = False := eq_false (Nat.not_lt.2 c31)
         try have c31b9 : (9223372036854775807 < t581.size + 1 + a0_2.size + 1 + a0_3.size + 1) = False := eq_false (by have h_ := c31; simp only [ByteArray.size_append] at h_; have z0_ : (⟨#[32]⟩ : ByteArray).size = 1 := rfl; omega)
         by_cases c32 : (((((t581 ++ (⟨#[32]⟩ : ByteArray)) ++ a0_2) ++ (⟨#[32]⟩ : ByteArray)) ++ a0_3) ++ (⟨#[32]⟩ : ByteArray)).size + a0_4.size ≤ 9223372036854775807
         rotate_left
         · rw [if_neg c32] at H
           exact absurd H (by simp)
         rw [if_pos c32] at H
         have c32b0 := eq_true c32
         have c32b1 := decide_eq_true c32
         try have c32b2 : (9223372036854775807 < (((((t581 ++ (⟨#[32]⟩ : ByteArray)) ++ a0_2) ++ (⟨#[32]⟩ : ByteArray)) ++ a0_3) ++ (⟨#[32]⟩ : ByteArray)).size + a0_4.size) = False := eq_false (Nat.not_lt.2 c32)
         try have c32b9 : (9223372036854775807 < t581.size + 1 + a0_2.size + 1 + a0_3.size + 1 + a0_4.size) = False := eq_false (by have h_ := c32; simp only [ByteArray.size_append] at h_; have z0_ : (⟨#[32]⟩ : ByteArray).size = 1 := rfl; omega)
         obtain rfl := Option.some.inj H
         obtain ⟨hcz33_0, hcz33_1, hcz33_2, hcz33_3, hcz33_4⟩ := cz5 BK580.out
         go_wp2
         go_ret
         exact fin_ HB
       rw [if_pos c22] at H
       have c22b0 : (t582.toList == ([121] : List UInt8)) = true := beq_iff_eq.mpr c22
       have c22b1 : (t582.toList != ([121] : List UInt8)) = false := bne_eq_false_iff_eq.mpr c22
       clear c22
       by_cases c23 : t581.size + 1 ≤ 9223372036854775807
       rotate_left
       · rw [if_neg c23] at H
         exact absurd H (by simp)
       rw [if_pos c23] at H
       have c23b0 := eq_true c23
       have c23b1 := decide_eq_true c23
       try have c23b2 : (9223372036854775807 < t581.size + 1) = False := eq_false (Nat.not_lt.2 c23)
       by_cases c24 : (t581 ++ (⟨#[32]⟩ : ByteArray)).size + a0_4.size ≤ 9223372036854775807
       rotate_left
       · rw [if_neg c24] at H
         exact absurd H (by simp)
       rw [if_pos c24] at H
       have c24b0 := eq_true c24
       have c24b1 := decide_eq_true c24
       try have c24b2 : (9223372036854775807 < (t581 ++ (⟨#[32]⟩ : ByteArray)).size + a0_4.size) = False := eq_false (Nat.not_lt.2 c24)
       try have c24b9 : (9223372036854775807 < t581.size + 1 + a0_4.size) = False := eq_false (by have h_ := c24; simp only [ByteArray.size_append] at h_; have z0_ : (⟨#[32]⟩ : ByteArray).size = 1 := rfl; omega)
       obtain rfl := Option.some.inj H
       obtain ⟨hcz25_0, hcz25_1, hcz25_2, hcz25_3, hcz25_4⟩ := cz5 BK580.out
       go_wp2
       go_ret
       exact fin_ HB
     rw [if_pos c18] at H
     have c18b0 : (t582.toList == ([99] : List UInt8)) = true := beq_iff_eq.mpr c18
     have c18b1 : (t582.toList != ([99] : List UInt8)) = false := bne_eq_false_iff_eq.mpr c18
     clear c18
     by_cases c19 : t581.size + 1 ≤ 9223372036854775807
     rotate_left
     · rw [if_neg c19] at H
       exact absurd H (by simp)
     rw [if_pos c19] at H
     have c19b0 := eq_true c19
     have c19b1 := decide_eq_true c19
     try have c19b2 : (9223372036854775807 < t581.size + 1) = False := eq_false (Nat.not_lt.2 c19)
     by_cases c20 : (t581 ++ (⟨#[32]⟩ : ByteArray)).size + a0_2.size ≤ 9223372036854775807
     rotate_left
     · rw [if_neg c20] at H
       exact absurd H (by simp)
     rw [if_pos c20] at H
     have c20b0 := eq_true c20
     have c20b1 := decide_eq_true c20
     try have c20b2 : (9223372036854775807 < (t581 ++ (⟨#[32]⟩ : ByteArray)).size + a0_2.size) = False := eq_false (Nat.not_lt.2 c20)
     try have c20b9 : (9223372036854775807 < t581.size + 1 + a0_2.size) = False := eq_false (by have h_ := c20; simp only [ByteArray.size_append] at h_; have z0_ : (⟨#[32]⟩ : ByteArray).size = 1 := rfl; omega)
     obtain rfl := Option.some.inj H
     obtain ⟨hcz21_0, hcz21_1, hcz21_2, hcz21_3, hcz21_4⟩ := cz5 BK580.out
     go_wp2
     go_ret
     exact fin_ HB
   subst c12
   rw [if_pos rfl] at H
   by_cases c13 : t581.size + 1 ≤ 9223372036854775807
   rotate_left
   · rw [if_neg c13] at H
     exact absurd H (by simp)
   rw [if_pos c13] at H
   have c13b0 := eq_true c13
   have c13b1 := decide_eq_true c13
   try have c13b2 : (9223372036854775807 < t581.size + 1) = False := eq_false (Nat.not_lt.2 c13)
   replace H := Option.bind_eq_some_iff.mp H
   obtain ⟨t583, A140, H⟩ := H
   (try dsimp only at H)
   have A14 := Zm A140
   clear A140
   by_cases c15 : (t581 ++ (⟨#[32]⟩ : ByteArray)).size + t583.size ≤ 9223372036854775807
   rotate_left
   · rw [if_neg c15] at H
     exact absurd H (by simp)
   rw [if_pos c15] at H
   have c15b0 := eq_true c15
   have c15b1 := decide_eq_true c15
   try have c15b2 : (9223372036854775807 < (t581 ++ (⟨#[32]⟩ : ByteArray)).size + t583.size) = False := eq_false (Nat.not_lt.2 c15)
   try have c15b9 : (9223372036854775807 < t581.size + 1 + t583.size) = False := eq_false (by have h_ := c15; simp only [ByteArray.size_append] at h_; have z0_ : (⟨#[32]⟩ : ByteArray).size = 1 := rfl; omega)
   obtain rfl := Option.some.inj H
   obtain ⟨hcz16_0, hcz16_1, hcz16_2, hcz16_3, hcz16_4⟩ := cz5 BK580.out
   (try clear BK580)
   go_wp2_with (first | ((with_reducible refine gate_callee (f := 65) rfl ?_); refine ge_ (some 18) Tryz.func65 #[.int .i64 a0_1] ?_; (with_reducible refine (spec_l01Dec.calls _ _ _ _ A14.out).mono ?_); rintro e w17 ⟨rfl, hb⟩; refine ⟨_, rfl, ?_⟩; have n0_ := Zm (Zbt (bk HB.out) hb); clear HB; have HB := n0_; clear n0_; (try clear hb); (try clear hb2); (try clear hk); (try clear hi)))
   go_ret
   exact fin_ HB
end Go.Proofs.YtcpnlfkmfpmkdaaGreatDoor.PFnInsText
