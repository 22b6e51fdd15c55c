/- Functions of the program as plain Lean functions, each with a proof that the program's call comes to the same; no condition. Written by a program of this session. -/
import Derived.Test.YtdfnljchoomliaaDoorPFnExactInsParsex0
import Derived.Test.YtdfnljchoomliaaDoorPFnExactInsParsex6
import Derived.Test.YtdfnljchoomliaaDoorPFnExactInsParsex8
import Derived.Test.YtdfnljchoomliaaDoorPFnExactInsParsex10
import Derived.Test.YtdfnljchoomliaaDoorPFnExactInsParsex11
namespace Go.Proofs.YtdfnljchoomliaaDoor.PFnExactInsParse
open Go.RowKit Go.Proofs.YtdfnljchoomliaaDoorW.PrintWords Go.Proofs.YtdfnljchoomliaaDoorW.PrintLast Go.Proofs.YtdfnljchoomliaaDoorW.PrintMore
open Go.Proofs.YtdfnljchoomliaaDoorW.PrintWords renaming below_alloc → Zba, pw_below_drewN → Zbn, below_drew1 → Zbd, below_set → Zbs, below_size → Zbz, below_step → Zbt, blk_drewN → Zkn, blk_drew → Zkd, blk_alloc → Zka, blk_frozen → Zkf, blk_far → Zkr, blk_put → Zkp, blk_below → Zkb
open Go.Proofs.YtdfnljchoomliaaDoorW.PrintWords.Aside0 renaming mk → Zm
attribute [local go_sem] max2_int min2_int max_two min_two max_three min_three max_four min_four   -- for this text's walks alone
set_option linter.unusedVariables false
set_option linter.unusedSimpArgs false

/-! ### strings_Split: function 37 -/
def strings_Split.f (a0 : ByteArray) (a1 : ByteArray) : Option (List ByteArray) := if a0.size < 4294967281 ∧ 1 ≤ a1.size then some (Lib.splitB a1 0 (Lib.countB a0 a1) a0) else none
set_option maxHeartbeats 8000000 in
set_option maxRecDepth 100000 in
theorem strings_Split.calls (a0 : ByteArray) (a1 : ByteArray) (r : List ByteArray) (w : World) (h : strings_Split.f a0 a1 = some r) (htab : Tabs w := by exact tab_) :
    Calls Tryd.prog 37 #[.string a0, .string a1] w fun e w' => ∃ v0_ : Value, e = .returned (v0_) ∧ Kd.R Kd.string 9 w' w.heap.size (fun _ => True) v0_ r ∧ Below w.heap.size w w' := by
  have HTAB := Zm htab
  clear htab
  unfold strings_Split.f at h; split at h
  · rename_i hc; obtain rfl := Option.some.inj h; obtain ⟨m, hm⟩ := HTAB.out.max; refine (Tryd.strings_Split a0 a1 m w hc.1 hm hc.2).mono fun e w' ⟨he, hw⟩ => ?_
    subst hw; have hl := Lib.splitB_all a1 hc.2 0 _ a0 rfl; have hz := Lib.countB_le a1 hc.2 _ a0 (Nat.le_refl _); refine ⟨_, he, ?_, Zba (Below.refl _ _) _⟩; rw [← hl]; refine Kd.R_of_own ?_ (fun _ _ => trivial); simpa [encs] using World.ownsRow_lit (base := w.heap.size) (e := 9) (size := 1) w ((Lib.splitB a1 0 (Lib.countB a0 a1) a0).map Value.string).toArray (Lib.splitB a1 0 (Lib.countB a0 a1) a0).length (Nat.le_refl _) (by unfold maxLen; omega) (by simp)
  · cases h

/-! ### impl_InsParse: function 21 -/
def impl_InsParse.f (k : Nat) (a0 : ByteArray) : Option (Int × Int × ByteArray × ByteArray × ByteArray) := (impl_isText.f k (([a0] : List ByteArray))).bind fun t412 => (if t412 = true then ((strings_Split.f a0 (⟨#[32]⟩ : ByteArray)).bind fun t413 => ((impl_insOf.f k t413).bind fun bt416 => (if bt416.2.2.2.2.2 = true then ((impl_InsRight.f k bt416.1 bt416.2.1 bt416.2.2.1 bt416.2.2.2.1 bt416.2.2.2.2.1).bind fun t423 => (if t423 = true then (some (bt416.1, bt416.2.1, bt416.2.2.1, bt416.2.2.2.1, bt416.2.2.2.2.1)) else (some (0, 0, (⟨#[]⟩ : ByteArray), (⟨#[]⟩ : ByteArray), (⟨#[]⟩ : ByteArray))))) else (some (0, 0, (⟨#[]⟩ : ByteArray), (⟨#[]⟩ : ByteArray), (⟨#[]⟩ : ByteArray)))))) else (some (0, 0, (⟨#[]⟩ : ByteArray), (⟨#[]⟩ : ByteArray), (⟨#[]⟩ : ByteArray))))
set_option maxHeartbeats 8000000 in
set_option maxRecDepth 100000 in
theorem impl_InsParse.calls (k : Nat) (a0 : ByteArray) (r1 : Int) (r2 : Int) (r3 : ByteArray) (r4 : ByteArray) (r5 : ByteArray) (w : World) (h : impl_InsParse.f k a0 = some (r1, r2, r3, r4, r5)) (htab : Tabs w := by exact tab_) :
 Calls Tryd.prog 21 #[.string a0] w fun e w' => e = .returned (.agg #[.int .i64 r1, .int .i64 r2, .string r3, .string r4, .string r5]) ∧ Below w.heap.size w w' := by
 have HTAB := Zm htab
 clear htab
 have hu44 := Tryd.underlying44; have HB := Zm (Below.refl w.heap.size w); have H : ((impl_isText.f k (([a0] : List ByteArray))).bind fun t412 => (if t412 = true then ((strings_Split.f a0 (⟨#[32]⟩ : ByteArray)).bind fun t413 => ((impl_insOf.f k t413).bind fun bt416 => (if bt416.2.2.2.2.2 = true then ((impl_InsRight.f k bt416.1 bt416.2.1 bt416.2.2.1 bt416.2.2.2.1 bt416.2.2.2.2.1).bind fun t423 => (if t423 = true then (some (bt416.1, bt416.2.1, bt416.2.2.1, bt416.2.2.2.1, bt416.2.2.2.2.1)) else (some (0, 0, (⟨#[]⟩ : ByteArray), (⟨#[]⟩ : ByteArray), (⟨#[]⟩ : ByteArray))))) else (some (0, 0, (⟨#[]⟩ : ByteArray), (⟨#[]⟩ : ByteArray), (⟨#[]⟩ : ByteArray)))))) else (some (0, 0, (⟨#[]⟩ : ByteArray), (⟨#[]⟩ : ByteArray), (⟨#[]⟩ : ByteArray))))) = some (r1, r2, r3, r4, r5) := h; clear h; obtain ⟨y409, hy409⟩ : ∃ y_ : List ByteArray, y_ = (([a0] : List ByteArray)) := ⟨_, rfl⟩; replace H : ((impl_isText.f k y409).bind fun t412 => (if t412 = true then ((strings_Split.f a0 (⟨#[32]⟩ : ByteArray)).bind fun t413 => ((impl_insOf.f k t413).bind fun bt416 => (if bt416.2.2.2.2.2 = true then ((impl_InsRight.f k bt416.1 bt416.2.1 bt416.2.2.1 bt416.2.2.2.1 bt416.2.2.2.2.1).bind fun t423 => (if t423 = true then (some (bt416.1, bt416.2.1, bt416.2.2.1, bt416.2.2.2.1, bt416.2.2.2.2.1)) else (some (0, 0, (⟨#[]⟩ : ByteArray), (⟨#[]⟩ : ByteArray), (⟨#[]⟩ : ByteArray))))) else (some (0, 0, (⟨#[]⟩ : ByteArray), (⟨#[]⟩ : ByteArray), (⟨#[]⟩ : ByteArray)))))) else (some (0, 0, (⟨#[]⟩ : ByteArray), (⟨#[]⟩ : ByteArray), (⟨#[]⟩ : ByteArray))))) = some (r1, r2, r3, r4, r5) := by first | (rw [hy409]; with_reducible exact H) | (have H2_ := (Option.bind_some _ _).symm.trans H; rw [hy409]; with_reducible exact H2_) | (have H2_ := (Option.bind_some _ _).symm.trans H; with_reducible exact H2_) | with_reducible exact H | (rw [hy409]; exact H) | exact H
 have Ny409 := Zm hy409; clear hy409; replace H := Option.bind_eq_some_iff.mp H; obtain ⟨t412, A20, H⟩ := H; replace H : (if t412 = true then ((strings_Split.f a0 (⟨#[32]⟩ : ByteArray)).bind fun t413 => ((impl_insOf.f k t413).bind fun bt416 => (if bt416.2.2.2.2.2 = true then ((impl_InsRight.f k bt416.1 bt416.2.1 bt416.2.2.1 bt416.2.2.2.1 bt416.2.2.2.2.1).bind fun t423 => (if t423 = true then (some (bt416.1, bt416.2.1, bt416.2.2.1, bt416.2.2.2.1, bt416.2.2.2.2.1)) else (some (0, 0, (⟨#[]⟩ : ByteArray), (⟨#[]⟩ : ByteArray), (⟨#[]⟩ : ByteArray))))) else (some (0, 0, (⟨#[]⟩ : ByteArray), (⟨#[]⟩ : ByteArray), (⟨#[]⟩ : ByteArray)))))) else (some (0, 0, (⟨#[]⟩ : ByteArray), (⟨#[]⟩ : ByteArray), (⟨#[]⟩ : ByteArray)))) = some (r1, r2, r3, r4, r5) := H; have A2 := Zm A20; clear A20; have HC3 := Zm H; clear H; go_enter Tryd.func21, Tryd.ntmps21; go_upto_if 8 with (first | ((with_reducible refine gate_dst (N := 2) rfl ?_); refine box_event ?hg (N := 2) ?hd (cs := #[.int .i64 0, .int .i64 0, .string (⟨#[]⟩ : ByteArray), .string (⟨#[]⟩ : ByteArray), .string (⟨#[]⟩ : ByteArray)]) (t := 44) ?hr ?_; (case hd => rfl); (case hg => rfl); (case hr => first | (go_simp; done) | (go_simp; rfl)); intro gb408 hg w4 hbox hb; have n0_ := (⟨Zm (Zbt (bk HB.out) hb), Zm (hbox), Zm ((by rw [hg]; exact (Zbz (bk HB.out)) : w.heap.size ≤ gb408)), Zm ((by rw [hg]; exact (Zbz (bk HB.out)) : w.heap.size ≤ gb408))⟩ : _ ∧ _ ∧ _ ∧ _); clear HB; obtain ⟨HB, BK408, GW408, GE408⟩ := n0_; clear hb hbox hg) | ((with_reducible refine gate_dst (N := 6) rfl ?_); refine Kd.R_lit Kd.string _ 9 ?hg (N := 6) ?hd (xs := ([a0] : List ByteArray)) (inner := [.string a0]) (ok := fun _ => True) (okp := fun _ => True) ?hr ?hp (fun _ hk => hk) trivial (Below.refl _ _) (Nat.le_refl _) (by simp) ?_; (case hd => rfl); (case hg => rfl); (case hr => first | (go_simp; done) | (go_simp; rfl)); (case hp => exact (Reps.one (show Kd.M Kd.string _ _ _ a0 [.string a0] from rfl) (Reps.none _ _))); intro v410 w5 ho6 hb hg_ hnew_; clear hg_ hnew_; (first | rw [← Ny409.out] at ho6 | (simp only [Int.reduceToNat] at ho6; rw [← Ny409.out] at ho6)); have n0_ := (⟨Zm (Kd.R_lower ho6 (Zbz (bk HB.out))), Zm (Zkb (pk BK408.out) hb), Zm (Zbt (bk HB.out) hb)⟩ : _ ∧ _ ∧ _); clear BK408 HB; obtain ⟨HO411, BK408, HB⟩ := n0_; clear hb ho6; obtain ⟨Ao7, co7, eo7⟩ := Kd.R_slice HO411.out; subst eo7) | ((with_reducible refine gate_callee (f := 35) rfl ?_); refine ge_ (some 7) Tryd.func35 #[.slice Ao7 y409.length co7] ?_; (with_reducible refine (impl_isText.calls _ _ _ _ _ _ ?side1 ?side2 A2.out).mono ?_); (case side1 => exact pc (Kd.R_reads' HO411.out).2.2); (case side2 => exact (Kd.R_reads' HO411.out).2.1); rintro e w' ⟨rfl, ⟨nd, rfl⟩⟩; refine ⟨_, rfl, ?_⟩)); have H := HC3.out; clear HC3; by_cases c8 : t412 = true; rotate_left
 · replace c8 := Bool.eq_false_iff.mpr c8; subst c8; rw [if_neg (show ¬ (false = true) by decide)] at H; simp only [Option.some.injEq, Prod.mk.injEq] at H; obtain ⟨rfl, rfl, rfl, rfl, rfl⟩ := H; obtain ⟨hcz34_0, hcz34_1, hcz34_2, hcz34_3, hcz34_4⟩ := cz5 BK408.out; have hfz34_0 := Zkf BK408.out 0; have hfz34_1 := Zkf BK408.out 1; have hfz34_2 := Zkf BK408.out 2; have hfz34_3 := Zkf BK408.out 3; have hfz34_4 := Zkf BK408.out 4; go_wp2; refine bodyPost_ret (results_cell_row rfl _ _ gb408 44 #[.int .i64 0, .int .i64 0, .string (⟨#[]⟩ : ByteArray), .string (⟨#[]⟩ : ByteArray), .string (⟨#[]⟩ : ByteArray)] (0, 0) _ rfl zc_ Tryd.underlying44 rfl (by kernel_rfl)) rfl ?_; exact ⟨by first | rfl | (simp [*] <;> rfl), hb_⟩

 subst c8
 rw [if_pos rfl] at H
 replace H := Option.bind_eq_some_iff.mp H
 obtain ⟨t413, A90, H⟩ := H
 replace H : ((impl_insOf.f k t413).bind fun bt416 => (if bt416.2.2.2.2.2 = true then ((impl_InsRight.f k bt416.1 bt416.2.1 bt416.2.2.1 bt416.2.2.2.1 bt416.2.2.2.2.1).bind fun t423 => (if t423 = true then (some (bt416.1, bt416.2.1, bt416.2.2.1, bt416.2.2.2.1, bt416.2.2.2.2.1)) else (some (0, 0, (⟨#[]⟩ : ByteArray), (⟨#[]⟩ : ByteArray), (⟨#[]⟩ : ByteArray))))) else (some (0, 0, (⟨#[]⟩ : ByteArray), (⟨#[]⟩ : ByteArray), (⟨#[]⟩ : ByteArray))))) = some (r1, r2, r3, r4, r5) := H
 have A9 := Zm A90
 clear A90
 replace H := Option.bind_eq_some_iff.mp H
 obtain ⟨⟨t416, t417, t418, t419, t420, t421⟩, A100, H⟩ := H
 replace H : (if t421 = true then ((impl_InsRight.f k t416 t417 t418 t419 t420).bind fun t423 => (if t423 = true then (some (t416, t417, t418, t419, t420)) else (some (0, 0, (⟨#[]⟩ : ByteArray), (⟨#[]⟩ : ByteArray), (⟨#[]⟩ : ByteArray))))) else (some (0, 0, (⟨#[]⟩ : ByteArray), (⟨#[]⟩ : ByteArray), (⟨#[]⟩ : ByteArray)))) = some (r1, r2, r3, r4, r5) := H
 have A10 := Zm A100
 clear A100
 by_cases c11 : t421 = true
 rotate_left
 · replace c11 := Bool.eq_false_iff.mpr c11
   subst c11
   rw [if_neg (show ¬ (false = true) by decide)] at H
   simp only [Option.some.injEq, Prod.mk.injEq] at H
   obtain ⟨rfl, rfl, rfl, rfl, rfl⟩ := H
   (try clear HO411)
   go_wp2_with (first | ((with_reducible refine gate_callee (f := 37) rfl ?_); refine ge_ (some 12) Tryd.func37 #[.string a0, .string (⟨#[32]⟩ : ByteArray)] ?_; (with_reducible refine (strings_Split.calls _ _ _ _ A9.out).mono ?_); rintro e w27 ⟨v414, rfl, ho0, hb⟩; refine ⟨_, rfl, ?_⟩; have n0_ := (⟨Zm (Kd.R_lower ho0 (Zbz (bk HB.out))), Zm (Zkb (pk BK408.out) hb), Zm (Zbt (bk HB.out) hb)⟩ : _ ∧ _ ∧ _); clear BK408 HB; obtain ⟨HO415, BK408, HB⟩ := n0_; (try clear hb); (try clear hb2); (try clear hk); (try clear hi); (try clear ho0); obtain ⟨Ao28, co28, eo28⟩ := Kd.R_slice HO415.out; subst eo28) | ((with_reducible refine gate_callee (f := 36) rfl ?_); refine ge_ (some 13) Tryd.func36 #[.slice Ao28 t413.length co28] ?_; (with_reducible refine (impl_insOf.calls _ _ _ _ _ _ _ _ _ _ _ ?side1 ?side2 A10.out).mono ?_); (case side1 => exact pc (Kd.R_reads' HO415.out).2.2); (case side2 => exact (Kd.R_reads' HO415.out).2.1); rintro e w29 ⟨rfl, hb⟩; refine ⟨_, rfl, ?_⟩; have n0_ := (⟨Zm (Kd.R_below (by (with_reducible repeat (first | apply Kd.R_alloc | apply Kd.R_drewN | apply Kd.R_drew)); exact HO415.out) hb), Zm (Zkb (pk BK408.out) hb), Zm (Zbt (bk HB.out) hb)⟩ : _ ∧ _ ∧ _); clear HO415 BK408 HB; obtain ⟨HO415, BK408, HB⟩ := n0_; (try clear hb); (try clear hb2); (try clear hk); (try clear hi); (try clear HO415)) | ((with_reducible refine gate_dst (N := 3) rfl ?_); refine box_event ?hg (N := 3) ?hd (cs := #[.int .i64 0, .int .i64 0, .string (⟨#[]⟩ : ByteArray), .string (⟨#[]⟩ : ByteArray), .string (⟨#[]⟩ : ByteArray)]) (t := 44) ?hr ?_; (case hd => rfl); (case hg => rfl); (case hr => first | (go_simp; done) | (go_simp; rfl)); intro gb422 hg w30 hbox hb; have n0_ := (⟨Zm (Zkb (pk BK408.out) hb), Zm (Zbt (bk HB.out) hb), Zm (hbox), Zm ((by rw [hg]; exact (Zbz (bk HB.out)) : w.heap.size ≤ gb422)), Zm ((by rw [hg]; exact (Zbz (bk HB.out)) : w.heap.size ≤ gb422)), Zm ((by rw [hg]; exact Nat.ne_of_lt (blk_lt (pk BK408.out)) : gb408 ≠ gb422)), Zm ((by rw [hg]; exact Nat.ne_of_gt (blk_lt (pk BK408.out)) : gb422 ≠ gb408))⟩ : _ ∧ _ ∧ _ ∧ _ ∧ _ ∧ _ ∧ _); clear BK408 HB; obtain ⟨BK408, HB, BK422, GW422, GE422, NB408_422, NB422_408⟩ := n0_; clear hb hbox hg; have hnb31 := NB422_408.out; have hnc31 := NB408_422.out; obtain ⟨hcz32_0, hcz32_1, hcz32_2, hcz32_3, hcz32_4⟩ := cz5 BK422.out; have hfz32_0 := Zkf BK422.out 0; have hfz32_1 := Zkf BK422.out 1; have hfz32_2 := Zkf BK422.out 2; have hfz32_3 := Zkf BK422.out 3; have hfz32_4 := Zkf BK422.out 4; obtain ⟨hcz33_0, hcz33_1, hcz33_2, hcz33_3, hcz33_4⟩ := cz5 BK408.out; have hfz33_0 := Zkf BK408.out 0; have hfz33_1 := Zkf BK408.out 1; have hfz33_2 := Zkf BK408.out 2; have hfz33_3 := Zkf BK408.out 3; have hfz33_4 := Zkf BK408.out 4))
   refine bodyPost_ret (results_cell_row rfl _ _ gb408 44 #[.int .i64 0, .int .i64 0, .string (⟨#[]⟩ : ByteArray), .string (⟨#[]⟩ : ByteArray), .string (⟨#[]⟩ : ByteArray)] (0, 0) _ rfl zc_ Tryd.underlying44 rfl (by kernel_rfl)) rfl ?_
   exact ⟨by first | rfl | (simp [*] <;> rfl), hb_⟩
 subst c11
 rw [if_pos rfl] at H
 replace H := Option.bind_eq_some_iff.mp H
 obtain ⟨t423, A120, H⟩ := H
 replace H : (if t423 = true then (some (t416, t417, t418, t419, t420)) else (some (0, 0, (⟨#[]⟩ : ByteArray), (⟨#[]⟩ : ByteArray), (⟨#[]⟩ : ByteArray)))) = some (r1, r2, r3, r4, r5) := H
 have A12 := Zm A120
 clear A120
 have HC13 := Zm H
 clear H
 (try clear HO411)
 go_upto_if 22 with (first | ((with_reducible refine gate_callee (f := 37) rfl ?_); refine ge_ (some 12) Tryd.func37 #[.string a0, .string (⟨#[32]⟩ : ByteArray)] ?_; (with_reducible refine (strings_Split.calls _ _ _ _ A9.out).mono ?_); rintro e w14 ⟨v414, rfl, ho0, hb⟩; refine ⟨_, rfl, ?_⟩; have n0_ := (⟨Zm (Kd.R_lower ho0 (Zbz (bk HB.out))), Zm (Zkb (pk BK408.out) hb), Zm (Zbt (bk HB.out) hb)⟩ : _ ∧ _ ∧ _); clear BK408 HB; obtain ⟨HO415, BK408, HB⟩ := n0_; (try clear hb); (try clear hb2); (try clear hk); (try clear hi); (try clear ho0); obtain ⟨Ao15, co15, eo15⟩ := Kd.R_slice HO415.out; subst eo15) | ((with_reducible refine gate_callee (f := 36) rfl ?_); refine ge_ (some 13) Tryd.func36 #[.slice Ao15 t413.length co15] ?_; (with_reducible refine (impl_insOf.calls _ _ _ _ _ _ _ _ _ _ _ ?side1 ?side2 A10.out).mono ?_); (case side1 => exact pc (Kd.R_reads' HO415.out).2.2); (case side2 => exact (Kd.R_reads' HO415.out).2.1); rintro e w16 ⟨rfl, hb⟩; refine ⟨_, rfl, ?_⟩; have n0_ := (⟨Zm (Kd.R_below (by (with_reducible repeat (first | apply Kd.R_alloc | apply Kd.R_drewN | apply Kd.R_drew)); exact HO415.out) hb), Zm (Zkb (pk BK408.out) hb), Zm (Zbt (bk HB.out) hb)⟩ : _ ∧ _ ∧ _); clear HO415 BK408 HB; obtain ⟨HO415, BK408, HB⟩ := n0_; (try clear hb); (try clear hb2); (try clear hk); (try clear hi); (try clear HO415)) | ((with_reducible refine gate_dst (N := 3) rfl ?_); refine box_event ?hg (N := 3) ?hd (cs := #[.int .i64 0, .int .i64 0, .string (⟨#[]⟩ : ByteArray), .string (⟨#[]⟩ : ByteArray), .string (⟨#[]⟩ : ByteArray)]) (t := 44) ?hr ?_; (case hd => rfl); (case hg => rfl); (case hr => first | (go_simp; done) | (go_simp; rfl)); intro gb422 hg w17 hbox hb; have n0_ := (⟨Zm (Zkb (pk BK408.out) hb), Zm (Zbt (bk HB.out) hb), Zm (hbox), Zm ((by rw [hg]; exact (Zbz (bk HB.out)) : w.heap.size ≤ gb422)), Zm ((by rw [hg]; exact (Zbz (bk HB.out)) : w.heap.size ≤ gb422)), Zm ((by rw [hg]; exact Nat.ne_of_lt (blk_lt (pk BK408.out)) : gb408 ≠ gb422)), Zm ((by rw [hg]; exact Nat.ne_of_gt (blk_lt (pk BK408.out)) : gb422 ≠ gb408))⟩ : _ ∧ _ ∧ _ ∧ _ ∧ _ ∧ _ ∧ _); clear BK408 HB; obtain ⟨BK408, HB, BK422, GW422, GE422, NB408_422, NB422_408⟩ := n0_; clear hb hbox hg; have hnb18 := NB422_408.out; have hnc18 := NB408_422.out; obtain ⟨hcz19_0, hcz19_1, hcz19_2, hcz19_3, hcz19_4⟩ := cz5 BK422.out; have hfz19_0 := Zkf BK422.out 0; have hfz19_1 := Zkf BK422.out 1; have hfz19_2 := Zkf BK422.out 2; have hfz19_3 := Zkf BK422.out 3; have hfz19_4 := Zkf BK422.out 4) | (go_at_call 32; (first | (with_reducible refine (impl_InsRight.calls _ _ _ _ _ _ _ _ A12.out).mono ?_) | (with_reducible refine (calls_of_args ?_ (impl_InsRight.calls _ _ _ _ _ _ _ _ A12.out)).mono ?_; focus (simp [*]; done))); rintro e w20 ⟨rfl, hb⟩; have n0_ := (⟨Zm (Zkb (g := gb408) (o := .cells #[.int .i64 0, .int .i64 0, .string (⟨#[]⟩ : ByteArray), .string (⟨#[]⟩ : ByteArray), .string (⟨#[]⟩ : ByteArray)] 44 (0, 0)) zc_ hb), Zm (Zkb (g := gb422) (o := .cells #[.int .i64 t416, .int .i64 t417, .string t418, .string t419, .string t420] 44 (0, 0)) zc_ hb), Zm (Zbt hb_ hb)⟩ : _ ∧ _ ∧ _); clear BK408 BK422 HB; obtain ⟨BK408, BK422, HB⟩ := n0_; (try clear hb); (try clear hb2); (try clear hk); (try clear hi)))
 have H := HC13.out
 clear HC13
 by_cases c21 : t423 = true
 rotate_left
 · replace c21 := Bool.eq_false_iff.mpr c21
   subst c21
   rw [if_neg (show ¬ (false = true) by decide)] at H
   simp only [Option.some.injEq, Prod.mk.injEq] at H
   obtain ⟨rfl, rfl, rfl, rfl, rfl⟩ := H
   have hnb25 := NB408_422.out
   have hnc25 := NB422_408.out
   obtain ⟨hcz26_0, hcz26_1, hcz26_2, hcz26_3, hcz26_4⟩ := cz5 BK408.out
   have hfz26_0 := Zkf BK408.out 0
   have hfz26_1 := Zkf BK408.out 1
   have hfz26_2 := Zkf BK408.out 2
   have hfz26_3 := Zkf BK408.out 3
   have hfz26_4 := Zkf BK408.out 4
   go_wp2
   refine bodyPost_ret (results_cell_row rfl _ _ gb408 44 #[.int .i64 0, .int .i64 0, .string (⟨#[]⟩ : ByteArray), .string (⟨#[]⟩ : ByteArray), .string (⟨#[]⟩ : ByteArray)] (0, 0) _ rfl zc_ Tryd.underlying44 rfl (by kernel_rfl)) rfl ?_
   exact ⟨by first | rfl | (simp [*] <;> rfl), hb_⟩
 subst c21
 rw [if_pos rfl] at H
 simp only [Option.some.injEq, Prod.mk.injEq] at H
 obtain ⟨rfl, rfl, rfl, rfl, rfl⟩ := H
 have hnb22 := NB422_408.out
 have hnc22 := NB408_422.out
 obtain ⟨hcz23_0, hcz23_1, hcz23_2, hcz23_3, hcz23_4⟩ := cz5 BK422.out
 have hfz23_0 := Zkf BK422.out 0
 have hfz23_1 := Zkf BK422.out 1
 have hfz23_2 := Zkf BK422.out 2
 have hfz23_3 := Zkf BK422.out 3
 have hfz23_4 := Zkf BK422.out 4
 obtain ⟨hcz24_0, hcz24_1, hcz24_2, hcz24_3, hcz24_4⟩ := cz5 BK408.out
 have hfz24_0 := Zkf BK408.out 0
 have hfz24_1 := Zkf BK408.out 1
 have hfz24_2 := Zkf BK408.out 2
 have hfz24_3 := Zkf BK408.out 3
 have hfz24_4 := Zkf BK408.out 4
 go_wp2
 refine bodyPost_ret (results_cell_row rfl _ _ gb408 44 #[.int .i64 t416, .int .i64 t417, .string t418, .string t419, .string t420] (0, 0) _ rfl zc_ Tryd.underlying44 rfl (by kernel_rfl)) rfl ?_
 exact ⟨by first | rfl | (simp [*] <;> rfl), hb_⟩
/-! ### laws_eqIns: function 22 -/
def laws_eqIns.f (a0_0 : Int) (a0_1 : Int) (a0_2 : ByteArray) (a0_3 : ByteArray) (a0_4 : ByteArray) (a1_0 : Int) (a1_1 : Int) (a1_2 : ByteArray) (a1_3 : ByteArray) (a1_4 : ByteArray) : Option (Bool) := if a0_0 = a1_0 then (if a0_1 = a1_1 then (if a0_2.toList = a1_2.toList then (if a0_3.toList = a1_3.toList then (if a0_4.toList = a1_4.toList then (some true) else (some false)) else (some false)) else (some false)) else (some false)) else (some false)
set_option maxHeartbeats 8000000 in
set_option maxRecDepth 100000 in
theorem laws_eqIns.calls (a0_0 : Int) (a0_1 : Int) (a0_2 : ByteArray) (a0_3 : ByteArray) (a0_4 : ByteArray) (a1_0 : Int) (a1_1 : Int) (a1_2 : ByteArray) (a1_3 : ByteArray) (a1_4 : ByteArray) (r : Bool) (w : World) (h : laws_eqIns.f a0_0 a0_1 a0_2 a0_3 a0_4 a1_0 a1_1 a1_2 a1_3 a1_4 = some r) :
 Calls Tryd.prog 22 #[.agg #[.int .i64 a0_0, .int .i64 a0_1, .string a0_2, .string a0_3, .string a0_4], .agg #[.int .i64 a1_0, .int .i64 a1_1, .string a1_2, .string a1_3, .string a1_4]] w fun e w' => e = .returned (.bool r) ∧ Below w.heap.size w w' := by
 have hu44 := Tryd.underlying44; have HB := Zm (Below.refl w.heap.size w); have H : (if a0_0 = a1_0 then (if a0_1 = a1_1 then (if a0_2.toList = a1_2.toList then (if a0_3.toList = a1_3.toList then (if a0_4.toList = a1_4.toList then (some true) else (some false)) else (some false)) else (some false)) else (some false)) else (some false)) = some r := h; clear h; have HC3 := Zm H; clear H; go_enter Tryd.func22, Tryd.ntmps22; go_upto_if 9 with (first | ((with_reducible refine gate_dst (N := 2) rfl ?_); refine box_event ?hg (N := 2) ?hd (cs := #[.int .i64 a0_0, .int .i64 a0_1, .string a0_2, .string a0_3, .string a0_4]) (t := 44) ?hr ?_; (case hd => rfl); (case hg => rfl); (case hr => first | (go_simp; done) | (go_simp; rfl)); intro gb424 hg w4 hbox hb; have n0_ := (⟨Zm (Zbt (bk HB.out) hb), Zm (hbox), Zm ((by rw [hg]; exact (Zbz (bk HB.out)) : w.heap.size ≤ gb424)), Zm ((by rw [hg]; exact (Zbz (bk HB.out)) : w.heap.size ≤ gb424))⟩ : _ ∧ _ ∧ _ ∧ _); clear HB; obtain ⟨HB, BK424, GW424, GE424⟩ := n0_; clear hb hbox hg) | ((with_reducible refine gate_dst (N := 3) rfl ?_); refine box_event ?hg (N := 3) ?hd (cs := #[.int .i64 a1_0, .int .i64 a1_1, .string a1_2, .string a1_3, .string a1_4]) (t := 44) ?hr ?_; (case hd => rfl); (case hg => rfl); (case hr => first | (go_simp; done) | (go_simp; rfl)); intro gb425 hg w5 hbox hb; have n0_ := (⟨Zm (Zkb (pk BK424.out) hb), Zm (Zbt (bk HB.out) hb), Zm (hbox), Zm ((by rw [hg]; exact (Zbz (bk HB.out)) : w.heap.size ≤ gb425)), Zm ((by rw [hg]; exact (Zbz (bk HB.out)) : w.heap.size ≤ gb425)), Zm ((by rw [hg]; exact Nat.ne_of_lt (blk_lt (pk BK424.out)) : gb424 ≠ gb425)), Zm ((by rw [hg]; exact Nat.ne_of_gt (blk_lt (pk BK424.out)) : gb425 ≠ gb424))⟩ : _ ∧ _ ∧ _ ∧ _ ∧ _ ∧ _ ∧ _); clear BK424 HB; obtain ⟨BK424, HB, BK425, GW425, GE425, NB424_425, NB425_424⟩ := n0_; clear hb hbox hg; have hnb6 := NB424_425.out; have hnc6 := NB425_424.out; obtain ⟨hcz7_0, hcz7_1, hcz7_2, hcz7_3, hcz7_4⟩ := cz5 BK424.out; obtain ⟨hcz8_0, hcz8_1, hcz8_2, hcz8_3, hcz8_4⟩ := cz5 BK425.out; have hfz8_4 := Zkf BK425.out 4)); have H := HC3.out; clear HC3; by_cases c9 : a0_0 = a1_0; rotate_left
 · rw [if_neg c9] at H; have c9b0 : (a0_0 == a1_0) = false := beq_eq_false_iff_ne.mpr c9; have c9b1 : (a0_0 != a1_0) = true := bne_iff_ne.mpr c9; (first | rw [c9b0] | (simp only [i64_w, i32_w]; rw [c9b0]) | skip); obtain rfl := Option.some.inj H; go_wp2; go_ret; exact fin_ HB

 rw [if_pos c9] at H
 have c9b0 : (a0_0 == a1_0) = true := beq_iff_eq.mpr c9
 have c9b1 : (a0_0 != a1_0) = false := bne_eq_false_iff_eq.mpr c9
 clear c9
 (first | rw [c9b0] | (simp only [i64_w, i32_w]; rw [c9b0]) | skip)
 by_cases c10 : a0_1 = a1_1
 rotate_left
 · rw [if_neg c10] at H
   have c10b0 : (a0_1 == a1_1) = false := beq_eq_false_iff_ne.mpr c10
   have c10b1 : (a0_1 != a1_1) = true := bne_iff_ne.mpr c10
   obtain rfl := Option.some.inj H
   have hnb25 := NB424_425.out
   have hnc25 := NB425_424.out
   obtain ⟨hcz26_0, hcz26_1, hcz26_2, hcz26_3, hcz26_4⟩ := cz5 BK424.out
   obtain ⟨hcz27_0, hcz27_1, hcz27_2, hcz27_3, hcz27_4⟩ := cz5 BK425.out
   go_wp2
   go_ret
   exact fin_ HB
 rw [if_pos c10] at H
 have c10b0 : (a0_1 == a1_1) = true := beq_iff_eq.mpr c10
 have c10b1 : (a0_1 != a1_1) = false := bne_eq_false_iff_eq.mpr c10
 clear c10
 have HC11 := Zm H
 clear H
 have hnb12 := NB424_425.out
 have hnc12 := NB425_424.out
 obtain ⟨hcz13_0, hcz13_1, hcz13_2, hcz13_3, hcz13_4⟩ := cz5 BK424.out
 obtain ⟨hcz14_0, hcz14_1, hcz14_2, hcz14_3, hcz14_4⟩ := cz5 BK425.out
 go_upto_if 19 with (fail)
 have H := HC11.out
 clear HC11
 by_cases c15 : a0_2.toList = a1_2.toList
 rotate_left
 · rw [if_neg c15] at H
   have c15b0 : (a0_2.toList == a1_2.toList) = false := beq_eq_false_iff_ne.mpr c15
   have c15b1 : (a0_2.toList != a1_2.toList) = true := bne_iff_ne.mpr c15
   (first | rw [c15b0] | (simp only [i64_w, i32_w]; rw [c15b0]) | skip)
   obtain rfl := Option.some.inj H
   go_wp2
   go_ret
   exact fin_ HB
 rw [if_pos c15] at H
 have c15b0 : (a0_2.toList == a1_2.toList) = true := beq_iff_eq.mpr c15
 have c15b1 : (a0_2.toList != a1_2.toList) = false := bne_eq_false_iff_eq.mpr c15
 clear c15
 (first | rw [c15b0] | (simp only [i64_w, i32_w]; rw [c15b0]) | skip)
 by_cases c16 : a0_3.toList = a1_3.toList
 rotate_left
 · rw [if_neg c16] at H
   have c16b0 : (a0_3.toList == a1_3.toList) = false := beq_eq_false_iff_ne.mpr c16
   have c16b1 : (a0_3.toList != a1_3.toList) = true := bne_iff_ne.mpr c16
   obtain rfl := Option.some.inj H
   have hnb22 := NB424_425.out
   have hnc22 := NB425_424.out
   obtain ⟨hcz23_0, hcz23_1, hcz23_2, hcz23_3, hcz23_4⟩ := cz5 BK424.out
   obtain ⟨hcz24_0, hcz24_1, hcz24_2, hcz24_3, hcz24_4⟩ := cz5 BK425.out
   go_wp2
   go_ret
   exact fin_ HB
 rw [if_pos c16] at H
 have c16b0 : (a0_3.toList == a1_3.toList) = true := beq_iff_eq.mpr c16
 have c16b1 : (a0_3.toList != a1_3.toList) = false := bne_eq_false_iff_eq.mpr c16
 clear c16
 have HC17 := Zm H
 clear H
 have hnb18 := NB424_425.out
 have hnc18 := NB425_424.out
 obtain ⟨hcz19_0, hcz19_1, hcz19_2, hcz19_3, hcz19_4⟩ := cz5 BK424.out
 obtain ⟨hcz20_0, hcz20_1, hcz20_2, hcz20_3, hcz20_4⟩ := cz5 BK425.out
 go_upto_if 29 with (fail)
 have H := HC17.out
 clear HC17
 by_cases c21 : a0_4.toList = a1_4.toList
 rotate_left
 · rw [if_neg c21] at H
   have c21b0 : (a0_4.toList == a1_4.toList) = false := beq_eq_false_iff_ne.mpr c21
   have c21b1 : (a0_4.toList != a1_4.toList) = true := bne_iff_ne.mpr c21
   (first | rw [c21b0] | (simp only [i64_w, i32_w]; rw [c21b0]) | skip)
   obtain rfl := Option.some.inj H
   go_wp2
   go_ret
   exact fin_ HB
 rw [if_pos c21] at H
 have c21b0 : (a0_4.toList == a1_4.toList) = true := beq_iff_eq.mpr c21
 have c21b1 : (a0_4.toList != a1_4.toList) = false := bne_eq_false_iff_eq.mpr c21
 clear c21
 (first | rw [c21b0] | (simp only [i64_w, i32_w]; rw [c21b0]) | skip)
 obtain rfl := Option.some.inj H
 go_wp2
 go_ret
 exact fin_ HB
/-! ### laws_FnExactInsParse: function 6 -/
def laws_FnExactInsParse.f (k : Nat) (a0 : ByteArray) : Option (Bool) := if (a0.size : Int) > 1048576 then (some true) else ((spec_InsParse.f k a0).bind fun bt426 => ((impl_InsParse.f k a0).bind fun bt432 => ((laws_eqIns.f bt432.1 bt432.2.1 bt432.2.2.1 bt432.2.2.2.1 bt432.2.2.2.2 bt426.1 bt426.2.1 bt426.2.2.1 bt426.2.2.2.1 bt426.2.2.2.2).bind fun t438 => (if t438 = true then (some true) else (some false)))))
set_option maxHeartbeats 8000000 in
set_option maxRecDepth 100000 in
theorem laws_FnExactInsParse.calls (k : Nat) (a0 : ByteArray) (r : Bool) (w : World) (hT_ : r = true) (h : laws_FnExactInsParse.f k a0 = some r) (htab : Tabs w := by exact tab_) :
 Calls Tryd.prog 6 #[.string a0] w fun e w' => e = .returned (.bool r) ∧ Below w.heap.size w w' := by
 have HTAB := Zm htab
 clear htab
 have hu44 := Tryd.underlying44; have HB := Zm (Below.refl w.heap.size w); have H : (if (a0.size : Int) > 1048576 then (some true) else ((spec_InsParse.f k a0).bind fun bt426 => ((impl_InsParse.f k a0).bind fun bt432 => ((laws_eqIns.f bt432.1 bt432.2.1 bt432.2.2.1 bt432.2.2.2.1 bt432.2.2.2.2 bt426.1 bt426.2.1 bt426.2.2.1 bt426.2.2.2.1 bt426.2.2.2.2).bind fun t438 => (if t438 = true then (some true) else (some false)))))) = some r := h; clear h; by_cases c2 : (a0.size : Int) > 1048576; rotate_left
 · rw [if_neg c2] at H; have c2b0 : decide (1048576 < (a0.size : Int)) = false := decide_eq_false c2; have c2b1 : decide (1048576 < a0.size) = false := decide_eq_false (by omega); clear c2; replace H := Option.bind_eq_some_iff.mp H; obtain ⟨⟨t426, t427, t428, t429, t430⟩, A30, H⟩ := H; (try dsimp only at H); have A3 := Zm A30; clear A30; replace H := Option.bind_eq_some_iff.mp H; obtain ⟨⟨t432, t433, t434, t435, t436⟩, A40, H⟩ := H; (try dsimp only at H); have A4 := Zm A40; clear A40; replace H := Option.bind_eq_some_iff.mp H; obtain ⟨t438, A50, H⟩ := H; (try dsimp only at H); have A5 := Zm A50; clear A50; by_cases c6 : t438 = true; rotate_left
   · replace c6 := Bool.eq_false_iff.mpr c6; subst c6; rw [if_neg (show ¬ (false = true) by decide)] at H; exact absurd (H.trans (congrArg some hT_)) (by simp)
   subst c6; rw [if_pos rfl] at H; clear hT_; obtain rfl := Option.some.inj H; go_enter Tryd.func6, Tryd.ntmps6; go_wp2_with (first | ((with_reducible refine gate_callee (f := 20) rfl ?_); refine ge_ (some 9) Tryd.func20 #[.string a0] ?_; (with_reducible refine (spec_InsParse.calls _ _ _ _ _ _ _ _ A3.out).mono ?_); rintro e w7 ⟨rfl, hb⟩; refine ⟨_, rfl, ?_⟩; have n0_ := Zm (Zbt (bk HB.out) hb); clear HB; have HB := n0_; clear n0_; (try clear hb); (try clear hb2); (try clear hk); (try clear hi)) | ((with_reducible refine gate_dst (N := 3) rfl ?_); refine box_event ?hg (N := 3) ?hd (cs := #[.int .i64 0, .int .i64 0, .string (⟨#[]⟩ : ByteArray), .string (⟨#[]⟩ : ByteArray), .string (⟨#[]⟩ : ByteArray)]) (t := 44) ?hr ?_; (case hd => rfl); (case hg => rfl); (case hr => first | (go_simp; done) | (go_simp; rfl)); intro gb431 hg w8 hbox hb; have n0_ := (⟨Zm (Zbt (bk HB.out) hb), Zm (hbox), Zm ((by rw [hg]; exact (Zbz (bk HB.out)) : w.heap.size ≤ gb431)), Zm ((by rw [hg]; exact (Zbz (bk HB.out)) : w.heap.size ≤ gb431))⟩ : _ ∧ _ ∧ _ ∧ _); clear HB; obtain ⟨HB, BK431, GW431, GE431⟩ := n0_; clear hb hbox hg; obtain ⟨hcz9_0, hcz9_1, hcz9_2, hcz9_3, hcz9_4⟩ := cz5 BK431.out; have hfz9_0 := Zkf BK431.out 0; have hfz9_1 := Zkf BK431.out 1; have hfz9_2 := Zkf BK431.out 2; have hfz9_3 := Zkf BK431.out 3; have hfz9_4 := Zkf BK431.out 4) | ((with_reducible refine gate_callee (f := 21) rfl ?_); refine ge_ (some 11) Tryd.func21 #[.string a0] ?_; (with_reducible refine (impl_InsParse.calls _ _ _ _ _ _ _ _ A4.out).mono ?_); rintro e w10 ⟨rfl, hb⟩; refine ⟨_, rfl, ?_⟩; have n0_ := (⟨Zm (Zkb (g := gb431) (o := .cells #[.int .i64 t426, .int .i64 t427, .string t428, .string t429, .string t430] 44 (0, 0)) zc_ hb), Zm (Zbt hb_ hb)⟩ : _ ∧ _); clear BK431 HB; obtain ⟨BK431, HB⟩ := n0_; (try clear hb); (try clear hb2); (try clear hk); (try clear hi)) | ((with_reducible refine gate_dst (N := 4) rfl ?_); refine box_event ?hg (N := 4) ?hd (cs := #[.int .i64 0, .int .i64 0, .string (⟨#[]⟩ : ByteArray), .string (⟨#[]⟩ : ByteArray), .string (⟨#[]⟩ : ByteArray)]) (t := 44) ?hr ?_; (case hd => rfl); (case hg => rfl); (case hr => first | (go_simp; done) | (go_simp; rfl)); intro gb437 hg w11 hbox hb; have n0_ := (⟨Zm (Zkb (pk BK431.out) hb), Zm (Zbt (bk HB.out) hb), Zm (hbox), Zm ((by rw [hg]; exact (Zbz (bk HB.out)) : w.heap.size ≤ gb437)), Zm ((by rw [hg]; exact (Zbz (bk HB.out)) : w.heap.size ≤ gb437)), Zm ((by rw [hg]; exact Nat.ne_of_lt (blk_lt (pk BK431.out)) : gb431 ≠ gb437)), Zm ((by rw [hg]; exact Nat.ne_of_gt (blk_lt (pk BK431.out)) : gb437 ≠ gb431))⟩ : _ ∧ _ ∧ _ ∧ _ ∧ _ ∧ _ ∧ _); clear BK431 HB; obtain ⟨BK431, HB, BK437, GW437, GE437, NB431_437, NB437_431⟩ := n0_; clear hb hbox hg; have hnb12 := NB437_431.out; have hnc12 := NB431_437.out; obtain ⟨hcz13_0, hcz13_1, hcz13_2, hcz13_3, hcz13_4⟩ := cz5 BK437.out; have hfz13_0 := Zkf BK437.out 0; have hfz13_1 := Zkf BK437.out 1; have hfz13_2 := Zkf BK437.out 2; have hfz13_3 := Zkf BK437.out 3; have hfz13_4 := Zkf BK437.out 4; obtain ⟨hcz14_0, hcz14_1, hcz14_2, hcz14_3, hcz14_4⟩ := cz5 BK431.out; have hfz14_0 := Zkf BK431.out 0; have hfz14_1 := Zkf BK431.out 1; have hfz14_2 := Zkf BK431.out 2; have hfz14_3 := Zkf BK431.out 3; have hfz14_4 := Zkf BK431.out 4) | ((with_reducible refine gate_callee (f := 22) rfl ?_); refine ge_ (some 14) Tryd.func22 #[.agg #[.int .i64 t432, .int .i64 t433, .string t434, .string t435, .string t436], .agg #[.int .i64 t426, .int .i64 t427, .string t428, .string t429, .string t430]] ?_; (with_reducible refine (laws_eqIns.calls _ _ _ _ _ _ _ _ _ _ _ _ A5.out).mono ?_); rintro e w15 ⟨rfl, hb⟩; refine ⟨_, rfl, ?_⟩; have n0_ := (⟨Zm (Zkb (g := gb431) (o := .cells #[.int .i64 t426, .int .i64 t427, .string t428, .string t429, .string t430] 44 (0, 0)) zc_ hb), Zm (Zkb (g := gb437) (o := .cells #[.int .i64 t432, .int .i64 t433, .string t434, .string t435, .string t436] 44 (0, 0)) zc_ hb), Zm (Zbt hb_ hb)⟩ : _ ∧ _ ∧ _); clear BK431 BK437 HB; obtain ⟨BK431, BK437, HB⟩ := n0_; (try clear hb); (try clear hb2); (try clear hk); (try clear hi))); go_ret; exact fin_ HB
 rw [if_pos c2] at H; have c2b0 : decide (1048576 < (a0.size : Int)) = true := decide_eq_true c2; have c2b1 : decide (1048576 < a0.size) = true := decide_eq_true (by omega); clear c2; clear hT_; obtain rfl := Option.some.inj H; go_enter Tryd.func6, Tryd.ntmps6; go_wp2; go_ret; exact fin_ HB
/-- THE ONE PURE STATEMENT of laws_FnExactInsParse: yours. -/
def laws_FnExactInsParse.Pure : Prop := ∀ (x0 : ByteArray), x0.size ≤ maxLen → ∃ k, laws_FnExactInsParse.f k x0 = some true

end Go.Proofs.YtdfnljchoomliaaDoor.PFnExactInsParse
