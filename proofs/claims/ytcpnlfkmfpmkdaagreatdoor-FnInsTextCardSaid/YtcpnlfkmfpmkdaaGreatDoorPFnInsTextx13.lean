/- Functions of the program as plain Lean functions, each with a proof that the program's call comes to the same; no condition. Written by a program of this session. -/
import Derived.Test.YtcpnlfkmfpmkdaaGreatDoorPFnInsTextx0
import Derived.Test.YtcpnlfkmfpmkdaaGreatDoorPFnInsTextx2
import Derived.Test.YtcpnlfkmfpmkdaaGreatDoorPFnInsTextx3
import Derived.Test.YtcpnlfkmfpmkdaaGreatDoorPFnInsTextx12
namespace Go.Proofs.YtcpnlfkmfpmkdaaGreatDoor.PFnInsText
open Go.RowKit Go.Proofs.YtcpnlfkmfpmkdaaGreatDoorW.PrintWords Go.Proofs.YtcpnlfkmfpmkdaaGreatDoorW.PrintLast Go.Proofs.YtcpnlfkmfpmkdaaGreatDoorW.PrintMore
open Go.Proofs.YtcpnlfkmfpmkdaaGreatDoorW.PrintWords renaming below_step → Zbt
open Go.Proofs.YtcpnlfkmfpmkdaaGreatDoorW.PrintWords.Aside0 renaming mk → Zm
attribute [local go_sem] max2_int min2_int max_two min_two max_three min_three max_four min_four   -- for this text's walks alone
set_option linter.unusedVariables false
set_option linter.unusedSimpArgs false

/-! ### spec_l01Src_spoil: function 57 -/
def spec_l01Src_spoil.j0 : Nat → ByteArray → Int → ByteArray → Bool → List Int → Int → Int → Int → Option (ByteArray × Int × Int × Int)
 | 0, _, _, _, _, _, _, _, _ => none
 | k + 1, x1, x5, x6, x24, x1000, x1001, x1002, x1003 => if x24 = true then (if 0 ≤ x5 then (if x5 ≤ (x1.size : Int) then (if (x1.extract 0 (x5 : Int).toNat).size + x6.size ≤ 9223372036854775807 then (if ((x1.extract 0 (x5 : Int).toNat) ++ x6).size + (x1.extract (x5 : Int).toNat x1.size).size ≤ 9223372036854775807 then (some (((x1.extract 0 (x5 : Int).toNat) ++ x6) ++ (x1.extract (x5 : Int).toNat x1.size), x1001, x1002, x1003)) else (none)) else (none)) else (none)) else (none)) else ((spec_l01Src_one.f x1000 x1001 x1002 x1003 2).bind fun bt599 => (if bt599.1 = true then (if 0 ≤ x5 then (if x5 ≤ (x1.size : Int) then (if 0 ≤ (wrap64 (x5 + 1)) then (if (wrap64 (x5 + 1)) ≤ (x1.size : Int) then (if (x1.extract 0 (x5 : Int).toNat).size + (x1.extract ((wrap64 (x5 + 1)) : Int).toNat x1.size).size ≤ 9223372036854775807 then (some ((x1.extract 0 (x5 : Int).toNat) ++ (x1.extract ((wrap64 (x5 + 1)) : Int).toNat x1.size), bt599.2.1, bt599.2.2.1, bt599.2.2.2)) else (none)) else (none)) else (none)) else (none)) else (none)) else (if 0 ≤ x5 then (if x5 ≤ (x1.size : Int) then (if (x1.extract 0 (x5 : Int).toNat).size + x6.size ≤ 9223372036854775807 then (if 0 ≤ (wrap64 (x5 + 1)) then (if (wrap64 (x5 + 1)) ≤ (x1.size : Int) then (if ((x1.extract 0 (x5 : Int).toNat) ++ x6).size + (x1.extract ((wrap64 (x5 + 1)) : Int).toNat x1.size).size ≤ 9223372036854775807 then (some (((x1.extract 0 (x5 : Int).toNat) ++ x6) ++ (x1.extract ((wrap64 (x5 + 1)) : Int).toNat x1.size), bt599.2.1, bt599.2.2.1, bt599.2.2.2)) else (none)) else (none)) else (none)) else (none)) else (none)) else (none))))
def spec_l01Src_spoil.f (k : Nat) (s0_0 : List Int) (s0_1 : Int) (s0_2 : Int) (s0_3 : Int) (a1 : ByteArray) : Option (ByteArray × Int × Int × Int) := (spec_l01Src_n.f s0_0 s0_1 s0_2 s0_3 (wrap64 ((a1.size : Int) + 1))).bind fun bt584 => ((spec_l01Src_n.f s0_0 bt584.2.1 bt584.2.2.1 bt584.2.2.2 17).bind fun bt588 => (if 0 ≤ bt588.1 then (if bt588.1 < 17 then ((some (([bt (⟨#[32, 10, 48, 97, 45, 110, 44, 58, 93, 255, 40, 120, 126, 49, 128, 225, 59]⟩ : ByteArray) bt588.1] : List Int) : List Int)).bind fun y592 => (if bt584.1 = (a1.size : Int) then (spec_l01Src_spoil.j0 k a1 bt584.1 (strOfNums y592) true s0_0 bt588.2.1 bt588.2.2.1 bt588.2.2.2) else ((spec_l01Src_one.f s0_0 bt588.2.1 bt588.2.2.1 bt588.2.2.2 3).bind fun bt595 => (spec_l01Src_spoil.j0 k a1 bt584.1 (strOfNums y592) bt595.1 s0_0 bt595.2.1 bt595.2.2.1 bt595.2.2.2)))) else (none)) else (none)))
theorem spec_l01Src_spoil.mono_l : ∀ k, (∀ y0 y1 y2 y3 y4 y5 y6 y7, LeO (spec_l01Src_spoil.j0 k y0 y1 y2 y3 y4 y5 y6 y7) (spec_l01Src_spoil.j0 (k + 1) y0 y1 y2 y3 y4 y5 y6 y7))
 | 0 => fun _ _ _ _ _ _ _ _ r h => by simp [spec_l01Src_spoil.j0] at h
 | k + 1 => by
  have ih0 := spec_l01Src_spoil.mono_l k
  · intro y0 y1 y2 y3 y4 y5 y6 y7; unfold spec_l01Src_spoil.j0
    repeat' first
    | (with_reducible exact ih0 _ _ _ _ _ _ _ _)
    | (with_reducible exact LeO.refl _)
    | (with_reducible exact LeO.none _)
    | (with_reducible refine LeO.ite ?_ ?_)
    | (with_reducible refine LeO.bind ?_ (fun _ => ?_))
    | exact ih0 _ _ _ _ _ _ _ _
    | exact LeO.none _
    | refine LeO.ite ?_ ?_
    | refine LeO.bind ?_ (fun _ => ?_)
theorem spec_l01Src_spoil.mono : ∀ a0 a1 a2 a3 a4 k, LeO (spec_l01Src_spoil.f k a0 a1 a2 a3 a4) (spec_l01Src_spoil.f (k + 1) a0 a1 a2 a3 a4) := by
 intro a0 a1 a2 a3 a4 k; have ih0 := spec_l01Src_spoil.mono_l k; unfold spec_l01Src_spoil.f
 repeat' first
  | (with_reducible exact ih0 _ _ _ _ _ _ _ _)
  | (with_reducible exact LeO.refl _)
  | (with_reducible exact LeO.none _)
  | (with_reducible refine LeO.ite ?_ ?_)
  | (with_reducible refine LeO.bind ?_ (fun _ => ?_))
  | exact ih0 _ _ _ _ _ _ _ _
  | exact LeO.none _
  | refine LeO.ite ?_ ?_
  | refine LeO.bind ?_ (fun _ => ?_)
set_option maxHeartbeats 8000000 in
set_option maxRecDepth 100000 in
theorem spec_l01Src_spoil.calls (k : Nat) (g : Nat) (s0_0 : List Int) (s0_1 : Int) (s0_2 : Int) (s0_3 : Int) (a1 : ByteArray) (r1 : ByteArray) (r2 : Int) (r3 : Int) (r4 : Int) (w0 w : World) (hI : IsS113 w0 w g s0_0 s0_1 s0_2 s0_3) (hB : Below w0.heap.size w0 w) (h : spec_l01Src_spoil.f k s0_0 s0_1 s0_2 s0_3 a1 = some (r1, r2, r3, r4)) :
 Calls Tryz.prog 57 #[.pointer (some ⟨g, 0, none⟩), .string a1] w fun e w' => e = .returned (.string r1) ∧ IsS113 w0 w' g s0_0 r2 r3 r4 ∧ Below w0.heap.size w0 w' ∧ KeepBut w w' g none := by
 have HI0 := Zm hI; have HK := Zm (KeepBut.refl w g none); have HL := Zm hB.size; clear hI; have HW0 := Zm hB.size; have HB := Zm hB; clear hB; have H : ((spec_l01Src_n.f s0_0 s0_1 s0_2 s0_3 (wrap64 ((a1.size : Int) + 1))).bind fun bt584 => ((spec_l01Src_n.f s0_0 bt584.2.1 bt584.2.2.1 bt584.2.2.2 17).bind fun bt588 => (if 0 ≤ bt588.1 then (if bt588.1 < 17 then ((some (([bt (⟨#[32, 10, 48, 97, 45, 110, 44, 58, 93, 255, 40, 120, 126, 49, 128, 225, 59]⟩ : ByteArray) bt588.1] : List Int) : List Int)).bind fun y592 => (if bt584.1 = (a1.size : Int) then (spec_l01Src_spoil.j0 k a1 bt584.1 (strOfNums y592) true s0_0 bt588.2.1 bt588.2.2.1 bt588.2.2.2) else ((spec_l01Src_one.f s0_0 bt588.2.1 bt588.2.2.1 bt588.2.2.2 3).bind fun bt595 => (spec_l01Src_spoil.j0 k a1 bt584.1 (strOfNums y592) bt595.1 s0_0 bt595.2.1 bt595.2.2.1 bt595.2.2.2)))) else (none)) else (none)))) = some (r1, r2, r3, r4) := h; clear h; replace H := Option.bind_eq_some_iff.mp H; obtain ⟨⟨t584, t585, t586, t587⟩, A30, H⟩ := H; replace H : ((spec_l01Src_n.f s0_0 t585 t586 t587 17).bind fun bt588 => (if 0 ≤ bt588.1 then (if bt588.1 < 17 then ((some (([bt (⟨#[32, 10, 48, 97, 45, 110, 44, 58, 93, 255, 40, 120, 126, 49, 128, 225, 59]⟩ : ByteArray) bt588.1] : List Int) : List Int)).bind fun y592 => (if t584 = (a1.size : Int) then (spec_l01Src_spoil.j0 k a1 t584 (strOfNums y592) true s0_0 bt588.2.1 bt588.2.2.1 bt588.2.2.2) else ((spec_l01Src_one.f s0_0 bt588.2.1 bt588.2.2.1 bt588.2.2.2 3).bind fun bt595 => (spec_l01Src_spoil.j0 k a1 t584 (strOfNums y592) bt595.1 s0_0 bt595.2.1 bt595.2.2.1 bt595.2.2.2)))) else (none)) else (none))) = some (r1, r2, r3, r4) := H; have A3 := Zm A30; clear A30; replace H := Option.bind_eq_some_iff.mp H; obtain ⟨⟨t588, t589, t590, t591⟩, A40, H⟩ := H; replace H : (if 0 ≤ t588 then (if t588 < 17 then ((some (([bt (⟨#[32, 10, 48, 97, 45, 110, 44, 58, 93, 255, 40, 120, 126, 49, 128, 225, 59]⟩ : ByteArray) t588] : List Int) : List Int)).bind fun y592 => (if t584 = (a1.size : Int) then (spec_l01Src_spoil.j0 k a1 t584 (strOfNums y592) true s0_0 t589 t590 t591) else ((spec_l01Src_one.f s0_0 t589 t590 t591 3).bind fun bt595 => (spec_l01Src_spoil.j0 k a1 t584 (strOfNums y592) bt595.1 s0_0 bt595.2.1 bt595.2.2.1 bt595.2.2.2)))) else (none)) else (none)) = some (r1, r2, r3, r4) := H; have A4 := Zm A40; clear A40; by_cases c5 : 0 ≤ t588; rotate_left
 · rw [if_neg c5] at H; exact absurd H (by simp)

 rw [if_pos c5] at H
 have c5b0 := decide_eq_true c5
 clear c5
 by_cases c6 : t588 < 17
 rotate_left
 · rw [if_neg c6] at H
   exact absurd H (by simp)
 rw [if_pos c6] at H
 have c6b0 := decide_eq_true c6
 clear c6
 obtain ⟨y592, hy592⟩ : ∃ y_ : List Int, y_ = (([bt (⟨#[32, 10, 48, 97, 45, 110, 44, 58, 93, 255, 40, 120, 126, 49, 128, 225, 59]⟩ : ByteArray) t588] : List Int)) := ⟨_, rfl⟩
 replace H : (if t584 = (a1.size : Int) then (spec_l01Src_spoil.j0 k a1 t584 (strOfNums y592) true s0_0 t589 t590 t591) else ((spec_l01Src_one.f s0_0 t589 t590 t591 3).bind fun bt595 => (spec_l01Src_spoil.j0 k a1 t584 (strOfNums y592) bt595.1 s0_0 bt595.2.1 bt595.2.2.1 bt595.2.2.2))) = some (r1, r2, r3, r4) := by first | (rw [hy592]; with_reducible exact H) | (have H2_ := (Option.bind_some _ _).symm.trans H; rw [hy592]; with_reducible exact H2_) | (have H2_ := (Option.bind_some _ _).symm.trans H; with_reducible exact H2_) | with_reducible exact H | (rw [hy592]; exact H) | exact H
 have Ny592 := Zm hy592
 clear hy592
 have HC8 := Zm H
 clear H
 go_enter Tryz.func57, Tryz.ntmps57
 go_upto_region 3 with (first | (go_at_call 76; (first | (with_reducible refine (spec_l01Src_n.calls g _ _ _ _ _ _ _ _ _ w0 _ ?side1 ?side2 A3.out).mono ?_) | (with_reducible refine (calls_of_args ?_ (spec_l01Src_n.calls g _ _ _ _ _ _ _ _ _ w0 _ ?side1 ?side2 A3.out)).mono ?_; focus (simp [*]; done))); (case side1 => repeat (first | (with_reducible first | exact HI0.out | apply IsS113.alloc | apply IsS113.drewN | apply IsS113.drew | apply IsS113.set_1 | apply IsS113.set_2 | apply IsS113.set_3) | exact HI0.out)); (case side2 => exact bk HB.out); rintro e w9 ⟨rfl, hi, hb, hk⟩; have n0_ := (⟨Zm (KeepBut.trans (by repeat (first | (with_reducible first | exact HK.out | apply KeepBut.set_ | apply keep_drewN | apply keep_drew | apply keep_alloc) | exact HK.out)) hk (.inl rfl)), Zm (hb), Zm (hi)⟩ : _ ∧ _ ∧ _); clear HK HB HI0; obtain ⟨HK, HB, HI0⟩ := n0_; (try clear hb); (try clear hb2); (try clear hk); (try clear hi)) | (go_at_call 76; (first | (with_reducible refine (spec_l01Src_n.calls g _ _ _ _ _ _ _ _ _ w0 _ ?side1 ?side2 A4.out).mono ?_) | (with_reducible refine (calls_of_args ?_ (spec_l01Src_n.calls g _ _ _ _ _ _ _ _ _ w0 _ ?side1 ?side2 A4.out)).mono ?_; focus (simp [*]; done))); (case side1 => repeat (first | (with_reducible first | exact HI0.out | apply IsS113.alloc | apply IsS113.drewN | apply IsS113.drew | apply IsS113.set_1 | apply IsS113.set_2 | apply IsS113.set_3) | exact HI0.out)); (case side2 => exact bk HB.out); rintro e w10 ⟨rfl, hi, hb, hk⟩; have n0_ := (⟨Zm (KeepBut.trans (by repeat (first | (with_reducible first | exact HK.out | apply KeepBut.set_ | apply keep_drewN | apply keep_drew | apply keep_alloc) | exact HK.out)) hk (.inl rfl)), Zm (hb), Zm (hi)⟩ : _ ∧ _ ∧ _); clear HK HB HI0; obtain ⟨HK, HB, HI0⟩ := n0_; (try clear hb); (try clear hb2); (try clear hk); (try clear hi); have p7 : 0 ≤ (t588 : Int) := of_decide_eq_true (by first | (with_reducible assumption) | assumption); have q7 : t588 < (17 : Int) := of_decide_eq_true (by first | (with_reducible assumption) | assumption); have hx7 := bt_at (⟨#[32, 10, 48, 97, 45, 110, 44, 58, 93, 255, 40, 120, 126, 49, 128, 225, 59]⟩ : ByteArray) t588; replace p7 := eq_true p7; replace q7 := eq_true q7) | ((with_reducible refine gate_dst (N := 15) rfl ?_); refine Kd.R_lit (Kd.int .u8) _ 5 ?hg (N := 15) ?hd (xs := ([bt (⟨#[32, 10, 48, 97, 45, 110, 44, 58, 93, 255, 40, 120, 126, 49, 128, 225, 59]⟩ : ByteArray) t588] : List Int)) (inner := [.int .u8 (bt (⟨#[32, 10, 48, 97, 45, 110, 44, 58, 93, 255, 40, 120, 126, 49, 128, 225, 59]⟩ : ByteArray) t588)]) (ok := fun _ => True) (okp := fun _ => True) ?hr ?hp (fun _ hk => hk) trivial (Below.refl _ _) (Nat.le_refl _) (by simp) ?_; (case hd => rfl); (case hg => rfl); (case hr => first | (go_simp; done) | (go_simp; rfl)); (case hp => exact (Reps.one (show Kd.M (Kd.int .u8) _ _ _ (bt (⟨#[32, 10, 48, 97, 45, 110, 44, 58, 93, 255, 40, 120, 126, 49, 128, 225, 59]⟩ : ByteArray) t588) [.int .u8 (bt (⟨#[32, 10, 48, 97, 45, 110, 44, 58, 93, 255, 40, 120, 126, 49, 128, 225, 59]⟩ : ByteArray) t588)] from rfl) (Reps.none _ _))); intro v593 w11 ho12 hb hg_ hnew_; clear hg_ hnew_; (first | rw [← Ny592.out] at ho12 | (simp only [Int.reduceToNat] at ho12; rw [← Ny592.out] at ho12)); have n0_ := (⟨Zm (Kd.R_lower ho12 (keep_size (w := w) (g := g) (row := none) (by repeat (first | (with_reducible first | exact HK.out | apply KeepBut.set_ | apply keep_drewN | apply keep_drew | apply keep_alloc) | exact HK.out)))), Zm (IsS113.below (by repeat (first | (with_reducible first | exact HI0.out | apply IsS113.alloc | apply IsS113.drewN | apply IsS113.drew | apply IsS113.set_1 | apply IsS113.set_2 | apply IsS113.set_3) | exact HI0.out)) hb), Zm (KeepBut.trans (by repeat (first | (with_reducible first | exact HK.out | apply KeepBut.set_ | apply keep_drewN | apply keep_drew | apply keep_alloc) | exact HK.out)) (KeepBut.of_below hb g none) (.inl rfl)), Zm (Zbt (bk HB.out) hb)⟩ : _ ∧ _ ∧ _ ∧ _); clear HI0 HK HB; obtain ⟨HO594, HI0, HK, HB⟩ := n0_; clear hb ho12; have hcv13 := own_string (P := Tryz.prog) Tryz.underlying42 Tryz.underlying5 Tryz.underlying9 (Kd.own_of_R HO594.out)))
 repeat (go_quiet (first | (go_at_call 76; (first | (with_reducible refine (spec_l01Src_n.calls g _ _ _ _ _ _ _ _ _ w0 _ ?side1 ?side2 A3.out).mono ?_) | (with_reducible refine (calls_of_args ?_ (spec_l01Src_n.calls g _ _ _ _ _ _ _ _ _ w0 _ ?side1 ?side2 A3.out)).mono ?_; focus (simp [*]; done))); (case side1 => repeat (first | (with_reducible first | exact HI0.out | apply IsS113.alloc | apply IsS113.drewN | apply IsS113.drew | apply IsS113.set_1 | apply IsS113.set_2 | apply IsS113.set_3) | exact HI0.out)); (case side2 => exact bk HB.out); rintro e w9 ⟨rfl, hi, hb, hk⟩; have n0_ := (⟨Zm (KeepBut.trans (by repeat (first | (with_reducible first | exact HK.out | apply KeepBut.set_ | apply keep_drewN | apply keep_drew | apply keep_alloc) | exact HK.out)) hk (.inl rfl)), Zm (hb), Zm (hi)⟩ : _ ∧ _ ∧ _); clear HK HB HI0; obtain ⟨HK, HB, HI0⟩ := n0_; (try clear hb); (try clear hb2); (try clear hk); (try clear hi)) | (go_at_call 76; (first | (with_reducible refine (spec_l01Src_n.calls g _ _ _ _ _ _ _ _ _ w0 _ ?side1 ?side2 A4.out).mono ?_) | (with_reducible refine (calls_of_args ?_ (spec_l01Src_n.calls g _ _ _ _ _ _ _ _ _ w0 _ ?side1 ?side2 A4.out)).mono ?_; focus (simp [*]; done))); (case side1 => repeat (first | (with_reducible first | exact HI0.out | apply IsS113.alloc | apply IsS113.drewN | apply IsS113.drew | apply IsS113.set_1 | apply IsS113.set_2 | apply IsS113.set_3) | exact HI0.out)); (case side2 => exact bk HB.out); rintro e w10 ⟨rfl, hi, hb, hk⟩; have n0_ := (⟨Zm (KeepBut.trans (by repeat (first | (with_reducible first | exact HK.out | apply KeepBut.set_ | apply keep_drewN | apply keep_drew | apply keep_alloc) | exact HK.out)) hk (.inl rfl)), Zm (hb), Zm (hi)⟩ : _ ∧ _ ∧ _); clear HK HB HI0; obtain ⟨HK, HB, HI0⟩ := n0_; (try clear hb); (try clear hb2); (try clear hk); (try clear hi); have p7 : 0 ≤ (t588 : Int) := of_decide_eq_true (by first | (with_reducible assumption) | assumption); have q7 : t588 < (17 : Int) := of_decide_eq_true (by first | (with_reducible assumption) | assumption); have hx7 := bt_at (⟨#[32, 10, 48, 97, 45, 110, 44, 58, 93, 255, 40, 120, 126, 49, 128, 225, 59]⟩ : ByteArray) t588; replace p7 := eq_true p7; replace q7 := eq_true q7) | ((with_reducible refine gate_dst (N := 15) rfl ?_); refine Kd.R_lit (Kd.int .u8) _ 5 ?hg (N := 15) ?hd (xs := ([bt (⟨#[32, 10, 48, 97, 45, 110, 44, 58, 93, 255, 40, 120, 126, 49, 128, 225, 59]⟩ : ByteArray) t588] : List Int)) (inner := [.int .u8 (bt (⟨#[32, 10, 48, 97, 45, 110, 44, 58, 93, 255, 40, 120, 126, 49, 128, 225, 59]⟩ : ByteArray) t588)]) (ok := fun _ => True) (okp := fun _ => True) ?hr ?hp (fun _ hk => hk) trivial (Below.refl _ _) (Nat.le_refl _) (by simp) ?_; (case hd => rfl); (case hg => rfl); (case hr => first | (go_simp; done) | (go_simp; rfl)); (case hp => exact (Reps.one (show Kd.M (Kd.int .u8) _ _ _ (bt (⟨#[32, 10, 48, 97, 45, 110, 44, 58, 93, 255, 40, 120, 126, 49, 128, 225, 59]⟩ : ByteArray) t588) [.int .u8 (bt (⟨#[32, 10, 48, 97, 45, 110, 44, 58, 93, 255, 40, 120, 126, 49, 128, 225, 59]⟩ : ByteArray) t588)] from rfl) (Reps.none _ _))); intro v593 w11 ho12 hb hg_ hnew_; clear hg_ hnew_; (first | rw [← Ny592.out] at ho12 | (simp only [Int.reduceToNat] at ho12; rw [← Ny592.out] at ho12)); have n0_ := (⟨Zm (Kd.R_lower ho12 (keep_size (w := w) (g := g) (row := none) (by repeat (first | (with_reducible first | exact HK.out | apply KeepBut.set_ | apply keep_drewN | apply keep_drew | apply keep_alloc) | exact HK.out)))), Zm (IsS113.below (by repeat (first | (with_reducible first | exact HI0.out | apply IsS113.alloc | apply IsS113.drewN | apply IsS113.drew | apply IsS113.set_1 | apply IsS113.set_2 | apply IsS113.set_3) | exact HI0.out)) hb), Zm (KeepBut.trans (by repeat (first | (with_reducible first | exact HK.out | apply KeepBut.set_ | apply keep_drewN | apply keep_drew | apply keep_alloc) | exact HK.out)) (KeepBut.of_below hb g none) (.inl rfl)), Zm (Zbt (bk HB.out) hb)⟩ : _ ∧ _ ∧ _ ∧ _); clear HI0 HK HB; obtain ⟨HO594, HI0, HK, HB⟩ := n0_; clear hb ho12; have hcv13 := own_string (P := Tryz.prog) Tryz.underlying42 Tryz.underlying5 Tryz.underlying9 (Kd.own_of_R HO594.out))); go_upto_region 3 with (first | (go_at_call 76; (first | (with_reducible refine (spec_l01Src_n.calls g _ _ _ _ _ _ _ _ _ w0 _ ?side1 ?side2 A3.out).mono ?_) | (with_reducible refine (calls_of_args ?_ (spec_l01Src_n.calls g _ _ _ _ _ _ _ _ _ w0 _ ?side1 ?side2 A3.out)).mono ?_; focus (simp [*]; done))); (case side1 => repeat (first | (with_reducible first | exact HI0.out | apply IsS113.alloc | apply IsS113.drewN | apply IsS113.drew | apply IsS113.set_1 | apply IsS113.set_2 | apply IsS113.set_3) | exact HI0.out)); (case side2 => exact bk HB.out); rintro e w9 ⟨rfl, hi, hb, hk⟩; have n0_ := (⟨Zm (KeepBut.trans (by repeat (first | (with_reducible first | exact HK.out | apply KeepBut.set_ | apply keep_drewN | apply keep_drew | apply keep_alloc) | exact HK.out)) hk (.inl rfl)), Zm (hb), Zm (hi)⟩ : _ ∧ _ ∧ _); clear HK HB HI0; obtain ⟨HK, HB, HI0⟩ := n0_; (try clear hb); (try clear hb2); (try clear hk); (try clear hi)) | (go_at_call 76; (first | (with_reducible refine (spec_l01Src_n.calls g _ _ _ _ _ _ _ _ _ w0 _ ?side1 ?side2 A4.out).mono ?_) | (with_reducible refine (calls_of_args ?_ (spec_l01Src_n.calls g _ _ _ _ _ _ _ _ _ w0 _ ?side1 ?side2 A4.out)).mono ?_; focus (simp [*]; done))); (case side1 => repeat (first | (with_reducible first | exact HI0.out | apply IsS113.alloc | apply IsS113.drewN | apply IsS113.drew | apply IsS113.set_1 | apply IsS113.set_2 | apply IsS113.set_3) | exact HI0.out)); (case side2 => exact bk HB.out); rintro e w10 ⟨rfl, hi, hb, hk⟩; have n0_ := (⟨Zm (KeepBut.trans (by repeat (first | (with_reducible first | exact HK.out | apply KeepBut.set_ | apply keep_drewN | apply keep_drew | apply keep_alloc) | exact HK.out)) hk (.inl rfl)), Zm (hb), Zm (hi)⟩ : _ ∧ _ ∧ _); clear HK HB HI0; obtain ⟨HK, HB, HI0⟩ := n0_; (try clear hb); (try clear hb2); (try clear hk); (try clear hi); have p7 : 0 ≤ (t588 : Int) := of_decide_eq_true (by first | (with_reducible assumption) | assumption); have q7 : t588 < (17 : Int) := of_decide_eq_true (by first | (with_reducible assumption) | assumption); have hx7 := bt_at (⟨#[32, 10, 48, 97, 45, 110, 44, 58, 93, 255, 40, 120, 126, 49, 128, 225, 59]⟩ : ByteArray) t588; replace p7 := eq_true p7; replace q7 := eq_true q7) | ((with_reducible refine gate_dst (N := 15) rfl ?_); refine Kd.R_lit (Kd.int .u8) _ 5 ?hg (N := 15) ?hd (xs := ([bt (⟨#[32, 10, 48, 97, 45, 110, 44, 58, 93, 255, 40, 120, 126, 49, 128, 225, 59]⟩ : ByteArray) t588] : List Int)) (inner := [.int .u8 (bt (⟨#[32, 10, 48, 97, 45, 110, 44, 58, 93, 255, 40, 120, 126, 49, 128, 225, 59]⟩ : ByteArray) t588)]) (ok := fun _ => True) (okp := fun _ => True) ?hr ?hp (fun _ hk => hk) trivial (Below.refl _ _) (Nat.le_refl _) (by simp) ?_; (case hd => rfl); (case hg => rfl); (case hr => first | (go_simp; done) | (go_simp; rfl)); (case hp => exact (Reps.one (show Kd.M (Kd.int .u8) _ _ _ (bt (⟨#[32, 10, 48, 97, 45, 110, 44, 58, 93, 255, 40, 120, 126, 49, 128, 225, 59]⟩ : ByteArray) t588) [.int .u8 (bt (⟨#[32, 10, 48, 97, 45, 110, 44, 58, 93, 255, 40, 120, 126, 49, 128, 225, 59]⟩ : ByteArray) t588)] from rfl) (Reps.none _ _))); intro v593 w11 ho12 hb hg_ hnew_; clear hg_ hnew_; (first | rw [← Ny592.out] at ho12 | (simp only [Int.reduceToNat] at ho12; rw [← Ny592.out] at ho12)); have n0_ := (⟨Zm (Kd.R_lower ho12 (keep_size (w := w) (g := g) (row := none) (by repeat (first | (with_reducible first | exact HK.out | apply KeepBut.set_ | apply keep_drewN | apply keep_drew | apply keep_alloc) | exact HK.out)))), Zm (IsS113.below (by repeat (first | (with_reducible first | exact HI0.out | apply IsS113.alloc | apply IsS113.drewN | apply IsS113.drew | apply IsS113.set_1 | apply IsS113.set_2 | apply IsS113.set_3) | exact HI0.out)) hb), Zm (KeepBut.trans (by repeat (first | (with_reducible first | exact HK.out | apply KeepBut.set_ | apply keep_drewN | apply keep_drew | apply keep_alloc) | exact HK.out)) (KeepBut.of_below hb g none) (.inl rfl)), Zm (Zbt (bk HB.out) hb)⟩ : _ ∧ _ ∧ _ ∧ _); clear HI0 HK HB; obtain ⟨HO594, HI0, HK, HB⟩ := n0_; clear hb ho12; have hcv13 := own_string (P := Tryz.prog) Tryz.underlying42 Tryz.underlying5 Tryz.underlying9 (Kd.own_of_R HO594.out))))
 (try simp only [Act.put, List.setIfInBounds_toArray, List.set_cons_zero, List.set_cons_succ])
 go_cut [24] (fun v24 wc => ∃ (kq : Nat) (x24_7 : Bool) (x1001_7 : Int) (x1002_7 : Int) (x1003_7 : Int), v24 = .bool x24_7 ∧ Aside0 (spec_l01Src_spoil.j0 kq a1 t584 (strOfNums y592) x24_7 s0_0 x1001_7 x1002_7 x1003_7 = some (r1, r2, r3, r4)) ∧ Aside0 (kq ≤ k) ∧ Aside0 (IsS113 w0 wc g s0_0 x1001_7 x1002_7 x1003_7) ∧ Aside0 (KeepBut w wc g none) ∧ Aside0 (Below w0.heap.size w0 wc))
 case first =>
  have H := HC8.out
  clear HC8
  by_cases c14 : t584 = (a1.size : Int)
  rotate_left
  · rw [if_neg c14] at H
    have c14b0 : (t584 == (a1.size : Int)) = false := beq_eq_false_iff_ne.mpr c14
    have c14b1 : (t584 != (a1.size : Int)) = true := bne_iff_ne.mpr c14
    (first | rw [c14b0] | (simp only [i64_w, i32_w]; rw [c14b0]) | skip)
    replace H := Option.bind_eq_some_iff.mp H
    obtain ⟨⟨t595, t596, t597, t598⟩, A150, H⟩ := H
    replace H : (spec_l01Src_spoil.j0 k a1 t584 (strOfNums y592) t595 s0_0 t596 t597 t598) = some (r1, r2, r3, r4) := H
    have A15 := Zm A150
    clear A150
    have H' := Zm H
    clear H
    go_wp2_with (first | (go_at_call 56; (first | (with_reducible refine (spec_l01Src_one.calls g _ _ _ _ _ _ _ _ _ w0 _ ?side1 ?side2 A15.out).mono ?_) | (with_reducible refine (calls_of_args ?_ (spec_l01Src_one.calls g _ _ _ _ _ _ _ _ _ w0 _ ?side1 ?side2 A15.out)).mono ?_; focus (simp [*]; done))); (case side1 => repeat (first | (with_reducible first | exact HI0.out | apply IsS113.alloc | apply IsS113.drewN | apply IsS113.drew | apply IsS113.set_1 | apply IsS113.set_2 | apply IsS113.set_3) | exact HI0.out)); (case side2 => exact bk HB.out); rintro e w16 ⟨rfl, hi, hb, hk⟩; have n0_ := (⟨Zm (Kd.R_mono (Kd.R_keep (IsS113.apart (show IsS113 w0 _ g s0_0 t589 t590 t591 from by repeat (first | (with_reducible first | exact HI0.out | apply IsS113.alloc | apply IsS113.drewN | apply IsS113.drew | apply IsS113.set_1 | apply IsS113.set_2 | apply IsS113.set_3) | exact HI0.out)) (by (with_reducible repeat (first | apply Kd.R_alloc | apply Kd.R_drewN | apply Kd.R_drew)); exact HO594.out) (by decide)) hk (fun _ h => h.2)) (fun _ h => h.1)), Zm (KeepBut.trans (by repeat (first | (with_reducible first | exact HK.out | apply KeepBut.set_ | apply keep_drewN | apply keep_drew | apply keep_alloc) | exact HK.out)) hk (.inl rfl)), Zm (hb), Zm (hi)⟩ : _ ∧ _ ∧ _ ∧ _); clear HO594 HK HB HI0; obtain ⟨HO594, HK, HB, HI0⟩ := n0_; (try clear hb); (try clear hb2); (try clear hk); (try clear hi)))
    repeat (go_quiet (first | (go_at_call 56; (first | (with_reducible refine (spec_l01Src_one.calls g _ _ _ _ _ _ _ _ _ w0 _ ?side1 ?side2 A15.out).mono ?_) | (with_reducible refine (calls_of_args ?_ (spec_l01Src_one.calls g _ _ _ _ _ _ _ _ _ w0 _ ?side1 ?side2 A15.out)).mono ?_; focus (simp [*]; done))); (case side1 => repeat (first | (with_reducible first | exact HI0.out | apply IsS113.alloc | apply IsS113.drewN | apply IsS113.drew | apply IsS113.set_1 | apply IsS113.set_2 | apply IsS113.set_3) | exact HI0.out)); (case side2 => exact bk HB.out); rintro e w16 ⟨rfl, hi, hb, hk⟩; have n0_ := (⟨Zm (Kd.R_mono (Kd.R_keep (IsS113.apart (show IsS113 w0 _ g s0_0 t589 t590 t591 from by repeat (first | (with_reducible first | exact HI0.out | apply IsS113.alloc | apply IsS113.drewN | apply IsS113.drew | apply IsS113.set_1 | apply IsS113.set_2 | apply IsS113.set_3) | exact HI0.out)) (by (with_reducible repeat (first | apply Kd.R_alloc | apply Kd.R_drewN | apply Kd.R_drew)); exact HO594.out) (by decide)) hk (fun _ h => h.2)) (fun _ h => h.1)), Zm (KeepBut.trans (by repeat (first | (with_reducible first | exact HK.out | apply KeepBut.set_ | apply keep_drewN | apply keep_drew | apply keep_alloc) | exact HK.out)) hk (.inl rfl)), Zm (hb), Zm (hi)⟩ : _ ∧ _ ∧ _ ∧ _); clear HO594 HK HB HI0; obtain ⟨HO594, HK, HB, HI0⟩ := n0_; (try clear hb); (try clear hb2); (try clear hk); (try clear hi))); try go_wp2)
    go_meet
    case rel => exact ⟨_, (t595), (t596), (t597), (t598), (by first | rfl | (simp; done) | (simp [*]; done)), H', ⟨by first | omega | exact Nat.le_refl _⟩, ⟨by repeat (first | (with_reducible first | exact HI0.out | apply IsS113.alloc | apply IsS113.drewN | apply IsS113.drew | apply IsS113.set_1 | apply IsS113.set_2 | apply IsS113.set_3) | exact HI0.out)⟩, ⟨by repeat (first | (with_reducible first | exact HK.out | apply KeepBut.set_ | apply keep_drewN | apply keep_drew | apply keep_alloc) | exact HK.out)⟩, ⟨bk HB.out⟩⟩
  rw [if_pos c14] at H
  have c14b0 : (t584 == (a1.size : Int)) = true := beq_iff_eq.mpr c14
  have c14b1 : (t584 != (a1.size : Int)) = false := bne_eq_false_iff_eq.mpr c14
  clear c14
  (first | rw [c14b0] | (simp only [i64_w, i32_w]; rw [c14b0]) | skip)
  have H' := Zm H
  clear H
  go_wp2
  repeat (go_quiet (fail); try go_wp2)
  go_meet
  case rel => exact ⟨_, (true), (t589), (t590), (t591), (by first | rfl | (simp; done) | (simp [*]; done)), H', ⟨by first | omega | exact Nat.le_refl _⟩, ⟨by repeat (first | (with_reducible first | exact HI0.out | apply IsS113.alloc | apply IsS113.drewN | apply IsS113.drew | apply IsS113.set_1 | apply IsS113.set_2 | apply IsS113.set_3) | exact HI0.out)⟩, ⟨by repeat (first | (with_reducible first | exact HK.out | apply KeepBut.set_ | apply keep_drewN | apply keep_drew | apply keep_alloc) | exact HK.out)⟩, ⟨bk HB.out⟩⟩
 case rest =>
  clear HC8
  (try clear c5); (try clear c5b0); (try clear c6); (try clear c6b0); (try clear p7); (try clear q7); (try clear hx7); (try clear hcv13); (try clear p7); (try clear q7)
  obtain ⟨kq, x24_7, x1001_7, x1002_7, x1003_7, rfl, HA, HJ7, HI0, HK, HB⟩ := hcut
  cases kq with
  | zero => exact absurd HA.out (by simp [spec_l01Src_spoil.j0])
  | succ kj7 =>
   have H := HA.out
   clear HA
   simp only [spec_l01Src_spoil.j0] at H
   by_cases c17 : x24_7 = true
   rotate_left
   · replace c17 := Bool.eq_false_iff.mpr c17
     subst c17
     rw [if_neg (show ¬ (false = true) by decide)] at H
     replace H := Option.bind_eq_some_iff.mp H
     obtain ⟨⟨t599, t600, t601, t602⟩, A240, H⟩ := H
     replace H : (if t599 = true then (if 0 ≤ t584 then (if t584 ≤ (a1.size : Int) then (if 0 ≤ (wrap64 (t584 + 1)) then (if (wrap64 (t584 + 1)) ≤ (a1.size : Int) then (if (a1.extract 0 (t584 : Int).toNat).size + (a1.extract ((wrap64 (t584 + 1)) : Int).toNat a1.size).size ≤ 9223372036854775807 then (some ((a1.extract 0 (t584 : Int).toNat) ++ (a1.extract ((wrap64 (t584 + 1)) : Int).toNat a1.size), t600, t601, t602)) else (none)) else (none)) else (none)) else (none)) else (none)) else (if 0 ≤ t584 then (if t584 ≤ (a1.size : Int) then (if (a1.extract 0 (t584 : Int).toNat).size + (strOfNums y592).size ≤ 9223372036854775807 then (if 0 ≤ (wrap64 (t584 + 1)) then (if (wrap64 (t584 + 1)) ≤ (a1.size : Int) then (if ((a1.extract 0 (t584 : Int).toNat) ++ (strOfNums y592)).size + (a1.extract ((wrap64 (t584 + 1)) : Int).toNat a1.size).size ≤ 9223372036854775807 then (some (((a1.extract 0 (t584 : Int).toNat) ++ (strOfNums y592)) ++ (a1.extract ((wrap64 (t584 + 1)) : Int).toNat a1.size), t600, t601, t602)) else (none)) else (none)) else (none)) else (none)) else (none)) else (none))) = some (r1, r2, r3, r4) := H
     have A24 := Zm A240
     clear A240
     by_cases c25 : t599 = true
     rotate_left
     · replace c25 := Bool.eq_false_iff.mpr c25
       subst c25
       rw [if_neg (show ¬ (false = true) by decide)] at H
       by_cases c33 : 0 ≤ t584
       rotate_left
       · rw [if_neg c33] at H
         exact absurd H (by simp)
       rw [if_pos c33] at H
       have c33b0 := eq_true c33
       have c33b1 := decide_eq_true c33
       clear c33
       by_cases c34 : t584 ≤ (a1.size : Int)
       rotate_left
       · rw [if_neg c34] at H
         exact absurd H (by simp)
       rw [if_pos c34] at H
       have c34b0 := eq_true c34
       have c34b1 := decide_eq_true c34
       clear c34
       by_cases c35 : (a1.extract 0 (t584 : Int).toNat).size + (strOfNums y592).size ≤ 9223372036854775807
       rotate_left
       · rw [if_neg c35] at H
         exact absurd H (by simp)
       rw [if_pos c35] at H
       have c35b0 := eq_true c35
       have c35b0z := c35b0
       (try simp only [ByteArray.size_extract, Nat.min_self] at c35b0z)
       have c35b1 := decide_eq_true c35
       have c35b1z := c35b1
       (try simp only [ByteArray.size_extract, Nat.min_self] at c35b1z)
       try have c35b2 : (9223372036854775807 < (a1.extract 0 (t584 : Int).toNat).size + (strOfNums y592).size) = False := eq_false (Nat.not_lt.2 c35)
       obtain ⟨ji36, hji36⟩ : ∃ j_ : Int, (wrap64 (t584 + 1)) = j_ := ⟨_, rfl⟩
       replace H : (if 0 ≤ (ji36) then (if (ji36) ≤ (a1.size : Int) then (if ((a1.extract 0 (t584 : Int).toNat) ++ (strOfNums y592)).size + (a1.extract ((ji36) : Int).toNat a1.size).size ≤ 9223372036854775807 then (some (((a1.extract 0 (t584 : Int).toNat) ++ (strOfNums y592)) ++ (a1.extract ((ji36) : Int).toNat a1.size), t600, t601, t602)) else (none)) else (none)) else (none)) = some (r1, r2, r3, r4) := by first | (rw [hji36] at H; exact H) | (simp only [hji36] at H ⊢; exact H)
       (try rw [hji36] at A24)
       have hji36w : (IntKind.i64.wrap (t584 + 1)) = ji36 := (i64_w _).trans hji36
       by_cases c37 : 0 ≤ (ji36)
       rotate_left
       · rw [if_neg c37] at H
         exact absurd H (by simp)
       rw [if_pos c37] at H
       have c37b0 := eq_true c37
       have c37b1 := decide_eq_true c37
       clear c37
       by_cases c38 : (ji36) ≤ (a1.size : Int)
       rotate_left
       · rw [if_neg c38] at H
         exact absurd H (by simp)
       rw [if_pos c38] at H
       have c38b0 := eq_true c38
       have c38b1 := decide_eq_true c38
       clear c38
       by_cases c39 : ((a1.extract 0 (t584 : Int).toNat) ++ (strOfNums y592)).size + (a1.extract ((ji36) : Int).toNat a1.size).size ≤ 9223372036854775807
       rotate_left
       · rw [if_neg c39] at H
         exact absurd H (by simp)
       rw [if_pos c39] at H
       have c39b0 := eq_true c39
       have c39b1 := decide_eq_true c39
       try have c39b2 : (9223372036854775807 < ((a1.extract 0 (t584 : Int).toNat) ++ (strOfNums y592)).size + (a1.extract ((ji36) : Int).toNat a1.size).size) = False := eq_false (Nat.not_lt.2 c39)
       try have c39b9 : (9223372036854775807 < (a1.extract 0 (t584 : Int).toNat).size + (strOfNums y592).size + (a1.extract ((ji36) : Int).toNat a1.size).size) = False := eq_false (by have h_ := c39; simp only [ByteArray.size_append] at h_; omega)
       simp only [Option.some.injEq, Prod.mk.injEq] at H
       obtain ⟨rfl, rfl, rfl, rfl⟩ := H
       go_wp2_with (first | (go_at_call 56; (first | (with_reducible refine (spec_l01Src_one.calls g _ _ _ _ _ _ _ _ _ w0 _ ?side1 ?side2 A24.out).mono ?_) | (with_reducible refine (calls_of_args ?_ (spec_l01Src_one.calls g _ _ _ _ _ _ _ _ _ w0 _ ?side1 ?side2 A24.out)).mono ?_; focus (simp [*]; done))); (case side1 => repeat (first | (with_reducible first | exact HI0.out | apply IsS113.alloc | apply IsS113.drewN | apply IsS113.drew | apply IsS113.set_1 | apply IsS113.set_2 | apply IsS113.set_3) | exact HI0.out)); (case side2 => exact bk HB.out); rintro e w40 ⟨rfl, hi, hb, hk⟩; have n0_ := (⟨Zm (KeepBut.trans (by repeat (first | (with_reducible first | exact HK.out | apply KeepBut.set_ | apply keep_drewN | apply keep_drew | apply keep_alloc) | exact HK.out)) hk (.inl rfl)), Zm (hb), Zm (hi)⟩ : _ ∧ _ ∧ _); clear HK HB HI0; obtain ⟨HK, HB, HI0⟩ := n0_; (try clear hb); (try clear hb2); (try clear hk); (try clear hi)))
       repeat (go_quiet (first | (go_at_call 56; (first | (with_reducible refine (spec_l01Src_one.calls g _ _ _ _ _ _ _ _ _ w0 _ ?side1 ?side2 A24.out).mono ?_) | (with_reducible refine (calls_of_args ?_ (spec_l01Src_one.calls g _ _ _ _ _ _ _ _ _ w0 _ ?side1 ?side2 A24.out)).mono ?_; focus (simp [*]; done))); (case side1 => repeat (first | (with_reducible first | exact HI0.out | apply IsS113.alloc | apply IsS113.drewN | apply IsS113.drew | apply IsS113.set_1 | apply IsS113.set_2 | apply IsS113.set_3) | exact HI0.out)); (case side2 => exact bk HB.out); rintro e w40 ⟨rfl, hi, hb, hk⟩; have n0_ := (⟨Zm (KeepBut.trans (by repeat (first | (with_reducible first | exact HK.out | apply KeepBut.set_ | apply keep_drewN | apply keep_drew | apply keep_alloc) | exact HK.out)) hk (.inl rfl)), Zm (hb), Zm (hi)⟩ : _ ∧ _ ∧ _); clear HK HB HI0; obtain ⟨HK, HB, HI0⟩ := n0_; (try clear hb); (try clear hb2); (try clear hk); (try clear hi))); try go_wp2)
       go_ret
       exact ⟨by first | rfl | (simp [errW_none, errW_some] <;> rfl) | (simp only [← hji36]; first | rfl | (simp [errW_none, errW_some] <;> rfl)) | (simp [*, errW_none, errW_some] <;> rfl), by repeat (first | (with_reducible first | exact HI0.out | apply IsS113.alloc | apply IsS113.drewN | apply IsS113.drew | apply IsS113.set_1 | apply IsS113.set_2 | apply IsS113.set_3) | exact HI0.out), by exact bk HB.out, by repeat (first | (with_reducible first | exact HK.out | apply KeepBut.set_ | apply keep_drewN | apply keep_drew | apply keep_alloc) | exact HK.out)⟩
     subst c25
     rw [if_pos rfl] at H
     by_cases c26 : 0 ≤ t584
     rotate_left
     · rw [if_neg c26] at H
       exact absurd H (by simp)
     rw [if_pos c26] at H
     have c26b0 := eq_true c26
     have c26b1 := decide_eq_true c26
     clear c26
     by_cases c27 : t584 ≤ (a1.size : Int)
     rotate_left
     · rw [if_neg c27] at H
       exact absurd H (by simp)
     rw [if_pos c27] at H
     have c27b0 := eq_true c27
     have c27b1 := decide_eq_true c27
     clear c27
     obtain ⟨ji28, hji28⟩ : ∃ j_ : Int, (wrap64 (t584 + 1)) = j_ := ⟨_, rfl⟩
     replace H : (if 0 ≤ (ji28) then (if (ji28) ≤ (a1.size : Int) then (if (a1.extract 0 (t584 : Int).toNat).size + (a1.extract ((ji28) : Int).toNat a1.size).size ≤ 9223372036854775807 then (some ((a1.extract 0 (t584 : Int).toNat) ++ (a1.extract ((ji28) : Int).toNat a1.size), t600, t601, t602)) else (none)) else (none)) else (none)) = some (r1, r2, r3, r4) := by first | (rw [hji28] at H; exact H) | (simp only [hji28] at H ⊢; exact H)
     (try rw [hji28] at A24)
     have hji28w : (IntKind.i64.wrap (t584 + 1)) = ji28 := (i64_w _).trans hji28
     by_cases c29 : 0 ≤ (ji28)
     rotate_left
     · rw [if_neg c29] at H
       exact absurd H (by simp)
     rw [if_pos c29] at H
     have c29b0 := eq_true c29
     have c29b1 := decide_eq_true c29
     clear c29
     by_cases c30 : (ji28) ≤ (a1.size : Int)
     rotate_left
     · rw [if_neg c30] at H
       exact absurd H (by simp)
     rw [if_pos c30] at H
     have c30b0 := eq_true c30
     have c30b1 := decide_eq_true c30
     clear c30
     by_cases c31 : (a1.extract 0 (t584 : Int).toNat).size + (a1.extract ((ji28) : Int).toNat a1.size).size ≤ 9223372036854775807
     rotate_left
     · rw [if_neg c31] at H
       exact absurd H (by simp)
     rw [if_pos c31] at H
     have c31b0 := eq_true c31
     have c31b0z := c31b0
     (try simp only [ByteArray.size_extract, Nat.min_self] at c31b0z)
     have c31b1 := decide_eq_true c31
     have c31b1z := c31b1
     (try simp only [ByteArray.size_extract, Nat.min_self] at c31b1z)
     try have c31b2 : (9223372036854775807 < (a1.extract 0 (t584 : Int).toNat).size + (a1.extract ((ji28) : Int).toNat a1.size).size) = False := eq_false (Nat.not_lt.2 c31)
     simp only [Option.some.injEq, Prod.mk.injEq] at H
     obtain ⟨rfl, rfl, rfl, rfl⟩ := H
     go_wp2_with (first | (go_at_call 56; (first | (with_reducible refine (spec_l01Src_one.calls g _ _ _ _ _ _ _ _ _ w0 _ ?side1 ?side2 A24.out).mono ?_) | (with_reducible refine (calls_of_args ?_ (spec_l01Src_one.calls g _ _ _ _ _ _ _ _ _ w0 _ ?side1 ?side2 A24.out)).mono ?_; focus (simp [*]; done))); (case side1 => repeat (first | (with_reducible first | exact HI0.out | apply IsS113.alloc | apply IsS113.drewN | apply IsS113.drew | apply IsS113.set_1 | apply IsS113.set_2 | apply IsS113.set_3) | exact HI0.out)); (case side2 => exact bk HB.out); rintro e w32 ⟨rfl, hi, hb, hk⟩; have n0_ := (⟨Zm (KeepBut.trans (by repeat (first | (with_reducible first | exact HK.out | apply KeepBut.set_ | apply keep_drewN | apply keep_drew | apply keep_alloc) | exact HK.out)) hk (.inl rfl)), Zm (hb), Zm (hi)⟩ : _ ∧ _ ∧ _); clear HK HB HI0; obtain ⟨HK, HB, HI0⟩ := n0_; (try clear hb); (try clear hb2); (try clear hk); (try clear hi)))
     repeat (go_quiet (first | (go_at_call 56; (first | (with_reducible refine (spec_l01Src_one.calls g _ _ _ _ _ _ _ _ _ w0 _ ?side1 ?side2 A24.out).mono ?_) | (with_reducible refine (calls_of_args ?_ (spec_l01Src_one.calls g _ _ _ _ _ _ _ _ _ w0 _ ?side1 ?side2 A24.out)).mono ?_; focus (simp [*]; done))); (case side1 => repeat (first | (with_reducible first | exact HI0.out | apply IsS113.alloc | apply IsS113.drewN | apply IsS113.drew | apply IsS113.set_1 | apply IsS113.set_2 | apply IsS113.set_3) | exact HI0.out)); (case side2 => exact bk HB.out); rintro e w32 ⟨rfl, hi, hb, hk⟩; have n0_ := (⟨Zm (KeepBut.trans (by repeat (first | (with_reducible first | exact HK.out | apply KeepBut.set_ | apply keep_drewN | apply keep_drew | apply keep_alloc) | exact HK.out)) hk (.inl rfl)), Zm (hb), Zm (hi)⟩ : _ ∧ _ ∧ _); clear HK HB HI0; obtain ⟨HK, HB, HI0⟩ := n0_; (try clear hb); (try clear hb2); (try clear hk); (try clear hi))); try go_wp2)
     go_ret
     exact ⟨by first | rfl | (simp [errW_none, errW_some] <;> rfl) | (simp only [← hji28]; first | rfl | (simp [errW_none, errW_some] <;> rfl)) | (simp [*, errW_none, errW_some] <;> rfl), by repeat (first | (with_reducible first | exact HI0.out | apply IsS113.alloc | apply IsS113.drewN | apply IsS113.drew | apply IsS113.set_1 | apply IsS113.set_2 | apply IsS113.set_3) | exact HI0.out), by exact bk HB.out, by repeat (first | (with_reducible first | exact HK.out | apply KeepBut.set_ | apply keep_drewN | apply keep_drew | apply keep_alloc) | exact HK.out)⟩
   subst c17
   rw [if_pos rfl] at H
   by_cases c18 : 0 ≤ t584
   rotate_left
   · rw [if_neg c18] at H
     exact absurd H (by simp)
   rw [if_pos c18] at H
   have c18b0 := eq_true c18
   have c18b1 := decide_eq_true c18
   clear c18
   by_cases c19 : t584 ≤ (a1.size : Int)
   rotate_left
   · rw [if_neg c19] at H
     exact absurd H (by simp)
   rw [if_pos c19] at H
   have c19b0 := eq_true c19
   have c19b1 := decide_eq_true c19
   clear c19
   by_cases c20 : (a1.extract 0 (t584 : Int).toNat).size + (strOfNums y592).size ≤ 9223372036854775807
   rotate_left
   · rw [if_neg c20] at H
     exact absurd H (by simp)
   rw [if_pos c20] at H
   have c20b0 := eq_true c20
   have c20b0z := c20b0
   (try simp only [ByteArray.size_extract, Nat.min_self] at c20b0z)
   have c20b1 := decide_eq_true c20
   have c20b1z := c20b1
   (try simp only [ByteArray.size_extract, Nat.min_self] at c20b1z)
   try have c20b2 : (9223372036854775807 < (a1.extract 0 (t584 : Int).toNat).size + (strOfNums y592).size) = False := eq_false (Nat.not_lt.2 c20)
   have c21b0 := eq_true (of_decide_eq_true (by first | (with_reducible assumption) | assumption) : 0 ≤ t584)
   have c22b0 := eq_true (of_decide_eq_true (by first | (with_reducible assumption) | assumption) : t584 ≤ (a1.size : Int))
   by_cases c23 : ((a1.extract 0 (t584 : Int).toNat) ++ (strOfNums y592)).size + (a1.extract (t584 : Int).toNat a1.size).size ≤ 9223372036854775807
   rotate_left
   · rw [if_neg c23] at H
     exact absurd H (by simp)
   rw [if_pos c23] at H
   have c23b0 := eq_true c23
   have c23b0z := c23b0
   (try simp only [ByteArray.size_extract, Nat.min_self] at c23b0z)
   have c23b1 := decide_eq_true c23
   have c23b1z := c23b1
   (try simp only [ByteArray.size_extract, Nat.min_self] at c23b1z)
   try have c23b2 : (9223372036854775807 < ((a1.extract 0 (t584 : Int).toNat) ++ (strOfNums y592)).size + (a1.extract (t584 : Int).toNat a1.size).size) = False := eq_false (Nat.not_lt.2 c23)
   try have c23b9 : (9223372036854775807 < (a1.extract 0 (t584 : Int).toNat).size + (strOfNums y592).size + (a1.extract (t584 : Int).toNat a1.size).size) = False := eq_false (by have h_ := c23; simp only [ByteArray.size_append] at h_; omega)
   simp only [Option.some.injEq, Prod.mk.injEq] at H
   obtain ⟨rfl, rfl, rfl, rfl⟩ := H
   go_wp2
   repeat (go_quiet (fail); try go_wp2)
   go_ret
   exact ⟨by first | rfl | (simp [*] <;> rfl), by repeat (first | (with_reducible first | exact HI0.out | apply IsS113.alloc | apply IsS113.drewN | apply IsS113.drew | apply IsS113.set_1 | apply IsS113.set_2 | apply IsS113.set_3) | exact HI0.out), by exact bk HB.out, by repeat (first | (with_reducible first | exact HK.out | apply KeepBut.set_ | apply keep_drewN | apply keep_drew | apply keep_alloc) | exact HK.out)⟩
/-! ### spec_DrawInsParse: function 21 -/
def spec_DrawInsParse.f (k : Nat) (l0 : List Int) : Option (ByteArray) := (spec_l01Source.f k l0).bind fun bt603 => ((spec_l01Src_l03Ins.f k bt603.1 bt603.2.1 bt603.2.2.1 bt603.2.2.2).bind fun bt608 => ((spec_l14Ins.f k bt608.1 bt608.2.1 bt608.2.2.1 bt608.2.2.2.1 bt608.2.2.2.2.1).bind fun t616 => ((spec_l01Src_one.f bt603.1 bt608.2.2.2.2.2.1 bt608.2.2.2.2.2.2.1 bt608.2.2.2.2.2.2.2 3).bind fun bt617 => (if bt617.1 = true then ((spec_l01Src_spoil.f k bt603.1 bt617.2.1 bt617.2.2.1 bt617.2.2.2 t616).bind fun bt621 => (some bt621.1)) else (some t616)))))
set_option maxHeartbeats 8000000 in
set_option maxRecDepth 100000 in
theorem spec_DrawInsParse.calls (k : Nat) (A0 : Option Addr) (c0 : Nat) (l0 : List Int) (r : ByteArray) (w : World) (hr0 : Kd.C (Kd.int .u8) w A0 l0.length l0) (hc0 : l0.length ≤ c0) (h : spec_DrawInsParse.f k l0 = some r) :
 Calls Tryz.prog 21 #[.slice A0 l0.length c0] w fun e w' => e = .returned (.string r) ∧ Below w.heap.size w w' := by
 have HR0 := Zm hr0; have HC0 := Zm hc0; clear hr0 hc0; have HB := Zm (Below.refl w.heap.size w); have H : ((spec_l01Source.f k l0).bind fun bt603 => ((spec_l01Src_l03Ins.f k bt603.1 bt603.2.1 bt603.2.2.1 bt603.2.2.2).bind fun bt608 => ((spec_l14Ins.f k bt608.1 bt608.2.1 bt608.2.2.1 bt608.2.2.2.1 bt608.2.2.2.2.1).bind fun t616 => ((spec_l01Src_one.f bt603.1 bt608.2.2.2.2.2.1 bt608.2.2.2.2.2.2.1 bt608.2.2.2.2.2.2.2 3).bind fun bt617 => (if bt617.1 = true then ((spec_l01Src_spoil.f k bt603.1 bt617.2.1 bt617.2.2.1 bt617.2.2.2 t616).bind fun bt621 => (some bt621.1)) else (some t616)))))) = some r := h; clear h; replace H := Option.bind_eq_some_iff.mp H; obtain ⟨⟨t603, t604, t605, t606⟩, A20, H⟩ := H; (try dsimp only at H); have A2 := Zm A20; clear A20; replace H := Option.bind_eq_some_iff.mp H; obtain ⟨⟨t608, t609, t610, t611, t612, t613, t614, t615⟩, A30, H⟩ := H; (try dsimp only at H); have A3 := Zm A30; clear A30; replace H := Option.bind_eq_some_iff.mp H; obtain ⟨t616, A40, H⟩ := H; (try dsimp only at H); have A4 := Zm A40; clear A40; replace H := Option.bind_eq_some_iff.mp H; obtain ⟨⟨t617, t618, t619, t620⟩, A50, H⟩ := H; (try dsimp only at H); have A5 := Zm A50; clear A50; have HC6 := Zm H; clear H; go_enter Tryz.func21, Tryz.ntmps21; go_upto_if 11 with (first | ((with_reducible refine gate_callee (f := 36) rfl ?_); refine ge_ (some 6) Tryz.func36 #[.slice A0 l0.length c0] ?_; (with_reducible refine (spec_l01Source.calls _ _ _ _ _ _ _ _ w _ ?side1 ?side2 ?side3 A2.out).mono ?_); (case side1 => exact bk HB.out); (case side2 => exact HR0.out); (case side3 => exact HC0.out); rintro e w7 ⟨g607, rfl, hi, hb, hb2⟩; refine ⟨_, rfl, ?_⟩; have n0_ := (⟨Zm (hb), Zm (hi)⟩ : _ ∧ _); clear HB; obtain ⟨HB, HI607⟩ := n0_; (try clear hb); (try clear hb2); (try clear hk); (try clear hi)) | ((with_reducible refine gate_callee (f := 37) rfl ?_); refine ge_ (some 8) Tryz.func37 #[.pointer (some ⟨g607, 0, none⟩)] ?_; (with_reducible refine (spec_l01Src_l03Ins.calls _ g607 _ _ _ _ _ _ _ _ _ _ _ _ w _ ?side1 ?side2 A3.out).mono ?_); (case side1 => repeat (first | (with_reducible first | exact HI607.out | apply IsS113.alloc | apply IsS113.drewN | apply IsS113.drew | apply IsS113.set_1 | apply IsS113.set_2 | apply IsS113.set_3) | exact HI607.out)); (case side2 => exact bk HB.out); rintro e w8 ⟨rfl, hi, hb, hk⟩; refine ⟨_, rfl, ?_⟩; have n0_ := (⟨Zm (hb), Zm (hi)⟩ : _ ∧ _); clear HB HI607; obtain ⟨HB, HI607⟩ := n0_; (try clear hb); (try clear hb2); (try clear hk); (try clear hi)) | ((with_reducible refine gate_callee (f := 55) rfl ?_); refine ge_ (some 9) Tryz.func55 #[.agg #[.int .i64 t608, .int .i64 t609, .string t610, .string t611, .string t612]] ?_; (with_reducible refine (spec_l14Ins.calls _ _ _ _ _ _ _ _ A4.out).mono ?_); rintro e w9 ⟨rfl, hb⟩; refine ⟨_, rfl, ?_⟩; have n0_ := (⟨Zm (IsS113.below (by repeat (first | (with_reducible first | exact HI607.out | apply IsS113.alloc | apply IsS113.drewN | apply IsS113.drew | apply IsS113.set_1 | apply IsS113.set_2 | apply IsS113.set_3) | exact HI607.out)) hb), Zm (Zbt (bk HB.out) hb)⟩ : _ ∧ _); clear HI607 HB; obtain ⟨HI607, HB⟩ := n0_; (try clear hb); (try clear hb2); (try clear hk); (try clear hi)) | ((with_reducible refine gate_callee (f := 56) rfl ?_); refine ge_ (some 11) Tryz.func56 #[.pointer (some ⟨g607, 0, none⟩), .int .i64 3] ?_; (with_reducible refine (spec_l01Src_one.calls g607 _ _ _ _ _ _ _ _ _ w _ ?side1 ?side2 A5.out).mono ?_); (case side1 => repeat (first | (with_reducible first | exact HI607.out | apply IsS113.alloc | apply IsS113.drewN | apply IsS113.drew | apply IsS113.set_1 | apply IsS113.set_2 | apply IsS113.set_3) | exact HI607.out)); (case side2 => exact bk HB.out); rintro e w10 ⟨rfl, hi, hb, hk⟩; refine ⟨_, rfl, ?_⟩; have n0_ := (⟨Zm (hb), Zm (hi)⟩ : _ ∧ _); clear HB HI607; obtain ⟨HB, HI607⟩ := n0_; (try clear hb); (try clear hb2); (try clear hk); (try clear hi))); have H := HC6.out; clear HC6; by_cases c11 : t617 = true; rotate_left
 · replace c11 := Bool.eq_false_iff.mpr c11; subst c11; rw [if_neg (show ¬ (false = true) by decide)] at H; obtain rfl := Option.some.inj H; go_wp2; go_ret; exact fin_ HB

 subst c11
 rw [if_pos rfl] at H
 replace H := Option.bind_eq_some_iff.mp H
 obtain ⟨⟨t621, t622, t623, t624⟩, A120, H⟩ := H
 (try dsimp only at H)
 have A12 := Zm A120
 clear A120
 obtain rfl := Option.some.inj H
 go_wp2_with (first | ((with_reducible refine gate_callee (f := 57) rfl ?_); refine ge_ (some 14) Tryz.func57 #[.pointer (some ⟨g607, 0, none⟩), .string t616] ?_; (with_reducible refine (spec_l01Src_spoil.calls _ g607 _ _ _ _ _ _ _ _ _ w _ ?side1 ?side2 A12.out).mono ?_); (case side1 => repeat (first | (with_reducible first | exact HI607.out | apply IsS113.alloc | apply IsS113.drewN | apply IsS113.drew | apply IsS113.set_1 | apply IsS113.set_2 | apply IsS113.set_3) | exact HI607.out)); (case side2 => exact bk HB.out); rintro e w13 ⟨rfl, hi, hb, hk⟩; refine ⟨_, rfl, ?_⟩; have n0_ := (⟨Zm (hb), Zm (hi)⟩ : _ ∧ _); clear HB HI607; obtain ⟨HB, HI607⟩ := n0_; (try clear hb); (try clear hb2); (try clear hk); (try clear hi)))
 go_ret
 exact fin_ HB
/-! ### spec_l14Op: function 95 -/
def spec_l14Op.l0 : Nat → ByteArray → Int → Option (Int)
 | 0, _, _ => none
 | k + 1, x0, x3 => if x3 ≤ 44 then ((spec_OpName.f k x3).bind fun t625 => (if t625.toList = x0.toList then (some x3) else (spec_l14Op.l0 k x0 (wrap64 (x3 + 1))))) else (some 0)
def spec_l14Op.f (k : Nat) (a0 : ByteArray) : Option (Int) := spec_l14Op.l0 k a0 1
set_option maxHeartbeats 8000000 in
set_option maxRecDepth 100000 in
theorem spec_l14Op.calls (k : Nat) (a0 : ByteArray) (r : Int) (w : World) (h : spec_l14Op.f k a0 = some r) :
 Calls Tryz.prog 95 #[.string a0] w fun e w' => e = .returned (.int .i64 r) ∧ Below w.heap.size w w' := by
 have HB := Zm (Below.refl w.heap.size w); have H : (spec_l14Op.l0 k a0 1) = some r := h; clear h; have H' := Zm H; clear H; go_enter Tryz.func95, Tryz.ntmps95; go_wp2; go_loopg [3] k (fun kq v3 w' => ∃ (x3_1 : Int), v3 = .int .i64 x3_1 ∧ Aside0 (spec_l14Op.l0 kq a0 x3_1 = some r) ∧ Aside0 (kq ≤ k) ∧ Aside0 (Below w.heap.size w w'))
 case atStart => exact ⟨(1), (by first | rfl | (simp; done) | (simp [*]; done)), H', ⟨Nat.le_refl _⟩, ⟨bk HB.out⟩⟩
 case round =>
  clear H'; obtain ⟨x3_1, rfl, HA, HK1, HB⟩ := hrel
  cases gk with
  | zero => exact absurd HA.out (by simp [spec_l14Op.l0])
  | succ k1 =>
   have H := HA.out; clear HA; simp only [spec_l14Op.l0] at H; by_cases c2 : x3_1 ≤ 44; rotate_left
   · rw [if_neg c2] at H; have c2b0 := decide_eq_false c2; clear c2; obtain rfl := Option.some.inj H; go_wp2; go_ret; exact fin_ HB

   rw [if_pos c2] at H
   have c2b0 := decide_eq_true c2
   clear c2
   replace H := Option.bind_eq_some_iff.mp H
   obtain ⟨t625, A30, H⟩ := H
   (try dsimp only at H)
   have A3 := Zm A30
   clear A30
   have HC4 := Zm H
   clear H
   go_upto_if 11 with (first | ((with_reducible refine gate_callee (f := 94) rfl ?_); refine ge_ (some 9) Tryz.func94 #[.int .i64 x3_1] ?_; (with_reducible refine (spec_OpName.calls _ _ _ _ A3.out).mono ?_); rintro e w5 ⟨rfl, hb⟩; refine ⟨_, rfl, ?_⟩; have n0_ := Zm (Zbt (bk HB.out) hb); clear HB; have HB := n0_; clear n0_; (try clear hb); (try clear hb2); (try clear hk); (try clear hi)))
   have H := HC4.out
   clear HC4
   by_cases c6 : t625.toList = a0.toList
   rotate_left
   · rw [if_neg c6] at H
     have c6b0 : (t625.toList == a0.toList) = false := beq_eq_false_iff_ne.mpr c6
     have c6b1 : (t625.toList != a0.toList) = true := bne_iff_ne.mpr c6
     (first | rw [c6b0] | (simp only [i64_w, i32_w]; rw [c6b0]) | skip)
     have H' := Zm H
     clear H
     go_wp2
     go_roundg k1
     case measure => have := HK1.out; omega
     case rel => exact ⟨(wrap64 (x3_1 + 1)), (by first | rfl | (simp; done) | (simp [*]; done)), H', ⟨by have := HK1.out; omega⟩, ⟨bk HB.out⟩⟩
   rw [if_pos c6] at H
   have c6b0 : (t625.toList == a0.toList) = true := beq_iff_eq.mpr c6
   have c6b1 : (t625.toList != a0.toList) = false := bne_eq_false_iff_eq.mpr c6
   clear c6
   (first | rw [c6b0] | (simp only [i64_w, i32_w]; rw [c6b0]) | skip)
   obtain rfl := Option.some.inj H
   go_wp2
   go_ret
   exact fin_ HB
end Go.Proofs.YtcpnlfkmfpmkdaaGreatDoor.PFnInsText
