/- Functions of the program as plain Lean functions, each with a proof that the program's call comes to the same; no condition. Written by a program of this session. -/
import Derived.Test.YtcpnlfkmfpmkdaaGreatDoorPFnInsTextx0
import Derived.Test.YtcpnlfkmfpmkdaaGreatDoorPFnInsTextx7
namespace Go.Proofs.YtcpnlfkmfpmkdaaGreatDoor.PFnInsText
open Go.RowKit Go.Proofs.YtcpnlfkmfpmkdaaGreatDoorW.PrintWords Go.Proofs.YtcpnlfkmfpmkdaaGreatDoorW.PrintLast Go.Proofs.YtcpnlfkmfpmkdaaGreatDoorW.PrintMore
open Go.Proofs.YtcpnlfkmfpmkdaaGreatDoorW.PrintWords renaming below_alloc → Zba, pw_below_drewN → Zbn, below_drew1 → Zbd, below_set → Zbs, below_size → Zbz, below_step → Zbt, blk_drewN → Zkn, blk_drew → Zkd, blk_alloc → Zka, blk_frozen → Zkf, blk_put → Zkp
open Go.Proofs.YtcpnlfkmfpmkdaaGreatDoorW.PrintWords.Aside0 renaming mk → Zm
attribute [local go_sem] max2_int min2_int max_two min_two max_three min_three max_four min_four   -- for this text's walks alone
set_option linter.unusedVariables false
set_option linter.unusedSimpArgs false

/-! ### spec_l02Type: function 85 -/
mutual
def spec_l02Type.j0 : Nat → ByteArray → Int → Bool → Option (Int × Bool)
 | 0, _, _, _ => none
 | k + 1, x0, x1, x22 => if x22 = true then ((spec_l02Type.f k x0 (wrap64 (x1 + 1)) true).bind fun bt444 => (some (bt444.1, bt444.2))) else (if 0 ≤ x1 then (if x1 < (x0.size : Int) then (if (bt x0 x1) = 76 then (spec_l02Type.l0 k x0 (wrap64 (x1 + 1)) (wrap64 (x1 + 1))) else (some (x1, false))) else (none)) else (none))
def spec_l02Type.l0 : Nat → ByteArray → Int → Int → Option (Int × Bool)
 | 0, _, _, _ => none
 | k + 1, x0, x8, x9 => if x9 < (x0.size : Int) then (if (wrap64 (x9 - x8)) < 20 then (if 0 ≤ x9 then ((spec_l01NameByte.f (bt x0 x9) (x9 == x8)).bind fun t446 => (if t446 = true then (spec_l02Type.l0 k x0 x8 (wrap64 (x9 + 1))) else (if x9 = (x0.size : Int) then (some (x9, false)) else (if (bt x0 x9) = 59 then (if x9 = x8 then (some (x9, false)) else (some (wrap64 (x9 + 1), true))) else (some (x9, false)))))) else (none)) else (if x9 = (x0.size : Int) then (some (x9, false)) else (if 0 ≤ x9 then (if (bt x0 x9) = 59 then (if x9 = x8 then (some (x9, false)) else (some (wrap64 (x9 + 1), true))) else (some (x9, false))) else (none)))) else (if x9 = (x0.size : Int) then (some (x9, false)) else (if 0 ≤ x9 then (none) else (none)))
def spec_l02Type.f : Nat → ByteArray → Int → Bool → Option (Int × Bool)
 | 0, _, _, _ => none
 | k + 1, a0, a1, a2 => if a1 ≥ (a0.size : Int) then (some (a1, false)) else (if 0 ≤ a1 then (if a1 < (a0.size : Int) then (if (bt a0 a1) = 73 then (some (wrap64 (a1 + 1), true)) else (if (bt a0 a1) = 91 then (spec_l02Type.j0 k a0 a1 (!a2)) else (spec_l02Type.j0 k a0 a1 false))) else (none)) else (none))
end
theorem spec_l02Type.mono_l : ∀ k, (∀ y0 y1 y2, LeO (spec_l02Type.f k y0 y1 y2) (spec_l02Type.f (k + 1) y0 y1 y2)) ∧ (∀ y0 y1 y2, LeO (spec_l02Type.j0 k y0 y1 y2) (spec_l02Type.j0 (k + 1) y0 y1 y2)) ∧ (∀ y0 y1 y2, LeO (spec_l02Type.l0 k y0 y1 y2) (spec_l02Type.l0 (k + 1) y0 y1 y2))
 | 0 => ⟨fun _ _ _ r h => by simp [spec_l02Type.f] at h, fun _ _ _ r h => by simp [spec_l02Type.j0] at h, fun _ _ _ r h => by simp [spec_l02Type.l0] at h⟩
 | k + 1 => by
  obtain ⟨ih0, ih1, ih2⟩ := spec_l02Type.mono_l k; refine ⟨?_, ?_, ?_⟩
  · intro y0 y1 y2; unfold spec_l02Type.f
    repeat' first
    | (with_reducible exact ih0 _ _ _)
    | (with_reducible exact ih1 _ _ _)
    | (with_reducible exact ih2 _ _ _)
    | (with_reducible exact LeO.refl _)
    | (with_reducible exact LeO.none _)
    | (with_reducible refine LeO.ite ?_ ?_)
    | (with_reducible refine LeO.bind ?_ (fun _ => ?_))
    | exact ih0 _ _ _
    | exact ih1 _ _ _
    | exact ih2 _ _ _
    | exact LeO.none _
    | refine LeO.ite ?_ ?_
    | refine LeO.bind ?_ (fun _ => ?_)
  · intro y0 y1 y2; unfold spec_l02Type.j0
    repeat' first
    | (with_reducible exact ih0 _ _ _)
    | (with_reducible exact ih1 _ _ _)
    | (with_reducible exact ih2 _ _ _)
    | (with_reducible exact LeO.refl _)
    | (with_reducible exact LeO.none _)
    | (with_reducible refine LeO.ite ?_ ?_)
    | (with_reducible refine LeO.bind ?_ (fun _ => ?_))
    | exact ih0 _ _ _
    | exact ih1 _ _ _
    | exact ih2 _ _ _
    | exact LeO.none _
    | refine LeO.ite ?_ ?_
    | refine LeO.bind ?_ (fun _ => ?_)
  · intro y0 y1 y2; unfold spec_l02Type.l0
    repeat' first
    | (with_reducible exact ih0 _ _ _)
    | (with_reducible exact ih1 _ _ _)
    | (with_reducible exact ih2 _ _ _)
    | (with_reducible exact LeO.refl _)
    | (with_reducible exact LeO.none _)
    | (with_reducible refine LeO.ite ?_ ?_)
    | (with_reducible refine LeO.bind ?_ (fun _ => ?_))
    | exact ih0 _ _ _
    | exact ih1 _ _ _
    | exact ih2 _ _ _
    | exact LeO.none _
    | refine LeO.ite ?_ ?_
    | refine LeO.bind ?_ (fun _ => ?_)
theorem spec_l02Type.mono : ∀ a0 a1 a2 k, LeO (spec_l02Type.f k a0 a1 a2) (spec_l02Type.f (k + 1) a0 a1 a2) := by
 intro a0 a1 a2 k; obtain ⟨ih0, ih1, ih2⟩ := spec_l02Type.mono_l k; exact ih0 a0 a1 a2
set_option maxHeartbeats 8000000 in
set_option maxRecDepth 100000 in
theorem spec_l02Type.calls (k : Nat) : ∀ (a0 : ByteArray) (a1 : Int) (a2 : Bool) (r1 : Int) (r2 : Bool) (w : World) (h : spec_l02Type.f k a0 a1 a2 = some (r1, r2)),
 Calls Tryz.prog 85 #[.string a0, .int .i64 a1, .bool a2] w fun e w' => e = .returned (.tuple #[.int .i64 r1, .bool r2]) ∧ Drawn0 w w' := by
 induction k using Nat.strongRecOn with
 | _ k ih =>
 intro a0 a1 a2 r1 r2 w h
 cases k with
 | zero => exact absurd h (by simp [spec_l02Type.f])
 | succ k =>
 simp only [spec_l02Type.f] at h; have H : (if a1 ≥ (a0.size : Int) then (some (a1, false)) else (if 0 ≤ a1 then (if a1 < (a0.size : Int) then (if (bt a0 a1) = 73 then (some (wrap64 (a1 + 1), true)) else (if (bt a0 a1) = 91 then (spec_l02Type.j0 k a0 a1 (!a2)) else (spec_l02Type.j0 k a0 a1 false))) else (none)) else (none))) = some (r1, r2) := h; clear h; by_cases c4 : a1 ≥ (a0.size : Int); rotate_left
 · rw [if_neg c4] at H; have c4b0 : decide ((a0.size : Int) ≤ a1) = false := decide_eq_false c4; clear c4; by_cases c5 : 0 ≤ a1; rotate_left
   · rw [if_neg c5] at H; exact absurd H (by simp)

   rw [if_pos c5] at H
   have c5b0 := decide_eq_true c5
   clear c5
   by_cases c6 : a1 < (a0.size : Int)
   rotate_left
   · rw [if_neg c6] at H
     exact absurd H (by simp)
   rw [if_pos c6] at H
   have c6b0 := decide_eq_true c6
   clear c6
   by_cases c8 : (bt a0 a1) = 73
   rotate_left
   · rw [if_neg c8] at H
     have c8b0 : ((bt a0 a1) == 73) = false := beq_eq_false_iff_ne.mpr c8
     have c8b1 : ((bt a0 a1) != 73) = true := bne_iff_ne.mpr c8
     have HC9 := Zm H
     clear H
     have p7 : 0 ≤ (a1 : Int) := of_decide_eq_true (by first | (with_reducible assumption) | assumption)
     have q7 : a1 < (a0.size : Int) := of_decide_eq_true (by first | (with_reducible assumption) | assumption)
     have hx7 := bt_at a0 a1
     replace p7 := eq_true p7
     replace q7 := eq_true q7
     go_enter Tryz.func85, Tryz.ntmps85
     go_upto_region 5 with (fail)
     go_cut [22] (fun v22 wc => ∃ (kq : Nat) (x22_8 : Bool), v22 = .bool x22_8 ∧ Aside0 (spec_l02Type.j0 kq a0 a1 x22_8 = some (r1, r2)) ∧ Aside0 (kq ≤ k) ∧ Drawn0 w wc)
     case first =>
      have H := HC9.out
      clear HC9
      by_cases c11 : (bt a0 a1) = 91
      rotate_left
      · rw [if_neg c11] at H
        have c11b0 : ((bt a0 a1) == 91) = false := beq_eq_false_iff_ne.mpr c11
        have c11b1 : ((bt a0 a1) != 91) = true := bne_iff_ne.mpr c11
        (first | rw [c11b0] | (simp only [i64_w, i32_w]; rw [c11b0]) | skip)
        have H' := Zm H
        clear H
        have p10 : 0 ≤ (a1 : Int) := of_decide_eq_true (by first | (with_reducible assumption) | assumption)
        have q10 : a1 < (a0.size : Int) := of_decide_eq_true (by first | (with_reducible assumption) | assumption)
        have hx10 := bt_at a0 a1
        replace p10 := eq_true p10
        replace q10 := eq_true q10
        go_wp2
        go_meet
        case rel => exact ⟨_, (false), (by first | rfl | (simp; done) | (simp [*]; done)), H', ⟨by first | omega | exact Nat.le_refl _⟩, by repeat (first | exact Drawn0.refl _ | apply Drawn0.step)⟩
      rw [if_pos c11] at H
      have c11b0 : ((bt a0 a1) == 91) = true := beq_iff_eq.mpr c11
      have c11b1 : ((bt a0 a1) != 91) = false := bne_eq_false_iff_eq.mpr c11
      clear c11
      (first | rw [c11b0] | (simp only [i64_w, i32_w]; rw [c11b0]) | skip)
      have H' := Zm H
      clear H
      have p10 : 0 ≤ (a1 : Int) := of_decide_eq_true (by first | (with_reducible assumption) | assumption)
      have q10 : a1 < (a0.size : Int) := of_decide_eq_true (by first | (with_reducible assumption) | assumption)
      have hx10 := bt_at a0 a1
      replace p10 := eq_true p10
      replace q10 := eq_true q10
      go_wp2
      go_meet
      case rel => exact ⟨_, (!a2), (by first | rfl | (simp; done) | (simp [*]; done)), H', ⟨by first | omega | exact Nat.le_refl _⟩, by repeat (first | exact Drawn0.refl _ | apply Drawn0.step)⟩
     case rest =>
      clear HC9
      (try clear c4); (try clear c4b0); (try clear c5); (try clear c5b0); (try clear c6); (try clear c6b0); (try clear p7); (try clear q7); (try clear hx7); (try clear c8); (try clear c8b0); (try clear c8b1); (try clear p7); (try clear q7)
      obtain ⟨kq, x22_8, rfl, HA, HJ8, ⟨mc8, rfl⟩⟩ := hcut
      cases kq with
      | zero => exact absurd HA.out (by simp [spec_l02Type.j0])
      | succ kj8 =>
       have H := HA.out
       clear HA
       simp only [spec_l02Type.j0] at H
       by_cases c12 : x22_8 = true
       rotate_left
       · replace c12 := Bool.eq_false_iff.mpr c12
         subst c12
         rw [if_neg (show ¬ (false = true) by decide)] at H
         by_cases c14 : 0 ≤ a1
         rotate_left
         · rw [if_neg c14] at H
           exact absurd H (by simp)
         rw [if_pos c14] at H
         have c14b0 := decide_eq_true c14
         clear c14
         by_cases c15 : a1 < (a0.size : Int)
         rotate_left
         · rw [if_neg c15] at H
           exact absurd H (by simp)
         rw [if_pos c15] at H
         have c15b0 := decide_eq_true c15
         clear c15
         by_cases c17 : (bt a0 a1) = 76
         rotate_left
         · rw [if_neg c17] at H
           have c17b0 : ((bt a0 a1) == 76) = false := beq_eq_false_iff_ne.mpr c17
           have c17b1 : ((bt a0 a1) != 76) = true := bne_iff_ne.mpr c17
           simp only [Option.some.injEq, Prod.mk.injEq] at H
           obtain ⟨rfl, rfl⟩ := H
           have p16 : 0 ≤ (a1 : Int) := of_decide_eq_true (by first | (with_reducible assumption) | assumption)
           have q16 : a1 < (a0.size : Int) := of_decide_eq_true (by first | (with_reducible assumption) | assumption)
           have hx16 := bt_at a0 a1
           replace p16 := eq_true p16
           replace q16 := eq_true q16
           go_wp2
           go_ret2
           exact ⟨by first | rfl | (simp; done) | (simp [*]; done), by repeat (first | exact Drawn0.refl _ | apply Drawn0.step)⟩
         rw [if_pos c17] at H
         have c17b0 : ((bt a0 a1) == 76) = true := beq_iff_eq.mpr c17
         have c17b1 : ((bt a0 a1) != 76) = false := bne_eq_false_iff_eq.mpr c17
         clear c17
         have H' := Zm H
         clear H
         have p16 : 0 ≤ (a1 : Int) := of_decide_eq_true (by first | (with_reducible assumption) | assumption)
         have q16 : a1 < (a0.size : Int) := of_decide_eq_true (by first | (with_reducible assumption) | assumption)
         have hx16 := bt_at a0 a1
         replace p16 := eq_true p16
         replace q16 := eq_true q16
         go_wp2
         go_loopg [9] kj8 (fun kq v9 w' => ∃ (x9_2 : Int), v9 = .int .i64 x9_2 ∧ Aside0 (spec_l02Type.l0 kq a0 (wrap64 (a1 + 1)) x9_2 = some (r1, r2)) ∧ Aside0 (kq ≤ kj8) ∧ Drawn0 w w')
         case atStart => exact ⟨(wrap64 (a1 + 1)), (by first | rfl | (simp; done) | (simp [*]; done)), H', ⟨Nat.le_refl _⟩, by repeat (first | exact Drawn0.refl _ | apply Drawn0.step)⟩
         case round =>
          clear H'
          (try clear c4); (try clear c4b0); (try clear c5); (try clear c5b0); (try clear c6); (try clear c6b0); (try clear p7); (try clear q7); (try clear hx7); (try clear c8); (try clear c8b0); (try clear c8b1); (try clear c12); (try clear c14); (try clear c14b0); (try clear c15); (try clear c15b0); (try clear p16); (try clear q16); (try clear hx16); (try clear c17); (try clear c17b0); (try clear c17b1); (try clear p16); (try clear p7); (try clear q16); (try clear q7)
          obtain ⟨x9_2, rfl, HA, HK2, ⟨m2, rfl⟩⟩ := hrel
          cases gk with
          | zero => exact absurd HA.out (by simp [spec_l02Type.l0])
          | succ k2 =>
           have H := HA.out
           clear HA
           simp only [spec_l02Type.l0] at H
           by_cases c18 : x9_2 < (a0.size : Int)
           rotate_left
           · rw [if_neg c18] at H
             have c18b0 := decide_eq_false c18
             clear c18
             by_cases c34 : x9_2 = (a0.size : Int)
             rotate_left
             · rw [if_neg c34] at H
               have c34b0 : (x9_2 == (a0.size : Int)) = false := beq_eq_false_iff_ne.mpr c34
               have c34b1 : (x9_2 != (a0.size : Int)) = true := bne_iff_ne.mpr c34
               by_cases c35 : 0 ≤ x9_2
               rotate_left
               · rw [if_neg c35] at H
                 exact absurd H (by simp)
               rw [if_pos c35] at H
               exact absurd H (by simp)
             rw [if_pos c34] at H
             have c34b0 : (x9_2 == (a0.size : Int)) = true := beq_iff_eq.mpr c34
             have c34b1 : (x9_2 != (a0.size : Int)) = false := bne_eq_false_iff_eq.mpr c34
             clear c34
             simp only [Option.some.injEq, Prod.mk.injEq] at H
             obtain ⟨rfl, rfl⟩ := H
             go_wp2
             go_ret2
             exact ⟨by first | rfl | (simp; done) | (simp [*]; done), by repeat (first | exact Drawn0.refl _ | apply Drawn0.step)⟩
           rw [if_pos c18] at H
           have c18b0 := decide_eq_true c18
           clear c18
           by_cases c19 : (wrap64 (x9_2 - (wrap64 (a1 + 1)))) < 20
           rotate_left
           · rw [if_neg c19] at H
             have c19b0 := decide_eq_false c19
             (try (have c19b1 : decide ((IntKind.i64.wrap (x9_2 - (IntKind.i64.wrap (a1 + 1)))) < 20) = false := by simp only [i64_w]; exact (decide_eq_false c19)))
             clear c19
             by_cases c29 : x9_2 = (a0.size : Int)
             rotate_left
             · rw [if_neg c29] at H
               have c29b0 : (x9_2 == (a0.size : Int)) = false := beq_eq_false_iff_ne.mpr c29
               have c29b1 : (x9_2 != (a0.size : Int)) = true := bne_iff_ne.mpr c29
               by_cases c30 : 0 ≤ x9_2
               rotate_left
               · rw [if_neg c30] at H
                 exact absurd H (by simp)
               rw [if_pos c30] at H
               have c30b0 := decide_eq_true c30
               clear c30
               by_cases c32 : (bt a0 x9_2) = 59
               rotate_left
               · rw [if_neg c32] at H
                 have c32b0 : ((bt a0 x9_2) == 59) = false := beq_eq_false_iff_ne.mpr c32
                 have c32b1 : ((bt a0 x9_2) != 59) = true := bne_iff_ne.mpr c32
                 simp only [Option.some.injEq, Prod.mk.injEq] at H
                 obtain ⟨rfl, rfl⟩ := H
                 have p31 : 0 ≤ (x9_2 : Int) := of_decide_eq_true (by first | (with_reducible assumption) | assumption)
                 have q31 : x9_2 < (a0.size : Int) := of_decide_eq_true (by first | (with_reducible assumption) | assumption)
                 have hx31 := bt_at a0 x9_2
                 replace p31 := eq_true p31
                 replace q31 := eq_true q31
                 go_wp2
                 go_ret2
                 exact ⟨by first | rfl | (simp; done) | (simp [*]; done), by repeat (first | exact Drawn0.refl _ | apply Drawn0.step)⟩
               rw [if_pos c32] at H
               have c32b0 : ((bt a0 x9_2) == 59) = true := beq_iff_eq.mpr c32
               have c32b1 : ((bt a0 x9_2) != 59) = false := bne_eq_false_iff_eq.mpr c32
               clear c32
               by_cases c33 : x9_2 = (wrap64 (a1 + 1))
               rotate_left
               · rw [if_neg c33] at H
                 have c33b0 : (x9_2 == (wrap64 (a1 + 1))) = false := beq_eq_false_iff_ne.mpr c33
                 have c33b1 : (x9_2 != (wrap64 (a1 + 1))) = true := bne_iff_ne.mpr c33
                 (try (have c33b2 : (x9_2 == (IntKind.i64.wrap (a1 + 1))) = false := by simp only [i64_w]; exact (beq_eq_false_iff_ne.mpr c33)))
                 (try (have c33b3 : (x9_2 != (IntKind.i64.wrap (a1 + 1))) = true := by simp only [i64_w]; exact (bne_iff_ne.mpr c33)))
                 simp only [Option.some.injEq, Prod.mk.injEq] at H
                 obtain ⟨rfl, rfl⟩ := H
                 have p31 : 0 ≤ (x9_2 : Int) := of_decide_eq_true (by first | (with_reducible assumption) | assumption)
                 have q31 : x9_2 < (a0.size : Int) := of_decide_eq_true (by first | (with_reducible assumption) | assumption)
                 have hx31 := bt_at a0 x9_2
                 replace p31 := eq_true p31
                 replace q31 := eq_true q31
                 go_wp2
                 go_ret2
                 exact ⟨by first | rfl | (simp; done) | (simp [*]; done), by repeat (first | exact Drawn0.refl _ | apply Drawn0.step)⟩
               rw [if_pos c33] at H
               have c33b0 : (x9_2 == (wrap64 (a1 + 1))) = true := beq_iff_eq.mpr c33
               have c33b1 : (x9_2 != (wrap64 (a1 + 1))) = false := bne_eq_false_iff_eq.mpr c33
               (try (have c33b2 : (x9_2 == (IntKind.i64.wrap (a1 + 1))) = true := by simp only [i64_w]; exact (beq_iff_eq.mpr c33)))
               (try (have c33b3 : (x9_2 != (IntKind.i64.wrap (a1 + 1))) = false := by simp only [i64_w]; exact (bne_eq_false_iff_eq.mpr c33)))
               clear c33
               simp only [Option.some.injEq, Prod.mk.injEq] at H
               obtain ⟨rfl, rfl⟩ := H
               have p31 : 0 ≤ (x9_2 : Int) := of_decide_eq_true (by first | (with_reducible assumption) | assumption)
               have q31 : x9_2 < (a0.size : Int) := of_decide_eq_true (by first | (with_reducible assumption) | assumption)
               have hx31 := bt_at a0 x9_2
               replace p31 := eq_true p31
               replace q31 := eq_true q31
               go_wp2
               go_ret2
               exact ⟨by first | rfl | (simp; done) | (simp [*]; done), by repeat (first | exact Drawn0.refl _ | apply Drawn0.step)⟩
             rw [if_pos c29] at H
             have c29b0 : (x9_2 == (a0.size : Int)) = true := beq_iff_eq.mpr c29
             have c29b1 : (x9_2 != (a0.size : Int)) = false := bne_eq_false_iff_eq.mpr c29
             clear c29
             simp only [Option.some.injEq, Prod.mk.injEq] at H
             obtain ⟨rfl, rfl⟩ := H
             go_wp2
             go_ret2
             exact ⟨by first | rfl | (simp; done) | (simp [*]; done), by repeat (first | exact Drawn0.refl _ | apply Drawn0.step)⟩
           rw [if_pos c19] at H
           have c19b0 := decide_eq_true c19
           (try (have c19b1 : decide ((IntKind.i64.wrap (x9_2 - (IntKind.i64.wrap (a1 + 1)))) < 20) = true := by simp only [i64_w]; exact (decide_eq_true c19)))
           clear c19
           by_cases c20 : 0 ≤ x9_2
           rotate_left
           · rw [if_neg c20] at H
             exact absurd H (by simp)
           rw [if_pos c20] at H
           have c20b0 := decide_eq_true c20
           clear c20
           replace H := Option.bind_eq_some_iff.mp H
           obtain ⟨t446, A220, H⟩ := H
           replace H : (if t446 = true then (spec_l02Type.l0 k2 a0 (wrap64 (a1 + 1)) (wrap64 (x9_2 + 1))) else (if x9_2 = (a0.size : Int) then (some (x9_2, false)) else (if (bt a0 x9_2) = 59 then (if x9_2 = (wrap64 (a1 + 1)) then (some (x9_2, false)) else (some (wrap64 (x9_2 + 1), true))) else (some (x9_2, false))))) = some (r1, r2) := H
           have A22 := Zm A220
           clear A220
           have HC23 := Zm H
           clear H
           have p21 : 0 ≤ (x9_2 : Int) := of_decide_eq_true (by first | (with_reducible assumption) | assumption)
           have q21 : x9_2 < (a0.size : Int) := of_decide_eq_true (by first | (with_reducible assumption) | assumption)
           have hx21 := bt_at a0 x9_2
           replace p21 := eq_true p21
           replace q21 := eq_true q21
           go_upto_if 63 with (first | (go_at_call 84; (first | (with_reducible refine (spec_l01NameByte.calls _ _ _ _ A22.out).mono ?_) | (with_reducible refine (calls_of_args ?_ (spec_l01NameByte.calls _ _ _ _ A22.out)).mono ?_; focus (simp [*]; done))); rintro e w' ⟨rfl, ⟨nd, rfl⟩⟩))
           have H := HC23.out
           clear HC23
           by_cases c24 : t446 = true
           rotate_left
           · replace c24 := Bool.eq_false_iff.mpr c24
             subst c24
             rw [if_neg (show ¬ (false = true) by decide)] at H
             by_cases c25 : x9_2 = (a0.size : Int)
             rotate_left
             · rw [if_neg c25] at H
               have c25b0 : (x9_2 == (a0.size : Int)) = false := beq_eq_false_iff_ne.mpr c25
               have c25b1 : (x9_2 != (a0.size : Int)) = true := bne_iff_ne.mpr c25
               (first | rw [c25b0] | (simp only [i64_w, i32_w]; rw [c25b0]) | skip)
               by_cases c27 : (bt a0 x9_2) = 59
               rotate_left
               · rw [if_neg c27] at H
                 have c27b0 : ((bt a0 x9_2) == 59) = false := beq_eq_false_iff_ne.mpr c27
                 have c27b1 : ((bt a0 x9_2) != 59) = true := bne_iff_ne.mpr c27
                 simp only [Option.some.injEq, Prod.mk.injEq] at H
                 obtain ⟨rfl, rfl⟩ := H
                 have p26 : 0 ≤ (x9_2 : Int) := of_decide_eq_true (by first | (with_reducible assumption) | assumption)
                 have q26 : x9_2 < (a0.size : Int) := of_decide_eq_true (by first | (with_reducible assumption) | assumption)
                 have hx26 := bt_at a0 x9_2
                 replace p26 := eq_true p26
                 replace q26 := eq_true q26
                 go_wp2
                 go_ret2
                 exact ⟨by first | rfl | (simp; done) | (simp [*]; done), by repeat (first | exact Drawn0.refl _ | apply Drawn0.step)⟩
               rw [if_pos c27] at H
               have c27b0 : ((bt a0 x9_2) == 59) = true := beq_iff_eq.mpr c27
               have c27b1 : ((bt a0 x9_2) != 59) = false := bne_eq_false_iff_eq.mpr c27
               clear c27
               by_cases c28 : x9_2 = (wrap64 (a1 + 1))
               rotate_left
               · rw [if_neg c28] at H
                 have c28b0 : (x9_2 == (wrap64 (a1 + 1))) = false := beq_eq_false_iff_ne.mpr c28
                 have c28b1 : (x9_2 != (wrap64 (a1 + 1))) = true := bne_iff_ne.mpr c28
                 (try (have c28b2 : (x9_2 == (IntKind.i64.wrap (a1 + 1))) = false := by simp only [i64_w]; exact (beq_eq_false_iff_ne.mpr c28)))
                 (try (have c28b3 : (x9_2 != (IntKind.i64.wrap (a1 + 1))) = true := by simp only [i64_w]; exact (bne_iff_ne.mpr c28)))
                 simp only [Option.some.injEq, Prod.mk.injEq] at H
                 obtain ⟨rfl, rfl⟩ := H
                 have p26 : 0 ≤ (x9_2 : Int) := of_decide_eq_true (by first | (with_reducible assumption) | assumption)
                 have q26 : x9_2 < (a0.size : Int) := of_decide_eq_true (by first | (with_reducible assumption) | assumption)
                 have hx26 := bt_at a0 x9_2
                 replace p26 := eq_true p26
                 replace q26 := eq_true q26
                 go_wp2
                 go_ret2
                 exact ⟨by first | rfl | (simp; done) | (simp [*]; done), by repeat (first | exact Drawn0.refl _ | apply Drawn0.step)⟩
               rw [if_pos c28] at H
               have c28b0 : (x9_2 == (wrap64 (a1 + 1))) = true := beq_iff_eq.mpr c28
               have c28b1 : (x9_2 != (wrap64 (a1 + 1))) = false := bne_eq_false_iff_eq.mpr c28
               (try (have c28b2 : (x9_2 == (IntKind.i64.wrap (a1 + 1))) = true := by simp only [i64_w]; exact (beq_iff_eq.mpr c28)))
               (try (have c28b3 : (x9_2 != (IntKind.i64.wrap (a1 + 1))) = false := by simp only [i64_w]; exact (bne_eq_false_iff_eq.mpr c28)))
               clear c28
               simp only [Option.some.injEq, Prod.mk.injEq] at H
               obtain ⟨rfl, rfl⟩ := H
               have p26 : 0 ≤ (x9_2 : Int) := of_decide_eq_true (by first | (with_reducible assumption) | assumption)
               have q26 : x9_2 < (a0.size : Int) := of_decide_eq_true (by first | (with_reducible assumption) | assumption)
               have hx26 := bt_at a0 x9_2
               replace p26 := eq_true p26
               replace q26 := eq_true q26
               go_wp2
               go_ret2
               exact ⟨by first | rfl | (simp; done) | (simp [*]; done), by repeat (first | exact Drawn0.refl _ | apply Drawn0.step)⟩
             rw [if_pos c25] at H
             have c25b0 : (x9_2 == (a0.size : Int)) = true := beq_iff_eq.mpr c25
             have c25b1 : (x9_2 != (a0.size : Int)) = false := bne_eq_false_iff_eq.mpr c25
             clear c25
             (first | rw [c25b0] | (simp only [i64_w, i32_w]; rw [c25b0]) | skip)
             simp only [Option.some.injEq, Prod.mk.injEq] at H
             obtain ⟨rfl, rfl⟩ := H
             go_wp2
             go_ret2
             exact ⟨by first | rfl | (simp; done) | (simp [*]; done), by repeat (first | exact Drawn0.refl _ | apply Drawn0.step)⟩
           subst c24
           rw [if_pos rfl] at H
           have H' := Zm H
           clear H
           go_wp2
           go_roundg k2
           case measure => have := HJ8.out; have := HK2.out; omega
           case rel => exact ⟨(wrap64 (x9_2 + 1)), (by first | rfl | (simp; done) | (simp [*]; done)), H', ⟨by have := HJ8.out; have := HK2.out; omega⟩, by repeat (first | exact Drawn0.refl _ | apply Drawn0.step)⟩
       subst c12
       rw [if_pos rfl] at H
       replace H := Option.bind_eq_some_iff.mp H
       obtain ⟨⟨t444, t445⟩, A130, H⟩ := H
       replace H : (some (t444, t445)) = some (r1, r2) := H
       have A13 := Zm A130
       clear A130
       simp only [Option.some.injEq, Prod.mk.injEq] at H
       obtain ⟨rfl, rfl⟩ := H
       go_wp2_with (first | ((with_reducible refine gate_callee (f := 85) rfl ?_); refine ge_ (some 34) Tryz.func85 #[.string a0, .int .i64 (wrap64 (a1 + 1)), .bool true] ?_; (with_reducible refine (ih kj8 (by have := HJ8.out; omega) a0 (wrap64 (a1 + 1)) true t444 t445 _ A13.out).mono ?_); rintro e w' ⟨rfl, ⟨nd, rfl⟩⟩; refine ⟨_, rfl, ?_⟩))
       go_ret2
       exact ⟨by first | rfl | (simp; done) | (simp [*]; done), by repeat (first | exact Drawn0.refl _ | apply Drawn0.step)⟩
   rw [if_pos c8] at H
   have c8b0 : ((bt a0 a1) == 73) = true := beq_iff_eq.mpr c8
   have c8b1 : ((bt a0 a1) != 73) = false := bne_eq_false_iff_eq.mpr c8
   clear c8
   simp only [Option.some.injEq, Prod.mk.injEq] at H
   obtain ⟨rfl, rfl⟩ := H
   have p7 : 0 ≤ (a1 : Int) := of_decide_eq_true (by first | (with_reducible assumption) | assumption)
   have q7 : a1 < (a0.size : Int) := of_decide_eq_true (by first | (with_reducible assumption) | assumption)
   have hx7 := bt_at a0 a1
   replace p7 := eq_true p7
   replace q7 := eq_true q7
   go_enter Tryz.func85, Tryz.ntmps85
   go_wp2
   go_ret2
   exact ⟨by first | rfl | (simp; done) | (simp [*]; done), by repeat (first | exact Drawn0.refl _ | apply Drawn0.step)⟩
 rw [if_pos c4] at H
 have c4b0 : decide ((a0.size : Int) ≤ a1) = true := decide_eq_true c4
 clear c4
 simp only [Option.some.injEq, Prod.mk.injEq] at H
 obtain ⟨rfl, rfl⟩ := H
 go_enter Tryz.func85, Tryz.ntmps85
 go_wp2
 go_ret2
 exact ⟨by first | rfl | (simp; done) | (simp [*]; done), by repeat (first | exact Drawn0.refl _ | apply Drawn0.step)⟩
/-! ### spec_TypeRight: function 43 -/
def spec_TypeRight.f (k : Nat) (a0 : ByteArray) : Option (Bool) := if (a0.size : Int) > 20000 then (some false) else ((spec_l02Type.f k a0 0 false).bind fun bt447 => (if bt447.2 = true then (some (bt447.1 == (a0.size : Int))) else (some false)))
theorem spec_TypeRight.mono : ∀ a0 k, LeO (spec_TypeRight.f k a0) (spec_TypeRight.f (k + 1) a0) := by
 intro a0 k; unfold spec_TypeRight.f
 repeat' first
  | (with_reducible exact spec_l02Type.mono _ _ _ _)
  | (with_reducible exact LeO.refl _)
  | (with_reducible exact LeO.none _)
  | (with_reducible refine LeO.ite ?_ ?_)
  | (with_reducible refine LeO.bind ?_ (fun _ => ?_))
  | exact spec_l02Type.mono _ _ _ _
  | exact LeO.none _
  | refine LeO.ite ?_ ?_
  | refine LeO.bind ?_ (fun _ => ?_)
set_option maxHeartbeats 8000000 in
set_option maxRecDepth 100000 in
theorem spec_TypeRight.calls (k : Nat) (a0 : ByteArray) (r : Bool) (w : World) (h : spec_TypeRight.f k a0 = some r) :
 Calls Tryz.prog 43 #[.string a0] w fun e w' => e = .returned (.bool r) ∧ Drawn0 w w' := by
 have H : (if (a0.size : Int) > 20000 then (some false) else ((spec_l02Type.f k a0 0 false).bind fun bt447 => (if bt447.2 = true then (some (bt447.1 == (a0.size : Int))) else (some false)))) = some r := h; clear h; by_cases c2 : (a0.size : Int) > 20000; rotate_left
 · rw [if_neg c2] at H; have c2b0 : decide (20000 < (a0.size : Int)) = false := decide_eq_false c2; have c2b1 : decide (20000 < a0.size) = false := decide_eq_false (by omega); clear c2; replace H := Option.bind_eq_some_iff.mp H; obtain ⟨⟨t447, t448⟩, A30, H⟩ := H; (try dsimp only at H); have A3 := Zm A30; clear A30; by_cases c4 : t448 = true; rotate_left
   · replace c4 := Bool.eq_false_iff.mpr c4; subst c4; rw [if_neg (show ¬ (false = true) by decide)] at H; obtain rfl := Option.some.inj H; go_enter Tryz.func43, Tryz.ntmps43; go_wp2_with (first | ((with_reducible refine gate_callee (f := 85) rfl ?_); refine ge_ (some 10) Tryz.func85 #[.string a0, .int .i64 0, .bool false] ?_; (with_reducible refine (spec_l02Type.calls _ _ _ _ _ _ _ A3.out).mono ?_); rintro e w' ⟨rfl, ⟨nd, rfl⟩⟩; refine ⟨_, rfl, ?_⟩)); go_ret; exact ⟨by first | rfl | (simp; done) | (simp [*]; done), by repeat (first | exact Drawn0.refl _ | apply Drawn0.step)⟩

   subst c4
   rw [if_pos rfl] at H
   obtain rfl := Option.some.inj H
   go_enter Tryz.func43, Tryz.ntmps43
   go_wp2_with (first | ((with_reducible refine gate_callee (f := 85) rfl ?_); refine ge_ (some 10) Tryz.func85 #[.string a0, .int .i64 0, .bool false] ?_; (with_reducible refine (spec_l02Type.calls _ _ _ _ _ _ _ A3.out).mono ?_); rintro e w' ⟨rfl, ⟨nd, rfl⟩⟩; refine ⟨_, rfl, ?_⟩))
   go_ret
   exact ⟨by first | rfl | (simp; done) | (simp [*]; done), by repeat (first | exact Drawn0.refl _ | apply Drawn0.step)⟩
 rw [if_pos c2] at H
 have c2b0 : decide (20000 < (a0.size : Int)) = true := decide_eq_true c2
 have c2b1 : decide (20000 < a0.size) = true := decide_eq_true (by omega)
 clear c2
 obtain rfl := Option.some.inj H
 go_enter Tryz.func43, Tryz.ntmps43
 go_wp2
 go_ret
 exact ⟨by first | rfl | (simp; done) | (simp [*]; done), by repeat (first | exact Drawn0.refl _ | apply Drawn0.step)⟩
/-! ### spec_l02Wrong: function 86 -/
def spec_l02Wrong.f (a0 : Int) : Option (List ByteArray × ByteArray × Int × Int) := some (([] : List ByteArray), (⟨#[]⟩ : ByteArray), a0, 3)
set_option maxHeartbeats 8000000 in
set_option maxRecDepth 100000 in
theorem spec_l02Wrong.calls (a0 : Int) (r1 : List ByteArray) (r2 : ByteArray) (r3 : Int) (r4 : Int) (w : World) (h : spec_l02Wrong.f a0 = some (r1, r2, r3, r4)) :
 Calls Tryz.prog 86 #[.int .i64 a0] w fun e w' => ∃ v0_ : Value, e = .returned (.agg #[v0_, .string r2, .int .i64 r3, .int .i64 r4]) ∧ Kd.R Kd.string 9 w' w.heap.size (fun _ => True) v0_ r1 ∧ Below w.heap.size w w' := by
 have hu76 := Tryz.underlying76; have HB := Zm (Below.refl w.heap.size w); have H : (some (([] : List ByteArray), (⟨#[]⟩ : ByteArray), a0, 3)) = some (r1, r2, r3, r4) := h; clear h; simp only [Option.some.injEq, Prod.mk.injEq] at H; obtain ⟨rfl, rfl, rfl, rfl⟩ := H; go_enter Tryz.func86, Tryz.ntmps86; go_wp2_with (first | ((with_reducible refine gate_dst (N := 2) rfl ?_); refine box_event ?hg (N := 2) ?hd (cs := #[.slice none 0 0, .string (⟨#[]⟩ : ByteArray), .int .i64 0, .int .i64 0]) (t := 76) ?hr ?_; (case hd => rfl); (case hg => rfl); (case hr => first | (go_simp; done) | (go_simp; rfl)); intro gb449 hg w2 hbox hb; have n0_ := (⟨Zm (Zbt (bk HB.out) hb), Zm (hbox), Zm ((by rw [hg]; exact (Zbz (bk HB.out)) : w.heap.size ≤ gb449)), Zm ((by rw [hg]; exact (Zbz (bk HB.out)) : w.heap.size ≤ gb449))⟩ : _ ∧ _ ∧ _ ∧ _); clear HB; obtain ⟨HB, BK449, GW449, GE449⟩ := n0_; clear hb hbox hg; obtain ⟨hcz3_0, hcz3_1, hcz3_2, hcz3_3, hfz3_0, hfz3_1, hfz3_2, hfz3_3⟩ := cf4 BK449.out)); refine bodyPost_ret (results_cell_row rfl _ _ gb449 76 #[.slice none 0 0, .string (⟨#[]⟩ : ByteArray), .int .i64 a0, .int .i64 3] (0, 0) _ rfl zc_ Tryz.underlying76 rfl (by kernel_rfl)) rfl ?_; exact ⟨_, by first | rfl | (simp [*] <;> rfl), by first | exact Kd.R_nil _ _ _ _ _ | exact Kd.N_nil _ _ _ _ _ | exact Kd.V_nil _ _ _ _ _ | exact Kd.Q_nil _ _ _ _ _ | exact Kd.S_nil _ _ _ _ _, hb_⟩

end Go.Proofs.YtcpnlfkmfpmkdaaGreatDoor.PFnInsText
