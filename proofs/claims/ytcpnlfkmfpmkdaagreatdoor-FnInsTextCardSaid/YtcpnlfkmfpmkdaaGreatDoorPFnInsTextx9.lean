/- Functions of the program as plain Lean functions, each with a proof that the program's call comes to the same; no condition. Written by a program of this session. -/
import Derived.Test.YtcpnlfkmfpmkdaaGreatDoorPFnInsTextx0
import Derived.Test.YtcpnlfkmfpmkdaaGreatDoorPFnInsTextx8
namespace Go.Proofs.YtcpnlfkmfpmkdaaGreatDoor.PFnInsText
open Go.RowKit Go.Proofs.YtcpnlfkmfpmkdaaGreatDoorW.PrintWords Go.Proofs.YtcpnlfkmfpmkdaaGreatDoorW.PrintLast Go.Proofs.YtcpnlfkmfpmkdaaGreatDoorW.PrintMore
open Go.Proofs.YtcpnlfkmfpmkdaaGreatDoorW.PrintWords renaming below_alloc → Zba, pw_below_drewN → Zbn, below_drew1 → Zbd, below_set → Zbs, below_size → Zbz, below_step → Zbt, blk_drewN → Zkn, blk_drew → Zkd, blk_alloc → Zka, blk_cell → Zkc, blk_frozen → Zkf, blk_far → Zkr, blk_put → Zkp, blk_below → Zkb
open Go.Proofs.YtcpnlfkmfpmkdaaGreatDoorW.PrintWords.Aside0 renaming mk → Zm
attribute [local go_sem] max2_int min2_int max_two min_two max_three min_three max_four min_four   -- for this text's walks alone
set_option linter.unusedVariables false
set_option linter.unusedSimpArgs false

/-! ### spec_DescRead: function 44 -/
mutual
def spec_DescRead.j0 : Nat → ByteArray → Bool → Option (List ByteArray × ByteArray × Int × Int)
 | 0, _, _ => none
 | k + 1, x0, x20 => if x20 = true then ((spec_l02Wrong.f 0).bind fun bt451 => (some (bt451.1, bt451.2.1, bt451.2.2.1, bt451.2.2.2))) else (spec_DescRead.l0 k x0 1 ([] : List ByteArray) (⟨#[]⟩ : ByteArray))
def spec_DescRead.l0 : Nat → ByteArray → Int → List ByteArray → ByteArray → Option (List ByteArray × ByteArray × Int × Int)
 | 0, _, _, _, _ => none
 | k + 1, x0, x4, x458000, x458001 => if x4 < (x0.size : Int) then (if 0 ≤ x4 then (spec_DescRead.j2 k x0 x4 ((bt x0 x4) != 41) x458000 x458001) else (none)) else (spec_DescRead.j2 k x0 x4 false x458000 x458001)
def spec_DescRead.j2 : Nat → ByteArray → Int → Bool → List ByteArray → ByteArray → Option (List ByteArray × ByteArray × Int × Int)
 | 0, _, _, _, _, _ => none
 | k + 1, x0, x4, x32, x458000, x458001 => if x32 = true then (if (x458000.length : Int) = 8 then ((spec_l02Wrong.f x4).bind fun bt458 => (some (bt458.1, bt458.2.1, bt458.2.2.1, bt458.2.2.2))) else ((spec_l02Type.f k x0 x4 false).bind fun bt464 => (if bt464.2 = true then (if 0 ≤ x4 then (if x4 ≤ bt464.1 then (if bt464.1 ≤ (x0.size : Int) then (if x458000.length < 8796093022208 then (spec_DescRead.l0 k x0 bt464.1 (x458000 ++ [x0.extract (x4 : Int).toNat (bt464.1 : Int).toNat]) x458001) else (none)) else (none)) else (none)) else (none)) else ((spec_l02Wrong.f bt464.1).bind fun bt469 => (some (bt469.1, bt469.2.1, bt469.2.2.1, bt469.2.2.2)))))) else (if x4 = (x0.size : Int) then ((spec_l02Wrong.f x4).bind fun bt475 => (some (bt475.1, bt475.2.1, bt475.2.2.1, bt475.2.2.2))) else (if (wrap64 (x4 + 1)) < (x0.size : Int) then (if 0 ≤ (wrap64 (x4 + 1)) then (spec_DescRead.j3 k x0 (wrap64 (x4 + 1)) ((bt x0 (wrap64 (x4 + 1))) == 86) x458000 x458001) else (none)) else (spec_DescRead.j3 k x0 (wrap64 (x4 + 1)) false x458000 x458001)))
def spec_DescRead.j3 : Nat → ByteArray → Int → Bool → List ByteArray → ByteArray → Option (List ByteArray × ByteArray × Int × Int)
 | 0, _, _, _, _, _ => none
 | k + 1, x0, x4, x76, x458000, x458001 => if x76 = true then (if (wrap64 (x4 + 1)) < (x0.size : Int) then ((spec_l02Wrong.f (wrap64 (x4 + 1))).bind fun bt481 => (some (bt481.1, bt481.2.1, bt481.2.2.1, bt481.2.2.2))) else (some (x458000, (⟨#[86]⟩ : ByteArray), 0, 0))) else ((spec_l02Type.f k x0 x4 false).bind fun bt487 => (if bt487.2 = true then (if 0 ≤ x4 then (if x4 ≤ bt487.1 then (if bt487.1 ≤ (x0.size : Int) then (if bt487.1 < (x0.size : Int) then ((spec_l02Wrong.f bt487.1).bind fun bt489 => (some (bt489.1, bt489.2.1, bt489.2.2.1, bt489.2.2.2))) else (some (x458000, x0.extract (x4 : Int).toNat (bt487.1 : Int).toNat, 0, 0))) else (none)) else (none)) else (none)) else ((spec_l02Wrong.f bt487.1).bind fun bt495 => (some (bt495.1, bt495.2.1, bt495.2.2.1, bt495.2.2.2)))))
end
def spec_DescRead.f (k : Nat) (a0 : ByteArray) : Option (List ByteArray × ByteArray × Int × Int) := if (a0.size : Int) > 20000 then (some (([] : List ByteArray), (⟨#[]⟩ : ByteArray), 0, 2)) else (if (a0.size : Int) = 0 then (spec_DescRead.j0 k a0 true) else (if 0 < (a0.size : Int) then (spec_DescRead.j0 k a0 ((bt a0 0) != 40)) else (none)))
theorem spec_DescRead.mono_l : ∀ k, (∀ y0 y1, LeO (spec_DescRead.j0 k y0 y1) (spec_DescRead.j0 (k + 1) y0 y1)) ∧ (∀ y0 y1 y2 y3, LeO (spec_DescRead.l0 k y0 y1 y2 y3) (spec_DescRead.l0 (k + 1) y0 y1 y2 y3)) ∧ (∀ y0 y1 y2 y3 y4, LeO (spec_DescRead.j2 k y0 y1 y2 y3 y4) (spec_DescRead.j2 (k + 1) y0 y1 y2 y3 y4)) ∧ (∀ y0 y1 y2 y3 y4, LeO (spec_DescRead.j3 k y0 y1 y2 y3 y4) (spec_DescRead.j3 (k + 1) y0 y1 y2 y3 y4))
 | 0 => ⟨fun _ _ r h => by simp [spec_DescRead.j0] at h, fun _ _ _ _ r h => by simp [spec_DescRead.l0] at h, fun _ _ _ _ _ r h => by simp [spec_DescRead.j2] at h, fun _ _ _ _ _ r h => by simp [spec_DescRead.j3] at h⟩
 | k + 1 => by
  obtain ⟨ih0, ih1, ih2, ih3⟩ := spec_DescRead.mono_l k; refine ⟨?_, ?_, ?_, ?_⟩
  · intro y0 y1; unfold spec_DescRead.j0
    repeat' first
    | (with_reducible exact ih0 _ _)
    | (with_reducible exact ih1 _ _ _ _)
    | (with_reducible exact ih2 _ _ _ _ _)
    | (with_reducible exact ih3 _ _ _ _ _)
    | (with_reducible exact spec_l02Type.mono _ _ _ _)
    | (with_reducible exact LeO.refl _)
    | (with_reducible exact LeO.none _)
    | (with_reducible refine LeO.ite ?_ ?_)
    | (with_reducible refine LeO.bind ?_ (fun _ => ?_))
    | exact ih0 _ _
    | exact ih1 _ _ _ _
    | exact ih2 _ _ _ _ _
    | exact ih3 _ _ _ _ _
    | exact spec_l02Type.mono _ _ _ _
    | exact LeO.none _
    | refine LeO.ite ?_ ?_
    | refine LeO.bind ?_ (fun _ => ?_)
  · intro y0 y1 y2 y3; unfold spec_DescRead.l0
    repeat' first
    | (with_reducible exact ih0 _ _)
    | (with_reducible exact ih1 _ _ _ _)
    | (with_reducible exact ih2 _ _ _ _ _)
    | (with_reducible exact ih3 _ _ _ _ _)
    | (with_reducible exact spec_l02Type.mono _ _ _ _)
    | (with_reducible exact LeO.refl _)
    | (with_reducible exact LeO.none _)
    | (with_reducible refine LeO.ite ?_ ?_)
    | (with_reducible refine LeO.bind ?_ (fun _ => ?_))
    | exact ih0 _ _
    | exact ih1 _ _ _ _
    | exact ih2 _ _ _ _ _
    | exact ih3 _ _ _ _ _
    | exact spec_l02Type.mono _ _ _ _
    | exact LeO.none _
    | refine LeO.ite ?_ ?_
    | refine LeO.bind ?_ (fun _ => ?_)
  · intro y0 y1 y2 y3 y4; unfold spec_DescRead.j2
    repeat' first
    | (with_reducible exact ih0 _ _)
    | (with_reducible exact ih1 _ _ _ _)
    | (with_reducible exact ih2 _ _ _ _ _)
    | (with_reducible exact ih3 _ _ _ _ _)
    | (with_reducible exact spec_l02Type.mono _ _ _ _)
    | (with_reducible exact LeO.refl _)
    | (with_reducible exact LeO.none _)
    | (with_reducible refine LeO.ite ?_ ?_)
    | (with_reducible refine LeO.bind ?_ (fun _ => ?_))
    | exact ih0 _ _
    | exact ih1 _ _ _ _
    | exact ih2 _ _ _ _ _
    | exact ih3 _ _ _ _ _
    | exact spec_l02Type.mono _ _ _ _
    | exact LeO.none _
    | refine LeO.ite ?_ ?_
    | refine LeO.bind ?_ (fun _ => ?_)
  · intro y0 y1 y2 y3 y4; unfold spec_DescRead.j3
    repeat' first
    | (with_reducible exact ih0 _ _)
    | (with_reducible exact ih1 _ _ _ _)
    | (with_reducible exact ih2 _ _ _ _ _)
    | (with_reducible exact ih3 _ _ _ _ _)
    | (with_reducible exact spec_l02Type.mono _ _ _ _)
    | (with_reducible exact LeO.refl _)
    | (with_reducible exact LeO.none _)
    | (with_reducible refine LeO.ite ?_ ?_)
    | (with_reducible refine LeO.bind ?_ (fun _ => ?_))
    | exact ih0 _ _
    | exact ih1 _ _ _ _
    | exact ih2 _ _ _ _ _
    | exact ih3 _ _ _ _ _
    | exact spec_l02Type.mono _ _ _ _
    | exact LeO.none _
    | refine LeO.ite ?_ ?_
    | refine LeO.bind ?_ (fun _ => ?_)
theorem spec_DescRead.mono : ∀ a0 k, LeO (spec_DescRead.f k a0) (spec_DescRead.f (k + 1) a0) := by
 intro a0 k; obtain ⟨ih0, ih1, ih2, ih3⟩ := spec_DescRead.mono_l k; unfold spec_DescRead.f
 repeat' first
  | (with_reducible exact ih0 _ _)
  | (with_reducible exact ih1 _ _ _ _)
  | (with_reducible exact ih2 _ _ _ _ _)
  | (with_reducible exact ih3 _ _ _ _ _)
  | (with_reducible exact spec_l02Type.mono _ _ _ _)
  | (with_reducible exact LeO.refl _)
  | (with_reducible exact LeO.none _)
  | (with_reducible refine LeO.ite ?_ ?_)
  | (with_reducible refine LeO.bind ?_ (fun _ => ?_))
  | exact ih0 _ _
  | exact ih1 _ _ _ _
  | exact ih2 _ _ _ _ _
  | exact ih3 _ _ _ _ _
  | exact spec_l02Type.mono _ _ _ _
  | exact LeO.none _
  | refine LeO.ite ?_ ?_
  | refine LeO.bind ?_ (fun _ => ?_)
def spec_DescRead.T13 : Bool × List (List Nat × List Nat) := (true, [([], []), ([0], [0]), ([], []), ([], []), ([], []), ([2, 3, 4], [2, 3, 4]), ([5], [5]), ([1, 6], [1, 6]), ([0, 1, 2, 3, 4, 5, 6, 7], []), ([8, 7, 7, 0, 1, 2, 3, 4, 5, 6, 7], [7, 8])])
def spec_DescRead.B13 : List Nat := [0, 1, 0, 0, 0, 28, 60, 127, 255, 511]
theorem spec_DescRead.tab13 : rtab .any (opsOf Tryz.f44 13) = spec_DescRead.T13 := by kernel_rfl
theorem spec_DescRead.bits13 : waitsOk spec_DescRead.T13.2 spec_DescRead.B13 = true := by kernel_rfl
set_option maxHeartbeats 8000000 in
set_option maxRecDepth 100000 in
theorem spec_DescRead.calls (k : Nat) (a0 : ByteArray) (r1 : List ByteArray) (r2 : ByteArray) (r3 : Int) (r4 : Int) (w : World) (h : spec_DescRead.f k a0 = some (r1, r2, r3, r4)) :
 Calls Tryz.prog 44 #[.string a0] w fun e w' => ∃ v0_ : Value, e = .returned (.agg #[v0_, .string r2, .int .i64 r3, .int .i64 r4]) ∧ Kd.R Kd.string 9 w' w.heap.size (fun _ => True) v0_ r1 ∧ Below w.heap.size w w' := by
 have hu76 := Tryz.underlying76; have hu74 := Tryz.underlying74; have HB := Zm (Below.refl w.heap.size w); have H : (if (a0.size : Int) > 20000 then (some (([] : List ByteArray), (⟨#[]⟩ : ByteArray), 0, 2)) else (if (a0.size : Int) = 0 then (spec_DescRead.j0 k a0 true) else (if 0 < (a0.size : Int) then (spec_DescRead.j0 k a0 ((bt a0 0) != 40)) else (none)))) = some (r1, r2, r3, r4) := h; clear h; have HC2 := Zm H; clear H; go_enter Tryz.func44, Tryz.ntmps44; go_upto_if 11 with (first | ((with_reducible refine gate_dst (N := 2) rfl ?_); refine box_event ?hg (N := 2) ?hd (cs := #[.slice none 0 0, .string (⟨#[]⟩ : ByteArray), .int .i64 0, .int .i64 0]) (t := 76) ?hr ?_; (case hd => rfl); (case hg => rfl); (case hr => first | (go_simp; done) | (go_simp; rfl)); intro gb450 hg w3 hbox hb; have n0_ := (⟨Zm (Zbt (bk HB.out) hb), Zm (hbox), Zm ((by rw [hg]; exact (Zbz (bk HB.out)) : w.heap.size ≤ gb450)), Zm ((by rw [hg]; exact (Zbz (bk HB.out)) : w.heap.size ≤ gb450))⟩ : _ ∧ _ ∧ _ ∧ _); clear HB; obtain ⟨HB, BK450, GW450, GE450⟩ := n0_; clear hb hbox hg)); have H := HC2.out; clear HC2; by_cases c4 : (a0.size : Int) > 20000; rotate_left
 · rw [if_neg c4] at H; have c4b0 : decide (20000 < (a0.size : Int)) = false := decide_eq_false c4; have c4b1 : decide (20000 < a0.size) = false := decide_eq_false (by omega); clear c4; (first | rw [c4b0] | (simp only [i64_w, i32_w]; rw [c4b0]) | skip); have HC6 := Zm H; clear H; go_upto_region 3 with (fail); go_cut [20] (fun v20 wc => ∃ (kq : Nat) (x20_5 : Bool), v20 = .bool x20_5 ∧ Aside0 (spec_DescRead.j0 kq a0 x20_5 = some (r1, r2, r3, r4)) ∧ Aside0 (kq ≤ k) ∧ Aside0 (wc.heap[gb450]? = some (.cells #[(.slice none 0 0), .string (⟨#[]⟩ : ByteArray), .int .i64 0, .int .i64 0] 76 (0, 0))) ∧ Aside0 (Below w.heap.size w wc))
   case first =>
    have H := HC6.out; clear HC6; by_cases c7 : (a0.size : Int) = 0; rotate_left
    · rw [if_neg c7] at H; have c7b0 : ((a0.size : Int) == 0) = false := beq_eq_false_iff_ne.mpr c7; have c7b1 : ((a0.size : Int) != 0) = true := bne_iff_ne.mpr c7; (first | rw [c7b0] | (simp only [i64_w, i32_w]; rw [c7b0]) | skip); by_cases c8 : 0 < (a0.size : Int); rotate_left
      · rw [if_neg c8] at H; exact absurd H (by simp)
      rw [if_pos c8] at H; have c8b0 := decide_eq_true c8; have c8b1 : decide (0 < a0.size) = true := decide_eq_true (by omega); clear c8; have H' := Zm H; clear H; have p9 : 0 ≤ (0 : Int) := (by omega); have q9 : 0 < a0.size := (by have : (0 : Int) < (a0.size : Int) := of_decide_eq_true (by first | (with_reducible assumption) | assumption); omega); have hx9 : ∀ h : 0 < a0.size, ((a0[0]'h).toNat : Int) = bt a0 0 := bt_at a0 0; clear p9; have qi9 : (0 < (a0.size : Int)) = True := eq_true (of_decide_eq_true (by first | (with_reducible assumption) | assumption)); replace q9 := eq_true q9; go_wp2; go_meet
      case rel => exact ⟨_, (((bt a0 0) != 40)), (by first | rfl | (simp; done) | (simp [*]; done)), H', ⟨by first | omega | exact Nat.le_refl _⟩, ⟨pk BK450.out⟩, ⟨bk HB.out⟩⟩
    rw [if_pos c7] at H; have c7b0 : ((a0.size : Int) == 0) = true := beq_iff_eq.mpr c7; have c7b1 : ((a0.size : Int) != 0) = false := bne_eq_false_iff_eq.mpr c7; clear c7; (first | rw [c7b0] | (simp only [i64_w, i32_w]; rw [c7b0]) | skip); have H' := Zm H; clear H; go_wp2; go_meet
    case rel => exact ⟨_, (true), (by first | rfl | (simp; done) | (simp [*]; done)), H', ⟨by first | omega | exact Nat.le_refl _⟩, ⟨pk BK450.out⟩, ⟨bk HB.out⟩⟩
   case rest =>
    clear HC6; (try clear c4); (try clear c4b0); (try clear c4b1); obtain ⟨kq, x20_5, rfl, HA, HJ5, BK450, HB⟩ := hcut
    cases kq with
    | zero => exact absurd HA.out (by simp [spec_DescRead.j0])
    | succ kj5 =>
     have H := HA.out; clear HA; simp only [spec_DescRead.j0] at H; by_cases c10 : x20_5 = true; rotate_left
     · replace c10 := Bool.eq_false_iff.mpr c10; subst c10; rw [if_neg (show ¬ (false = true) by decide)] at H; have H' := Zm H; clear H; go_wp2_with (first | ((with_reducible refine gate_dst (N := 3) rfl ?_); refine box_event ?hg (N := 3) ?hd (cs := #[.slice none 0 0, .string (⟨#[]⟩ : ByteArray)]) (t := 74) ?hr ?_; (case hd => rfl); (case hg => rfl); (case hr => first | (go_simp; done) | (go_simp; rfl)); intro gb457 hg w15 hbox hb; have n0_ := (⟨Zm (Zkb (pk BK450.out) hb), Zm (Zbt (bk HB.out) hb), Zm (hbox), Zm ((by rw [hg]; exact (Zbz (bk HB.out)) : w.heap.size ≤ gb457)), Zm ((by rw [hg]; exact (Zbz (bk HB.out)) : w.heap.size ≤ gb457)), Zm ((by rw [hg]; exact Nat.ne_of_lt (blk_lt (pk BK450.out)) : gb450 ≠ gb457)), Zm ((by rw [hg]; exact Nat.ne_of_gt (blk_lt (pk BK450.out)) : gb457 ≠ gb450))⟩ : _ ∧ _ ∧ _ ∧ _ ∧ _ ∧ _ ∧ _); clear BK450 HB; obtain ⟨BK450, HB, BK457, GW457, GE457, NB450_457, NB457_450⟩ := n0_; clear hb hbox hg; have hnb16 := NB457_450.out; have hnc16 := NB450_457.out; obtain ⟨hcz17_0, hcz17_1, hfz17_0, hfz17_1⟩ := cf2 BK457.out)); go_loopg [4] kj5 (fun kq v4 w' => ∃ (x4_2 : Int) (x451001_2 : ByteArray) (x451002_2 : Int) (x451003_2 : Int) (x458000_2 : List ByteArray) (u458000 : Value), v4 = .int .i64 x4_2 ∧ Aside0 (spec_DescRead.l0 kq a0 x4_2 x458000_2 (⟨#[]⟩ : ByteArray) = some (r1, r2, r3, r4)) ∧ Aside0 (kq ≤ kj5) ∧ Aside0 (Kd.R Kd.string 9 w' w.heap.size (fun _ => True) u458000 x458000_2) ∧ Aside0 (w'.heap[gb450]? = some (.cells #[(.slice none 0 0), .string x451001_2, .int .i64 x451002_2, .int .i64 x451003_2] 76 (0, 0))) ∧ Aside0 (w'.heap[gb457]? = some (.cells #[u458000, .string (⟨#[]⟩ : ByteArray)] 74 (0, 0))) ∧ Aside0 (Below w.heap.size w w'))
       case atStart => exact ⟨(1), ((⟨#[]⟩ : ByteArray)), (0), (0), (([] : List ByteArray)), (.slice none 0 0), (by first | rfl | (simp; done) | (simp [*]; done)), H', ⟨Nat.le_refl _⟩, ⟨by first | exact Kd.R_nil _ _ _ _ _ | exact Kd.N_nil _ _ _ _ _ | exact Kd.V_nil _ _ _ _ _ | exact Kd.Q_nil _ _ _ _ _ | exact Kd.S_nil _ _ _ _ _⟩, ⟨zc_⟩, ⟨zc_⟩, ⟨hb_⟩⟩
       case round =>
        clear H'; (try clear c4); (try clear c4b0); (try clear c4b1); (try clear c10); (try clear hcz17_0); (try clear hcz17_1); (try clear hfz17_0); (try clear hfz17_1); obtain ⟨x4_2, x451001_2, x451002_2, x451003_2, x458000_2, u458000, rfl, HA, HK2, HO_458000, BK450, BK457, HB⟩ := hrel
        cases gk with
        | zero => exact absurd HA.out (by simp [spec_DescRead.l0])
        | succ k2 =>
         have H := HA.out; clear HA; simp only [spec_DescRead.l0] at H; have HC18 := Zm H; clear H; go_upto_region 7 with (fail); go_cut [32] (fun v32 wc => ∃ (kq : Nat) (x32_17 : Bool), v32 = .bool x32_17 ∧ Aside0 (spec_DescRead.j2 kq a0 x4_2 x32_17 x458000_2 (⟨#[]⟩ : ByteArray) = some (r1, r2, r3, r4)) ∧ Aside0 (kq ≤ k2) ∧ Aside0 (Kd.R Kd.string 9 wc w.heap.size (fun _ => True) u458000 x458000_2) ∧ Aside0 (wc.heap[gb450]? = some (.cells #[(.slice none 0 0), .string x451001_2, .int .i64 x451002_2, .int .i64 x451003_2] 76 (0, 0))) ∧ Aside0 (wc.heap[gb457]? = some (.cells #[u458000, .string (⟨#[]⟩ : ByteArray)] 74 (0, 0))) ∧ Aside0 (Below w.heap.size w wc))
         case first =>
          have H := HC18.out; clear HC18; by_cases c19 : x4_2 < (a0.size : Int); rotate_left
          · rw [if_neg c19] at H; have c19b0 := decide_eq_false c19; clear c19; (first | rw [c19b0] | (simp only [i64_w, i32_w]; rw [c19b0]) | skip); have H' := Zm H; clear H; go_wp2; go_meet
            case rel => exact ⟨_, (false), (by first | rfl | (simp; done) | (simp [*]; done)), H', ⟨by have := HJ5.out; have := HK2.out; first | omega | exact Nat.le_refl _⟩, ⟨by (with_reducible repeat (first | apply Kd.R_alloc | apply Kd.R_drewN | apply Kd.R_drew)); exact HO_458000.out⟩, ⟨pk BK450.out⟩, ⟨pk BK457.out⟩, ⟨bk HB.out⟩⟩
          rw [if_pos c19] at H; have c19b0 := decide_eq_true c19; clear c19; (first | rw [c19b0] | (simp only [i64_w, i32_w]; rw [c19b0]) | skip); by_cases c20 : 0 ≤ x4_2; rotate_left
          · rw [if_neg c20] at H; exact absurd H (by simp)
          rw [if_pos c20] at H; have c20b0 := decide_eq_true c20; clear c20; have H' := Zm H; clear H; have p21 : 0 ≤ (x4_2 : Int) := of_decide_eq_true (by first | (with_reducible assumption) | assumption); have q21 : x4_2 < (a0.size : Int) := of_decide_eq_true (by first | (with_reducible assumption) | assumption); have hx21 := bt_at a0 x4_2; replace p21 := eq_true p21; replace q21 := eq_true q21; go_wp2; go_meet
          case rel => exact ⟨_, (((bt a0 x4_2) != 41)), (by first | rfl | (simp; done) | (simp [*]; done)), H', ⟨by have := HJ5.out; have := HK2.out; first | omega | exact Nat.le_refl _⟩, ⟨by (with_reducible repeat (first | apply Kd.R_alloc | apply Kd.R_drewN | apply Kd.R_drew)); exact HO_458000.out⟩, ⟨pk BK450.out⟩, ⟨pk BK457.out⟩, ⟨bk HB.out⟩⟩
         case rest =>
          clear HC18; (try clear c4); (try clear c4b0); (try clear c4b1); (try clear c10); (try clear hcz17_0); (try clear hcz17_1); (try clear hfz17_0); (try clear hfz17_1); obtain ⟨kq, x32_17, rfl, HA, HJ17, HO_458000, BK450, BK457, HB⟩ := hcut
          cases kq with
          | zero => exact absurd HA.out (by simp [spec_DescRead.j2])
          | succ kj17 =>
           have H := HA.out; clear HA; simp only [spec_DescRead.j2] at H; by_cases c22 : x32_17 = true; rotate_left
           · replace c22 := Bool.eq_false_iff.mpr c22; subst c22; rw [if_neg (show ¬ (false = true) by decide)] at H; by_cases c49 : x4_2 = (a0.size : Int); rotate_left
             · rw [if_neg c49] at H; have c49b0 : (x4_2 == (a0.size : Int)) = false := beq_eq_false_iff_ne.mpr c49; have c49b1 : (x4_2 != (a0.size : Int)) = true := bne_iff_ne.mpr c49; have HC54 := Zm H; clear H; go_upto_region 18 with (fail); go_cut [76] (fun v76 wc => ∃ (kq : Nat) (x76_53 : Bool), v76 = .bool x76_53 ∧ Aside0 (spec_DescRead.j3 kq a0 (wrap64 (x4_2 + 1)) x76_53 x458000_2 (⟨#[]⟩ : ByteArray) = some (r1, r2, r3, r4)) ∧ Aside0 (kq ≤ kj17) ∧ Aside0 (Kd.R Kd.string 9 wc w.heap.size (fun _ => True) u458000 x458000_2) ∧ Aside0 (wc.heap[gb450]? = some (.cells #[(.slice none 0 0), .string x451001_2, .int .i64 x451002_2, .int .i64 x451003_2] 76 (0, 0))) ∧ Aside0 (wc.heap[gb457]? = some (.cells #[u458000, .string (⟨#[]⟩ : ByteArray)] 74 (0, 0))) ∧ Aside0 (Below w.heap.size w wc))
               case first =>
                have H := HC54.out; clear HC54; by_cases c55 : (wrap64 (x4_2 + 1)) < (a0.size : Int); rotate_left
                · rw [if_neg c55] at H; have c55b0 := decide_eq_false c55; (try (have c55b1 : decide ((IntKind.i64.wrap (x4_2 + 1)) < (a0.size : Int)) = false := by simp only [i64_w]; exact (decide_eq_false c55))); clear c55; (first | rw [c55b0] | (simp only [i64_w, i32_w]; rw [c55b0]) | skip); have H' := Zm H; clear H; go_wp2; go_meet
                  case rel => exact ⟨_, (false), (by first | rfl | (simp; done) | (simp [*]; done)), H', ⟨by have := HJ5.out; have := HK2.out; have := HJ17.out; first | omega | exact Nat.le_refl _⟩, ⟨by (with_reducible repeat (first | apply Kd.R_alloc | apply Kd.R_drewN | apply Kd.R_drew)); exact HO_458000.out⟩, ⟨pk BK450.out⟩, ⟨pk BK457.out⟩, ⟨bk HB.out⟩⟩
                rw [if_pos c55] at H; have c55b0 := decide_eq_true c55; (try (have c55b1 : decide ((IntKind.i64.wrap (x4_2 + 1)) < (a0.size : Int)) = true := by simp only [i64_w]; exact (decide_eq_true c55))); clear c55; (first | rw [c55b0] | (simp only [i64_w, i32_w]; rw [c55b0]) | skip); obtain ⟨ji56, hji56⟩ : ∃ j_ : Int, (wrap64 (x4_2 + 1)) = j_ := ⟨_, rfl⟩; replace H : (if 0 ≤ (ji56) then (spec_DescRead.j3 kj17 a0 ji56 ((bt a0 (ji56)) == 86) x458000_2 (⟨#[]⟩ : ByteArray)) else (none)) = some (r1, r2, r3, r4) := by first | (rw [hji56] at H; exact H) | (simp only [hji56] at H ⊢; exact H)
                (try rw [hji56] at c55b0); have hji56w : (IntKind.i64.wrap (x4_2 + 1)) = ji56 := (i64_w _).trans hji56; by_cases c57 : 0 ≤ (ji56); rotate_left
                · rw [if_neg c57] at H; exact absurd H (by simp)
                rw [if_pos c57] at H; have c57b0 := decide_eq_true c57; clear c57; have H' := Zm H; clear H; have p58 : 0 ≤ ((ji56) : Int) := of_decide_eq_true (by first | (with_reducible assumption) | assumption); have q58 : (ji56) < (a0.size : Int) := of_decide_eq_true (by first | (with_reducible assumption) | assumption); have hx58 := bt_at a0 (ji56); replace p58 := eq_true p58; replace q58 := eq_true q58; go_wp2; go_meet
                case rel => exact ⟨_, (((bt a0 (ji56)) == 86)), (by first | rfl | (simp; done) | (simp only [← hji56] <;> (first | rfl | simp)) | (simp [*]; done)), (by first | (with_reducible exact H') | exact H' | (rw [hji56]; exact H') | (simp only [hji56] at H' ⊢; exact H')), ⟨by have := HJ5.out; have := HK2.out; have := HJ17.out; first | omega | exact Nat.le_refl _⟩, ⟨by (with_reducible repeat (first | apply Kd.R_alloc | apply Kd.R_drewN | apply Kd.R_drew)); exact HO_458000.out⟩, ⟨pk BK450.out⟩, ⟨pk BK457.out⟩, ⟨bk HB.out⟩⟩
               case rest =>
                clear HC54; (try clear c4); (try clear c4b0); (try clear c4b1); (try clear c10); (try clear c22); (try clear c49); (try clear c49b0); (try clear c49b1); (try clear hcz17_0); (try clear hcz17_1); (try clear hfz17_0); (try clear hfz17_1); obtain ⟨kq, x76_53, rfl, HA, HJ53, HO_458000, BK450, BK457, HB⟩ := hcut
                cases kq with
                | zero => exact absurd HA.out (by simp [spec_DescRead.j3])
                | succ kj53 =>
                 have H := HA.out; clear HA; simp only [spec_DescRead.j3] at H; by_cases c59 : x76_53 = true; rotate_left
                 · replace c59 := Bool.eq_false_iff.mpr c59; subst c59; rw [if_neg (show ¬ (false = true) by decide)] at H; replace H := Option.bind_eq_some_iff.mp H; obtain ⟨⟨t487, t488⟩, A710, H⟩ := H; replace H : (if t488 = true then (if 0 ≤ (wrap64 (x4_2 + 1)) then (if (wrap64 (x4_2 + 1)) ≤ t487 then (if t487 ≤ (a0.size : Int) then (if t487 < (a0.size : Int) then ((spec_l02Wrong.f t487).bind fun bt489 => (some (bt489.1, bt489.2.1, bt489.2.2.1, bt489.2.2.2))) else (some (x458000_2, a0.extract ((wrap64 (x4_2 + 1)) : Int).toNat (t487 : Int).toNat, 0, 0))) else (none)) else (none)) else (none)) else ((spec_l02Wrong.f t487).bind fun bt495 => (some (bt495.1, bt495.2.1, bt495.2.2.1, bt495.2.2.2)))) = some (r1, r2, r3, r4) := H; have A71 := Zm A710; clear A710; have HC72 := Zm H; clear H; go_upto_if 87 with (first | ((with_reducible refine gate_callee (f := 85) rfl ?_); refine ge_ (some 83) Tryz.func85 #[.string a0, .int .i64 (wrap64 (x4_2 + 1)), .bool false] ?_; (with_reducible refine (spec_l02Type.calls _ _ _ _ _ _ _ A71.out).mono ?_); rintro e w' ⟨rfl, ⟨nd, rfl⟩⟩; refine ⟨_, rfl, ?_⟩)); have H := HC72.out; clear HC72; by_cases c73 : t488 = true; rotate_left
                   · replace c73 := Bool.eq_false_iff.mpr c73; subst c73; rw [if_neg (show ¬ (false = true) by decide)] at H; replace H := Option.bind_eq_some_iff.mp H; obtain ⟨⟨t495, t498, t499, t500⟩, A890, H⟩ := H; replace H : (some (t495, t498, t499, t500)) = some (r1, r2, r3, r4) := H; have A89 := Zm A890; clear A890; simp only [Option.some.injEq, Prod.mk.injEq] at H; obtain ⟨rfl, rfl, rfl, rfl⟩ := H; (try clear HO_458000); (try clear BK457); go_wp2_with (first | ((with_reducible refine gate_callee (f := 86) rfl ?_); refine ge_ (some 89) Tryz.func86 #[.int .i64 t487] ?_; (with_reducible refine (spec_l02Wrong.calls _ _ _ _ _ _ A89.out).mono ?_); rintro e w90 ⟨v496, rfl, ho0, hb⟩; refine ⟨_, rfl, ?_⟩; have n0_ := (⟨Zm (Kd.R_lower ho0 (Zbz (bk HB.out))), Zm (Zkb (pk BK450.out) hb), Zm (Zbt (bk HB.out) hb)⟩ : _ ∧ _ ∧ _); clear BK450 HB; obtain ⟨HO497, BK450, HB⟩ := n0_; (try clear hb); (try clear hb2); (try clear hk); (try clear hi); (try clear ho0); obtain ⟨Ao91, co91, eo91⟩ := Kd.R_slice HO497.out; subst eo91; obtain ⟨hcz92_0, hcz92_1, hcz92_2, hcz92_3, hfz92_0, hfz92_1, hfz92_2, hfz92_3⟩ := cf4 BK450.out)); refine bodyPost_ret (results_cell_row rfl _ _ gb450 76 #[.slice Ao91 t495.length co91, .string t498, .int .i64 t499, .int .i64 t500] (0, 0) _ rfl zc_ Tryz.underlying76 rfl (by kernel_rfl)) rfl ?_; exact ⟨_, by first | rfl | (simp [*] <;> rfl), by (with_reducible repeat (first | apply Kd.R_alloc | apply Kd.R_drewN | apply Kd.R_drew)); exact Kd.R_mono (Kd.R_far (p := ⟨gb450, 3, none⟩) (Kd.R_far (p := ⟨gb450, 2, none⟩) (Kd.R_far (p := ⟨gb450, 1, none⟩) (Kd.R_far (p := ⟨gb450, 0, none⟩) (Kd.R_types HO497.out BK450.out (by decide)) (fun _ hk => hk.2) (.slice Ao91 t495.length co91)) (fun _ hk => hk.2) (.string t498)) (fun _ hk => hk.2) (.int .i64 t499)) (fun _ hk => hk.2) (.int .i64 t500)) (fun _ hk => trivial), hb_⟩

                   subst c73
                   rw [if_pos rfl] at H
                   obtain ⟨ji74, hji74⟩ : ∃ j_ : Int, (wrap64 (x4_2 + 1)) = j_ := ⟨_, rfl⟩
                   replace H : (if 0 ≤ (ji74) then (if (ji74) ≤ t487 then (if t487 ≤ (a0.size : Int) then (if t487 < (a0.size : Int) then ((spec_l02Wrong.f t487).bind fun bt489 => (some (bt489.1, bt489.2.1, bt489.2.2.1, bt489.2.2.2))) else (some (x458000_2, a0.extract ((ji74) : Int).toNat (t487 : Int).toNat, 0, 0))) else (none)) else (none)) else (none)) = some (r1, r2, r3, r4) := by first | (rw [hji74] at H; exact H) | (simp only [hji74] at H ⊢; exact H)
                   have hji74w : (IntKind.i64.wrap (x4_2 + 1)) = ji74 := (i64_w _).trans hji74
                   by_cases c75 : 0 ≤ (ji74)
                   rotate_left
                   · rw [if_neg c75] at H
                     exact absurd H (by simp)
                   rw [if_pos c75] at H
                   have c75b0 := eq_true c75
                   have c75b1 := decide_eq_true c75
                   clear c75
                   by_cases c76 : (ji74) ≤ t487
                   rotate_left
                   · rw [if_neg c76] at H
                     exact absurd H (by simp)
                   rw [if_pos c76] at H
                   have c76b0 := eq_true c76
                   have c76b1 := decide_eq_true c76
                   clear c76
                   by_cases c77 : t487 ≤ (a0.size : Int)
                   rotate_left
                   · rw [if_neg c77] at H
                     exact absurd H (by simp)
                   rw [if_pos c77] at H
                   have c77b0 := eq_true c77
                   have c77b1 := decide_eq_true c77
                   clear c77
                   by_cases c78 : t487 < (a0.size : Int)
                   rotate_left
                   · rw [if_neg c78] at H
                     have c78b0 := decide_eq_false c78
                     clear c78
                     (first | rw [c78b0] | (simp only [i64_w, i32_w]; rw [c78b0]) | skip)
                     simp only [Option.some.injEq, Prod.mk.injEq] at H
                     obtain ⟨rfl, rfl, rfl, rfl⟩ := H
                     have hnb85 := NB457_450.out
                     have hnc85 := NB450_457.out
                     obtain ⟨hcz86_0, hcz86_1, hfz86_0, hfz86_1⟩ := cf2 BK457.out
                     obtain ⟨Ao87, co87, eo87⟩ := Kd.R_slice HO_458000.out
                     subst eo87
                     obtain ⟨hcz88_0, hcz88_1, hcz88_2, hcz88_3, hfz88_0, hfz88_1, hfz88_2, hfz88_3⟩ := cf4 BK450.out
                     go_wp2
                     refine bodyPost_ret (results_cell_row rfl _ _ gb450 76 #[.slice Ao87 x458000_2.length co87, .string (a0.extract ((ji74) : Int).toNat (t487 : Int).toNat), .int .i64 0, .int .i64 0] (0, 0) _ rfl zc_ Tryz.underlying76 rfl (by kernel_rfl)) rfl ?_
                     exact ⟨_, by first | rfl | (simp [errW_none, errW_some] <;> rfl) | (simp only [← hji74]; first | rfl | (simp [errW_none, errW_some] <;> rfl)) | (simp [*, errW_none, errW_some] <;> rfl), by (with_reducible repeat (first | apply Kd.R_alloc | apply Kd.R_drewN | apply Kd.R_drew)); exact Kd.R_mono (Kd.R_far (p := ⟨gb450, 3, none⟩) (Kd.R_far (p := ⟨gb450, 2, none⟩) (Kd.R_far (p := ⟨gb450, 1, none⟩) (Kd.R_far (p := ⟨gb450, 0, none⟩) (Kd.R_far (p := ⟨gb457, 1, none⟩) (Kd.R_types (Kd.R_types HO_458000.out BK457.out (by decide)) BK450.out (by decide)) (fun _ hk => hk.1.2) (.string (a0.extract ((ji74) : Int).toNat (t487 : Int).toNat))) (fun _ hk => hk.2) (.slice Ao87 x458000_2.length co87)) (fun _ hk => hk.2) (.string (a0.extract ((ji74) : Int).toNat (t487 : Int).toNat))) (fun _ hk => hk.2) (.int .i64 0)) (fun _ hk => hk.2) (.int .i64 0)) (fun _ hk => trivial), hb_⟩
                   rw [if_pos c78] at H
                   have c78b0 := decide_eq_true c78
                   clear c78
                   (first | rw [c78b0] | (simp only [i64_w, i32_w]; rw [c78b0]) | skip)
                   replace H := Option.bind_eq_some_iff.mp H
                   obtain ⟨⟨t489, t492, t493, t494⟩, A790, H⟩ := H
                   replace H : (some (t489, t492, t493, t494)) = some (r1, r2, r3, r4) := H
                   have A79 := Zm A790
                   clear A790
                   simp only [Option.some.injEq, Prod.mk.injEq] at H
                   obtain ⟨rfl, rfl, rfl, rfl⟩ := H
                   have hnb80 := NB457_450.out
                   have hnc80 := NB450_457.out
                   obtain ⟨hcz81_0, hcz81_1, hfz81_0, hfz81_1⟩ := cf2 BK457.out
                   go_wp2_with (first | ((with_reducible refine gate_callee (f := 86) rfl ?_); refine ge_ (some 101) Tryz.func86 #[.int .i64 t487] ?_; (with_reducible refine (spec_l02Wrong.calls _ _ _ _ _ _ A79.out).mono ?_); rintro e w82 ⟨v490, rfl, ho0, hb⟩; refine ⟨_, rfl, ?_⟩; have n0_ := (⟨Zm (Kd.R_elder' (by (with_reducible repeat (first | apply Kd.R_alloc | apply Kd.R_drewN | apply Kd.R_drew)); exact (Kd.R_mono (Kd.R_far (p := ⟨gb457, 1, none⟩) (Kd.R_types HO_458000.out BK457.out (by decide)) (fun _ hk => hk.2) (.string (a0.extract ((ji74) : Int).toNat (t487 : Int).toNat))) (fun _ h_ => h_.1))) (Kd.R_base ho0) hb), Zm (Kd.R_lower (Kd.R_new' ho0 (Kd.R_lt (by (with_reducible repeat (first | apply Kd.R_alloc | apply Kd.R_drewN | apply Kd.R_drew)); exact (Kd.R_mono (Kd.R_far (p := ⟨gb457, 1, none⟩) (Kd.R_types HO_458000.out BK457.out (by decide)) (fun _ hk => hk.2) (.string (a0.extract ((ji74) : Int).toNat (t487 : Int).toNat))) (fun _ h_ => h_.1))))) (Zbz hb_)), Zm (Zkb (g := gb450) (o := .cells #[.slice none 0 0, .string x451001_2, .int .i64 x451002_2, .int .i64 x451003_2] 76 (0, 0)) zc_ hb), Zm (Zkb (g := gb457) (o := .cells #[u458000, .string (a0.extract ((ji74) : Int).toNat (t487 : Int).toNat)] 74 (0, 0)) zc_ hb), Zm (Zbt hb_ hb)⟩ : _ ∧ _ ∧ _ ∧ _ ∧ _); clear HO_458000 BK450 BK457 HB; obtain ⟨HO_458000, HO491, BK450, BK457, HB⟩ := n0_; (try clear hb); (try clear hb2); (try clear hk); (try clear hi); (try clear ho0); obtain ⟨Ao83, co83, eo83⟩ := Kd.R_slice HO491.out; subst eo83; obtain ⟨hcz84_0, hcz84_1, hcz84_2, hcz84_3, hfz84_0, hfz84_1, hfz84_2, hfz84_3⟩ := cf4 BK450.out))
                   refine bodyPost_ret (results_cell_row rfl _ _ gb450 76 #[.slice Ao83 t489.length co83, .string t492, .int .i64 t493, .int .i64 t494] (0, 0) _ rfl zc_ Tryz.underlying76 rfl (by kernel_rfl)) rfl ?_
                   exact ⟨_, by first | rfl | (simp [errW_none, errW_some] <;> rfl) | (simp only [← hji74]; first | rfl | (simp [errW_none, errW_some] <;> rfl)) | (simp [*, errW_none, errW_some] <;> rfl), by (with_reducible repeat (first | apply Kd.R_alloc | apply Kd.R_drewN | apply Kd.R_drew)); exact Kd.R_mono (Kd.R_far (p := ⟨gb450, 3, none⟩) (Kd.R_far (p := ⟨gb450, 2, none⟩) (Kd.R_far (p := ⟨gb450, 1, none⟩) (Kd.R_far (p := ⟨gb450, 0, none⟩) (Kd.R_types HO491.out BK450.out (by decide)) (fun _ hk => hk.2) (.slice Ao83 t489.length co83)) (fun _ hk => hk.2) (.string t492)) (fun _ hk => hk.2) (.int .i64 t493)) (fun _ hk => hk.2) (.int .i64 t494)) (fun _ hk => trivial), hb_⟩
                 subst c59
                 rw [if_pos rfl] at H
                 by_cases c60 : (wrap64 ((wrap64 (x4_2 + 1)) + 1)) < (a0.size : Int)
                 rotate_left
                 · rw [if_neg c60] at H
                   have c60b0 := decide_eq_false c60
                   (try (have c60b1 : decide ((IntKind.i64.wrap ((IntKind.i64.wrap (x4_2 + 1)) + 1)) < (a0.size : Int)) = false := by simp only [i64_w]; exact (decide_eq_false c60)))
                   clear c60
                   simp only [Option.some.injEq, Prod.mk.injEq] at H
                   obtain ⟨rfl, rfl, rfl, rfl⟩ := H
                   have hnb67 := NB457_450.out
                   have hnc67 := NB450_457.out
                   obtain ⟨hcz68_0, hcz68_1, hfz68_0, hfz68_1⟩ := cf2 BK457.out
                   obtain ⟨Ao69, co69, eo69⟩ := Kd.R_slice HO_458000.out
                   subst eo69
                   obtain ⟨hcz70_0, hcz70_1, hcz70_2, hcz70_3, hfz70_0, hfz70_1, hfz70_2, hfz70_3⟩ := cf4 BK450.out
                   go_wp2
                   refine bodyPost_ret (results_cell_row rfl _ _ gb450 76 #[.slice Ao69 x458000_2.length co69, .string (⟨#[86]⟩ : ByteArray), .int .i64 0, .int .i64 0] (0, 0) _ rfl zc_ Tryz.underlying76 rfl (by kernel_rfl)) rfl ?_
                   exact ⟨_, by first | rfl | (simp [*] <;> rfl), by (with_reducible repeat (first | apply Kd.R_alloc | apply Kd.R_drewN | apply Kd.R_drew)); exact Kd.R_mono (Kd.R_far (p := ⟨gb450, 3, none⟩) (Kd.R_far (p := ⟨gb450, 2, none⟩) (Kd.R_far (p := ⟨gb450, 1, none⟩) (Kd.R_far (p := ⟨gb450, 0, none⟩) (Kd.R_far (p := ⟨gb457, 1, none⟩) (Kd.R_types (Kd.R_types HO_458000.out BK457.out (by decide)) BK450.out (by decide)) (fun _ hk => hk.1.2) (.string (⟨#[86]⟩ : ByteArray))) (fun _ hk => hk.2) (.slice Ao69 x458000_2.length co69)) (fun _ hk => hk.2) (.string (⟨#[86]⟩ : ByteArray))) (fun _ hk => hk.2) (.int .i64 0)) (fun _ hk => hk.2) (.int .i64 0)) (fun _ hk => trivial), hb_⟩
                 rw [if_pos c60] at H
                 have c60b0 := decide_eq_true c60
                 (try (have c60b1 : decide ((IntKind.i64.wrap ((IntKind.i64.wrap (x4_2 + 1)) + 1)) < (a0.size : Int)) = true := by simp only [i64_w]; exact (decide_eq_true c60)))
                 clear c60
                 replace H := Option.bind_eq_some_iff.mp H
                 obtain ⟨⟨t481, t484, t485, t486⟩, A610, H⟩ := H
                 replace H : (some (t481, t484, t485, t486)) = some (r1, r2, r3, r4) := H
                 have A61 := Zm A610
                 clear A610
                 simp only [Option.some.injEq, Prod.mk.injEq] at H
                 obtain ⟨rfl, rfl, rfl, rfl⟩ := H
                 have hnb62 := NB457_450.out
                 have hnc62 := NB450_457.out
                 obtain ⟨hcz63_0, hcz63_1, hfz63_0, hfz63_1⟩ := cf2 BK457.out
                 go_wp2_with (first | ((with_reducible refine gate_callee (f := 86) rfl ?_); refine ge_ (some 101) Tryz.func86 #[.int .i64 (wrap64 ((wrap64 (x4_2 + 1)) + 1))] ?_; (with_reducible refine (spec_l02Wrong.calls _ _ _ _ _ _ A61.out).mono ?_); rintro e w64 ⟨v482, rfl, ho0, hb⟩; refine ⟨_, rfl, ?_⟩; have n0_ := (⟨Zm (Kd.R_elder' (by (with_reducible repeat (first | apply Kd.R_alloc | apply Kd.R_drewN | apply Kd.R_drew)); exact (Kd.R_mono (Kd.R_far (p := ⟨gb457, 1, none⟩) (Kd.R_types HO_458000.out BK457.out (by decide)) (fun _ hk => hk.2) (.string (⟨#[86]⟩ : ByteArray))) (fun _ h_ => h_.1))) (Kd.R_base ho0) hb), Zm (Kd.R_lower (Kd.R_new' ho0 (Kd.R_lt (by (with_reducible repeat (first | apply Kd.R_alloc | apply Kd.R_drewN | apply Kd.R_drew)); exact (Kd.R_mono (Kd.R_far (p := ⟨gb457, 1, none⟩) (Kd.R_types HO_458000.out BK457.out (by decide)) (fun _ hk => hk.2) (.string (⟨#[86]⟩ : ByteArray))) (fun _ h_ => h_.1))))) (Zbz hb_)), Zm (Zkb (g := gb450) (o := .cells #[.slice none 0 0, .string x451001_2, .int .i64 x451002_2, .int .i64 x451003_2] 76 (0, 0)) zc_ hb), Zm (Zkb (g := gb457) (o := .cells #[u458000, .string (⟨#[86]⟩ : ByteArray)] 74 (0, 0)) zc_ hb), Zm (Zbt hb_ hb)⟩ : _ ∧ _ ∧ _ ∧ _ ∧ _); clear HO_458000 BK450 BK457 HB; obtain ⟨HO_458000, HO483, BK450, BK457, HB⟩ := n0_; (try clear hb); (try clear hb2); (try clear hk); (try clear hi); (try clear ho0); obtain ⟨Ao65, co65, eo65⟩ := Kd.R_slice HO483.out; subst eo65; obtain ⟨hcz66_0, hcz66_1, hcz66_2, hcz66_3, hfz66_0, hfz66_1, hfz66_2, hfz66_3⟩ := cf4 BK450.out))
                 refine bodyPost_ret (results_cell_row rfl _ _ gb450 76 #[.slice Ao65 t481.length co65, .string t484, .int .i64 t485, .int .i64 t486] (0, 0) _ rfl zc_ Tryz.underlying76 rfl (by kernel_rfl)) rfl ?_
                 exact ⟨_, by first | rfl | (simp [*] <;> rfl), by (with_reducible repeat (first | apply Kd.R_alloc | apply Kd.R_drewN | apply Kd.R_drew)); exact Kd.R_mono (Kd.R_far (p := ⟨gb450, 3, none⟩) (Kd.R_far (p := ⟨gb450, 2, none⟩) (Kd.R_far (p := ⟨gb450, 1, none⟩) (Kd.R_far (p := ⟨gb450, 0, none⟩) (Kd.R_types HO483.out BK450.out (by decide)) (fun _ hk => hk.2) (.slice Ao65 t481.length co65)) (fun _ hk => hk.2) (.string t484)) (fun _ hk => hk.2) (.int .i64 t485)) (fun _ hk => hk.2) (.int .i64 t486)) (fun _ hk => trivial), hb_⟩
             rw [if_pos c49] at H
             have c49b0 : (x4_2 == (a0.size : Int)) = true := beq_iff_eq.mpr c49
             have c49b1 : (x4_2 != (a0.size : Int)) = false := bne_eq_false_iff_eq.mpr c49
             clear c49
             replace H := Option.bind_eq_some_iff.mp H
             obtain ⟨⟨t475, t478, t479, t480⟩, A500, H⟩ := H
             replace H : (some (t475, t478, t479, t480)) = some (r1, r2, r3, r4) := H
             have A50 := Zm A500
             clear A500
             simp only [Option.some.injEq, Prod.mk.injEq] at H
             obtain ⟨rfl, rfl, rfl, rfl⟩ := H
             (try clear HO_458000)
             (try clear BK457)
             go_wp2_with (first | ((with_reducible refine gate_callee (f := 86) rfl ?_); refine ge_ (some 64) Tryz.func86 #[.int .i64 x4_2] ?_; (with_reducible refine (spec_l02Wrong.calls _ _ _ _ _ _ A50.out).mono ?_); rintro e w51 ⟨v476, rfl, ho0, hb⟩; refine ⟨_, rfl, ?_⟩; have n0_ := (⟨Zm (Kd.R_lower ho0 (Zbz (bk HB.out))), Zm (Zkb (pk BK450.out) hb), Zm (Zbt (bk HB.out) hb)⟩ : _ ∧ _ ∧ _); clear BK450 HB; obtain ⟨HO477, BK450, HB⟩ := n0_; (try clear hb); (try clear hb2); (try clear hk); (try clear hi); (try clear ho0); obtain ⟨Ao52, co52, eo52⟩ := Kd.R_slice HO477.out; subst eo52; obtain ⟨hcz53_0, hcz53_1, hcz53_2, hcz53_3, hfz53_0, hfz53_1, hfz53_2, hfz53_3⟩ := cf4 BK450.out))
             refine bodyPost_ret (results_cell_row rfl _ _ gb450 76 #[.slice Ao52 t475.length co52, .string t478, .int .i64 t479, .int .i64 t480] (0, 0) _ rfl zc_ Tryz.underlying76 rfl (by kernel_rfl)) rfl ?_
             exact ⟨_, by first | rfl | (simp [*] <;> rfl), by (with_reducible repeat (first | apply Kd.R_alloc | apply Kd.R_drewN | apply Kd.R_drew)); exact Kd.R_mono (Kd.R_far (p := ⟨gb450, 3, none⟩) (Kd.R_far (p := ⟨gb450, 2, none⟩) (Kd.R_far (p := ⟨gb450, 1, none⟩) (Kd.R_far (p := ⟨gb450, 0, none⟩) (Kd.R_types HO477.out BK450.out (by decide)) (fun _ hk => hk.2) (.slice Ao52 t475.length co52)) (fun _ hk => hk.2) (.string t478)) (fun _ hk => hk.2) (.int .i64 t479)) (fun _ hk => hk.2) (.int .i64 t480)) (fun _ hk => trivial), hb_⟩
           subst c22
           rw [if_pos rfl] at H
           by_cases c23 : (x458000_2.length : Int) = 8
           rotate_left
           · rw [if_neg c23] at H
             have c23b0 : ((x458000_2.length : Int) == 8) = false := beq_eq_false_iff_ne.mpr c23
             have c23b1 : ((x458000_2.length : Int) != 8) = true := bne_iff_ne.mpr c23
             replace H := Option.bind_eq_some_iff.mp H
             obtain ⟨⟨t464, t465⟩, A310, H⟩ := H
             replace H : (if t465 = true then (if 0 ≤ x4_2 then (if x4_2 ≤ t464 then (if t464 ≤ (a0.size : Int) then (if x458000_2.length < 8796093022208 then (spec_DescRead.l0 kj17 a0 t464 (x458000_2 ++ [a0.extract (x4_2 : Int).toNat (t464 : Int).toNat]) (⟨#[]⟩ : ByteArray)) else (none)) else (none)) else (none)) else (none)) else ((spec_l02Wrong.f t464).bind fun bt469 => (some (bt469.1, bt469.2.1, bt469.2.2.1, bt469.2.2.2)))) = some (r1, r2, r3, r4) := H
             have A31 := Zm A310
             clear A310
             have HC32 := Zm H
             clear H
             have hnb33 := NB457_450.out
             have hnc33 := NB450_457.out
             obtain ⟨hcz34_0, hcz34_1, hfz34_0, hfz34_1⟩ := cf2 BK457.out
             obtain ⟨Ao35, co35, eo35⟩ := Kd.R_slice HO_458000.out
             subst eo35
             go_upto_if 46 with (first | ((with_reducible refine gate_callee (f := 85) rfl ?_); refine ge_ (some 42) Tryz.func85 #[.string a0, .int .i64 x4_2, .bool false] ?_; (with_reducible refine (spec_l02Type.calls _ _ _ _ _ _ _ A31.out).mono ?_); rintro e w' ⟨rfl, ⟨nd, rfl⟩⟩; refine ⟨_, rfl, ?_⟩))
             have H := HC32.out
             clear HC32
             by_cases c36 : t465 = true
             rotate_left
             · replace c36 := Bool.eq_false_iff.mpr c36
               subst c36
               rw [if_neg (show ¬ (false = true) by decide)] at H
               replace H := Option.bind_eq_some_iff.mp H
               obtain ⟨⟨t469, t472, t473, t474⟩, A450, H⟩ := H
               replace H : (some (t469, t472, t473, t474)) = some (r1, r2, r3, r4) := H
               have A45 := Zm A450
               clear A450
               simp only [Option.some.injEq, Prod.mk.injEq] at H
               obtain ⟨rfl, rfl, rfl, rfl⟩ := H
               (try clear HO_458000)
               (try clear BK457)
               go_wp2_with (first | ((with_reducible refine gate_callee (f := 86) rfl ?_); refine ge_ (some 48) Tryz.func86 #[.int .i64 t464] ?_; (with_reducible refine (spec_l02Wrong.calls _ _ _ _ _ _ A45.out).mono ?_); rintro e w46 ⟨v470, rfl, ho0, hb⟩; refine ⟨_, rfl, ?_⟩; have n0_ := (⟨Zm (Kd.R_lower ho0 (Zbz (bk HB.out))), Zm (Zkb (pk BK450.out) hb), Zm (Zbt (bk HB.out) hb)⟩ : _ ∧ _ ∧ _); clear BK450 HB; obtain ⟨HO471, BK450, HB⟩ := n0_; (try clear hb); (try clear hb2); (try clear hk); (try clear hi); (try clear ho0); obtain ⟨Ao47, co47, eo47⟩ := Kd.R_slice HO471.out; subst eo47; obtain ⟨hcz48_0, hcz48_1, hcz48_2, hcz48_3, hfz48_0, hfz48_1, hfz48_2, hfz48_3⟩ := cf4 BK450.out))
               refine bodyPost_ret (results_cell_row rfl _ _ gb450 76 #[.slice Ao47 t469.length co47, .string t472, .int .i64 t473, .int .i64 t474] (0, 0) _ rfl zc_ Tryz.underlying76 rfl (by kernel_rfl)) rfl ?_
               exact ⟨_, by first | rfl | (simp [*] <;> rfl), by (with_reducible repeat (first | apply Kd.R_alloc | apply Kd.R_drewN | apply Kd.R_drew)); exact Kd.R_mono (Kd.R_far (p := ⟨gb450, 3, none⟩) (Kd.R_far (p := ⟨gb450, 2, none⟩) (Kd.R_far (p := ⟨gb450, 1, none⟩) (Kd.R_far (p := ⟨gb450, 0, none⟩) (Kd.R_types HO471.out BK450.out (by decide)) (fun _ hk => hk.2) (.slice Ao47 t469.length co47)) (fun _ hk => hk.2) (.string t472)) (fun _ hk => hk.2) (.int .i64 t473)) (fun _ hk => hk.2) (.int .i64 t474)) (fun _ hk => trivial), hb_⟩
             subst c36
             rw [if_pos rfl] at H
             by_cases c37 : 0 ≤ x4_2
             rotate_left
             · rw [if_neg c37] at H
               exact absurd H (by simp)
             rw [if_pos c37] at H
             have c37b0 := eq_true c37
             have c37b1 := decide_eq_true c37
             clear c37
             by_cases c38 : x4_2 ≤ t464
             rotate_left
             · rw [if_neg c38] at H
               exact absurd H (by simp)
             rw [if_pos c38] at H
             have c38b0 := eq_true c38
             have c38b1 := decide_eq_true c38
             clear c38
             by_cases c39 : t464 ≤ (a0.size : Int)
             rotate_left
             · rw [if_neg c39] at H
               exact absurd H (by simp)
             rw [if_pos c39] at H
             have c39b0 := eq_true c39
             have c39b1 := decide_eq_true c39
             clear c39
             by_cases c40 : x458000_2.length < 8796093022208
             rotate_left
             · rw [if_neg c40] at H
               exact absurd H (by simp)
             rw [if_pos c40] at H
             have LMc40 := Zm c40
             clear c40
             obtain ⟨y466, hy466⟩ : ∃ y_ : List ByteArray, y_ = (x458000_2 ++ [a0.extract (x4_2 : Int).toNat (t464 : Int).toNat]) := ⟨_, rfl⟩
             replace H : (spec_DescRead.l0 kj17 a0 t464 y466 (⟨#[]⟩ : ByteArray)) = some (r1, r2, r3, r4) := by first | (rw [hy466]; with_reducible exact H) | (have H2_ := (Option.bind_some _ _).symm.trans H; rw [hy466]; with_reducible exact H2_) | (have H2_ := (Option.bind_some _ _).symm.trans H; with_reducible exact H2_) | with_reducible exact H | (rw [hy466]; exact H) | exact H
             have Ny466 := Zm hy466
             clear hy466
             have H' := Zm H
             clear H
             try go_wp2
             (try (rw [drewN_self wc]; generalize hq_ : World.drewN wc _ = wc; have n0_ : Aside0 (Kd.R Kd.string 9 wc w.heap.size (fun _ => True) (.slice Ao35 x458000_2.length co35) x458000_2) := ⟨by rw [← hq_]; exact (by (with_reducible repeat (first | apply Kd.R_alloc | apply Kd.R_drewN | apply Kd.R_drew)); exact HO_458000.out)⟩; have n1_ : Aside0 (wc.heap[gb450]? = some (.cells #[.slice none 0 0, .string x451001_2, .int .i64 x451002_2, .int .i64 x451003_2] 76 (0, 0))) := ⟨by rw [← hq_]; exact (pk BK450.out)⟩; have n2_ : Aside0 (wc.heap[gb457]? = some (.cells #[.slice Ao35 x458000_2.length co35, .string (⟨#[]⟩ : ByteArray)] 74 (0, 0))) := ⟨by rw [← hq_]; exact (pk BK457.out)⟩; have n3_ : Aside0 (Below w.heap.size w wc) := ⟨by rw [← hq_]; exact (bk HB.out)⟩; clear HO_458000 BK450 BK457 HB hq_; have HO_458000 := n0_; have BK450 := n1_; have BK457 := n2_; have HB := n3_; clear n0_ n1_ n2_ n3_))
             have n0_ := (⟨Zm (Kd.R_drew HO_458000.out), Zm (Zkd BK450.out), Zm (Zkd BK457.out), Zm (Zbd HB.out)⟩ : _ ∧ _ ∧ _ ∧ _)
             clear HO_458000 BK450 BK457 HB
             obtain ⟨HO_458000, BK450, BK457, HB⟩ := n0_
             refine start_ (n := 10) (S := fun w' => w'.cell? ⟨gb457, 0, none⟩ = some (.slice Ao35 x458000_2.length co35) ∧ w'.cell? ⟨gb457, 1, none⟩ = some (.string (⟨#[]⟩ : ByteArray))) (ds := [9]) #[false, false, false, false, false, false, false, false, false, false] (by kernel_rfl) rfl rfl ⟨(Zkc BK457.out 0).trans rfl, (Zkc BK457.out 1).trans rfl⟩ (fun hHeld => ?_); refine with_tabW spec_DescRead.tab13 spec_DescRead.bits13 (fun HT_ HW_ => ?_)
             generalize wc.drew = w41 at HO_458000 BK450 BK457 HB hHeld ⊢
             refine pure_ (i := 0) (N := some 49) (v := ?_) (a' := ?_) #[true, false, false, false, false, false, false, false, false, false] rfl rfl (any_of HT_.out (by kernel_rfl)) (fun _ _ _ h => h) (Or.inl ⟨by rfl, ?_⟩) ?_ ?_
             rotate_left
             · intro w'
               go_simp
               with_reducible rfl
             rotate_left
             · simp only [Act.put, List.setIfInBounds_toArray, List.set_cons_zero, List.set_cons_succ, i64_w, i32_w]
               rfl
             refine pure_ (i := 2) (N := some 51) (v := ?_) (a' := ?_) #[true, false, true, false, false, false, false, false, false, false] rfl rfl (any_of HT_.out (by kernel_rfl)) (fun _ _ _ h => h) (Or.inl ⟨by rfl, ?_⟩) ?_ ?_
             rotate_left
             · intro w'
               go_simp
               with_reducible rfl
             rotate_left
             · simp only [Act.put, List.setIfInBounds_toArray, List.set_cons_zero, List.set_cons_succ, i64_w, i32_w]
               rfl
             refine pure_ (i := 3) (N := some 52) (v := ?_) (a' := ?_) #[true, false, true, true, false, false, false, false, false, false] rfl rfl (any_of HT_.out (by kernel_rfl)) (fun _ _ _ h => h) (Or.inl ⟨by rfl, ?_⟩) ?_ ?_
             rotate_left
             · intro w'
               go_simp
               with_reducible rfl
             rotate_left
             · simp only [Act.put, List.setIfInBounds_toArray, List.set_cons_zero, List.set_cons_succ, i64_w, i32_w]
               rfl
             refine pure_ (i := 4) (N := some 53) (v := ?_) (a' := ?_) #[true, false, true, true, true, false, false, false, false, false] rfl rfl (any_of HT_.out (by kernel_rfl)) (fun _ _ _ h => h) (Or.inl ⟨by rfl, ?_⟩) ?_ ?_
             rotate_left
             · intro w'
               go_simp
               with_reducible rfl
             rotate_left
             · simp only [Act.put, List.setIfInBounds_toArray, List.set_cons_zero, List.set_cons_succ, i64_w, i32_w]
               rfl
             refine pure_ (i := 5) (N := some 54) (v := ?_) (a' := ?_) #[true, false, true, true, true, true, false, false, false, false] rfl rfl (any_of HT_.out (by kernel_rfl)) (fun _ _ _ h => h) (Or.inl ⟨by rfl, ?_⟩) ?_ ?_
             rotate_left
             · intro w'
               go_simp
               with_reducible rfl
             rotate_left
             · simp only [Act.put, List.setIfInBounds_toArray, List.set_cons_zero, List.set_cons_succ, i64_w, i32_w]
               rfl
             refine take_ (i := 1) (N := some 50) (v := ?_) (a' := ?_) #[true, true, true, true, true, true, false, false, false, false] rfl rfl (take_ofW HT_.out HW_.out (by kernel_rfl)) (fun _ _ _ h => h) (Or.inl ⟨by rfl, ?_⟩) hHeld ?_ ?_
             rotate_left
             · rintro w' ⟨s0, s1⟩
               go_simp
               with_reducible rfl
             rotate_left
             · simp only [Act.put, List.setIfInBounds_toArray, List.set_cons_zero, List.set_cons_succ, i64_w, i32_w]
               rfl
             refine one_ (i := 6) (N := some 55) #[true, true, true, true, true, true, true, false, false, false] rfl rfl (one_of HT_.out (by kernel_rfl)) (by decide) (fun K hK => ?_)
             refine value_ (w1 := ?_) (v := ?_) (by rfl) rfl ?_ ?_
             rotate_left 2
             · go_simp
               constructor
               · rfl
               · rfl
             refine hK.out _ _ ⟨(Zkc (Zka BK457.out _) 0).trans rfl, (Zkc (Zka BK457.out _) 1).trans rfl⟩ (fun hHeld => ?_)
             clear hK K
             refine norm_ (a' := ?_) ?_ ?_
             rotate_left
             · show Act.put _ (some 55) _ = _
               simp only [Act.put, List.setIfInBounds_toArray, List.set_cons_zero, List.set_cons_succ, i64_w, i32_w]
               rfl
             refine one_ (i := 7) (N := some 56) #[true, true, true, true, true, true, true, true, false, false] rfl rfl (one_of HT_.out (by kernel_rfl)) (by decide) (fun K hK => ?_)
             refine Kd.R_append_step Kd.string (w0 := w) w.heap.size (by rfl) (.tmp 50) (.tmp 55) 72 9 (.string ⟨#[]⟩) 16 rfl Tryz.underlying72 info9 rfl (by decide) (by omega) (.slice Ao35 x458000_2.length co35) x458000_2 (a0.extract (x4_2 : Int).toNat (t464 : Int).toNat) [.string (a0.extract (x4_2 : Int).toNat (t464 : Int).toNat)] (fun _ => True) (fun _ => False) rfl rfl ?aP (fun _ hk => hk.elim) ?aF ?aO ?aB ?aS ?aL ?_
             (case aP => exact rfl)
             (case aB => exact (bk HB.out))
             (case aF => exact (fun _ _ => trivial))
             (case aO => exact (by (with_reducible repeat (first | apply Kd.R_alloc | apply Kd.R_drewN | apply Kd.R_drew)); exact HO_458000.out))
             (case aS => exact (Zbz (bk HB.out)))
             (case aL => have := LMc40.out; omega)
             intro v467 w42 ho hb hg hat
             rw [← Ny466.out] at ho
             have n0_ := Zm (blk_grown (pk BK450.out) hg (Kd.R_ne HO_458000.out BK450.out (by decide)))
             have n1_ := Zm (blk_grown (pk BK457.out) hg (Kd.R_ne HO_458000.out BK457.out (by decide)))
             have n2_ := Zm (hb)
             have n3_ := Zm (ho)
             clear BK450
             clear BK457
             clear HB
             clear HO_458000
             have BK450 := n0_
             have BK457 := n1_
             have HB := n2_
             have HO468 := n3_
             clear n0_ n1_ n2_ n3_
             clear ho hb hg hat
             obtain ⟨Ao43, co43, eo43⟩ := Kd.R_slice HO468.out
             (first | subst eo43 | (injection eo43 with f1_ f2_ f3_; have f4_ := f1_.symm; have f5_ := f3_.symm; clear f1_ f2_ f3_; subst f4_; subst f5_))
             refine hK.out _ _ ⟨(Zkc BK457.out 0).trans rfl, (Zkc BK457.out 1).trans rfl⟩ (fun hHeld => ?_)
             clear hK K
             refine norm_ (a' := ?_) ?_ ?_
             rotate_left
             · show Act.put _ (some 56) _ = _
               simp only [Act.put, List.setIfInBounds_toArray, List.set_cons_zero, List.set_cons_succ, i64_w, i32_w]
               rfl
             refine pure_ (i := 8) (N := some 57) (v := ?_) (a' := ?_) #[true, true, true, true, true, true, true, true, true, false] rfl rfl (any_of HT_.out (by kernel_rfl)) (fun _ _ _ h => h) (Or.inl ⟨by rfl, ?_⟩) ?_ ?_
             rotate_left
             · intro w'
               go_simp
               with_reducible rfl
             rotate_left
             · simp only [Act.put, List.setIfInBounds_toArray, List.set_cons_zero, List.set_cons_succ, i64_w, i32_w]
               rfl
             refine last_ (i := 9) (N := none) #[true, true, true, true, true, true, true, true, true, true] rfl rfl (one_of HT_.out (by kernel_rfl)) (by decide) (fun K hK => ?_)
             have hs44 : w42.cell? ⟨gb457, 0, none⟩ = some (.slice Ao35 x458000_2.length co35) := (Zkc BK457.out 0).trans rfl
             have hfs44 := Zkf BK457.out 0
             have hns44_0 := NB450_457.out
             have hms44_0 := NB457_450.out
             refine skip_ (w1 := ?_) (by rfl) rfl ?_ ?_
             rotate_left
             · go_simp
               rfl
             refine hK.out _ _ ?_
             clear hK K
             refine done_ (done_of HT_.out (by kernel_rfl)) ?_
             try go_wp2
             go_roundg kj17
             case measure => have := HJ5.out; have := HK2.out; have := HJ17.out; omega
             case rel => exact ⟨(t464), (x451001_2), (x451002_2), (x451003_2), (y466), (.slice Ao43 y466.length co43), (by first | rfl | (simp; done) | (simp [*]; done)), H', ⟨by have := HJ5.out; have := HK2.out; have := HJ17.out; omega⟩, ⟨by (with_reducible repeat (first | apply Kd.R_alloc | apply Kd.R_drewN | apply Kd.R_drew)); exact Kd.R_mono (Kd.R_far (p := ⟨gb457, 0, none⟩) (Kd.R_types HO468.out BK457.out (by decide)) (fun _ hk => hk.2) (.slice Ao43 y466.length co43)) (fun _ hk => trivial)⟩, ⟨zc_⟩, ⟨zc_⟩, ⟨hb_⟩⟩
           rw [if_pos c23] at H
           have c23b0 : ((x458000_2.length : Int) == 8) = true := beq_iff_eq.mpr c23
           have c23b1 : ((x458000_2.length : Int) != 8) = false := bne_eq_false_iff_eq.mpr c23
           clear c23
           replace H := Option.bind_eq_some_iff.mp H
           obtain ⟨⟨t458, t461, t462, t463⟩, A240, H⟩ := H
           replace H : (some (t458, t461, t462, t463)) = some (r1, r2, r3, r4) := H
           have A24 := Zm A240
           clear A240
           simp only [Option.some.injEq, Prod.mk.injEq] at H
           obtain ⟨rfl, rfl, rfl, rfl⟩ := H
           have hnb25 := NB457_450.out
           have hnc25 := NB450_457.out
           obtain ⟨hcz26_0, hcz26_1, hfz26_0, hfz26_1⟩ := cf2 BK457.out
           obtain ⟨Ao27, co27, eo27⟩ := Kd.R_slice HO_458000.out
           subst eo27
           (try clear HO_458000)
           (try clear BK457)
           go_wp2_with (first | ((with_reducible refine gate_callee (f := 86) rfl ?_); refine ge_ (some 38) Tryz.func86 #[.int .i64 x4_2] ?_; (with_reducible refine (spec_l02Wrong.calls _ _ _ _ _ _ A24.out).mono ?_); rintro e w28 ⟨v459, rfl, ho0, hb⟩; refine ⟨_, rfl, ?_⟩; have n0_ := (⟨Zm (Kd.R_lower ho0 (Zbz (bk HB.out))), Zm (Zkb (pk BK450.out) hb), Zm (Zbt (bk HB.out) hb)⟩ : _ ∧ _ ∧ _); clear BK450 HB; obtain ⟨HO460, BK450, HB⟩ := n0_; (try clear hb); (try clear hb2); (try clear hk); (try clear hi); (try clear ho0); obtain ⟨Ao29, co29, eo29⟩ := Kd.R_slice HO460.out; subst eo29; obtain ⟨hcz30_0, hcz30_1, hcz30_2, hcz30_3, hfz30_0, hfz30_1, hfz30_2, hfz30_3⟩ := cf4 BK450.out))
           refine bodyPost_ret (results_cell_row rfl _ _ gb450 76 #[.slice Ao29 t458.length co29, .string t461, .int .i64 t462, .int .i64 t463] (0, 0) _ rfl zc_ Tryz.underlying76 rfl (by kernel_rfl)) rfl ?_
           exact ⟨_, by first | rfl | (simp [*] <;> rfl), by (with_reducible repeat (first | apply Kd.R_alloc | apply Kd.R_drewN | apply Kd.R_drew)); exact Kd.R_mono (Kd.R_far (p := ⟨gb450, 3, none⟩) (Kd.R_far (p := ⟨gb450, 2, none⟩) (Kd.R_far (p := ⟨gb450, 1, none⟩) (Kd.R_far (p := ⟨gb450, 0, none⟩) (Kd.R_types HO460.out BK450.out (by decide)) (fun _ hk => hk.2) (.slice Ao29 t458.length co29)) (fun _ hk => hk.2) (.string t461)) (fun _ hk => hk.2) (.int .i64 t462)) (fun _ hk => hk.2) (.int .i64 t463)) (fun _ hk => trivial), hb_⟩
     subst c10
     rw [if_pos rfl] at H
     replace H := Option.bind_eq_some_iff.mp H
     obtain ⟨⟨t451, t454, t455, t456⟩, A110, H⟩ := H
     replace H : (some (t451, t454, t455, t456)) = some (r1, r2, r3, r4) := H
     have A11 := Zm A110
     clear A110
     simp only [Option.some.injEq, Prod.mk.injEq] at H
     obtain ⟨rfl, rfl, rfl, rfl⟩ := H
     go_wp2_with (first | ((with_reducible refine gate_callee (f := 86) rfl ?_); refine ge_ (some 21) Tryz.func86 #[.int .i64 0] ?_; (with_reducible refine (spec_l02Wrong.calls _ _ _ _ _ _ A11.out).mono ?_); rintro e w12 ⟨v452, rfl, ho0, hb⟩; refine ⟨_, rfl, ?_⟩; have n0_ := (⟨Zm (Kd.R_lower ho0 (Zbz (bk HB.out))), Zm (Zkb (pk BK450.out) hb), Zm (Zbt (bk HB.out) hb)⟩ : _ ∧ _ ∧ _); clear BK450 HB; obtain ⟨HO453, BK450, HB⟩ := n0_; (try clear hb); (try clear hb2); (try clear hk); (try clear hi); (try clear ho0); obtain ⟨Ao13, co13, eo13⟩ := Kd.R_slice HO453.out; subst eo13; obtain ⟨hcz14_0, hcz14_1, hcz14_2, hcz14_3, hfz14_0, hfz14_1, hfz14_2, hfz14_3⟩ := cf4 BK450.out))
     refine bodyPost_ret (results_cell_row rfl _ _ gb450 76 #[.slice Ao13 t451.length co13, .string t454, .int .i64 t455, .int .i64 t456] (0, 0) _ rfl zc_ Tryz.underlying76 rfl (by kernel_rfl)) rfl ?_
     exact ⟨_, by first | rfl | (simp [*] <;> rfl), by (with_reducible repeat (first | apply Kd.R_alloc | apply Kd.R_drewN | apply Kd.R_drew)); exact Kd.R_mono (Kd.R_far (p := ⟨gb450, 3, none⟩) (Kd.R_far (p := ⟨gb450, 2, none⟩) (Kd.R_far (p := ⟨gb450, 1, none⟩) (Kd.R_far (p := ⟨gb450, 0, none⟩) (Kd.R_types HO453.out BK450.out (by decide)) (fun _ hk => hk.2) (.slice Ao13 t451.length co13)) (fun _ hk => hk.2) (.string t454)) (fun _ hk => hk.2) (.int .i64 t455)) (fun _ hk => hk.2) (.int .i64 t456)) (fun _ hk => trivial), hb_⟩
 rw [if_pos c4] at H
 have c4b0 : decide (20000 < (a0.size : Int)) = true := decide_eq_true c4
 have c4b1 : decide (20000 < a0.size) = true := decide_eq_true (by omega)
 clear c4
 (first | rw [c4b0] | (simp only [i64_w, i32_w]; rw [c4b0]) | skip)
 simp only [Option.some.injEq, Prod.mk.injEq] at H
 obtain ⟨rfl, rfl, rfl, rfl⟩ := H
 obtain ⟨hcz5_0, hcz5_1, hcz5_2, hcz5_3, hfz5_0, hfz5_1, hfz5_2, hfz5_3⟩ := cf4 BK450.out
 go_wp2
 refine bodyPost_ret (results_cell_row rfl _ _ gb450 76 #[.slice none 0 0, .string (⟨#[]⟩ : ByteArray), .int .i64 0, .int .i64 2] (0, 0) _ rfl zc_ Tryz.underlying76 rfl (by kernel_rfl)) rfl ?_
 exact ⟨_, by first | rfl | (simp [*] <;> rfl), by first | exact Kd.R_nil _ _ _ _ _ | exact Kd.N_nil _ _ _ _ _ | exact Kd.V_nil _ _ _ _ _ | exact Kd.Q_nil _ _ _ _ _ | exact Kd.S_nil _ _ _ _ _, hb_⟩
end Go.Proofs.YtcpnlfkmfpmkdaaGreatDoor.PFnInsText
