/- Functions of the program as plain Lean functions, each with a proof that the program's call comes to the same; no condition. Written by a program of this session. -/
import Derived.Test.YtohiakbkkmmjeaaGreatDoorPFnExactWorldTextx0
import Derived.Test.YtohiakbkkmmjeaaGreatDoorPFnExactWorldTextx4
namespace Go.Proofs.YtohiakbkkmmjeaaGreatDoor.PFnExactWorldText
open Go.RowKit Go.Proofs.YtohiakbkkmmjeaaGreatDoorW.PrintWords Go.Proofs.YtohiakbkkmmjeaaGreatDoorW.PrintLast Go.Proofs.YtohiakbkkmmjeaaGreatDoorW.PrintMore
open Go.Proofs.YtohiakbkkmmjeaaGreatDoorW.PrintWords renaming below_size → Zbz, below_step → Zbt, blk_frozen → Zkf
open Go.Proofs.YtohiakbkkmmjeaaGreatDoorW.PrintWords.Aside0 renaming mk → Zm
attribute [local go_sem] max2_int min2_int max_two min_two max_three min_three max_four min_four   -- for this text's walks alone
set_option linter.unusedVariables false
set_option linter.unusedSimpArgs false

/-! ### spec_l01Split: function 85 -/
def spec_l01Split.l0 : Nat → ByteArray → Int → List ByteArray → Int → Int → Option (List ByteArray)
 | 0, _, _, _, _, _ => none
 | k + 1, x0, x1, x5, x6, x7 => if x7 < (x0.size : Int) then (if 0 ≤ x7 then (if (bt x0 x7) = x1 then (if 0 ≤ x6 then (if x6 ≤ x7 then (if x7 ≤ (x0.size : Int) then (if x5.length < 8796093022208 then (spec_l01Split.l0 k x0 x1 (x5 ++ [x0.extract (x6 : Int).toNat (x7 : Int).toNat]) (wrap64 (x7 + 1)) (wrap64 (x7 + 1))) else (none)) else (none)) else (none)) else (none)) else (spec_l01Split.l0 k x0 x1 x5 x6 (wrap64 (x7 + 1)))) else (none)) else (if 0 ≤ x6 then (if x6 ≤ (x0.size : Int) then (if x5.length < 8796093022208 then (some (x5 ++ [x0.extract (x6 : Int).toNat x0.size])) else (none)) else (none)) else (none))
def spec_l01Split.f (k : Nat) (a0 : ByteArray) (a1 : Int) : Option (List ByteArray) := spec_l01Split.l0 k a0 a1 (([] : List ByteArray)) 0 0
theorem spec_l01Split.mono_l : ∀ k, (∀ y0 y1 y2 y3 y4, LeO (spec_l01Split.l0 k y0 y1 y2 y3 y4) (spec_l01Split.l0 (k + 1) y0 y1 y2 y3 y4))
 | 0 => by intros; intro r h; simp [spec_l01Split.l0] at h
 | k + 1 => by
  have ih0 := spec_l01Split.mono_l k; intros; unfold spec_l01Split.l0; exact mo_
theorem spec_l01Split.mono : ∀ a0 a1 k, LeO (spec_l01Split.f k a0 a1) (spec_l01Split.f (k + 1) a0 a1) := by
 intro a0 a1 k; have ih0 := spec_l01Split.mono_l k; unfold spec_l01Split.f; exact mo_
set_option maxHeartbeats 8000000 in
set_option maxRecDepth 100000 in
theorem spec_l01Split.calls (k : Nat) (a0 : ByteArray) (a1 : Int) (r : List ByteArray) (w : World) (h : spec_l01Split.f k a0 a1 = some r) :
 Calls Tryz.prog 85 #[.string a0, .int .u8 a1] w fun e w' => ∃ v0_ : Value, e = .returned (v0_) ∧ Kd.R Kd.string 9 w' w.heap.size (fun _ => True) v0_ r ∧ Below w.heap.size w w' := by
 have HB := Zm (Below.refl w.heap.size w); have H := h; clear h; unfold spec_l01Split.f at H; obtain ⟨y181, hy181⟩ : ∃ y_ : List ByteArray, y_ = (([] : List ByteArray)) := ⟨_, rfl⟩; replace H : (spec_l01Split.l0 k a0 a1 y181 0 0) = some r := by first | (rw [hy181]; with_reducible exact H) | (have H2_ := (Option.bind_some _ _).symm.trans H; rw [hy181]; with_reducible exact H2_) | (have H2_ := (Option.bind_some _ _).symm.trans H; with_reducible exact H2_) | with_reducible exact H | (rw [hy181]; exact H) | exact H
 have Ny181 := Zm hy181; clear hy181; have H' := Zm H; clear H; go_enter Tryz.func85, Tryz.ntmps85; go_wp2_with (first | ((with_reducible refine gate_dst (N := 8) rfl ?_); refine Kd.R_lit Kd.string _ 9 ?hg (N := 8) ?hd (xs := ([] : List ByteArray)) (inner := []) (ok := fun _ => True) (okp := fun _ => True) ?hr ?hp (fun _ hk => hk) trivial (Below.refl _ _) (Nat.le_refl _) (by simp) ?_; (case hd => rfl); (case hg => rfl); (case hr => exact gs_); (case hp => exact (Reps.none _ _)); intro v182 w3 ho4 hb hg_ hnew_; clear hg_ hnew_; (first | rw [← Ny181.out] at ho4 | (simp only [Int.reduceToNat] at ho4; rw [← Ny181.out] at ho4)); have HO183 := Zm (Kd.R_lower ho4 (Zbz (bk HB.out))); replace HB := bt_ HB hb; clear hb ho4)); go_loopg [5, 6, 7] k (fun kq v5 v6 v7 w' => ∃ (x5_1 : List ByteArray) (x6_1 : Int) (x7_1 : Int), v6 = .int .i64 x6_1 ∧ v7 = .int .i64 x7_1 ∧ Aside0 (spec_l01Split.l0 kq a0 a1 x5_1 x6_1 x7_1 = some r) ∧ Aside0 (kq ≤ k) ∧ Aside0 (Kd.R Kd.string 9 w' w.heap.size (fun _ => True) v5 x5_1) ∧ Aside0 (Below w.heap.size w w'))
 case atStart => exact ⟨(y181), (0), (0), s1_, s1_, H', ⟨Nat.le_refl _⟩, ⟨pr HO183.out⟩, ⟨bk HB.out⟩⟩
 case round =>
  clear H'; obtain ⟨x5_1, x6_1, x7_1, rfl, rfl, HA, HK1, HO_5, HB⟩ := hrel
  cases gk with
  | zero => exact absurd HA.out (by simp [spec_l01Split.l0])
  | succ k1 =>
   have H := HA.out; clear HA; simp only [spec_l01Split.l0] at H; replace H := sd_ H; rcases H with ⟨c5b0, H⟩ | ⟨c5b0, H⟩
   · replace H := sn_ H; obtain ⟨c14, H⟩ := H; have c14b0 := eq_true c14; have c14b1 := decide_eq_true c14; clear c14; replace H := sn_ H; obtain ⟨c15, H⟩ := H; have c15b0 := eq_true c15; have c15b1 := decide_eq_true c15; clear c15; replace H := sn_ H; obtain ⟨c16, H⟩ := H; have LMc16 := Zm c16; clear c16; obtain ⟨y187, hy187⟩ : ∃ y_ : List ByteArray, y_ = (x5_1 ++ [a0.extract (x6_1 : Int).toNat a0.size]) := ⟨_, rfl⟩; replace H : (some y187) = some r := by first | (rw [hy187]; with_reducible exact H) | (have H2_ := (Option.bind_some _ _).symm.trans H; rw [hy187]; with_reducible exact H2_) | (have H2_ := (Option.bind_some _ _).symm.trans H; with_reducible exact H2_) | with_reducible exact H | (rw [hy187]; exact H) | exact H
     have Ny187 := Zm hy187; clear hy187; obtain rfl := Option.some.inj H; go_wp2_with (first | ((with_reducible refine gate_builtin (b := .append) (xs := #[.tmp 29, .tmp 33]) rfl ?_); at_builtin; refine Kd.R_append Kd.string (w0 := w) w.heap.size rfl (.tmp 29) (.tmp 33) 85 9 (.string ⟨#[]⟩) 16 rfl Tryz.underlying85 info9 rfl (by decide) (by omega) u5 x5_1 (a0.extract (x6_1 : Int).toNat a0.size) [.string (a0.extract (x6_1 : Int).toNat a0.size)] (fun _ => True) (fun _ => False) rfl rfl ?aP (fun _ hk => hk.elim) ?aF ?aO ?aB ?aS ?aL ?_; (case aP => exact rfl); (case aB => exact (bk HB.out)); (case aF => exact (fun _ _ => trivial)); (case aO => exact (pr HO_5.out)); (case aS => exact (Zbz (bk HB.out))); (case aL => have := LMc16.out; omega); intro v188 w17 ho hb hg hat; rw [← Ny187.out] at ho; have n0_ := (⟨Zm hb, Zm ho⟩ : _ ∧ _); clear HB HO_5; obtain ⟨HB, HO189⟩ := n0_; clear ho hb hg hat)); go_ret; exact ⟨_, s2_, pr HO189.out, bk HB.out⟩
   replace H := snd_ H; obtain ⟨c6b0, H⟩ := H; replace H := se_ H; rcases H with ⟨c8, c8b0, c8b1, H⟩ | ⟨c8, c8b0, c8b1, H⟩
   · have H' := Zm H; clear H; have p7 : 0 ≤ (x7_1 : Int) := da_; have q7 : x7_1 < (a0.size : Int) := da_; have hx7 := bt_at a0 x7_1; replace p7 := eq_true p7; replace q7 := eq_true q7; go_wp2; go_roundg k1
     case measure => have := HK1.out; omega
     case rel => exact ⟨(x5_1), (x6_1), (wrap64 (x7_1 + 1)), s1_, s1_, H', ⟨by have := HK1.out; omega⟩, ⟨pr HO_5.out⟩, ⟨bk HB.out⟩⟩
   clear c8; replace H := sn_ H; obtain ⟨c9, H⟩ := H; have c9b0 := eq_true c9; have c9b1 := decide_eq_true c9; clear c9; replace H := sn_ H; obtain ⟨c10, H⟩ := H; have c10b0 := eq_true c10; have c10b1 := decide_eq_true c10; clear c10; replace H := sn_ H; obtain ⟨c11, H⟩ := H; have c11b0 := eq_true c11; have c11b1 := decide_eq_true c11; clear c11; replace H := sn_ H; obtain ⟨c12, H⟩ := H; have LMc12 := Zm c12; clear c12; obtain ⟨y184, hy184⟩ : ∃ y_ : List ByteArray, y_ = (x5_1 ++ [a0.extract (x6_1 : Int).toNat (x7_1 : Int).toNat]) := ⟨_, rfl⟩; replace H : (spec_l01Split.l0 k1 a0 a1 y184 (wrap64 (x7_1 + 1)) (wrap64 (x7_1 + 1))) = some r := by first | (rw [hy184]; with_reducible exact H) | (have H2_ := (Option.bind_some _ _).symm.trans H; rw [hy184]; with_reducible exact H2_) | (have H2_ := (Option.bind_some _ _).symm.trans H; with_reducible exact H2_) | with_reducible exact H | (rw [hy184]; exact H) | exact H
   have Ny184 := Zm hy184; clear hy184; have H' := Zm H; clear H; have p7 : 0 ≤ (x7_1 : Int) := da_; have q7 : x7_1 < (a0.size : Int) := da_; have hx7 := bt_at a0 x7_1; replace p7 := eq_true p7; replace q7 := eq_true q7; go_wp2_with (first | ((with_reducible refine gate_builtin (b := .append) (xs := #[.tmp 20, .tmp 25]) rfl ?_); at_builtin; refine Kd.R_append Kd.string (w0 := w) w.heap.size rfl (.tmp 20) (.tmp 25) 85 9 (.string ⟨#[]⟩) 16 rfl Tryz.underlying85 info9 rfl (by decide) (by omega) u5 x5_1 (a0.extract (x6_1 : Int).toNat (x7_1 : Int).toNat) [.string (a0.extract (x6_1 : Int).toNat (x7_1 : Int).toNat)] (fun _ => True) (fun _ => False) rfl rfl ?aP (fun _ hk => hk.elim) ?aF ?aO ?aB ?aS ?aL ?_; (case aP => exact rfl); (case aB => exact (bk HB.out)); (case aF => exact (fun _ _ => trivial)); (case aO => exact (pr HO_5.out)); (case aS => exact (Zbz (bk HB.out))); (case aL => have := LMc12.out; omega); intro v185 w13 ho hb hg hat; rw [← Ny184.out] at ho; have n0_ := (⟨Zm hb, Zm ho⟩ : _ ∧ _); clear HB HO_5; obtain ⟨HB, HO186⟩ := n0_; clear ho hb hg hat)); go_roundg k1
   case measure => have := HK1.out; omega
   case rel => exact ⟨(y184), (wrap64 (x7_1 + 1)), (wrap64 (x7_1 + 1)), s1_, s1_, H', ⟨by have := HK1.out; omega⟩, ⟨pr HO186.out⟩, ⟨bk HB.out⟩⟩
/-! ### spec_OpForm: function 54 -/
def spec_OpForm.j0 : Nat → Int → List ByteArray → Bool → Option (ByteArray)
 | 0, _, _, _ => none
 | k + 1, x0, x3, x13 => if x13 = true then (some (⟨#[33]⟩ : ByteArray)) else (if 0 ≤ x0 then (if x0 < (x3.length : Int) then ((spec_l01Split.f k (rdOf ByteArray.empty x3 x0) 32).bind fun t194 => (if (t194.length : Int) = 2 then (if 1 < (t194.length : Int) then (some (rdOf ByteArray.empty t194 1)) else (none)) else (some (⟨#[]⟩ : ByteArray)))) else (none)) else (none))
def spec_OpForm.f (k : Nat) (a0 : Int) : Option (ByteArray) := (spec_l03Ops.f).bind fun t190 => (if a0 < 1 then (spec_OpForm.j0 k a0 t190 true) else (spec_OpForm.j0 k a0 t190 (decide (a0 ≥ (t190.length : Int)))))
theorem spec_OpForm.mono_l : ∀ k, (∀ y0 y1 y2, LeO (spec_OpForm.j0 k y0 y1 y2) (spec_OpForm.j0 (k + 1) y0 y1 y2))
 | 0 => by intros; intro r h; simp [spec_OpForm.j0] at h
 | k + 1 => by
  have ih0 := spec_OpForm.mono_l k; have m0 := @spec_l01Split.mono; intros; unfold spec_OpForm.j0; exact mo_
theorem spec_OpForm.mono : ∀ a0 k, LeO (spec_OpForm.f k a0) (spec_OpForm.f (k + 1) a0) := by
 intro a0 k; have ih0 := spec_OpForm.mono_l k; unfold spec_OpForm.f; have m0 := @spec_l01Split.mono; exact mo_
set_option maxHeartbeats 8000000 in
set_option maxRecDepth 100000 in
theorem spec_OpForm.calls (k : Nat) (a0 : Int) (r : ByteArray) (w : World) (h : spec_OpForm.f k a0 = some r) :
 Calls Tryz.prog 54 #[.int .i64 a0] w fun e w' => e = .returned (.string r) ∧ Below w.heap.size w w' := by
 have HB := Zm (Below.refl w.heap.size w); have H := h; clear h; unfold spec_OpForm.f at H; replace H := sq_ H; obtain ⟨t190, A2, H⟩ := H; have HC3 := Zm H; clear H; go_enter Tryz.func54, Tryz.ntmps54; go_upto_region 2 with (first | ((with_reducible refine gate_callee (f := 84) rfl ?_); refine ge_ (some 5) Tryz.func84 #[] ?_; (with_reducible refine (spec_l03Ops.calls _ _ A2.out).mono ?_); rintro e w4 ⟨v191, rfl, ho0, hb⟩; refine ⟨_, rfl, ?_⟩; have HO192 := Zm (Kd.R_lower ho0 (Zbz (bk HB.out))); replace HB := bt_ HB hb; clear hb ho0)); (try simp only [Act.put, List.setIfInBounds_toArray, List.set_cons_zero, List.set_cons_succ]); go_cut [13] (fun v13 wc => ∃ (kq : Nat) (x13_2 : Bool), v13 = .bool x13_2 ∧ Aside0 (spec_OpForm.j0 kq a0 t190 x13_2 = some r) ∧ Aside0 (kq ≤ k) ∧ Aside0 (Kd.R Kd.string 9 wc w.heap.size (fun _ => True) v191 t190) ∧ Aside0 (Below w.heap.size w wc))
 case first =>
  have H := HC3.out; clear HC3; replace H := sd_ H; rcases H with ⟨c5b0, H⟩ | ⟨c5b0, H⟩
  · (first | rw [c5b0] | (simp only [i64_w, i32_w]; rw [c5b0]) | skip); have H' := Zm H; clear H; obtain ⟨Ao6, co6, eo6⟩ := Kd.R_slice HO192.out; subst eo6; go_wp2; go_meet
    case rel => exact ⟨_, (decide (a0 ≥ (t190.length : Int))), s1_, H', ⟨o1_⟩, ⟨pr HO192.out⟩, ⟨bk HB.out⟩⟩
  (first | rw [c5b0] | (simp only [i64_w, i32_w]; rw [c5b0]) | skip); have H' := Zm H; clear H; go_wp2; go_meet
  case rel => exact ⟨_, (true), s1_, H', ⟨o1_⟩, ⟨pr HO192.out⟩, ⟨bk HB.out⟩⟩
 case rest =>
  clear HC3; obtain ⟨kq, x13_2, rfl, HA, HJ2, HO_3, HB⟩ := hcut
  cases kq with
  | zero => exact absurd HA.out (by simp [spec_OpForm.j0])
  | succ kj2 =>
   have H := HA.out; clear HA; simp only [spec_OpForm.j0] at H; replace H := sb_ H; rcases H with ⟨rfl, H⟩ | ⟨rfl, H⟩
   · replace H := snd_ H; obtain ⟨c8b0, H⟩ := H; replace H := snd_ H; obtain ⟨c9b0, H⟩ := H; replace H := sq_ H; obtain ⟨t194, A10, H⟩ := H; have HC11 := Zm H; clear H; obtain ⟨Ao12, co12, eo12⟩ := Kd.R_slice HO_3.out; subst eo12; have p193 : 0 ≤ (a0 : Int) := da_; have q193 : a0 < (t190.length : Int) := da_; obtain ⟨ad193, e193, hx193_0⟩ := Kd.at_string (Kd.R_reads' HO_3.out).2.2 a0 p193 q193; cases e193; replace p193 := eq_true p193; replace q193 := eq_true q193; (try clear HO_3); go_upto_if 21 with (first | ((with_reducible refine gate_callee (f := 85) rfl ?_); refine ge_ (some 18) Tryz.func85 #[.string (rdOf ByteArray.empty t190 a0), .int .u8 32] ?_; (with_reducible refine (spec_l01Split.calls _ _ _ _ _ A10.out).mono ?_); rintro e w13 ⟨v195, rfl, ho0, hb⟩; refine ⟨_, rfl, ?_⟩; have HO196 := Zm (Kd.R_lower ho0 (Zbz (bk HB.out))); replace HB := bt_ HB hb; clear hb ho0; obtain ⟨Ao14, co14, eo14⟩ := Kd.R_slice HO196.out; subst eo14)); have H := HC11.out; clear HC11; replace H := se_ H; rcases H with ⟨c15, c15b0, c15b1, H⟩ | ⟨c15, c15b0, c15b1, H⟩
     · (first | rw [c15b0] | (simp only [i64_w, i32_w]; rw [c15b0]) | rw [c15b1] | skip); obtain rfl := Option.some.inj H; go_wp2; go_ret; exact fin_ HB
     clear c15; (first | rw [c15b0] | (simp only [i64_w, i32_w]; rw [c15b0]) | rw [c15b1] | skip); replace H := sn_ H; obtain ⟨c16, H⟩ := H; have c16b0 := decide_eq_true c16; have c16b1 : decide (1 < t194.length) = true := decide_eq_true (by omega); clear c16; obtain rfl := Option.some.inj H; have p197 : 0 ≤ (1 : Int) := (by omega); have q197 : 1 < (t194.length : Int) := da_; obtain ⟨ad197, e197, hx197_0⟩ := Kd.at_string (Kd.R_reads' HO196.out).2.2 1 p197 q197; cases e197; (try simp only [show (1 : Int).toNat = 1 from rfl, Nat.reduceMul, Nat.reduceEqDiff, Go.Addr.add, ↓reduceIte] at hx197_0); have qi197 : (1 < t194.length) = True := eq_true (by omega); (try rw [show ((1 : Int)).toNat = 1 from rfl] at hx197_0); replace p197 := eq_true p197; replace q197 := eq_true q197; go_wp2; go_ret; exact fin_ HB
   obtain rfl := Option.some.inj H; go_wp2; go_ret; exact fin_ HB
/-! ### spec_l03Empty: function 82 -/
def spec_l03Empty.f (a0_0 : Int) (a0_1 : Int) (a0_2 : ByteArray) (a0_3 : ByteArray) (a0_4 : ByteArray) : Option (Bool) := if a0_2.toList = ([] : List UInt8) then (if a0_3.toList = ([] : List UInt8) then (some (a0_4.toList == ([] : List UInt8))) else (some false)) else (some false)
set_option maxHeartbeats 8000000 in
set_option maxRecDepth 100000 in
theorem spec_l03Empty.calls (a0_0 : Int) (a0_1 : Int) (a0_2 : ByteArray) (a0_3 : ByteArray) (a0_4 : ByteArray) (r : Bool) (w : World) (h : spec_l03Empty.f a0_0 a0_1 a0_2 a0_3 a0_4 = some r) :
 Calls Tryz.prog 82 #[.agg #[.int .i64 a0_0, .int .i64 a0_1, .string a0_2, .string a0_3, .string a0_4]] w fun e w' => e = .returned (.bool r) ∧ Below w.heap.size w w' := by
 have hu77 := Tryz.underlying77; have HB := Zm (Below.refl w.heap.size w); have H := h; clear h; unfold spec_l03Empty.f at H; replace H := se_ H; rcases H with ⟨c2, c2b0, c2b1, H⟩ | ⟨c2, c2b0, c2b1, H⟩
 · obtain rfl := Option.some.inj H; go_enter Tryz.func82, Tryz.ntmps82; go_wp2_with (first | ((with_reducible refine gate_dst (N := 1) rfl ?_); refine bx_ 1 77 #[.int .i64 a0_0, .int .i64 a0_1, .string a0_2, .string a0_3, .string a0_4] ?_; intro gb198 hg w8 hbox hb; have BK198 := Zm hbox; have GW198 := bz HB hg; have GE198 := bz HB hg; replace HB := bt_ HB hb; clear hb hbox hg; have hcz9 := cz5 BK198.out; have hfz9_4 := Zkf BK198.out 4)); go_ret; exact fin_ HB
 clear c2; replace H := se_ H; rcases H with ⟨c3, c3b0, c3b1, H⟩ | ⟨c3, c3b0, c3b1, H⟩
 · obtain rfl := Option.some.inj H; go_enter Tryz.func82, Tryz.ntmps82; go_wp2_with (first | ((with_reducible refine gate_dst (N := 1) rfl ?_); refine bx_ 1 77 #[.int .i64 a0_0, .int .i64 a0_1, .string a0_2, .string a0_3, .string a0_4] ?_; intro gb198 hg w6 hbox hb; have BK198 := Zm hbox; have GW198 := bz HB hg; have GE198 := bz HB hg; replace HB := bt_ HB hb; clear hb hbox hg; have hcz7 := cz5 BK198.out; have hfz7_4 := Zkf BK198.out 4)); go_ret; exact fin_ HB
 clear c3; obtain rfl := Option.some.inj H; go_enter Tryz.func82, Tryz.ntmps82; go_wp2_with (first | ((with_reducible refine gate_dst (N := 1) rfl ?_); refine bx_ 1 77 #[.int .i64 a0_0, .int .i64 a0_1, .string a0_2, .string a0_3, .string a0_4] ?_; intro gb198 hg w4 hbox hb; have BK198 := Zm hbox; have GW198 := bz HB hg; have GE198 := bz HB hg; replace HB := bt_ HB hb; clear hb hbox hg; have hcz5 := cz5 BK198.out; have hfz5_4 := Zkf BK198.out 4)); go_ret; exact fin_ HB
/-! ### spec_l01Int: function 83 -/
def spec_l01Int.f (a0 : Int) : Option (Bool) := if a0 ≥ (-2147483648) then (some (decide (a0 ≤ 2147483647))) else (some false)
set_option maxHeartbeats 8000000 in
set_option maxRecDepth 100000 in
theorem spec_l01Int.calls (a0 : Int) (r : Bool) (w : World) (h : spec_l01Int.f a0 = some r) :
 Calls Tryz.prog 83 #[.int .i64 a0] w fun e w' => e = .returned (.bool r) ∧ Drawn0 w w' := by
 have H := h; clear h; unfold spec_l01Int.f at H; replace H := sp_ H; rcases H with ⟨c2, H⟩ | ⟨c2, H⟩
 · have c2b0 : decide ((-2147483648) ≤ a0) = false := decide_eq_false c2; clear c2; obtain rfl := Option.some.inj H; go_enter Tryz.func83, Tryz.ntmps83; go_wp2; go_ret; exact fd_
 have c2b0 : decide ((-2147483648) ≤ a0) = true := decide_eq_true c2; clear c2; obtain rfl := Option.some.inj H; go_enter Tryz.func83, Tryz.ntmps83; go_wp2; go_ret; exact fd_
end Go.Proofs.YtohiakbkkmmjeaaGreatDoor.PFnExactWorldText
