/- Functions of the program as plain Lean functions, each with a proof that the program's call comes to the same; no condition. Written by a program of this session. -/
import Derived.Test.YtljeeiijepoenaaPFnExactErasex0
namespace Go.Proofs.Ytljeeiijepoenaa.PFnExactErase
open Go.RowKit Go.Proofs.YtljeeiijepoenaaW.PrintWords Go.Proofs.YtljeeiijepoenaaW.PrintLast Go.Proofs.YtljeeiijepoenaaW.PrintMore
open Go.Proofs.YtljeeiijepoenaaW.PrintWords renaming below_drew1 → Zbd, below_size → Zbz, below_step → Zbt, blk_frozen → Zkf, blk_below → Zkb
open Go.World renaming block_lt_of_cell? → Zlt
open Go.Proofs.YtljeeiijepoenaaW.PrintWords.Aside0 renaming mk → Zm
attribute [local go_sem] max2_int min2_int max_two min_two max_three min_three max_four min_four   -- for this text's walks alone
set_option linter.unusedVariables false
set_option linter.unusedSimpArgs false

/-! ### laws_eqInt64S: function 28 -/
def laws_eqInt64S.l0 : Nat → List Int → List Int → Int → Option (Bool)
 | 0, _, _, _ => none
 | k + 1, x0, x1, x5 => if x5 < (x0.length : Int) then (if 0 ≤ x5 then (if x5 < (x1.length : Int) then (if (rd x0 x5) = (rd x1 x5) then (laws_eqInt64S.l0 k x0 x1 (wrap64 (x5 + 1))) else (some false)) else (none)) else (none)) else (some true)
def laws_eqInt64S.f (k : Nat) (l0 : List Int) (l1 : List Int) : Option (Bool) := if (l0.length : Int) = (l1.length : Int) then (laws_eqInt64S.l0 k l0 l1 0) else (some false)
theorem laws_eqInt64S.mono_l : ∀ k, (∀ y0 y1 y2, LeO (laws_eqInt64S.l0 k y0 y1 y2) (laws_eqInt64S.l0 (k + 1) y0 y1 y2))
 | 0 => by intros; intro r h; simp [laws_eqInt64S.l0] at h
 | k + 1 => by
  have ih0 := laws_eqInt64S.mono_l k; intros; unfold laws_eqInt64S.l0; exact mo_
theorem laws_eqInt64S.mono : ∀ a0 a1 k, LeO (laws_eqInt64S.f k a0 a1) (laws_eqInt64S.f (k + 1) a0 a1) := by
 intro a0 a1 k; have ih0 := laws_eqInt64S.mono_l k; unfold laws_eqInt64S.f; exact mo_
set_option maxHeartbeats 8000000 in
set_option maxRecDepth 100000 in
theorem laws_eqInt64S.calls (k : Nat) (A0 : Option Addr) (c0 : Nat) (l0 : List Int) (A1 : Option Addr) (c1 : Nat) (l1 : List Int) (r : Bool) (w : World) (hr0 : Kd.C (Kd.int .i64) w A0 l0.length l0) (hc0 : l0.length ≤ c0) (hr1 : Kd.C (Kd.int .i64) w A1 l1.length l1) (hc1 : l1.length ≤ c1) (h : laws_eqInt64S.f k l0 l1 = some r) :
 Calls Try.prog 28 #[.slice A0 l0.length c0, .slice A1 l1.length c1] w fun e w' => e = .returned (.bool r) ∧ Drawn0 w w' := by
 have HR0 := Zm hr0; have HC0 := Zm hc0; clear hr0 hc0; have HR1 := Zm hr1; have HC1 := Zm hc1; clear hr1 hc1; have H := h; clear h; unfold laws_eqInt64S.f at H; replace H := se_ H; rcases H with ⟨c3, c3b0, c3b1, H⟩ | ⟨c3, c3b0, c3b1, H⟩
 · have c3b2 : (l0.length == l1.length) = false := by first | simpa using c3 | (simp at c3 ⊢; omega)
   obtain rfl := Option.some.inj H; go_enter Try.func28, Try.ntmps28; go_wp2
   repeat (go_quiet (fail); try go_wp2)
   go_ret; exact fd_
 have c3b2 : (l0.length == l1.length) = true := by first | simpa using c3 | (simp at c3 ⊢; omega)
 clear c3; have H' := Zm H; clear H; go_enter Try.func28, Try.ntmps28; go_wp2
 repeat (go_quiet (fail); try go_wp2)
 go_loopg [5] k (fun kq v5 w' => ∃ (x5_1 : Int), v5 = .int .i64 x5_1 ∧ Aside0 (laws_eqInt64S.l0 kq l0 l1 x5_1 = some r) ∧ Aside0 (kq ≤ k) ∧ Drawn0 w w')
 case atStart => exact ⟨(0), s1_, H', ⟨Nat.le_refl _⟩, dn_⟩
 case round =>
  clear H'; (try clear c3); (try clear c3b0); (try clear c3b1); (try clear c3b2); obtain ⟨x5_1, rfl, HA, HK1, ⟨m1, rfl⟩⟩ := hrel
  cases gk with
  | zero => exact absurd HA.out (by simp [laws_eqInt64S.l0])
  | succ k1 =>
   have H := HA.out; clear HA; simp only [laws_eqInt64S.l0] at H; replace H := sd_ H; rcases H with ⟨c4b0, H⟩ | ⟨c4b0, H⟩
   · obtain rfl := Option.some.inj H; go_wp2
     repeat (go_quiet (fail); try go_wp2)
     go_ret; exact fd_
   replace H := snd_ H; obtain ⟨c5b0, H⟩ := H; replace H := snd_ H; obtain ⟨c6b0, H⟩ := H; replace H := se_ H; rcases H with ⟨c7, c7b0, c7b1, H⟩ | ⟨c7, c7b0, c7b1, H⟩
   · obtain rfl := Option.some.inj H; have p252 : 0 ≤ (x5_1 : Int) := da_; have q252 : x5_1 < (l0.length : Int) := da_; obtain ⟨ad252, e252, hx252_0⟩ := Kd.at_int HR0.out x5_1 p252 q252; cases e252; replace p252 := eq_true p252; replace q252 := eq_true q252; have p253 : 0 ≤ (x5_1 : Int) := da_; have q253 : x5_1 < (l1.length : Int) := da_; obtain ⟨ad253, e253, hx253_0⟩ := Kd.at_int HR1.out x5_1 p253 q253; cases e253; replace p253 := eq_true p253; replace q253 := eq_true q253; go_wp2
     repeat (go_quiet (fail); try go_wp2)
     go_ret; exact fd_
   clear c7; have H' := Zm H; clear H; have p252 : 0 ≤ (x5_1 : Int) := da_; have q252 : x5_1 < (l0.length : Int) := da_; obtain ⟨ad252, e252, hx252_0⟩ := Kd.at_int HR0.out x5_1 p252 q252; cases e252; replace p252 := eq_true p252; replace q252 := eq_true q252; have p253 : 0 ≤ (x5_1 : Int) := da_; have q253 : x5_1 < (l1.length : Int) := da_; obtain ⟨ad253, e253, hx253_0⟩ := Kd.at_int HR1.out x5_1 p253 q253; cases e253; replace p253 := eq_true p253; replace q253 := eq_true q253; go_wp2
   repeat (go_quiet (fail); try go_wp2)
   go_roundg k1
   case measure => have := HK1.out; omega
   case rel => exact ⟨(wrap64 (x5_1 + 1)), s1_, H', ⟨by have := HK1.out; omega⟩, dn_⟩
/-! ### laws_eqBareObj: function 55 -/
def laws_eqBareObj.f (k : Nat) (a0_0 : ByteArray) (a0_1 : Int) (l0_2 : List Int) (a1_0 : ByteArray) (a1_1 : Int) (l1_2 : List Int) : Option (Bool) := if a0_0.toList = a1_0.toList then (if a0_1 = a1_1 then ((laws_eqInt64S.f k l0_2 l1_2).bind fun t256 => (if t256 = true then (some true) else (some false))) else (some false)) else (some false)
theorem laws_eqBareObj.mono : ∀ a0 a1 a2 a3 a4 a5 k, LeO (laws_eqBareObj.f k a0 a1 a2 a3 a4 a5) (laws_eqBareObj.f (k + 1) a0 a1 a2 a3 a4 a5) := by
 intro a0 a1 a2 a3 a4 a5 k; unfold laws_eqBareObj.f; have m0 := @laws_eqInt64S.mono; exact mo_
set_option maxHeartbeats 8000000 in
set_option maxRecDepth 100000 in
theorem laws_eqBareObj.calls (k : Nat) (a0_0 : ByteArray) (a0_1 : Int) (A0_2 : Option Addr) (c0_2 : Nat) (l0_2 : List Int) (a1_0 : ByteArray) (a1_1 : Int) (A1_2 : Option Addr) (c1_2 : Nat) (l1_2 : List Int) (r : Bool) (w : World) (hr0_2 : Kd.C (Kd.int .i64) w A0_2 l0_2.length l0_2) (hc0_2 : l0_2.length ≤ c0_2) (hr1_2 : Kd.C (Kd.int .i64) w A1_2 l1_2.length l1_2) (hc1_2 : l1_2.length ≤ c1_2) (h : laws_eqBareObj.f k a0_0 a0_1 l0_2 a1_0 a1_1 l1_2 = some r) :
 Calls Try.prog 55 #[.agg #[.string a0_0, .int .i64 a0_1, .slice A0_2 l0_2.length c0_2], .agg #[.string a1_0, .int .i64 a1_1, .slice A1_2 l1_2.length c1_2]] w fun e w' => e = .returned (.bool r) ∧ Below w.heap.size w w' := by
 have hu73 := Try.underlying73; have HR0_2 := Zm hr0_2; have HC0_2 := Zm hc0_2; clear hr0_2 hc0_2; have HR1_2 := Zm hr1_2; have HC1_2 := Zm hc1_2; clear hr1_2 hc1_2; have HB := Zm (Below.refl w.heap.size w); have H := h; clear h; unfold laws_eqBareObj.f at H; have HC3 := Zm H; clear H; go_enter Try.func55, Try.ntmps55; go_upto_if 9 with (first | ((with_reducible refine gate_dst (N := 2) rfl ?_); refine bx_ 2 73 #[.string a0_0, .int .i64 a0_1, .slice A0_2 l0_2.length c0_2] ?_; intro gb254 hg w4 hbox hb; have BK254 := Zm hbox; have GW254 := bz HB hg; have GE254 := bz HB hg; replace HB := bt_ HB hb; clear hb hbox hg) | ((with_reducible refine gate_dst (N := 3) rfl ?_); refine bx_ 3 73 #[.string a1_0, .int .i64 a1_1, .slice A1_2 l1_2.length c1_2] ?_; intro gb255 hg w5 hbox hb; have BK255 := Zm hbox; have GW255 := bz HB hg; have GE255 := bz HB hg; have NB254_255 := bl BK254 hg; have NB255_254 := bg BK254 hg; replace BK254 := kb BK254 hb; replace HB := bt_ HB hb; clear hb hbox hg; have hnb6 := NB254_255.out; have hnc6 := NB255_254.out; have hcz7 := cz3 BK254.out; have hcz8 := cz3 BK255.out; have hfz8_2 := Zkf BK255.out 2)); have H := HC3.out; clear HC3; replace H := se_ H; rcases H with ⟨c9, c9b0, c9b1, H⟩ | ⟨c9, c9b0, c9b1, H⟩
 · (first | rw [c9b0] | (simp only [i64_w, i32_w]; rw [c9b0]) | skip); obtain rfl := Option.some.inj H; go_wp2; go_ret; exact fin_ HB
 clear c9; (first | rw [c9b0] | (simp only [i64_w, i32_w]; rw [c9b0]) | skip); replace H := se_ H; rcases H with ⟨c10, c10b0, c10b1, H⟩ | ⟨c10, c10b0, c10b1, H⟩
 · obtain rfl := Option.some.inj H; have hnb17 := NB254_255.out; have hnc17 := NB255_254.out; have hcz18 := cz3 BK254.out; have hcz19 := cz3 BK255.out; go_wp2; go_ret; exact fin_ HB
 clear c10; replace H := sq_ H; obtain ⟨t256, A11, H⟩ := H; have HC12 := Zm H; clear H; have hnb13 := NB254_255.out; have hnc13 := NB255_254.out; have hcz14 := cz3 BK254.out; have hcz15 := cz3 BK255.out; (try clear BK254); (try clear BK255); go_upto_if 20 with (first | ((with_reducible refine gate_callee (f := 28) rfl ?_); refine ge_ (some 19) Try.func28 #[.slice A0_2 l0_2.length c0_2, .slice A1_2 l1_2.length c1_2] ?_; refine ca_ (laws_eqInt64S.calls _ _ _ _ _ _ _ _ _ (pd HR0_2 HB) HC0_2.out (pd HR1_2 HB) HC1_2.out A11.out) ?_; rintro e w' ⟨rfl, ⟨nd, rfl⟩⟩; refine ⟨_, rfl, ?_⟩)); have H := HC12.out; clear HC12; replace H := sb_ H; rcases H with ⟨rfl, H⟩ | ⟨rfl, H⟩
 · obtain rfl := Option.some.inj H; go_wp2; go_ret; exact fin_ HB
 obtain rfl := Option.some.inj H; go_wp2; go_ret; exact fin_ HB
/-! ### laws_eqBareObjS: function 27 -/
def laws_eqBareObjS.l0 : Nat → List (S73) → List (S73) → Int → Option (Bool)
 | 0, _, _, _ => none
 | k + 1, x0, x1, x5 => if x5 < (x0.length : Int) then (if 0 ≤ x5 then (if x5 < (x1.length : Int) then ((laws_eqBareObj.f k ((rd_T73 x0 x5).f0) ((rd_T73 x0 x5).f1) ((rd_T73 x0 x5).f2) ((rd_T73 x1 x5).f0) ((rd_T73 x1 x5).f1) ((rd_T73 x1 x5).f2)).bind fun t259 => (if t259 = true then (laws_eqBareObjS.l0 k x0 x1 (wrap64 (x5 + 1))) else (some false))) else (none)) else (none)) else (some true)
def laws_eqBareObjS.f (k : Nat) (l0 : List (S73)) (l1 : List (S73)) : Option (Bool) := if (l0.length : Int) = (l1.length : Int) then (laws_eqBareObjS.l0 k l0 l1 0) else (some false)
theorem laws_eqBareObjS.mono_l : ∀ k, (∀ y0 y1 y2, LeO (laws_eqBareObjS.l0 k y0 y1 y2) (laws_eqBareObjS.l0 (k + 1) y0 y1 y2))
 | 0 => by intros; intro r h; simp [laws_eqBareObjS.l0] at h
 | k + 1 => by
  have ih0 := laws_eqBareObjS.mono_l k; have m0 := @laws_eqBareObj.mono; intros; unfold laws_eqBareObjS.l0; exact mo_
theorem laws_eqBareObjS.mono : ∀ a0 a1 k, LeO (laws_eqBareObjS.f k a0 a1) (laws_eqBareObjS.f (k + 1) a0 a1) := by
 intro a0 a1 k; have ih0 := laws_eqBareObjS.mono_l k; unfold laws_eqBareObjS.f; have m0 := @laws_eqBareObj.mono; exact mo_
def laws_eqBareObjS.T6 : Bool × List (List Nat × List Nat) := (true, [([], []), ([], []), ([0, 1], [0, 1]), ([2], [2]), ([], []), ([], []), ([4, 5], [4, 5]), ([6], [6]), ([3, 7], [3, 7]), ([8], [8])])
def laws_eqBareObjS.B6 : List Nat := [0, 0, 3, 7, 0, 0, 48, 112, 255, 511]
theorem laws_eqBareObjS.tab6 : rtab .any (opsOf Try.f27 6) = laws_eqBareObjS.T6 := by kernel_rfl
theorem laws_eqBareObjS.bits6 : waitsOk laws_eqBareObjS.T6.2 laws_eqBareObjS.B6 = true := by kernel_rfl
set_option maxHeartbeats 8000000 in
set_option maxRecDepth 100000 in
theorem laws_eqBareObjS.calls (k : Nat) (A0 : Option Addr) (c0 : Nat) (l0 : List (S73)) (A1 : Option Addr) (c1 : Nat) (l1 : List (S73)) (r : Bool) (w : World) (hr0 : Kd.C k73 w A0 l0.length l0) (hc0 : l0.length ≤ c0) (hr1 : Kd.C k73 w A1 l1.length l1) (hc1 : l1.length ≤ c1) (h : laws_eqBareObjS.f k l0 l1 = some r) :
 Calls Try.prog 27 #[.slice A0 l0.length c0, .slice A1 l1.length c1] w fun e w' => e = .returned (.bool r) ∧ Below w.heap.size w w' := by
 have hu73 := Try.underlying73; have HR0 := Zm hr0; have HC0 := Zm hc0; clear hr0 hc0; have HR1 := Zm hr1; have HC1 := Zm hc1; clear hr1 hc1; have HB := Zm (Below.refl w.heap.size w); have H := h; clear h; unfold laws_eqBareObjS.f at H; replace H := se_ H; rcases H with ⟨c3, c3b0, c3b1, H⟩ | ⟨c3, c3b0, c3b1, H⟩
 · have c3b2 : (l0.length == l1.length) = false := by first | simpa using c3 | (simp at c3 ⊢; omega)
   obtain rfl := Option.some.inj H; go_enter Try.func27, Try.ntmps27; go_wp2; go_ret; exact fin_ HB
 have c3b2 : (l0.length == l1.length) = true := by first | simpa using c3 | (simp at c3 ⊢; omega)
 clear c3; have H' := Zm H; clear H; go_enter Try.func27, Try.ntmps27; go_wp2; go_loopg [5] k (fun kq v5 w' => ∃ (x5_1 : Int), v5 = .int .i64 x5_1 ∧ Aside0 (laws_eqBareObjS.l0 kq l0 l1 x5_1 = some r) ∧ Aside0 (kq ≤ k) ∧ Aside0 (Below w.heap.size w w'))
 case atStart => exact ⟨(0), s1_, H', ⟨Nat.le_refl _⟩, ⟨bk HB.out⟩⟩
 case round =>
  clear H'; (try clear c3); (try clear c3b0); (try clear c3b1); (try clear c3b2); obtain ⟨x5_1, rfl, HA, HK1, HB⟩ := hrel
  cases gk with
  | zero => exact absurd HA.out (by simp [laws_eqBareObjS.l0])
  | succ k1 =>
   have H := HA.out; clear HA; simp only [laws_eqBareObjS.l0] at H; replace H := sd_ H; rcases H with ⟨c4b0, H⟩ | ⟨c4b0, H⟩
   · obtain rfl := Option.some.inj H; go_wp2; go_ret; exact fin_ HB
   replace H := snd_ H; obtain ⟨c5b0, H⟩ := H; replace H := snd_ H; obtain ⟨c6b0, H⟩ := H; replace H := sq_ H; obtain ⟨t259, A7, H⟩ := H; have HC8 := Zm H; clear H; try go_wp2
   have n0_ := Zm (Zbd HB.out); clear HB; have HB := n0_; clear n0_; have p257 : 0 ≤ (x5_1 : Int) := da_; have q257 : x5_1 < (l0.length : Int) := da_; obtain ⟨ad257, A257_2, c257_2, e257, hx257_0, hx257_1, hx257_2, hl257_2, hi257_2⟩ := at_T73 HR0.out x5_1 p257 q257; have hw257_2 := hx257_2; have hw257_1 := hx257_1; have hw257_0 := hx257_0; cases e257; replace hx257_0 := hx_ HB hx257_0 (Zlt _ _ hx257_0); replace hx257_1 := hx_ HB hx257_1 (Zlt _ _ hx257_1); replace hx257_2 := hx_ HB hx257_2 (Zlt _ _ hx257_2); have HR257_2 := Zm hi257_2; have HC257_2 := Zm hl257_2; clear hi257_2 hl257_2; replace p257 := eq_true p257; replace q257 := eq_true q257; have p258 : 0 ≤ (x5_1 : Int) := da_; have q258 : x5_1 < (l1.length : Int) := da_; obtain ⟨ad258, A258_2, c258_2, e258, hx258_0, hx258_1, hx258_2, hl258_2, hi258_2⟩ := at_T73 HR1.out x5_1 p258 q258; have hw258_2 := hx258_2; have hw258_1 := hx258_1; have hw258_0 := hx258_0; cases e258; replace hx258_0 := hx_ HB hx258_0 (Zlt _ _ hx258_0); replace hx258_1 := hx_ HB hx258_1 (Zlt _ _ hx258_1); replace hx258_2 := hx_ HB hx258_2 (Zlt _ _ hx258_2); have HR258_2 := Zm hi258_2; have HC258_2 := Zm hl258_2; clear hi258_2 hl258_2; replace p258 := eq_true p258; replace q258 := eq_true q258; refine start_ (n := 10) (S := fun w' => w'.cell? (ad257.add ((x5_1).toNat * 3)) = some (.string ((rd_T73 l0 x5_1).f0)) ∧ w'.cell? ⟨(ad257.add ((x5_1).toNat * 3)).block, (ad257.add ((x5_1).toNat * 3)).off + 1, none⟩ = some (.int .i64 ((rd_T73 l0 x5_1).f1)) ∧ w'.cell? ⟨(ad257.add ((x5_1).toNat * 3)).block, (ad257.add ((x5_1).toNat * 3)).off + 2, none⟩ = some (.slice A257_2 ((rd_T73 l0 x5_1).f2).length c257_2) ∧ w'.cell? (ad258.add ((x5_1).toNat * 3)) = some (.string ((rd_T73 l1 x5_1).f0)) ∧ w'.cell? ⟨(ad258.add ((x5_1).toNat * 3)).block, (ad258.add ((x5_1).toNat * 3)).off + 1, none⟩ = some (.int .i64 ((rd_T73 l1 x5_1).f1)) ∧ w'.cell? ⟨(ad258.add ((x5_1).toNat * 3)).block, (ad258.add ((x5_1).toNat * 3)).off + 2, none⟩ = some (.slice A258_2 ((rd_T73 l1 x5_1).f2).length c258_2)) (ds := []) #[false, false, false, false, false, false, false, false, false, false] (by kernel_rfl) rfl rfl ⟨((HB.out.cell (Zlt _ _ hw257_0)).trans hw257_0), ((HB.out.cell (Zlt _ _ hw257_1)).trans hw257_1), ((HB.out.cell (Zlt _ _ hw257_2)).trans hw257_2), ((HB.out.cell (Zlt _ _ hw258_0)).trans hw258_0), ((HB.out.cell (Zlt _ _ hw258_1)).trans hw258_1), ((HB.out.cell (Zlt _ _ hw258_2)).trans hw258_2)⟩ (fun hHeld => ?_); refine with_tabW laws_eqBareObjS.tab6 laws_eqBareObjS.bits6 (fun HT_ HW_ => ?_); generalize wr.drew = w9 at HB HR257_2 HR258_2 hx257_0 hx257_1 hx257_2 hx258_0 hx258_1 hx258_2 hHeld ⊢; refine px_ 0 17 ?_; refine px_ 1 18 ?_; refine px_ 2 19 ?_; refine px_ 4 21 ?_; refine px_ 5 22 ?_; refine px_ 6 23 ?_; refine tk_ 3 20 ?_; refine tk_ 7 24 ?_; refine one_ (i := 8) (N := some 25) #[true, true, true, true, true, true, true, true, true, false] rfl rfl (one_of HT_.out (by kernel_rfl)) (by decide) (fun K hK => ?_); refine goes_ Try.func55 (by kernel_rfl) rfl #[.agg #[.string ((rd_T73 l0 x5_1).f0), .int .i64 ((rd_T73 l0 x5_1).f1), .slice A257_2 ((rd_T73 l0 x5_1).f2).length c257_2], .agg #[.string ((rd_T73 l1 x5_1).f0), .int .i64 ((rd_T73 l1 x5_1).f1), .slice A258_2 ((rd_T73 l1 x5_1).f2).length c258_2]] (by rfl) rfl rfl (by (try simp only [List.map_toArray, List.map_cons, List.map_nil]); first | done | rfl | (simp only [List.length_drop, List.length_take]; rfl)) ?_; with_reducible refine (laws_eqBareObj.calls k1 ((rd_T73 l0 x5_1).f0) ((rd_T73 l0 x5_1).f1) _ _ ((rd_T73 l0 x5_1).f2) ((rd_T73 l1 x5_1).f0) ((rd_T73 l1 x5_1).f1) _ _ ((rd_T73 l1 x5_1).f2) t259 _ ?side1 ?side2 ?side3 ?side4 A7.out).mono ?_
   (case side1 => exact pd HR257_2 HB); (case side2 => exact HC257_2.out); (case side3 => exact pd HR258_2 HB); (case side4 => exact HC258_2.out); rintro e w10 ⟨rfl, hb⟩; refine ⟨_, rfl, ?_⟩; have n0_ := bt_ HB hb; clear HB; have HB := n0_; clear n0_; refine hK.out _ _ ⟨((HB.out.cell (Zlt _ _ hw257_0)).trans hw257_0), ((HB.out.cell (Zlt _ _ hw257_1)).trans hw257_1), ((HB.out.cell (Zlt _ _ hw257_2)).trans hw257_2), ((HB.out.cell (Zlt _ _ hw258_0)).trans hw258_0), ((HB.out.cell (Zlt _ _ hw258_1)).trans hw258_1), ((HB.out.cell (Zlt _ _ hw258_2)).trans hw258_2)⟩ (fun hHeld => ?_); clear hK K; refine nm_ 25 ?_; refine px_ 9 26 ?_; refine done_ (done_of HT_.out (by kernel_rfl)) ?_; go_upto_if 26 with (fail); have H := HC8.out; clear HC8; replace H := sb_ H; rcases H with ⟨rfl, H⟩ | ⟨rfl, H⟩
   · obtain rfl := Option.some.inj H; go_wp2; go_ret; exact fin_ HB
   have H' := Zm H; clear H; go_wp2; go_roundg k1
   case measure => have := HK1.out; omega
   case rel => exact ⟨(wrap64 (x5_1 + 1)), s1_, H', ⟨by have := HK1.out; omega⟩, ⟨bk HB.out⟩⟩
/-! ### laws_eqBareAct: function 56 -/
def laws_eqBareAct.f (k : Nat) (a0_0 : Int) (a0_1 : Int) (a0_2 : Int) (l0_3 : List Int) (l0_4 : List Int) (a1_0 : Int) (a1_1 : Int) (a1_2 : Int) (l1_3 : List Int) (l1_4 : List Int) : Option (Bool) := if a0_0 = a1_0 then (if a0_1 = a1_1 then (if a0_2 = a1_2 then ((laws_eqInt64S.f k l0_3 l1_3).bind fun t262 => (if t262 = true then ((laws_eqInt64S.f k l0_4 l1_4).bind fun t263 => (if t263 = true then (some true) else (some false))) else (some false))) else (some false)) else (some false)) else (some false)
theorem laws_eqBareAct.mono : ∀ a0 a1 a2 a3 a4 a5 a6 a7 a8 a9 k, LeO (laws_eqBareAct.f k a0 a1 a2 a3 a4 a5 a6 a7 a8 a9) (laws_eqBareAct.f (k + 1) a0 a1 a2 a3 a4 a5 a6 a7 a8 a9) := by
 intro a0 a1 a2 a3 a4 a5 a6 a7 a8 a9 k; unfold laws_eqBareAct.f; have m0 := @laws_eqInt64S.mono; exact mo_
set_option maxHeartbeats 8000000 in
set_option maxRecDepth 100000 in
theorem laws_eqBareAct.calls (k : Nat) (a0_0 : Int) (a0_1 : Int) (a0_2 : Int) (A0_3 : Option Addr) (c0_3 : Nat) (l0_3 : List Int) (A0_4 : Option Addr) (c0_4 : Nat) (l0_4 : List Int) (a1_0 : Int) (a1_1 : Int) (a1_2 : Int) (A1_3 : Option Addr) (c1_3 : Nat) (l1_3 : List Int) (A1_4 : Option Addr) (c1_4 : Nat) (l1_4 : List Int) (r : Bool) (w : World) (hr0_3 : Kd.C (Kd.int .i64) w A0_3 l0_3.length l0_3) (hc0_3 : l0_3.length ≤ c0_3) (hr0_4 : Kd.C (Kd.int .i64) w A0_4 l0_4.length l0_4) (hc0_4 : l0_4.length ≤ c0_4) (hr1_3 : Kd.C (Kd.int .i64) w A1_3 l1_3.length l1_3) (hc1_3 : l1_3.length ≤ c1_3) (hr1_4 : Kd.C (Kd.int .i64) w A1_4 l1_4.length l1_4) (hc1_4 : l1_4.length ≤ c1_4) (h : laws_eqBareAct.f k a0_0 a0_1 a0_2 l0_3 l0_4 a1_0 a1_1 a1_2 l1_3 l1_4 = some r) :
 Calls Try.prog 56 #[.agg #[.int .i64 a0_0, .int .i64 a0_1, .int .i64 a0_2, .slice A0_3 l0_3.length c0_3, .slice A0_4 l0_4.length c0_4], .agg #[.int .i64 a1_0, .int .i64 a1_1, .int .i64 a1_2, .slice A1_3 l1_3.length c1_3, .slice A1_4 l1_4.length c1_4]] w fun e w' => e = .returned (.bool r) ∧ Below w.heap.size w w' := by
 have hu77 := Try.underlying77; have HR0_3 := Zm hr0_3; have HC0_3 := Zm hc0_3; clear hr0_3 hc0_3; have HR0_4 := Zm hr0_4; have HC0_4 := Zm hc0_4; clear hr0_4 hc0_4; have HR1_3 := Zm hr1_3; have HC1_3 := Zm hc1_3; clear hr1_3 hc1_3; have HR1_4 := Zm hr1_4; have HC1_4 := Zm hc1_4; clear hr1_4 hc1_4; have HB := Zm (Below.refl w.heap.size w); have H := h; clear h; unfold laws_eqBareAct.f at H; have HC3 := Zm H; clear H; go_enter Try.func56, Try.ntmps56; go_upto_if 9 with (first | ((with_reducible refine gate_dst (N := 2) rfl ?_); refine bx_ 2 77 #[.int .i64 a0_0, .int .i64 a0_1, .int .i64 a0_2, .slice A0_3 l0_3.length c0_3, .slice A0_4 l0_4.length c0_4] ?_; intro gb260 hg w4 hbox hb; have BK260 := Zm hbox; have GW260 := bz HB hg; have GE260 := bz HB hg; replace HB := bt_ HB hb; clear hb hbox hg) | ((with_reducible refine gate_dst (N := 3) rfl ?_); refine bx_ 3 77 #[.int .i64 a1_0, .int .i64 a1_1, .int .i64 a1_2, .slice A1_3 l1_3.length c1_3, .slice A1_4 l1_4.length c1_4] ?_; intro gb261 hg w5 hbox hb; have BK261 := Zm hbox; have GW261 := bz HB hg; have GE261 := bz HB hg; have NB260_261 := bl BK260 hg; have NB261_260 := bg BK260 hg; replace BK260 := kb BK260 hb; replace HB := bt_ HB hb; clear hb hbox hg; have hnb6 := NB260_261.out; have hnc6 := NB261_260.out; have hcz7 := cz5 BK260.out; have hcz8 := cz5 BK261.out; have hfz8_4 := Zkf BK261.out 4)); have H := HC3.out; clear HC3; replace H := se_ H; rcases H with ⟨c9, c9b0, c9b1, H⟩ | ⟨c9, c9b0, c9b1, H⟩
 · (first | rw [c9b0] | (simp only [i64_w, i32_w]; rw [c9b0]) | skip); obtain rfl := Option.some.inj H; go_wp2; go_ret; exact fin_ HB
 clear c9; (first | rw [c9b0] | (simp only [i64_w, i32_w]; rw [c9b0]) | skip); replace H := se_ H; rcases H with ⟨c10, c10b0, c10b1, H⟩ | ⟨c10, c10b0, c10b1, H⟩
 · obtain rfl := Option.some.inj H; have hnb28 := NB260_261.out; have hnc28 := NB261_260.out; have hcz29 := cz5 BK260.out; have hcz30 := cz5 BK261.out; go_wp2; go_ret; exact fin_ HB
 clear c10; have HC11 := Zm H; clear H; have hnb12 := NB260_261.out; have hnc12 := NB261_260.out; have hcz13 := cz5 BK260.out; have hcz14 := cz5 BK261.out; go_upto_if 19 with (fail); have H := HC11.out; clear HC11; replace H := se_ H; rcases H with ⟨c15, c15b0, c15b1, H⟩ | ⟨c15, c15b0, c15b1, H⟩
 · (first | rw [c15b0] | (simp only [i64_w, i32_w]; rw [c15b0]) | skip); obtain rfl := Option.some.inj H; go_wp2; go_ret; exact fin_ HB
 clear c15; (first | rw [c15b0] | (simp only [i64_w, i32_w]; rw [c15b0]) | skip); replace H := sq_ H; obtain ⟨t262, A16, H⟩ := H; have HC17 := Zm H; clear H; have hnb18 := NB260_261.out; have hnc18 := NB261_260.out; have hcz19 := cz5 BK260.out; have hcz20 := cz5 BK261.out; go_upto_if 25 with (first | ((with_reducible refine gate_callee (f := 28) rfl ?_); refine ge_ (some 24) Try.func28 #[.slice A0_3 l0_3.length c0_3, .slice A1_3 l1_3.length c1_3] ?_; refine ca_ (laws_eqInt64S.calls _ _ _ _ _ _ _ _ _ (pd HR0_3 HB) HC0_3.out (pd HR1_3 HB) HC1_3.out A16.out) ?_; rintro e w' ⟨rfl, ⟨nd, rfl⟩⟩; refine ⟨_, rfl, ?_⟩)); have H := HC17.out; clear HC17; replace H := sb_ H; rcases H with ⟨rfl, H⟩ | ⟨rfl, H⟩
 · obtain rfl := Option.some.inj H; go_wp2; go_ret; exact fin_ HB
 replace H := sq_ H; obtain ⟨t263, A22, H⟩ := H; have HC23 := Zm H; clear H; have hnb24 := NB260_261.out; have hnc24 := NB261_260.out; have hcz25 := cz5 BK260.out; have hcz26 := cz5 BK261.out; (try clear BK260); (try clear BK261); go_upto_if 31 with (first | ((with_reducible refine gate_callee (f := 28) rfl ?_); refine ge_ (some 30) Try.func28 #[.slice A0_4 l0_4.length c0_4, .slice A1_4 l1_4.length c1_4] ?_; refine ca_ (laws_eqInt64S.calls _ _ _ _ _ _ _ _ _ (Kd.C_below HR0_4.out (bk HB.out)) HC0_4.out (Kd.C_below HR1_4.out (bk HB.out)) HC1_4.out A22.out) ?_; rintro e w' ⟨rfl, ⟨nd, rfl⟩⟩; refine ⟨_, rfl, ?_⟩)); have H := HC23.out; clear HC23; replace H := sb_ H; rcases H with ⟨rfl, H⟩ | ⟨rfl, H⟩
 · obtain rfl := Option.some.inj H; go_wp2; go_ret; exact fin_ HB
 obtain rfl := Option.some.inj H; go_wp2; go_ret; exact fin_ HB
end Go.Proofs.Ytljeeiijepoenaa.PFnExactErase
