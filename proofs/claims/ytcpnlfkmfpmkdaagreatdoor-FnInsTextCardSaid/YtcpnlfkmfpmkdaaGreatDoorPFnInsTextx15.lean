/- Functions of the program as plain Lean functions, each with a proof that the program's call comes to the same; no condition. Written by a program of this session. -/
import Derived.Test.YtcpnlfkmfpmkdaaGreatDoorPFnInsTextx0
import Derived.Test.YtcpnlfkmfpmkdaaGreatDoorPFnInsTextx2
import Derived.Test.YtcpnlfkmfpmkdaaGreatDoorPFnInsTextx10
import Derived.Test.YtcpnlfkmfpmkdaaGreatDoorPFnInsTextx12
import Derived.Test.YtcpnlfkmfpmkdaaGreatDoorPFnInsTextx13
import Derived.Test.YtcpnlfkmfpmkdaaGreatDoorPFnInsTextx14
namespace Go.Proofs.YtcpnlfkmfpmkdaaGreatDoor.PFnInsText
open Go.RowKit Go.Proofs.YtcpnlfkmfpmkdaaGreatDoorW.PrintWords Go.Proofs.YtcpnlfkmfpmkdaaGreatDoorW.PrintLast Go.Proofs.YtcpnlfkmfpmkdaaGreatDoorW.PrintMore
open Go.Proofs.YtcpnlfkmfpmkdaaGreatDoorW.PrintWords renaming below_alloc → Zba, pw_below_drewN → Zbn, below_drew1 → Zbd, below_set → Zbs, below_size → Zbz, below_step → Zbt, blk_drewN → Zkn, blk_drew → Zkd, blk_alloc → Zka, blk_frozen → Zkf, blk_far → Zkr, blk_put → Zkp, blk_below → Zkb, add_block → Zab
open Go.Proofs.YtcpnlfkmfpmkdaaGreatDoorW.PrintWords.Aside0 renaming mk → Zm
attribute [local go_sem] max2_int min2_int max_two min_two max_three min_three max_four min_four   -- for this text's walks alone
set_option linter.unusedVariables false
set_option linter.unusedSimpArgs false

/-! ### spec_l14Read: function 58 -/
mutual
def spec_l14Read.j0 : Nat → List ByteArray → ByteArray → Bool → Int → Int → ByteArray → ByteArray → ByteArray → Option (Int × Int × ByteArray × ByteArray × ByteArray × Bool)
 | 0, _, _, _, _, _, _, _, _ => none
 | k + 1, x4, x6, x19, x637000, x637001, x637002, x637003, x637004 => if x19 = true then (if 1 < (x4.length : Int) then ((spec_l01Num.f k (rdOf ByteArray.empty x4 1)).bind fun bt639 => (some (x637000, bt639.1, x637002, x637003, x637004, bt639.2))) else (none)) else (if x6.toList = ([99] : List UInt8) then (spec_l14Read.j1 k x4 x6 ((x4.length : Int) == 2) x637000 x637001 x637002 x637003 x637004) else (spec_l14Read.j1 k x4 x6 false x637000 x637001 x637002 x637003 x637004))
def spec_l14Read.j1 : Nat → List ByteArray → ByteArray → Bool → Int → Int → ByteArray → ByteArray → ByteArray → Option (Int × Int × ByteArray × ByteArray × ByteArray × Bool)
 | 0, _, _, _, _, _, _, _, _ => none
 | k + 1, x4, x6, x46, x637000, x637001, x637002, x637003, x637004 => if x46 = true then (if 1 < (x4.length : Int) then (some (x637000, x637001, rdOf ByteArray.empty x4 1, x637003, x637004, true)) else (none)) else (if x6.toList = ([121] : List UInt8) then (spec_l14Read.j2 k x4 x6 ((x4.length : Int) == 2) x637000 x637001 x637002 x637003 x637004) else (spec_l14Read.j2 k x4 x6 false x637000 x637001 x637002 x637003 x637004))
def spec_l14Read.j2 : Nat → List ByteArray → ByteArray → Bool → Int → Int → ByteArray → ByteArray → ByteArray → Option (Int × Int × ByteArray × ByteArray × ByteArray × Bool)
 | 0, _, _, _, _, _, _, _, _ => none
 | k + 1, x4, x6, x59, x637000, x637001, x637002, x637003, x637004 => if x59 = true then (if 1 < (x4.length : Int) then (some (x637000, x637001, x637002, x637003, rdOf ByteArray.empty x4 1, true)) else (none)) else (if x6.toList = ([102] : List UInt8) then (if (x4.length : Int) = 4 then (if 1 < (x4.length : Int) then (if 2 < (x4.length : Int) then (if 3 < (x4.length : Int) then (some (x637000, x637001, rdOf ByteArray.empty x4 1, rdOf ByteArray.empty x4 2, rdOf ByteArray.empty x4 3, true)) else (none)) else (none)) else (none)) else (if x6.toList = ([] : List UInt8) then (some (x637000, x637001, x637002, x637003, x637004, ((x4.length : Int) == 1))) else (some (x637000, x637001, x637002, x637003, x637004, false)))) else (if x6.toList = ([109] : List UInt8) then (if (x4.length : Int) = 4 then (if 1 < (x4.length : Int) then (if 2 < (x4.length : Int) then (if 3 < (x4.length : Int) then (some (x637000, x637001, rdOf ByteArray.empty x4 1, rdOf ByteArray.empty x4 2, rdOf ByteArray.empty x4 3, true)) else (none)) else (none)) else (none)) else (if x6.toList = ([] : List UInt8) then (some (x637000, x637001, x637002, x637003, x637004, ((x4.length : Int) == 1))) else (some (x637000, x637001, x637002, x637003, x637004, false)))) else (if x6.toList = ([] : List UInt8) then (some (x637000, x637001, x637002, x637003, x637004, ((x4.length : Int) == 1))) else (some (x637000, x637001, x637002, x637003, x637004, false)))))
end
def spec_l14Read.f (k : Nat) (a0 : ByteArray) : Option (Int × Int × ByteArray × ByteArray × ByteArray × Bool) := (spec_l01Split.f k a0 32).bind fun t631 => (if 0 < (t631.length : Int) then ((spec_l14Op.f k (rdOf ByteArray.empty t631 0)).bind fun t635 => ((spec_OpForm.f k t635).bind fun t637 => (if t637.toList = ([110] : List UInt8) then (spec_l14Read.j0 k t631 t637 ((t631.length : Int) == 2) t635 0 (⟨#[]⟩ : ByteArray) (⟨#[]⟩ : ByteArray) (⟨#[]⟩ : ByteArray)) else (if t637.toList = ([105] : List UInt8) then (spec_l14Read.j0 k t631 t637 ((t631.length : Int) == 2) t635 0 (⟨#[]⟩ : ByteArray) (⟨#[]⟩ : ByteArray) (⟨#[]⟩ : ByteArray)) else (if t637.toList = ([116] : List UInt8) then (spec_l14Read.j0 k t631 t637 ((t631.length : Int) == 2) t635 0 (⟨#[]⟩ : ByteArray) (⟨#[]⟩ : ByteArray) (⟨#[]⟩ : ByteArray)) else (spec_l14Read.j0 k t631 t637 false t635 0 (⟨#[]⟩ : ByteArray) (⟨#[]⟩ : ByteArray) (⟨#[]⟩ : ByteArray))))))) else (none))
set_option maxHeartbeats 8000000 in
set_option maxRecDepth 100000 in
theorem spec_l14Read.calls (k : Nat) (a0 : ByteArray) (r1 : Int) (r2 : Int) (r3 : ByteArray) (r4 : ByteArray) (r5 : ByteArray) (r6 : Bool) (w : World) (h : spec_l14Read.f k a0 = some (r1, r2, r3, r4, r5, r6)) :
 Calls Tryz.prog 58 #[.string a0] w fun e w' => e = .returned (.tuple #[.agg #[.int .i64 r1, .int .i64 r2, .string r3, .string r4, .string r5], .bool r6]) ∧ Below w.heap.size w w' := by
 have hu44 := Tryz.underlying44; have HB := Zm (Below.refl w.heap.size w); have H : ((spec_l01Split.f k a0 32).bind fun t631 => (if 0 < (t631.length : Int) then ((spec_l14Op.f k (rdOf ByteArray.empty t631 0)).bind fun t635 => ((spec_OpForm.f k t635).bind fun t637 => (if t637.toList = ([110] : List UInt8) then (spec_l14Read.j0 k t631 t637 ((t631.length : Int) == 2) t635 0 (⟨#[]⟩ : ByteArray) (⟨#[]⟩ : ByteArray) (⟨#[]⟩ : ByteArray)) else (if t637.toList = ([105] : List UInt8) then (spec_l14Read.j0 k t631 t637 ((t631.length : Int) == 2) t635 0 (⟨#[]⟩ : ByteArray) (⟨#[]⟩ : ByteArray) (⟨#[]⟩ : ByteArray)) else (if t637.toList = ([116] : List UInt8) then (spec_l14Read.j0 k t631 t637 ((t631.length : Int) == 2) t635 0 (⟨#[]⟩ : ByteArray) (⟨#[]⟩ : ByteArray) (⟨#[]⟩ : ByteArray)) else (spec_l14Read.j0 k t631 t637 false t635 0 (⟨#[]⟩ : ByteArray) (⟨#[]⟩ : ByteArray) (⟨#[]⟩ : ByteArray))))))) else (none))) = some (r1, r2, r3, r4, r5, r6) := h; clear h; replace H := Option.bind_eq_some_iff.mp H; obtain ⟨t631, A20, H⟩ := H; replace H : (if 0 < (t631.length : Int) then ((spec_l14Op.f k (rdOf ByteArray.empty t631 0)).bind fun t635 => ((spec_OpForm.f k t635).bind fun t637 => (if t637.toList = ([110] : List UInt8) then (spec_l14Read.j0 k t631 t637 ((t631.length : Int) == 2) t635 0 (⟨#[]⟩ : ByteArray) (⟨#[]⟩ : ByteArray) (⟨#[]⟩ : ByteArray)) else (if t637.toList = ([105] : List UInt8) then (spec_l14Read.j0 k t631 t637 ((t631.length : Int) == 2) t635 0 (⟨#[]⟩ : ByteArray) (⟨#[]⟩ : ByteArray) (⟨#[]⟩ : ByteArray)) else (if t637.toList = ([116] : List UInt8) then (spec_l14Read.j0 k t631 t637 ((t631.length : Int) == 2) t635 0 (⟨#[]⟩ : ByteArray) (⟨#[]⟩ : ByteArray) (⟨#[]⟩ : ByteArray)) else (spec_l14Read.j0 k t631 t637 false t635 0 (⟨#[]⟩ : ByteArray) (⟨#[]⟩ : ByteArray) (⟨#[]⟩ : ByteArray))))))) else (none)) = some (r1, r2, r3, r4, r5, r6) := H; have A2 := Zm A20; clear A20; by_cases c3 : 0 < (t631.length : Int); rotate_left
 · rw [if_neg c3] at H; exact absurd H (by simp)

 rw [if_pos c3] at H
 have c3b0 := decide_eq_true c3
 have c3b1 : decide (0 < t631.length) = true := decide_eq_true (by omega)
 clear c3
 replace H := Option.bind_eq_some_iff.mp H
 obtain ⟨t635, A40, H⟩ := H
 replace H : ((spec_OpForm.f k t635).bind fun t637 => (if t637.toList = ([110] : List UInt8) then (spec_l14Read.j0 k t631 t637 ((t631.length : Int) == 2) t635 0 (⟨#[]⟩ : ByteArray) (⟨#[]⟩ : ByteArray) (⟨#[]⟩ : ByteArray)) else (if t637.toList = ([105] : List UInt8) then (spec_l14Read.j0 k t631 t637 ((t631.length : Int) == 2) t635 0 (⟨#[]⟩ : ByteArray) (⟨#[]⟩ : ByteArray) (⟨#[]⟩ : ByteArray)) else (if t637.toList = ([116] : List UInt8) then (spec_l14Read.j0 k t631 t637 ((t631.length : Int) == 2) t635 0 (⟨#[]⟩ : ByteArray) (⟨#[]⟩ : ByteArray) (⟨#[]⟩ : ByteArray)) else (spec_l14Read.j0 k t631 t637 false t635 0 (⟨#[]⟩ : ByteArray) (⟨#[]⟩ : ByteArray) (⟨#[]⟩ : ByteArray)))))) = some (r1, r2, r3, r4, r5, r6) := H
 have A4 := Zm A40
 clear A40
 replace H := Option.bind_eq_some_iff.mp H
 obtain ⟨t637, A50, H⟩ := H
 replace H : (if t637.toList = ([110] : List UInt8) then (spec_l14Read.j0 k t631 t637 ((t631.length : Int) == 2) t635 0 (⟨#[]⟩ : ByteArray) (⟨#[]⟩ : ByteArray) (⟨#[]⟩ : ByteArray)) else (if t637.toList = ([105] : List UInt8) then (spec_l14Read.j0 k t631 t637 ((t631.length : Int) == 2) t635 0 (⟨#[]⟩ : ByteArray) (⟨#[]⟩ : ByteArray) (⟨#[]⟩ : ByteArray)) else (if t637.toList = ([116] : List UInt8) then (spec_l14Read.j0 k t631 t637 ((t631.length : Int) == 2) t635 0 (⟨#[]⟩ : ByteArray) (⟨#[]⟩ : ByteArray) (⟨#[]⟩ : ByteArray)) else (spec_l14Read.j0 k t631 t637 false t635 0 (⟨#[]⟩ : ByteArray) (⟨#[]⟩ : ByteArray) (⟨#[]⟩ : ByteArray))))) = some (r1, r2, r3, r4, r5, r6) := H
 have A5 := Zm A50
 clear A50
 have HC6 := Zm H
 clear H
 go_enter Tryz.func58, Tryz.ntmps58
 go_upto_region 4 with (first | ((with_reducible refine gate_dst (N := 2) rfl ?_); (try (refine gate_guard (by rfl) ?_; dsimp only)); refine box_event ?hg (N := 2) ?hd (cs := #[.int .i64 0, .int .i64 0, .string (⟨#[]⟩ : ByteArray), .string (⟨#[]⟩ : ByteArray), .string (⟨#[]⟩ : ByteArray)]) (t := 44) ?hr ?_; (case hd => rfl); (case hg => rfl); (case hr => first | (go_simp; done) | (go_simp; rfl)); intro gb630 hg w7 hbox hb; have n0_ := (⟨Zm (Zbt (bk HB.out) hb), Zm (hbox), Zm ((by rw [hg]; exact (Zbz (bk HB.out)) : w.heap.size ≤ gb630)), Zm ((by rw [hg]; exact (Zbz (bk HB.out)) : w.heap.size ≤ gb630))⟩ : _ ∧ _ ∧ _ ∧ _); clear HB; obtain ⟨HB, BK630, GW630, GE630⟩ := n0_; clear hb hbox hg) | ((with_reducible refine gate_callee (f := 83) rfl ?_); refine ge_ (some 10) Tryz.func83 #[.string a0, .int .u8 32] ?_; (with_reducible refine (spec_l01Split.calls _ _ _ _ _ A2.out).mono ?_); rintro e w8 ⟨v632, rfl, ho0, hb⟩; refine ⟨_, rfl, ?_⟩; have n0_ := (⟨Zm (Kd.R_lower ho0 (Zbz (bk HB.out))), Zm (Zkb (pk BK630.out) hb), Zm (Zbt (bk HB.out) hb)⟩ : _ ∧ _ ∧ _); clear BK630 HB; obtain ⟨HO633, BK630, HB⟩ := n0_; (try clear hb); (try clear hb2); (try clear hk); (try clear hi); (try clear ho0); obtain ⟨Ao9, co9, eo9⟩ := Kd.R_slice HO633.out; subst eo9; have p634 : 0 ≤ (0 : Int) := (by omega); have q634 : 0 < (t631.length : Int) := of_decide_eq_true (by first | (with_reducible assumption) | assumption); obtain ⟨ad634, e634, hx634_0⟩ := Kd.at_string (Kd.R_reads' HO633.out).2.2 0 p634 q634; cases e634; have qi634 : (0 < t631.length) = True := eq_true (by omega); (try rw [show ((0 : Int)).toNat = 0 from rfl] at hx634_0); (try rw [Addr.add_zero'] at hx634_0); replace p634 := eq_true p634; replace q634 := eq_true q634) | ((with_reducible refine gate_callee (f := 95) rfl ?_); refine ge_ (some 14) Tryz.func95 #[.string (rdOf ByteArray.empty t631 0)] ?_; (with_reducible refine (spec_l14Op.calls _ _ _ _ A4.out).mono ?_); rintro e w10 ⟨rfl, hb⟩; refine ⟨_, rfl, ?_⟩; have n0_ := (⟨Zm (Kd.R_below (by (with_reducible repeat (first | apply Kd.R_alloc | apply Kd.R_drewN | apply Kd.R_drew)); exact HO633.out) hb), Zm (Zkb (pk BK630.out) hb), Zm (Zbt (bk HB.out) hb)⟩ : _ ∧ _ ∧ _); clear HO633 BK630 HB; obtain ⟨HO633, BK630, HB⟩ := n0_; (try clear hb); (try clear hb2); (try clear hk); (try clear hi)) | ((with_reducible refine gate_dst (N := 5) rfl ?_); (try (refine gate_guard (by rfl) ?_; dsimp only)); refine box_event ?hg (N := 5) ?hd (cs := #[.int .i64 0, .int .i64 0, .string (⟨#[]⟩ : ByteArray), .string (⟨#[]⟩ : ByteArray), .string (⟨#[]⟩ : ByteArray)]) (t := 44) ?hr ?_; (case hd => rfl); (case hg => rfl); (case hr => first | (go_simp; done) | (go_simp; rfl)); intro gb636 hg w11 hbox hb; have n0_ := (⟨Zm (Kd.R_below (by (with_reducible repeat (first | apply Kd.R_alloc | apply Kd.R_drewN | apply Kd.R_drew)); exact HO633.out) hb), Zm (Zkb (pk BK630.out) hb), Zm (Zbt (bk HB.out) hb), Zm (hbox), Zm ((by rw [hg]; exact (Zbz (bk HB.out)) : w.heap.size ≤ gb636)), Zm ((by rw [hg]; exact (Zbz (bk HB.out)) : w.heap.size ≤ gb636)), Zm ((by rw [hg]; exact Nat.ne_of_lt (blk_lt (pk BK630.out)) : gb630 ≠ gb636)), Zm ((by rw [hg]; exact Nat.ne_of_gt (blk_lt (pk BK630.out)) : gb636 ≠ gb630))⟩ : _ ∧ _ ∧ _ ∧ _ ∧ _ ∧ _ ∧ _ ∧ _); clear HO633 BK630 HB; obtain ⟨HO633, BK630, HB, BK636, GW636, GE636, NB630_636, NB636_630⟩ := n0_; clear hb hbox hg; have hnb12 := NB636_630.out; have hnc12 := NB630_636.out; obtain ⟨hcz13_0, hcz13_1, hcz13_2, hcz13_3, hcz13_4, hfz13_0, hfz13_1, hfz13_2, hfz13_3, hfz13_4⟩ := cf5 BK636.out) | ((with_reducible refine gate_callee (f := 39) rfl ?_); refine ge_ (some 18) Tryz.func39 #[.int .i64 t635] ?_; (with_reducible refine (spec_OpForm.calls _ _ _ _ A5.out).mono ?_); rintro e w14 ⟨rfl, hb⟩; refine ⟨_, rfl, ?_⟩; have n0_ := (⟨Zm (Kd.R_below (by (with_reducible repeat (first | apply Kd.R_alloc | apply Kd.R_drewN | apply Kd.R_drew)); exact (Kd.R_mono (Kd.R_far (p := ⟨gb636, 4, none⟩) (Kd.R_far (p := ⟨gb636, 3, none⟩) (Kd.R_far (p := ⟨gb636, 2, none⟩) (Kd.R_far (p := ⟨gb636, 1, none⟩) (Kd.R_far (p := ⟨gb636, 0, none⟩) (Kd.R_types HO633.out BK636.out (by decide)) (fun _ hk => hk.2) (.int .i64 t635)) (fun _ hk => hk.2) (.int .i64 0)) (fun _ hk => hk.2) (.string (⟨#[]⟩ : ByteArray))) (fun _ hk => hk.2) (.string (⟨#[]⟩ : ByteArray))) (fun _ hk => hk.2) (.string (⟨#[]⟩ : ByteArray))) (fun _ h_ => h_.1))) hb), Zm (Zkb (g := gb630) (o := .cells #[.int .i64 0, .int .i64 0, .string (⟨#[]⟩ : ByteArray), .string (⟨#[]⟩ : ByteArray), .string (⟨#[]⟩ : ByteArray)] 44 (0, 0)) zc_ hb), Zm (Zkb (g := gb636) (o := .cells #[.int .i64 t635, .int .i64 0, .string (⟨#[]⟩ : ByteArray), .string (⟨#[]⟩ : ByteArray), .string (⟨#[]⟩ : ByteArray)] 44 (0, 0)) zc_ hb), Zm (Zbt hb_ hb)⟩ : _ ∧ _ ∧ _ ∧ _); clear HO633 BK630 BK636 HB; obtain ⟨HO633, BK630, BK636, HB⟩ := n0_; (try clear hb); (try clear hb2); (try clear hk); (try clear hi)))
 (try simp only [Act.put, List.setIfInBounds_toArray, List.set_cons_zero, List.set_cons_succ])
 go_cut [19] (fun v19 wc => ∃ (kq : Nat) (x19_5 : Bool), v19 = .bool x19_5 ∧ Aside0 (spec_l14Read.j0 kq t631 t637 x19_5 t635 0 (⟨#[]⟩ : ByteArray) (⟨#[]⟩ : ByteArray) (⟨#[]⟩ : ByteArray) = some (r1, r2, r3, r4, r5, r6)) ∧ Aside0 (kq ≤ k) ∧ Aside0 (Kd.R Kd.string 9 wc w.heap.size (fun _ => True) (.slice (some ad634) t631.length co9) t631) ∧ Aside0 (wc.heap[gb630]? = some (.cells #[.int .i64 0, .int .i64 0, .string (⟨#[]⟩ : ByteArray), .string (⟨#[]⟩ : ByteArray), .string (⟨#[]⟩ : ByteArray)] 44 (0, 0))) ∧ Aside0 (wc.heap[gb636]? = some (.cells #[.int .i64 t635, .int .i64 0, .string (⟨#[]⟩ : ByteArray), .string (⟨#[]⟩ : ByteArray), .string (⟨#[]⟩ : ByteArray)] 44 (0, 0))) ∧ Aside0 (Below w.heap.size w wc))
 case first =>
  have H := HC6.out
  clear HC6
  by_cases c15 : t637.toList = ([110] : List UInt8)
  rotate_left
  · rw [if_neg c15] at H
    have c15b0 : (t637.toList == ([110] : List UInt8)) = false := beq_eq_false_iff_ne.mpr c15
    have c15b1 : (t637.toList != ([110] : List UInt8)) = true := bne_iff_ne.mpr c15
    (first | rw [c15b0] | (simp only [i64_w, i32_w]; rw [c15b0]) | skip)
    by_cases c16 : t637.toList = ([105] : List UInt8)
    rotate_left
    · rw [if_neg c16] at H
      have c16b0 : (t637.toList == ([105] : List UInt8)) = false := beq_eq_false_iff_ne.mpr c16
      have c16b1 : (t637.toList != ([105] : List UInt8)) = true := bne_iff_ne.mpr c16
      by_cases c17 : t637.toList = ([116] : List UInt8)
      rotate_left
      · rw [if_neg c17] at H
        have c17b0 : (t637.toList == ([116] : List UInt8)) = false := beq_eq_false_iff_ne.mpr c17
        have c17b1 : (t637.toList != ([116] : List UInt8)) = true := bne_iff_ne.mpr c17
        have H' := Zm H
        clear H
        go_wp2
        go_meet
        case rel => exact ⟨_, (false), (by first | rfl | (simp; done) | (simp [*]; done)), H', ⟨by first | omega | exact Nat.le_refl _⟩, ⟨by (with_reducible repeat (first | apply Kd.R_alloc | apply Kd.R_drewN | apply Kd.R_drew)); exact HO633.out⟩, ⟨pk BK630.out⟩, ⟨pk BK636.out⟩, ⟨bk HB.out⟩⟩
      rw [if_pos c17] at H
      have c17b0 : (t637.toList == ([116] : List UInt8)) = true := beq_iff_eq.mpr c17
      have c17b1 : (t637.toList != ([116] : List UInt8)) = false := bne_eq_false_iff_eq.mpr c17
      clear c17
      have H' := Zm H
      clear H
      go_wp2
      go_meet
      case rel => exact ⟨_, (((t631.length : Int) == 2)), (by first | rfl | (simp; done) | (simp [*]; done)), H', ⟨by first | omega | exact Nat.le_refl _⟩, ⟨by (with_reducible repeat (first | apply Kd.R_alloc | apply Kd.R_drewN | apply Kd.R_drew)); exact HO633.out⟩, ⟨pk BK630.out⟩, ⟨pk BK636.out⟩, ⟨bk HB.out⟩⟩
    rw [if_pos c16] at H
    have c16b0 : (t637.toList == ([105] : List UInt8)) = true := beq_iff_eq.mpr c16
    have c16b1 : (t637.toList != ([105] : List UInt8)) = false := bne_eq_false_iff_eq.mpr c16
    clear c16
    have H' := Zm H
    clear H
    go_wp2
    go_meet
    case rel => exact ⟨_, (((t631.length : Int) == 2)), (by first | rfl | (simp; done) | (simp [*]; done)), H', ⟨by first | omega | exact Nat.le_refl _⟩, ⟨by (with_reducible repeat (first | apply Kd.R_alloc | apply Kd.R_drewN | apply Kd.R_drew)); exact HO633.out⟩, ⟨pk BK630.out⟩, ⟨pk BK636.out⟩, ⟨bk HB.out⟩⟩
  rw [if_pos c15] at H
  have c15b0 : (t637.toList == ([110] : List UInt8)) = true := beq_iff_eq.mpr c15
  have c15b1 : (t637.toList != ([110] : List UInt8)) = false := bne_eq_false_iff_eq.mpr c15
  clear c15
  (first | rw [c15b0] | (simp only [i64_w, i32_w]; rw [c15b0]) | skip)
  have H' := Zm H
  clear H
  go_wp2
  go_meet
  case rel => exact ⟨_, (((t631.length : Int) == 2)), (by first | rfl | (simp; done) | (simp [*]; done)), H', ⟨by first | omega | exact Nat.le_refl _⟩, ⟨by (with_reducible repeat (first | apply Kd.R_alloc | apply Kd.R_drewN | apply Kd.R_drew)); exact HO633.out⟩, ⟨pk BK630.out⟩, ⟨pk BK636.out⟩, ⟨bk HB.out⟩⟩
 case rest =>
  clear HC6
  (try clear c3); (try clear c3b0); (try clear c3b1); (try clear hcz13_0); (try clear hcz13_1); (try clear hcz13_2); (try clear hcz13_3); (try clear hcz13_4); (try clear hfz13_0); (try clear hfz13_1); (try clear hfz13_2); (try clear hfz13_3); (try clear hfz13_4); (try clear hx634_0); (try clear p634); (try clear q634)
  obtain ⟨kq, x19_5, rfl, HA, HJ5, HO_4, BK630, BK636, HB⟩ := hcut
  cases kq with
  | zero => exact absurd HA.out (by simp [spec_l14Read.j0])
  | succ kj5 =>
   have H := HA.out
   clear HA
   simp only [spec_l14Read.j0] at H
   by_cases c18 : x19_5 = true
   rotate_left
   · replace c18 := Bool.eq_false_iff.mpr c18
     subst c18
     rw [if_neg (show ¬ (false = true) by decide)] at H
     have HC25 := Zm H
     clear H
     go_upto_region 8 with (fail)
     go_cut [46] (fun v46 wc => ∃ (kq : Nat) (x46_24 : Bool), v46 = .bool x46_24 ∧ Aside0 (spec_l14Read.j1 kq t631 t637 x46_24 t635 0 (⟨#[]⟩ : ByteArray) (⟨#[]⟩ : ByteArray) (⟨#[]⟩ : ByteArray) = some (r1, r2, r3, r4, r5, r6)) ∧ Aside0 (kq ≤ kj5) ∧ Aside0 (Kd.R Kd.string 9 wc w.heap.size (fun _ => True) (.slice (some ad634) t631.length co9) t631) ∧ Aside0 (wc.heap[gb630]? = some (.cells #[.int .i64 0, .int .i64 0, .string (⟨#[]⟩ : ByteArray), .string (⟨#[]⟩ : ByteArray), .string (⟨#[]⟩ : ByteArray)] 44 (0, 0))) ∧ Aside0 (wc.heap[gb636]? = some (.cells #[.int .i64 t635, .int .i64 0, .string (⟨#[]⟩ : ByteArray), .string (⟨#[]⟩ : ByteArray), .string (⟨#[]⟩ : ByteArray)] 44 (0, 0))) ∧ Aside0 (Below w.heap.size w wc))
     case first =>
      have H := HC25.out
      clear HC25
      by_cases c26 : t637.toList = ([99] : List UInt8)
      rotate_left
      · rw [if_neg c26] at H
        have c26b0 : (t637.toList == ([99] : List UInt8)) = false := beq_eq_false_iff_ne.mpr c26
        have c26b1 : (t637.toList != ([99] : List UInt8)) = true := bne_iff_ne.mpr c26
        (first | rw [c26b0] | (simp only [i64_w, i32_w]; rw [c26b0]) | skip)
        have H' := Zm H
        clear H
        go_wp2
        go_meet
        case rel => exact ⟨_, (false), (by first | rfl | (simp; done) | (simp [*]; done)), H', ⟨by have := HJ5.out; first | omega | exact Nat.le_refl _⟩, ⟨by (with_reducible repeat (first | apply Kd.R_alloc | apply Kd.R_drewN | apply Kd.R_drew)); exact HO_4.out⟩, ⟨pk BK630.out⟩, ⟨pk BK636.out⟩, ⟨bk HB.out⟩⟩
      rw [if_pos c26] at H
      have c26b0 : (t637.toList == ([99] : List UInt8)) = true := beq_iff_eq.mpr c26
      have c26b1 : (t637.toList != ([99] : List UInt8)) = false := bne_eq_false_iff_eq.mpr c26
      clear c26
      (first | rw [c26b0] | (simp only [i64_w, i32_w]; rw [c26b0]) | skip)
      have H' := Zm H
      clear H
      go_wp2
      go_meet
      case rel => exact ⟨_, (((t631.length : Int) == 2)), (by first | rfl | (simp; done) | (simp [*]; done)), H', ⟨by have := HJ5.out; first | omega | exact Nat.le_refl _⟩, ⟨by (with_reducible repeat (first | apply Kd.R_alloc | apply Kd.R_drewN | apply Kd.R_drew)); exact HO_4.out⟩, ⟨pk BK630.out⟩, ⟨pk BK636.out⟩, ⟨bk HB.out⟩⟩
     case rest =>
      clear HC25
      (try clear c3); (try clear c3b0); (try clear c3b1); (try clear c18); (try clear hcz13_0); (try clear hcz13_1); (try clear hcz13_2); (try clear hcz13_3); (try clear hcz13_4); (try clear hfz13_0); (try clear hfz13_1); (try clear hfz13_2); (try clear hfz13_3); (try clear hfz13_4); (try clear hx634_0); (try clear p634); (try clear q634)
      obtain ⟨kq, x46_24, rfl, HA, HJ24, HO_4, BK630, BK636, HB⟩ := hcut
      cases kq with
      | zero => exact absurd HA.out (by simp [spec_l14Read.j1])
      | succ kj24 =>
       have H := HA.out
       clear HA
       simp only [spec_l14Read.j1] at H
       by_cases c27 : x46_24 = true
       rotate_left
       · replace c27 := Bool.eq_false_iff.mpr c27
         subst c27
         rw [if_neg (show ¬ (false = true) by decide)] at H
         have HC32 := Zm H
         clear H
         go_upto_region 11 with (fail)
         go_cut [59] (fun v59 wc => ∃ (kq : Nat) (x59_31 : Bool), v59 = .bool x59_31 ∧ Aside0 (spec_l14Read.j2 kq t631 t637 x59_31 t635 0 (⟨#[]⟩ : ByteArray) (⟨#[]⟩ : ByteArray) (⟨#[]⟩ : ByteArray) = some (r1, r2, r3, r4, r5, r6)) ∧ Aside0 (kq ≤ kj24) ∧ Aside0 (Kd.R Kd.string 9 wc w.heap.size (fun _ => True) (.slice (some ad634) t631.length co9) t631) ∧ Aside0 (wc.heap[gb630]? = some (.cells #[.int .i64 0, .int .i64 0, .string (⟨#[]⟩ : ByteArray), .string (⟨#[]⟩ : ByteArray), .string (⟨#[]⟩ : ByteArray)] 44 (0, 0))) ∧ Aside0 (wc.heap[gb636]? = some (.cells #[.int .i64 t635, .int .i64 0, .string (⟨#[]⟩ : ByteArray), .string (⟨#[]⟩ : ByteArray), .string (⟨#[]⟩ : ByteArray)] 44 (0, 0))) ∧ Aside0 (Below w.heap.size w wc))
         case first =>
          have H := HC32.out
          clear HC32
          by_cases c33 : t637.toList = ([121] : List UInt8)
          rotate_left
          · rw [if_neg c33] at H
            have c33b0 : (t637.toList == ([121] : List UInt8)) = false := beq_eq_false_iff_ne.mpr c33
            have c33b1 : (t637.toList != ([121] : List UInt8)) = true := bne_iff_ne.mpr c33
            (first | rw [c33b0] | (simp only [i64_w, i32_w]; rw [c33b0]) | skip)
            have H' := Zm H
            clear H
            go_wp2
            go_meet
            case rel => exact ⟨_, (false), (by first | rfl | (simp; done) | (simp [*]; done)), H', ⟨by have := HJ5.out; have := HJ24.out; first | omega | exact Nat.le_refl _⟩, ⟨by (with_reducible repeat (first | apply Kd.R_alloc | apply Kd.R_drewN | apply Kd.R_drew)); exact HO_4.out⟩, ⟨pk BK630.out⟩, ⟨pk BK636.out⟩, ⟨bk HB.out⟩⟩
          rw [if_pos c33] at H
          have c33b0 : (t637.toList == ([121] : List UInt8)) = true := beq_iff_eq.mpr c33
          have c33b1 : (t637.toList != ([121] : List UInt8)) = false := bne_eq_false_iff_eq.mpr c33
          clear c33
          (first | rw [c33b0] | (simp only [i64_w, i32_w]; rw [c33b0]) | skip)
          have H' := Zm H
          clear H
          go_wp2
          go_meet
          case rel => exact ⟨_, (((t631.length : Int) == 2)), (by first | rfl | (simp; done) | (simp [*]; done)), H', ⟨by have := HJ5.out; have := HJ24.out; first | omega | exact Nat.le_refl _⟩, ⟨by (with_reducible repeat (first | apply Kd.R_alloc | apply Kd.R_drewN | apply Kd.R_drew)); exact HO_4.out⟩, ⟨pk BK630.out⟩, ⟨pk BK636.out⟩, ⟨bk HB.out⟩⟩
         case rest =>
          clear HC32
          (try clear c3); (try clear c3b0); (try clear c3b1); (try clear c18); (try clear c27); (try clear hcz13_0); (try clear hcz13_1); (try clear hcz13_2); (try clear hcz13_3); (try clear hcz13_4); (try clear hfz13_0); (try clear hfz13_1); (try clear hfz13_2); (try clear hfz13_3); (try clear hfz13_4); (try clear hx634_0); (try clear p634); (try clear q634)
          obtain ⟨kq, x59_31, rfl, HA, HJ31, HO_4, BK630, BK636, HB⟩ := hcut
          cases kq with
          | zero => exact absurd HA.out (by simp [spec_l14Read.j2])
          | succ kj31 =>
           have H := HA.out
           clear HA
           simp only [spec_l14Read.j2] at H
           by_cases c34 : x59_31 = true
           rotate_left
           · replace c34 := Bool.eq_false_iff.mpr c34
             subst c34
             rw [if_neg (show ¬ (false = true) by decide)] at H
             by_cases c39 : t637.toList = ([102] : List UInt8)
             rotate_left
             · rw [if_neg c39] at H
               have c39b0 : (t637.toList == ([102] : List UInt8)) = false := beq_eq_false_iff_ne.mpr c39
               have c39b1 : (t637.toList != ([102] : List UInt8)) = true := bne_iff_ne.mpr c39
               by_cases c54 : t637.toList = ([109] : List UInt8)
               rotate_left
               · rw [if_neg c54] at H
                 have c54b0 : (t637.toList == ([109] : List UInt8)) = false := beq_eq_false_iff_ne.mpr c54
                 have c54b1 : (t637.toList != ([109] : List UInt8)) = true := bne_iff_ne.mpr c54
                 by_cases c69 : t637.toList = ([] : List UInt8)
                 rotate_left
                 · rw [if_neg c69] at H
                   have c69b0 : (t637.toList == ([] : List UInt8)) = false := beq_eq_false_iff_ne.mpr c69
                   have c69b1 : (t637.toList != ([] : List UInt8)) = true := bne_iff_ne.mpr c69
                   simp only [Option.some.injEq, Prod.mk.injEq] at H
                   obtain ⟨rfl, rfl, rfl, rfl, rfl, rfl⟩ := H
                   have hnb73 := NB636_630.out
                   have hnc73 := NB630_636.out
                   obtain ⟨hcz74_0, hcz74_1, hcz74_2, hcz74_3, hcz74_4, hfz74_0, hfz74_1, hfz74_2, hfz74_3, hfz74_4⟩ := cf5 BK636.out
                   obtain ⟨hcz75_0, hcz75_1, hcz75_2, hcz75_3, hcz75_4, hfz75_0, hfz75_1, hfz75_2, hfz75_3, hfz75_4⟩ := cf5 BK630.out
                   go_wp2
                   refine bodyPost_ret (results_ct rfl _ _ gb630 44 #[.int .i64 t635, .int .i64 0, .string (⟨#[]⟩ : ByteArray), .string (⟨#[]⟩ : ByteArray), .string (⟨#[]⟩ : ByteArray)] (0, 0) _ rfl zc_ Tryz.underlying44 rfl (by kernel_rfl)) rfl ?_
                   exact ⟨by first | rfl | (simp [*] <;> rfl), hb_⟩
                 rw [if_pos c69] at H
                 have c69b0 : (t637.toList == ([] : List UInt8)) = true := beq_iff_eq.mpr c69
                 have c69b1 : (t637.toList != ([] : List UInt8)) = false := bne_eq_false_iff_eq.mpr c69
                 clear c69
                 simp only [Option.some.injEq, Prod.mk.injEq] at H
                 obtain ⟨rfl, rfl, rfl, rfl, rfl, rfl⟩ := H
                 have hnb70 := NB636_630.out
                 have hnc70 := NB630_636.out
                 obtain ⟨hcz71_0, hcz71_1, hcz71_2, hcz71_3, hcz71_4, hfz71_0, hfz71_1, hfz71_2, hfz71_3, hfz71_4⟩ := cf5 BK636.out
                 obtain ⟨hcz72_0, hcz72_1, hcz72_2, hcz72_3, hcz72_4, hfz72_0, hfz72_1, hfz72_2, hfz72_3, hfz72_4⟩ := cf5 BK630.out
                 go_wp2
                 refine bodyPost_ret (results_ct rfl _ _ gb630 44 #[.int .i64 t635, .int .i64 0, .string (⟨#[]⟩ : ByteArray), .string (⟨#[]⟩ : ByteArray), .string (⟨#[]⟩ : ByteArray)] (0, 0) _ rfl zc_ Tryz.underlying44 rfl (by kernel_rfl)) rfl ?_
                 exact ⟨by first | rfl | (simp [*] <;> rfl), hb_⟩
               rw [if_pos c54] at H
               have c54b0 : (t637.toList == ([109] : List UInt8)) = true := beq_iff_eq.mpr c54
               have c54b1 : (t637.toList != ([109] : List UInt8)) = false := bne_eq_false_iff_eq.mpr c54
               clear c54
               by_cases c55 : (t631.length : Int) = 4
               rotate_left
               · rw [if_neg c55] at H
                 have c55b0 : ((t631.length : Int) == 4) = false := beq_eq_false_iff_ne.mpr c55
                 have c55b1 : ((t631.length : Int) != 4) = true := bne_iff_ne.mpr c55
                 by_cases c62 : t637.toList = ([] : List UInt8)
                 rotate_left
                 · rw [if_neg c62] at H
                   have c62b0 : (t637.toList == ([] : List UInt8)) = false := beq_eq_false_iff_ne.mpr c62
                   have c62b1 : (t637.toList != ([] : List UInt8)) = true := bne_iff_ne.mpr c62
                   simp only [Option.some.injEq, Prod.mk.injEq] at H
                   obtain ⟨rfl, rfl, rfl, rfl, rfl, rfl⟩ := H
                   have hnb66 := NB636_630.out
                   have hnc66 := NB630_636.out
                   obtain ⟨hcz67_0, hcz67_1, hcz67_2, hcz67_3, hcz67_4, hfz67_0, hfz67_1, hfz67_2, hfz67_3, hfz67_4⟩ := cf5 BK636.out
                   obtain ⟨hcz68_0, hcz68_1, hcz68_2, hcz68_3, hcz68_4, hfz68_0, hfz68_1, hfz68_2, hfz68_3, hfz68_4⟩ := cf5 BK630.out
                   go_wp2
                   refine bodyPost_ret (results_ct rfl _ _ gb630 44 #[.int .i64 t635, .int .i64 0, .string (⟨#[]⟩ : ByteArray), .string (⟨#[]⟩ : ByteArray), .string (⟨#[]⟩ : ByteArray)] (0, 0) _ rfl zc_ Tryz.underlying44 rfl (by kernel_rfl)) rfl ?_
                   exact ⟨by first | rfl | (simp [*] <;> rfl), hb_⟩
                 rw [if_pos c62] at H
                 have c62b0 : (t637.toList == ([] : List UInt8)) = true := beq_iff_eq.mpr c62
                 have c62b1 : (t637.toList != ([] : List UInt8)) = false := bne_eq_false_iff_eq.mpr c62
                 clear c62
                 simp only [Option.some.injEq, Prod.mk.injEq] at H
                 obtain ⟨rfl, rfl, rfl, rfl, rfl, rfl⟩ := H
                 have hnb63 := NB636_630.out
                 have hnc63 := NB630_636.out
                 obtain ⟨hcz64_0, hcz64_1, hcz64_2, hcz64_3, hcz64_4, hfz64_0, hfz64_1, hfz64_2, hfz64_3, hfz64_4⟩ := cf5 BK636.out
                 obtain ⟨hcz65_0, hcz65_1, hcz65_2, hcz65_3, hcz65_4, hfz65_0, hfz65_1, hfz65_2, hfz65_3, hfz65_4⟩ := cf5 BK630.out
                 go_wp2
                 refine bodyPost_ret (results_ct rfl _ _ gb630 44 #[.int .i64 t635, .int .i64 0, .string (⟨#[]⟩ : ByteArray), .string (⟨#[]⟩ : ByteArray), .string (⟨#[]⟩ : ByteArray)] (0, 0) _ rfl zc_ Tryz.underlying44 rfl (by kernel_rfl)) rfl ?_
                 exact ⟨by first | rfl | (simp [*] <;> rfl), hb_⟩
               rw [if_pos c55] at H
               have c55b0 : ((t631.length : Int) == 4) = true := beq_iff_eq.mpr c55
               have c55b1 : ((t631.length : Int) != 4) = false := bne_eq_false_iff_eq.mpr c55
               clear c55
               by_cases c56 : 1 < (t631.length : Int)
               rotate_left
               · rw [if_neg c56] at H
                 exact absurd H (by simp)
               rw [if_pos c56] at H
               have c56b0 := decide_eq_true c56
               have c56b1 : decide (1 < t631.length) = true := decide_eq_true (by omega)
               clear c56
               by_cases c57 : 2 < (t631.length : Int)
               rotate_left
               · rw [if_neg c57] at H
                 exact absurd H (by simp)
               rw [if_pos c57] at H
               have c57b0 := decide_eq_true c57
               have c57b1 : decide (2 < t631.length) = true := decide_eq_true (by omega)
               clear c57
               by_cases c58 : 3 < (t631.length : Int)
               rotate_left
               · rw [if_neg c58] at H
                 exact absurd H (by simp)
               rw [if_pos c58] at H
               have c58b0 := decide_eq_true c58
               have c58b1 : decide (3 < t631.length) = true := decide_eq_true (by omega)
               clear c58
               simp only [Option.some.injEq, Prod.mk.injEq] at H
               obtain ⟨rfl, rfl, rfl, rfl, rfl, rfl⟩ := H
               have p646 : 0 ≤ (1 : Int) := (by omega)
               have q646 : 1 < (t631.length : Int) := of_decide_eq_true (by first | (with_reducible assumption) | assumption)
               obtain ⟨ad646, e646, hx646_0⟩ := Kd.at_string (Kd.R_reads' HO_4.out).2.2 1 p646 q646
               obtain rfl : ad634 = ad646 := (by injection e646)
               (try simp only [show (1 : Int).toNat = 1 from rfl, Nat.reduceMul, Nat.reduceEqDiff, Go.Addr.add, ↓reduceIte] at hx646_0)
               have qi646 : (1 < t631.length) = True := eq_true (by omega)
               (try rw [show ((1 : Int)).toNat = 1 from rfl] at hx646_0)
               replace p646 := eq_true p646
               replace q646 := eq_true q646
               have hnb59 := NB636_630.out
               have hnc59 := NB630_636.out
               obtain ⟨hcz60_0, hcz60_1, hcz60_2, hcz60_3, hcz60_4, hfz60_0, hfz60_1, hfz60_2, hfz60_3, hfz60_4⟩ := cf5 BK636.out
               have p647 : 0 ≤ (2 : Int) := (by omega)
               have q647 : 2 < (t631.length : Int) := of_decide_eq_true (by first | (with_reducible assumption) | assumption)
               obtain ⟨ad647, e647, hx647_0⟩ := Kd.at_string (Kd.R_reads' HO_4.out).2.2 2 p647 q647
               obtain rfl : ad634 = ad647 := (by injection e647)
               (try simp only [show (2 : Int).toNat = 2 from rfl, Nat.reduceMul, Nat.reduceEqDiff, Go.Addr.add, ↓reduceIte] at hx647_0)
               have qi647 : (2 < t631.length) = True := eq_true (by omega)
               (try rw [show ((2 : Int)).toNat = 2 from rfl] at hx647_0)
               have hn647_0 : ad634.block ≠ gb636 := Kd.own_blk (Kd.R_ne HO_4.out BK636.out (by decide))
               replace hx647_0 := (cell_far (p := ⟨gb636, 2, none⟩) (by first | (rw [Zab]; exact hn647_0) | (show (Addr.add _ _).block ≠ _; rw [Zab]; exact hn647_0) | exact hn647_0) (.string (rdOf ByteArray.empty t631 1))).trans hx647_0
               clear hn647_0
               replace p647 := eq_true p647
               replace q647 := eq_true q647
               have p648 : 0 ≤ (3 : Int) := (by omega)
               have q648 : 3 < (t631.length : Int) := of_decide_eq_true (by first | (with_reducible assumption) | assumption)
               obtain ⟨ad648, e648, hx648_0⟩ := Kd.at_string (Kd.R_reads' HO_4.out).2.2 3 p648 q648
               obtain rfl : ad634 = ad648 := (by injection e648)
               (try simp only [show (3 : Int).toNat = 3 from rfl, Nat.reduceMul, Nat.reduceEqDiff, Go.Addr.add, ↓reduceIte] at hx648_0)
               have qi648 : (3 < t631.length) = True := eq_true (by omega)
               (try rw [show ((3 : Int)).toNat = 3 from rfl] at hx648_0)
               have hn648_0 : ad634.block ≠ gb636 := Kd.own_blk (Kd.R_ne HO_4.out BK636.out (by decide))
               have hn648_1 : ad634.block ≠ gb636 := Kd.own_blk (Kd.R_ne HO_4.out BK636.out (by decide))
               replace hx648_0 := (cell_far (p := ⟨gb636, 2, none⟩) (by first | (rw [Zab]; exact hn648_0) | (show (Addr.add _ _).block ≠ _; rw [Zab]; exact hn648_0) | exact hn648_0) (.string (rdOf ByteArray.empty t631 1))).trans hx648_0
               replace hx648_0 := (cell_far (p := ⟨gb636, 3, none⟩) (by first | (rw [Zab]; exact hn648_1) | (show (Addr.add _ _).block ≠ _; rw [Zab]; exact hn648_1) | exact hn648_1) (.string (rdOf ByteArray.empty t631 2))).trans hx648_0
               clear hn648_0
               clear hn648_1
               replace p648 := eq_true p648
               replace q648 := eq_true q648
               obtain ⟨hcz61_0, hcz61_1, hcz61_2, hcz61_3, hcz61_4, hfz61_0, hfz61_1, hfz61_2, hfz61_3, hfz61_4⟩ := cf5 BK630.out
               go_wp2
               refine bodyPost_ret (results_ct rfl _ _ gb630 44 #[.int .i64 t635, .int .i64 0, .string (rdOf ByteArray.empty t631 1), .string (rdOf ByteArray.empty t631 2), .string (rdOf ByteArray.empty t631 3)] (0, 0) _ rfl zc_ Tryz.underlying44 rfl (by kernel_rfl)) rfl ?_
               exact ⟨by first | rfl | (simp [*] <;> rfl), hb_⟩
             rw [if_pos c39] at H
             have c39b0 : (t637.toList == ([102] : List UInt8)) = true := beq_iff_eq.mpr c39
             have c39b1 : (t637.toList != ([102] : List UInt8)) = false := bne_eq_false_iff_eq.mpr c39
             clear c39
             by_cases c40 : (t631.length : Int) = 4
             rotate_left
             · rw [if_neg c40] at H
               have c40b0 : ((t631.length : Int) == 4) = false := beq_eq_false_iff_ne.mpr c40
               have c40b1 : ((t631.length : Int) != 4) = true := bne_iff_ne.mpr c40
               by_cases c47 : t637.toList = ([] : List UInt8)
               rotate_left
               · rw [if_neg c47] at H
                 have c47b0 : (t637.toList == ([] : List UInt8)) = false := beq_eq_false_iff_ne.mpr c47
                 have c47b1 : (t637.toList != ([] : List UInt8)) = true := bne_iff_ne.mpr c47
                 simp only [Option.some.injEq, Prod.mk.injEq] at H
                 obtain ⟨rfl, rfl, rfl, rfl, rfl, rfl⟩ := H
                 have hnb51 := NB636_630.out
                 have hnc51 := NB630_636.out
                 obtain ⟨hcz52_0, hcz52_1, hcz52_2, hcz52_3, hcz52_4, hfz52_0, hfz52_1, hfz52_2, hfz52_3, hfz52_4⟩ := cf5 BK636.out
                 obtain ⟨hcz53_0, hcz53_1, hcz53_2, hcz53_3, hcz53_4, hfz53_0, hfz53_1, hfz53_2, hfz53_3, hfz53_4⟩ := cf5 BK630.out
                 go_wp2
                 refine bodyPost_ret (results_ct rfl _ _ gb630 44 #[.int .i64 t635, .int .i64 0, .string (⟨#[]⟩ : ByteArray), .string (⟨#[]⟩ : ByteArray), .string (⟨#[]⟩ : ByteArray)] (0, 0) _ rfl zc_ Tryz.underlying44 rfl (by kernel_rfl)) rfl ?_
                 exact ⟨by first | rfl | (simp [*] <;> rfl), hb_⟩
               rw [if_pos c47] at H
               have c47b0 : (t637.toList == ([] : List UInt8)) = true := beq_iff_eq.mpr c47
               have c47b1 : (t637.toList != ([] : List UInt8)) = false := bne_eq_false_iff_eq.mpr c47
               clear c47
               simp only [Option.some.injEq, Prod.mk.injEq] at H
               obtain ⟨rfl, rfl, rfl, rfl, rfl, rfl⟩ := H
               have hnb48 := NB636_630.out
               have hnc48 := NB630_636.out
               obtain ⟨hcz49_0, hcz49_1, hcz49_2, hcz49_3, hcz49_4, hfz49_0, hfz49_1, hfz49_2, hfz49_3, hfz49_4⟩ := cf5 BK636.out
               obtain ⟨hcz50_0, hcz50_1, hcz50_2, hcz50_3, hcz50_4, hfz50_0, hfz50_1, hfz50_2, hfz50_3, hfz50_4⟩ := cf5 BK630.out
               go_wp2
               refine bodyPost_ret (results_ct rfl _ _ gb630 44 #[.int .i64 t635, .int .i64 0, .string (⟨#[]⟩ : ByteArray), .string (⟨#[]⟩ : ByteArray), .string (⟨#[]⟩ : ByteArray)] (0, 0) _ rfl zc_ Tryz.underlying44 rfl (by kernel_rfl)) rfl ?_
               exact ⟨by first | rfl | (simp [*] <;> rfl), hb_⟩
             rw [if_pos c40] at H
             have c40b0 : ((t631.length : Int) == 4) = true := beq_iff_eq.mpr c40
             have c40b1 : ((t631.length : Int) != 4) = false := bne_eq_false_iff_eq.mpr c40
             clear c40
             by_cases c41 : 1 < (t631.length : Int)
             rotate_left
             · rw [if_neg c41] at H
               exact absurd H (by simp)
             rw [if_pos c41] at H
             have c41b0 := decide_eq_true c41
             have c41b1 : decide (1 < t631.length) = true := decide_eq_true (by omega)
             clear c41
             by_cases c42 : 2 < (t631.length : Int)
             rotate_left
             · rw [if_neg c42] at H
               exact absurd H (by simp)
             rw [if_pos c42] at H
             have c42b0 := decide_eq_true c42
             have c42b1 : decide (2 < t631.length) = true := decide_eq_true (by omega)
             clear c42
             by_cases c43 : 3 < (t631.length : Int)
             rotate_left
             · rw [if_neg c43] at H
               exact absurd H (by simp)
             rw [if_pos c43] at H
             have c43b0 := decide_eq_true c43
             have c43b1 : decide (3 < t631.length) = true := decide_eq_true (by omega)
             clear c43
             simp only [Option.some.injEq, Prod.mk.injEq] at H
             obtain ⟨rfl, rfl, rfl, rfl, rfl, rfl⟩ := H
             have p643 : 0 ≤ (1 : Int) := (by omega)
             have q643 : 1 < (t631.length : Int) := of_decide_eq_true (by first | (with_reducible assumption) | assumption)
             obtain ⟨ad643, e643, hx643_0⟩ := Kd.at_string (Kd.R_reads' HO_4.out).2.2 1 p643 q643
             obtain rfl : ad634 = ad643 := (by injection e643)
             (try simp only [show (1 : Int).toNat = 1 from rfl, Nat.reduceMul, Nat.reduceEqDiff, Go.Addr.add, ↓reduceIte] at hx643_0)
             have qi643 : (1 < t631.length) = True := eq_true (by omega)
             (try rw [show ((1 : Int)).toNat = 1 from rfl] at hx643_0)
             replace p643 := eq_true p643
             replace q643 := eq_true q643
             have hnb44 := NB636_630.out
             have hnc44 := NB630_636.out
             obtain ⟨hcz45_0, hcz45_1, hcz45_2, hcz45_3, hcz45_4, hfz45_0, hfz45_1, hfz45_2, hfz45_3, hfz45_4⟩ := cf5 BK636.out
             have p644 : 0 ≤ (2 : Int) := (by omega)
             have q644 : 2 < (t631.length : Int) := of_decide_eq_true (by first | (with_reducible assumption) | assumption)
             obtain ⟨ad644, e644, hx644_0⟩ := Kd.at_string (Kd.R_reads' HO_4.out).2.2 2 p644 q644
             obtain rfl : ad634 = ad644 := (by injection e644)
             (try simp only [show (2 : Int).toNat = 2 from rfl, Nat.reduceMul, Nat.reduceEqDiff, Go.Addr.add, ↓reduceIte] at hx644_0)
             have qi644 : (2 < t631.length) = True := eq_true (by omega)
             (try rw [show ((2 : Int)).toNat = 2 from rfl] at hx644_0)
             have hn644_0 : ad634.block ≠ gb636 := Kd.own_blk (Kd.R_ne HO_4.out BK636.out (by decide))
             replace hx644_0 := (cell_far (p := ⟨gb636, 2, none⟩) (by first | (rw [Zab]; exact hn644_0) | (show (Addr.add _ _).block ≠ _; rw [Zab]; exact hn644_0) | exact hn644_0) (.string (rdOf ByteArray.empty t631 1))).trans hx644_0
             clear hn644_0
             replace p644 := eq_true p644
             replace q644 := eq_true q644
             have p645 : 0 ≤ (3 : Int) := (by omega)
             have q645 : 3 < (t631.length : Int) := of_decide_eq_true (by first | (with_reducible assumption) | assumption)
             obtain ⟨ad645, e645, hx645_0⟩ := Kd.at_string (Kd.R_reads' HO_4.out).2.2 3 p645 q645
             obtain rfl : ad634 = ad645 := (by injection e645)
             (try simp only [show (3 : Int).toNat = 3 from rfl, Nat.reduceMul, Nat.reduceEqDiff, Go.Addr.add, ↓reduceIte] at hx645_0)
             have qi645 : (3 < t631.length) = True := eq_true (by omega)
             (try rw [show ((3 : Int)).toNat = 3 from rfl] at hx645_0)
             have hn645_0 : ad634.block ≠ gb636 := Kd.own_blk (Kd.R_ne HO_4.out BK636.out (by decide))
             have hn645_1 : ad634.block ≠ gb636 := Kd.own_blk (Kd.R_ne HO_4.out BK636.out (by decide))
             replace hx645_0 := (cell_far (p := ⟨gb636, 2, none⟩) (by first | (rw [Zab]; exact hn645_0) | (show (Addr.add _ _).block ≠ _; rw [Zab]; exact hn645_0) | exact hn645_0) (.string (rdOf ByteArray.empty t631 1))).trans hx645_0
             replace hx645_0 := (cell_far (p := ⟨gb636, 3, none⟩) (by first | (rw [Zab]; exact hn645_1) | (show (Addr.add _ _).block ≠ _; rw [Zab]; exact hn645_1) | exact hn645_1) (.string (rdOf ByteArray.empty t631 2))).trans hx645_0
             clear hn645_0
             clear hn645_1
             replace p645 := eq_true p645
             replace q645 := eq_true q645
             obtain ⟨hcz46_0, hcz46_1, hcz46_2, hcz46_3, hcz46_4, hfz46_0, hfz46_1, hfz46_2, hfz46_3, hfz46_4⟩ := cf5 BK630.out
             go_wp2
             refine bodyPost_ret (results_ct rfl _ _ gb630 44 #[.int .i64 t635, .int .i64 0, .string (rdOf ByteArray.empty t631 1), .string (rdOf ByteArray.empty t631 2), .string (rdOf ByteArray.empty t631 3)] (0, 0) _ rfl zc_ Tryz.underlying44 rfl (by kernel_rfl)) rfl ?_
             exact ⟨by first | rfl | (simp [*] <;> rfl), hb_⟩
           subst c34
           rw [if_pos rfl] at H
           by_cases c35 : 1 < (t631.length : Int)
           rotate_left
           · rw [if_neg c35] at H
             exact absurd H (by simp)
           rw [if_pos c35] at H
           have c35b0 := decide_eq_true c35
           have c35b1 : decide (1 < t631.length) = true := decide_eq_true (by omega)
           clear c35
           simp only [Option.some.injEq, Prod.mk.injEq] at H
           obtain ⟨rfl, rfl, rfl, rfl, rfl, rfl⟩ := H
           have p642 : 0 ≤ (1 : Int) := (by omega)
           have q642 : 1 < (t631.length : Int) := of_decide_eq_true (by first | (with_reducible assumption) | assumption)
           obtain ⟨ad642, e642, hx642_0⟩ := Kd.at_string (Kd.R_reads' HO_4.out).2.2 1 p642 q642
           obtain rfl : ad634 = ad642 := (by injection e642)
           (try simp only [show (1 : Int).toNat = 1 from rfl, Nat.reduceMul, Nat.reduceEqDiff, Go.Addr.add, ↓reduceIte] at hx642_0)
           have qi642 : (1 < t631.length) = True := eq_true (by omega)
           (try rw [show ((1 : Int)).toNat = 1 from rfl] at hx642_0)
           replace p642 := eq_true p642
           replace q642 := eq_true q642
           have hnb36 := NB636_630.out
           have hnc36 := NB630_636.out
           obtain ⟨hcz37_0, hcz37_1, hcz37_2, hcz37_3, hcz37_4, hfz37_0, hfz37_1, hfz37_2, hfz37_3, hfz37_4⟩ := cf5 BK636.out
           obtain ⟨hcz38_0, hcz38_1, hcz38_2, hcz38_3, hcz38_4, hfz38_0, hfz38_1, hfz38_2, hfz38_3, hfz38_4⟩ := cf5 BK630.out
           go_wp2
           refine bodyPost_ret (results_ct rfl _ _ gb630 44 #[.int .i64 t635, .int .i64 0, .string (⟨#[]⟩ : ByteArray), .string (⟨#[]⟩ : ByteArray), .string (rdOf ByteArray.empty t631 1)] (0, 0) _ rfl zc_ Tryz.underlying44 rfl (by kernel_rfl)) rfl ?_
           exact ⟨by first | rfl | (simp [*] <;> rfl), hb_⟩
       subst c27
       rw [if_pos rfl] at H
       by_cases c28 : 1 < (t631.length : Int)
       rotate_left
       · rw [if_neg c28] at H
         exact absurd H (by simp)
       rw [if_pos c28] at H
       have c28b0 := decide_eq_true c28
       have c28b1 : decide (1 < t631.length) = true := decide_eq_true (by omega)
       clear c28
       simp only [Option.some.injEq, Prod.mk.injEq] at H
       obtain ⟨rfl, rfl, rfl, rfl, rfl, rfl⟩ := H
       have p641 : 0 ≤ (1 : Int) := (by omega)
       have q641 : 1 < (t631.length : Int) := of_decide_eq_true (by first | (with_reducible assumption) | assumption)
       obtain ⟨ad641, e641, hx641_0⟩ := Kd.at_string (Kd.R_reads' HO_4.out).2.2 1 p641 q641
       obtain rfl : ad634 = ad641 := (by injection e641)
       (try simp only [show (1 : Int).toNat = 1 from rfl, Nat.reduceMul, Nat.reduceEqDiff, Go.Addr.add, ↓reduceIte] at hx641_0)
       have qi641 : (1 < t631.length) = True := eq_true (by omega)
       (try rw [show ((1 : Int)).toNat = 1 from rfl] at hx641_0)
       replace p641 := eq_true p641
       replace q641 := eq_true q641
       have hnb29 := NB636_630.out
       have hnc29 := NB630_636.out
       obtain ⟨hcz30_0, hcz30_1, hcz30_2, hcz30_3, hcz30_4, hfz30_0, hfz30_1, hfz30_2, hfz30_3, hfz30_4⟩ := cf5 BK636.out
       obtain ⟨hcz31_0, hcz31_1, hcz31_2, hcz31_3, hcz31_4, hfz31_0, hfz31_1, hfz31_2, hfz31_3, hfz31_4⟩ := cf5 BK630.out
       go_wp2
       refine bodyPost_ret (results_ct rfl _ _ gb630 44 #[.int .i64 t635, .int .i64 0, .string (rdOf ByteArray.empty t631 1), .string (⟨#[]⟩ : ByteArray), .string (⟨#[]⟩ : ByteArray)] (0, 0) _ rfl zc_ Tryz.underlying44 rfl (by kernel_rfl)) rfl ?_
       exact ⟨by first | rfl | (simp [*] <;> rfl), hb_⟩
   subst c18
   rw [if_pos rfl] at H
   by_cases c19 : 1 < (t631.length : Int)
   rotate_left
   · rw [if_neg c19] at H
     exact absurd H (by simp)
   rw [if_pos c19] at H
   have c19b0 := decide_eq_true c19
   have c19b1 : decide (1 < t631.length) = true := decide_eq_true (by omega)
   clear c19
   replace H := Option.bind_eq_some_iff.mp H
   obtain ⟨⟨t639, t640⟩, A200, H⟩ := H
   replace H : (some (t635, t639, (⟨#[]⟩ : ByteArray), (⟨#[]⟩ : ByteArray), (⟨#[]⟩ : ByteArray), t640)) = some (r1, r2, r3, r4, r5, r6) := H
   have A20 := Zm A200
   clear A200
   simp only [Option.some.injEq, Prod.mk.injEq] at H
   obtain ⟨rfl, rfl, rfl, rfl, rfl, rfl⟩ := H
   have p638 : 0 ≤ (1 : Int) := (by omega)
   have q638 : 1 < (t631.length : Int) := of_decide_eq_true (by first | (with_reducible assumption) | assumption)
   obtain ⟨ad638, e638, hx638_0⟩ := Kd.at_string (Kd.R_reads' HO_4.out).2.2 1 p638 q638
   obtain rfl : ad634 = ad638 := (by injection e638)
   (try simp only [show (1 : Int).toNat = 1 from rfl, Nat.reduceMul, Nat.reduceEqDiff, Go.Addr.add, ↓reduceIte] at hx638_0)
   have qi638 : (1 < t631.length) = True := eq_true (by omega)
   (try rw [show ((1 : Int)).toNat = 1 from rfl] at hx638_0)
   replace p638 := eq_true p638
   replace q638 := eq_true q638
   (try clear HO_4)
   go_wp2_with (first | ((with_reducible refine gate_callee (f := 96) rfl ?_); refine ge_ (some 39) Tryz.func96 #[.string (rdOf ByteArray.empty t631 1)] ?_; (with_reducible refine (spec_l01Num.calls _ _ _ _ _ A20.out).mono ?_); rintro e w21 ⟨rfl, hb⟩; refine ⟨_, rfl, ?_⟩; have n0_ := (⟨Zm (Zkb (pk BK630.out) hb), Zm (Zkb (pk BK636.out) hb), Zm (Zbt (bk HB.out) hb)⟩ : _ ∧ _ ∧ _); clear BK630 BK636 HB; obtain ⟨BK630, BK636, HB⟩ := n0_; (try clear hb); (try clear hb2); (try clear hk); (try clear hi); have hnb22 := NB636_630.out; have hnc22 := NB630_636.out; obtain ⟨hcz23_0, hcz23_1, hcz23_2, hcz23_3, hcz23_4, hfz23_0, hfz23_1, hfz23_2, hfz23_3, hfz23_4⟩ := cf5 BK636.out; obtain ⟨hcz24_0, hcz24_1, hcz24_2, hcz24_3, hcz24_4, hfz24_0, hfz24_1, hfz24_2, hfz24_3, hfz24_4⟩ := cf5 BK630.out))
   refine bodyPost_ret (results_ct rfl _ _ gb630 44 #[.int .i64 t635, .int .i64 t639, .string (⟨#[]⟩ : ByteArray), .string (⟨#[]⟩ : ByteArray), .string (⟨#[]⟩ : ByteArray)] (0, 0) _ rfl zc_ Tryz.underlying44 rfl (by kernel_rfl)) rfl ?_
   exact ⟨by first | rfl | (simp [*] <;> rfl), hb_⟩
/-! ### spec_InsParse: function 22 -/
def spec_InsParse.f (k : Nat) (a0 : ByteArray) : Option (Int × Int × ByteArray × ByteArray × ByteArray) := if (a0.size : Int) > 20000 then (some (0, 0, (⟨#[]⟩ : ByteArray), (⟨#[]⟩ : ByteArray), (⟨#[]⟩ : ByteArray))) else ((spec_l14Read.f k a0).bind fun bt650 => (if bt650.2.2.2.2.2 = true then ((spec_InsRight.f k bt650.1 bt650.2.1 bt650.2.2.1 bt650.2.2.2.1 bt650.2.2.2.2.1).bind fun t657 => (if t657 = true then ((spec_l14Ins.f k bt650.1 bt650.2.1 bt650.2.2.1 bt650.2.2.2.1 bt650.2.2.2.2.1).bind fun t658 => (if t658.toList = a0.toList then (some (bt650.1, bt650.2.1, bt650.2.2.1, bt650.2.2.2.1, bt650.2.2.2.2.1)) else (some (0, 0, (⟨#[]⟩ : ByteArray), (⟨#[]⟩ : ByteArray), (⟨#[]⟩ : ByteArray))))) else (some (0, 0, (⟨#[]⟩ : ByteArray), (⟨#[]⟩ : ByteArray), (⟨#[]⟩ : ByteArray))))) else (some (0, 0, (⟨#[]⟩ : ByteArray), (⟨#[]⟩ : ByteArray), (⟨#[]⟩ : ByteArray)))))
set_option maxHeartbeats 8000000 in
set_option maxRecDepth 100000 in
theorem spec_InsParse.calls (k : Nat) (a0 : ByteArray) (r1 : Int) (r2 : Int) (r3 : ByteArray) (r4 : ByteArray) (r5 : ByteArray) (w : World) (h : spec_InsParse.f k a0 = some (r1, r2, r3, r4, r5)) :
 Calls Tryz.prog 22 #[.string a0] w fun e w' => e = .returned (.agg #[.int .i64 r1, .int .i64 r2, .string r3, .string r4, .string r5]) ∧ Below w.heap.size w w' := by
 have hu44 := Tryz.underlying44; have HB := Zm (Below.refl w.heap.size w); have H : (if (a0.size : Int) > 20000 then (some (0, 0, (⟨#[]⟩ : ByteArray), (⟨#[]⟩ : ByteArray), (⟨#[]⟩ : ByteArray))) else ((spec_l14Read.f k a0).bind fun bt650 => (if bt650.2.2.2.2.2 = true then ((spec_InsRight.f k bt650.1 bt650.2.1 bt650.2.2.1 bt650.2.2.2.1 bt650.2.2.2.2.1).bind fun t657 => (if t657 = true then ((spec_l14Ins.f k bt650.1 bt650.2.1 bt650.2.2.1 bt650.2.2.2.1 bt650.2.2.2.2.1).bind fun t658 => (if t658.toList = a0.toList then (some (bt650.1, bt650.2.1, bt650.2.2.1, bt650.2.2.2.1, bt650.2.2.2.2.1)) else (some (0, 0, (⟨#[]⟩ : ByteArray), (⟨#[]⟩ : ByteArray), (⟨#[]⟩ : ByteArray))))) else (some (0, 0, (⟨#[]⟩ : ByteArray), (⟨#[]⟩ : ByteArray), (⟨#[]⟩ : ByteArray))))) else (some (0, 0, (⟨#[]⟩ : ByteArray), (⟨#[]⟩ : ByteArray), (⟨#[]⟩ : ByteArray)))))) = some (r1, r2, r3, r4, r5) := h; clear h; have HC2 := Zm H; clear H; go_enter Tryz.func22, Tryz.ntmps22; go_upto_if 7 with (first | ((with_reducible refine gate_dst (N := 2) rfl ?_); refine box_event ?hg (N := 2) ?hd (cs := #[.int .i64 0, .int .i64 0, .string (⟨#[]⟩ : ByteArray), .string (⟨#[]⟩ : ByteArray), .string (⟨#[]⟩ : ByteArray)]) (t := 44) ?hr ?_; (case hd => rfl); (case hg => rfl); (case hr => first | (go_simp; done) | (go_simp; rfl)); intro gb649 hg w3 hbox hb; have n0_ := (⟨Zm (Zbt (bk HB.out) hb), Zm (hbox), Zm ((by rw [hg]; exact (Zbz (bk HB.out)) : w.heap.size ≤ gb649)), Zm ((by rw [hg]; exact (Zbz (bk HB.out)) : w.heap.size ≤ gb649))⟩ : _ ∧ _ ∧ _ ∧ _); clear HB; obtain ⟨HB, BK649, GW649, GE649⟩ := n0_; clear hb hbox hg)); have H := HC2.out; clear HC2; by_cases c4 : (a0.size : Int) > 20000; rotate_left
 · rw [if_neg c4] at H; have c4b0 : decide (20000 < (a0.size : Int)) = false := decide_eq_false c4; have c4b1 : decide (20000 < a0.size) = false := decide_eq_false (by omega); clear c4; (first | rw [c4b0] | (simp only [i64_w, i32_w]; rw [c4b0]) | skip); replace H := Option.bind_eq_some_iff.mp H; obtain ⟨⟨t650, t651, t652, t653, t654, t655⟩, A60, H⟩ := H; replace H : (if t655 = true then ((spec_InsRight.f k t650 t651 t652 t653 t654).bind fun t657 => (if t657 = true then ((spec_l14Ins.f k t650 t651 t652 t653 t654).bind fun t658 => (if t658.toList = a0.toList then (some (t650, t651, t652, t653, t654)) else (some (0, 0, (⟨#[]⟩ : ByteArray), (⟨#[]⟩ : ByteArray), (⟨#[]⟩ : ByteArray))))) else (some (0, 0, (⟨#[]⟩ : ByteArray), (⟨#[]⟩ : ByteArray), (⟨#[]⟩ : ByteArray))))) else (some (0, 0, (⟨#[]⟩ : ByteArray), (⟨#[]⟩ : ByteArray), (⟨#[]⟩ : ByteArray)))) = some (r1, r2, r3, r4, r5) := H; have A6 := Zm A60; clear A60; by_cases c7 : t655 = true; rotate_left
   · replace c7 := Bool.eq_false_iff.mpr c7; subst c7; rw [if_neg (show ¬ (false = true) by decide)] at H; simp only [Option.some.injEq, Prod.mk.injEq] at H; obtain ⟨rfl, rfl, rfl, rfl, rfl⟩ := H; go_wp2_with (first | ((with_reducible refine gate_callee (f := 58) rfl ?_); refine ge_ (some 11) Tryz.func58 #[.string a0] ?_; (with_reducible refine (spec_l14Read.calls _ _ _ _ _ _ _ _ _ A6.out).mono ?_); rintro e w31 ⟨rfl, hb⟩; refine ⟨_, rfl, ?_⟩; have n0_ := (⟨Zm (Zkb (pk BK649.out) hb), Zm (Zbt (bk HB.out) hb)⟩ : _ ∧ _); clear BK649 HB; obtain ⟨BK649, HB⟩ := n0_; (try clear hb); (try clear hb2); (try clear hk); (try clear hi)) | ((with_reducible refine gate_dst (N := 3) rfl ?_); refine box_event ?hg (N := 3) ?hd (cs := #[.int .i64 0, .int .i64 0, .string (⟨#[]⟩ : ByteArray), .string (⟨#[]⟩ : ByteArray), .string (⟨#[]⟩ : ByteArray)]) (t := 44) ?hr ?_; (case hd => rfl); (case hg => rfl); (case hr => first | (go_simp; done) | (go_simp; rfl)); intro gb656 hg w32 hbox hb; have n0_ := (⟨Zm (Zkb (pk BK649.out) hb), Zm (Zbt (bk HB.out) hb), Zm (hbox), Zm ((by rw [hg]; exact (Zbz (bk HB.out)) : w.heap.size ≤ gb656)), Zm ((by rw [hg]; exact (Zbz (bk HB.out)) : w.heap.size ≤ gb656)), Zm ((by rw [hg]; exact Nat.ne_of_lt (blk_lt (pk BK649.out)) : gb649 ≠ gb656)), Zm ((by rw [hg]; exact Nat.ne_of_gt (blk_lt (pk BK649.out)) : gb656 ≠ gb649))⟩ : _ ∧ _ ∧ _ ∧ _ ∧ _ ∧ _ ∧ _); clear BK649 HB; obtain ⟨BK649, HB, BK656, GW656, GE656, NB649_656, NB656_649⟩ := n0_; clear hb hbox hg; have hnb33 := NB656_649.out; have hnc33 := NB649_656.out; obtain ⟨hcz34_0, hcz34_1, hcz34_2, hcz34_3, hcz34_4, hfz34_0, hfz34_1, hfz34_2, hfz34_3, hfz34_4⟩ := cf5 BK656.out; obtain ⟨hcz35_0, hcz35_1, hcz35_2, hcz35_3, hcz35_4, hfz35_0, hfz35_1, hfz35_2, hfz35_3, hfz35_4⟩ := cf5 BK649.out)); refine bodyPost_ret (results_cell_row rfl _ _ gb649 44 #[.int .i64 0, .int .i64 0, .string (⟨#[]⟩ : ByteArray), .string (⟨#[]⟩ : ByteArray), .string (⟨#[]⟩ : ByteArray)] (0, 0) _ rfl zc_ Tryz.underlying44 rfl (by kernel_rfl)) rfl ?_; exact ⟨by first | rfl | (simp [*] <;> rfl), hb_⟩

   subst c7
   rw [if_pos rfl] at H
   replace H := Option.bind_eq_some_iff.mp H
   obtain ⟨t657, A80, H⟩ := H
   replace H : (if t657 = true then ((spec_l14Ins.f k t650 t651 t652 t653 t654).bind fun t658 => (if t658.toList = a0.toList then (some (t650, t651, t652, t653, t654)) else (some (0, 0, (⟨#[]⟩ : ByteArray), (⟨#[]⟩ : ByteArray), (⟨#[]⟩ : ByteArray))))) else (some (0, 0, (⟨#[]⟩ : ByteArray), (⟨#[]⟩ : ByteArray), (⟨#[]⟩ : ByteArray)))) = some (r1, r2, r3, r4, r5) := H
   have A8 := Zm A80
   clear A80
   by_cases c9 : t657 = true
   rotate_left
   · replace c9 := Bool.eq_false_iff.mpr c9
     subst c9
     rw [if_neg (show ¬ (false = true) by decide)] at H
     simp only [Option.some.injEq, Prod.mk.injEq] at H
     obtain ⟨rfl, rfl, rfl, rfl, rfl⟩ := H
     go_wp2_with (first | ((with_reducible refine gate_callee (f := 58) rfl ?_); refine ge_ (some 11) Tryz.func58 #[.string a0] ?_; (with_reducible refine (spec_l14Read.calls _ _ _ _ _ _ _ _ _ A6.out).mono ?_); rintro e w25 ⟨rfl, hb⟩; refine ⟨_, rfl, ?_⟩; have n0_ := (⟨Zm (Zkb (pk BK649.out) hb), Zm (Zbt (bk HB.out) hb)⟩ : _ ∧ _); clear BK649 HB; obtain ⟨BK649, HB⟩ := n0_; (try clear hb); (try clear hb2); (try clear hk); (try clear hi)) | ((with_reducible refine gate_dst (N := 3) rfl ?_); refine box_event ?hg (N := 3) ?hd (cs := #[.int .i64 0, .int .i64 0, .string (⟨#[]⟩ : ByteArray), .string (⟨#[]⟩ : ByteArray), .string (⟨#[]⟩ : ByteArray)]) (t := 44) ?hr ?_; (case hd => rfl); (case hg => rfl); (case hr => first | (go_simp; done) | (go_simp; rfl)); intro gb656 hg w26 hbox hb; have n0_ := (⟨Zm (Zkb (pk BK649.out) hb), Zm (Zbt (bk HB.out) hb), Zm (hbox), Zm ((by rw [hg]; exact (Zbz (bk HB.out)) : w.heap.size ≤ gb656)), Zm ((by rw [hg]; exact (Zbz (bk HB.out)) : w.heap.size ≤ gb656)), Zm ((by rw [hg]; exact Nat.ne_of_lt (blk_lt (pk BK649.out)) : gb649 ≠ gb656)), Zm ((by rw [hg]; exact Nat.ne_of_gt (blk_lt (pk BK649.out)) : gb656 ≠ gb649))⟩ : _ ∧ _ ∧ _ ∧ _ ∧ _ ∧ _ ∧ _); clear BK649 HB; obtain ⟨BK649, HB, BK656, GW656, GE656, NB649_656, NB656_649⟩ := n0_; clear hb hbox hg; have hnb27 := NB656_649.out; have hnc27 := NB649_656.out; obtain ⟨hcz28_0, hcz28_1, hcz28_2, hcz28_3, hcz28_4, hfz28_0, hfz28_1, hfz28_2, hfz28_3, hfz28_4⟩ := cf5 BK656.out) | (go_at_call 18; (first | (with_reducible refine (spec_InsRight.calls _ _ _ _ _ _ _ _ A8.out).mono ?_) | (with_reducible refine (calls_of_args ?_ (spec_InsRight.calls _ _ _ _ _ _ _ _ A8.out)).mono ?_; focus (simp [*]; done))); rintro e w29 ⟨rfl, hb⟩; have n0_ := (⟨Zm (Zkb (g := gb649) (o := .cells #[.int .i64 0, .int .i64 0, .string (⟨#[]⟩ : ByteArray), .string (⟨#[]⟩ : ByteArray), .string (⟨#[]⟩ : ByteArray)] 44 (0, 0)) zc_ hb), Zm (Zkb (g := gb656) (o := .cells #[.int .i64 t650, .int .i64 t651, .string t652, .string t653, .string t654] 44 (0, 0)) zc_ hb), Zm (Zbt hb_ hb)⟩ : _ ∧ _ ∧ _); clear BK649 BK656 HB; obtain ⟨BK649, BK656, HB⟩ := n0_; (try clear hb); (try clear hb2); (try clear hk); (try clear hi); obtain ⟨hcz30_0, hcz30_1, hcz30_2, hcz30_3, hcz30_4, hfz30_0, hfz30_1, hfz30_2, hfz30_3, hfz30_4⟩ := cf5 BK649.out))
     refine bodyPost_ret (results_cell_row rfl _ _ gb649 44 #[.int .i64 0, .int .i64 0, .string (⟨#[]⟩ : ByteArray), .string (⟨#[]⟩ : ByteArray), .string (⟨#[]⟩ : ByteArray)] (0, 0) _ rfl zc_ Tryz.underlying44 rfl (by kernel_rfl)) rfl ?_
     exact ⟨by first | rfl | (simp [*] <;> rfl), hb_⟩
   subst c9
   rw [if_pos rfl] at H
   replace H := Option.bind_eq_some_iff.mp H
   obtain ⟨t658, A100, H⟩ := H
   replace H : (if t658.toList = a0.toList then (some (t650, t651, t652, t653, t654)) else (some (0, 0, (⟨#[]⟩ : ByteArray), (⟨#[]⟩ : ByteArray), (⟨#[]⟩ : ByteArray)))) = some (r1, r2, r3, r4, r5) := H
   have A10 := Zm A100
   clear A100
   have HC11 := Zm H
   clear H
   go_upto_if 26 with (first | ((with_reducible refine gate_callee (f := 58) rfl ?_); refine ge_ (some 11) Tryz.func58 #[.string a0] ?_; (with_reducible refine (spec_l14Read.calls _ _ _ _ _ _ _ _ _ A6.out).mono ?_); rintro e w12 ⟨rfl, hb⟩; refine ⟨_, rfl, ?_⟩; have n0_ := (⟨Zm (Zkb (pk BK649.out) hb), Zm (Zbt (bk HB.out) hb)⟩ : _ ∧ _); clear BK649 HB; obtain ⟨BK649, HB⟩ := n0_; (try clear hb); (try clear hb2); (try clear hk); (try clear hi)) | ((with_reducible refine gate_dst (N := 3) rfl ?_); refine box_event ?hg (N := 3) ?hd (cs := #[.int .i64 0, .int .i64 0, .string (⟨#[]⟩ : ByteArray), .string (⟨#[]⟩ : ByteArray), .string (⟨#[]⟩ : ByteArray)]) (t := 44) ?hr ?_; (case hd => rfl); (case hg => rfl); (case hr => first | (go_simp; done) | (go_simp; rfl)); intro gb656 hg w13 hbox hb; have n0_ := (⟨Zm (Zkb (pk BK649.out) hb), Zm (Zbt (bk HB.out) hb), Zm (hbox), Zm ((by rw [hg]; exact (Zbz (bk HB.out)) : w.heap.size ≤ gb656)), Zm ((by rw [hg]; exact (Zbz (bk HB.out)) : w.heap.size ≤ gb656)), Zm ((by rw [hg]; exact Nat.ne_of_lt (blk_lt (pk BK649.out)) : gb649 ≠ gb656)), Zm ((by rw [hg]; exact Nat.ne_of_gt (blk_lt (pk BK649.out)) : gb656 ≠ gb649))⟩ : _ ∧ _ ∧ _ ∧ _ ∧ _ ∧ _ ∧ _); clear BK649 HB; obtain ⟨BK649, HB, BK656, GW656, GE656, NB649_656, NB656_649⟩ := n0_; clear hb hbox hg; have hnb14 := NB656_649.out; have hnc14 := NB649_656.out; obtain ⟨hcz15_0, hcz15_1, hcz15_2, hcz15_3, hcz15_4, hfz15_0, hfz15_1, hfz15_2, hfz15_3, hfz15_4⟩ := cf5 BK656.out) | (go_at_call 18; (first | (with_reducible refine (spec_InsRight.calls _ _ _ _ _ _ _ _ A8.out).mono ?_) | (with_reducible refine (calls_of_args ?_ (spec_InsRight.calls _ _ _ _ _ _ _ _ A8.out)).mono ?_; focus (simp [*]; done))); rintro e w16 ⟨rfl, hb⟩; have n0_ := (⟨Zm (Zkb (g := gb649) (o := .cells #[.int .i64 0, .int .i64 0, .string (⟨#[]⟩ : ByteArray), .string (⟨#[]⟩ : ByteArray), .string (⟨#[]⟩ : ByteArray)] 44 (0, 0)) zc_ hb), Zm (Zkb (g := gb656) (o := .cells #[.int .i64 t650, .int .i64 t651, .string t652, .string t653, .string t654] 44 (0, 0)) zc_ hb), Zm (Zbt hb_ hb)⟩ : _ ∧ _ ∧ _); clear BK649 BK656 HB; obtain ⟨BK649, BK656, HB⟩ := n0_; (try clear hb); (try clear hb2); (try clear hk); (try clear hi); obtain ⟨hcz17_0, hcz17_1, hcz17_2, hcz17_3, hcz17_4, hfz17_0, hfz17_1, hfz17_2, hfz17_3, hfz17_4⟩ := cf5 BK656.out) | (go_at_call 55; (first | (with_reducible refine (spec_l14Ins.calls _ _ _ _ _ _ _ _ A10.out).mono ?_) | (with_reducible refine (calls_of_args ?_ (spec_l14Ins.calls _ _ _ _ _ _ _ _ A10.out)).mono ?_; focus (simp [*]; done))); rintro e w18 ⟨rfl, hb⟩; have n0_ := (⟨Zm (Zkb (pk BK649.out) hb), Zm (Zkb (pk BK656.out) hb), Zm (Zbt (bk HB.out) hb)⟩ : _ ∧ _ ∧ _); clear BK649 BK656 HB; obtain ⟨BK649, BK656, HB⟩ := n0_; (try clear hb); (try clear hb2); (try clear hk); (try clear hi)))
   have H := HC11.out
   clear HC11
   by_cases c19 : t658.toList = a0.toList
   rotate_left
   · rw [if_neg c19] at H
     have c19b0 : (t658.toList == a0.toList) = false := beq_eq_false_iff_ne.mpr c19
     have c19b1 : (t658.toList != a0.toList) = true := bne_iff_ne.mpr c19
     (first | rw [c19b0] | (simp only [i64_w, i32_w]; rw [c19b0]) | skip)
     simp only [Option.some.injEq, Prod.mk.injEq] at H
     obtain ⟨rfl, rfl, rfl, rfl, rfl⟩ := H
     have hnb23 := NB649_656.out
     have hnc23 := NB656_649.out
     obtain ⟨hcz24_0, hcz24_1, hcz24_2, hcz24_3, hcz24_4, hfz24_0, hfz24_1, hfz24_2, hfz24_3, hfz24_4⟩ := cf5 BK649.out
     go_wp2
     refine bodyPost_ret (results_cell_row rfl _ _ gb649 44 #[.int .i64 0, .int .i64 0, .string (⟨#[]⟩ : ByteArray), .string (⟨#[]⟩ : ByteArray), .string (⟨#[]⟩ : ByteArray)] (0, 0) _ rfl zc_ Tryz.underlying44 rfl (by kernel_rfl)) rfl ?_
     exact ⟨by first | rfl | (simp [*] <;> rfl), hb_⟩
   rw [if_pos c19] at H
   have c19b0 : (t658.toList == a0.toList) = true := beq_iff_eq.mpr c19
   have c19b1 : (t658.toList != a0.toList) = false := bne_eq_false_iff_eq.mpr c19
   clear c19
   (first | rw [c19b0] | (simp only [i64_w, i32_w]; rw [c19b0]) | skip)
   simp only [Option.some.injEq, Prod.mk.injEq] at H
   obtain ⟨rfl, rfl, rfl, rfl, rfl⟩ := H
   have hnb20 := NB656_649.out
   have hnc20 := NB649_656.out
   obtain ⟨hcz21_0, hcz21_1, hcz21_2, hcz21_3, hcz21_4, hfz21_0, hfz21_1, hfz21_2, hfz21_3, hfz21_4⟩ := cf5 BK656.out
   obtain ⟨hcz22_0, hcz22_1, hcz22_2, hcz22_3, hcz22_4, hfz22_0, hfz22_1, hfz22_2, hfz22_3, hfz22_4⟩ := cf5 BK649.out
   go_wp2
   refine bodyPost_ret (results_cell_row rfl _ _ gb649 44 #[.int .i64 t650, .int .i64 t651, .string t652, .string t653, .string t654] (0, 0) _ rfl zc_ Tryz.underlying44 rfl (by kernel_rfl)) rfl ?_
   exact ⟨by first | rfl | (simp [*] <;> rfl), hb_⟩
 rw [if_pos c4] at H
 have c4b0 : decide (20000 < (a0.size : Int)) = true := decide_eq_true c4
 have c4b1 : decide (20000 < a0.size) = true := decide_eq_true (by omega)
 clear c4
 (first | rw [c4b0] | (simp only [i64_w, i32_w]; rw [c4b0]) | skip)
 simp only [Option.some.injEq, Prod.mk.injEq] at H
 obtain ⟨rfl, rfl, rfl, rfl, rfl⟩ := H
 obtain ⟨hcz5_0, hcz5_1, hcz5_2, hcz5_3, hcz5_4, hfz5_0, hfz5_1, hfz5_2, hfz5_3, hfz5_4⟩ := cf5 BK649.out
 go_wp2
 refine bodyPost_ret (results_cell_row rfl _ _ gb649 44 #[.int .i64 0, .int .i64 0, .string (⟨#[]⟩ : ByteArray), .string (⟨#[]⟩ : ByteArray), .string (⟨#[]⟩ : ByteArray)] (0, 0) _ rfl zc_ Tryz.underlying44 rfl (by kernel_rfl)) rfl ?_
 exact ⟨by first | rfl | (simp [*] <;> rfl), hb_⟩
end Go.Proofs.YtcpnlfkmfpmkdaaGreatDoor.PFnInsText
