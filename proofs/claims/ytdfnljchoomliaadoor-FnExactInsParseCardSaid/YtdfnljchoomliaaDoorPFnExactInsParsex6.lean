/- Functions of the program as plain Lean functions, each with a proof that the program's call comes to the same; no condition. Written by a program of this session. -/
import Derived.Test.YtdfnljchoomliaaDoorPFnExactInsParsex0
import Derived.Test.YtdfnljchoomliaaDoorPFnExactInsParsex1
import Derived.Test.YtdfnljchoomliaaDoorPFnExactInsParsex4
import Derived.Test.YtdfnljchoomliaaDoorPFnExactInsParsex5
namespace Go.Proofs.YtdfnljchoomliaaDoor.PFnExactInsParse
open Go.RowKit Go.Proofs.YtdfnljchoomliaaDoorW.PrintWords Go.Proofs.YtdfnljchoomliaaDoorW.PrintLast Go.Proofs.YtdfnljchoomliaaDoorW.PrintMore
open Go.Proofs.YtdfnljchoomliaaDoorW.PrintWords renaming below_alloc → Zba, pw_below_drewN → Zbn, below_drew1 → Zbd, below_set → Zbs, below_size → Zbz, below_step → Zbt, blk_drewN → Zkn, blk_drew → Zkd, blk_alloc → Zka, blk_frozen → Zkf, blk_far → Zkr, blk_put → Zkp, blk_below → Zkb, add_block → Zab
open Go.Proofs.YtdfnljchoomliaaDoorW.PrintWords.Aside0 renaming mk → Zm
attribute [local go_sem] max2_int min2_int max_two min_two max_three min_three max_four min_four   -- for this text's walks alone
set_option linter.unusedVariables false
set_option linter.unusedSimpArgs false

/-! ### spec_l14Read: function 34 -/
mutual
def spec_l14Read.j0 : Nat → List ByteArray → ByteArray → Bool → Int → Int → ByteArray → ByteArray → ByteArray → Option (Int × Int × ByteArray × ByteArray × ByteArray × Bool)
 | 0, _, _, _, _, _, _, _, _ => none
 | k + 1, x4, x6, x19, x236000, x236001, x236002, x236003, x236004 => if x19 = true then (if 1 < (x4.length : Int) then ((spec_l01Num.f k (rdOf ByteArray.empty x4 1)).bind fun bt238 => (some (x236000, bt238.1, x236002, x236003, x236004, bt238.2))) else (none)) else (if x6.toList = ([99] : List UInt8) then (spec_l14Read.j1 k x4 x6 ((x4.length : Int) == 2) x236000 x236001 x236002 x236003 x236004) else (spec_l14Read.j1 k x4 x6 false x236000 x236001 x236002 x236003 x236004))
def spec_l14Read.j1 : Nat → List ByteArray → ByteArray → Bool → Int → Int → ByteArray → ByteArray → ByteArray → Option (Int × Int × ByteArray × ByteArray × ByteArray × Bool)
 | 0, _, _, _, _, _, _, _, _ => none
 | k + 1, x4, x6, x46, x236000, x236001, x236002, x236003, x236004 => if x46 = true then (if 1 < (x4.length : Int) then (some (x236000, x236001, rdOf ByteArray.empty x4 1, x236003, x236004, true)) else (none)) else (if x6.toList = ([121] : List UInt8) then (spec_l14Read.j2 k x4 x6 ((x4.length : Int) == 2) x236000 x236001 x236002 x236003 x236004) else (spec_l14Read.j2 k x4 x6 false x236000 x236001 x236002 x236003 x236004))
def spec_l14Read.j2 : Nat → List ByteArray → ByteArray → Bool → Int → Int → ByteArray → ByteArray → ByteArray → Option (Int × Int × ByteArray × ByteArray × ByteArray × Bool)
 | 0, _, _, _, _, _, _, _, _ => none
 | k + 1, x4, x6, x59, x236000, x236001, x236002, x236003, x236004 => if x59 = true then (if 1 < (x4.length : Int) then (some (x236000, x236001, x236002, x236003, rdOf ByteArray.empty x4 1, true)) else (none)) else (if x6.toList = ([102] : List UInt8) then (if (x4.length : Int) = 4 then (if 1 < (x4.length : Int) then (if 2 < (x4.length : Int) then (if 3 < (x4.length : Int) then (some (x236000, x236001, rdOf ByteArray.empty x4 1, rdOf ByteArray.empty x4 2, rdOf ByteArray.empty x4 3, true)) else (none)) else (none)) else (none)) else (if x6.toList = ([] : List UInt8) then (some (x236000, x236001, x236002, x236003, x236004, ((x4.length : Int) == 1))) else (some (x236000, x236001, x236002, x236003, x236004, false)))) else (if x6.toList = ([109] : List UInt8) then (if (x4.length : Int) = 4 then (if 1 < (x4.length : Int) then (if 2 < (x4.length : Int) then (if 3 < (x4.length : Int) then (some (x236000, x236001, rdOf ByteArray.empty x4 1, rdOf ByteArray.empty x4 2, rdOf ByteArray.empty x4 3, true)) else (none)) else (none)) else (none)) else (if x6.toList = ([] : List UInt8) then (some (x236000, x236001, x236002, x236003, x236004, ((x4.length : Int) == 1))) else (some (x236000, x236001, x236002, x236003, x236004, false)))) else (if x6.toList = ([] : List UInt8) then (some (x236000, x236001, x236002, x236003, x236004, ((x4.length : Int) == 1))) else (some (x236000, x236001, x236002, x236003, x236004, false)))))
end
def spec_l14Read.f (k : Nat) (a0 : ByteArray) : Option (Int × Int × ByteArray × ByteArray × ByteArray × Bool) := (spec_l01Split.f k a0 32).bind fun t230 => (if 0 < (t230.length : Int) then ((spec_l14Op.f k (rdOf ByteArray.empty t230 0)).bind fun t234 => ((spec_OpForm.f k t234).bind fun t236 => (if t236.toList = ([110] : List UInt8) then (spec_l14Read.j0 k t230 t236 ((t230.length : Int) == 2) t234 0 (⟨#[]⟩ : ByteArray) (⟨#[]⟩ : ByteArray) (⟨#[]⟩ : ByteArray)) else (if t236.toList = ([105] : List UInt8) then (spec_l14Read.j0 k t230 t236 ((t230.length : Int) == 2) t234 0 (⟨#[]⟩ : ByteArray) (⟨#[]⟩ : ByteArray) (⟨#[]⟩ : ByteArray)) else (if t236.toList = ([116] : List UInt8) then (spec_l14Read.j0 k t230 t236 ((t230.length : Int) == 2) t234 0 (⟨#[]⟩ : ByteArray) (⟨#[]⟩ : ByteArray) (⟨#[]⟩ : ByteArray)) else (spec_l14Read.j0 k t230 t236 false t234 0 (⟨#[]⟩ : ByteArray) (⟨#[]⟩ : ByteArray) (⟨#[]⟩ : ByteArray))))))) else (none))
set_option maxHeartbeats 8000000 in
set_option maxRecDepth 100000 in
theorem spec_l14Read.calls (k : Nat) (a0 : ByteArray) (r1 : Int) (r2 : Int) (r3 : ByteArray) (r4 : ByteArray) (r5 : ByteArray) (r6 : Bool) (w : World) (h : spec_l14Read.f k a0 = some (r1, r2, r3, r4, r5, r6)) :
 Calls Tryd.prog 34 #[.string a0] w fun e w' => e = .returned (.tuple #[.agg #[.int .i64 r1, .int .i64 r2, .string r3, .string r4, .string r5], .bool r6]) ∧ Below w.heap.size w w' := by
 have hu44 := Tryd.underlying44; have HB := Zm (Below.refl w.heap.size w); have H : ((spec_l01Split.f k a0 32).bind fun t230 => (if 0 < (t230.length : Int) then ((spec_l14Op.f k (rdOf ByteArray.empty t230 0)).bind fun t234 => ((spec_OpForm.f k t234).bind fun t236 => (if t236.toList = ([110] : List UInt8) then (spec_l14Read.j0 k t230 t236 ((t230.length : Int) == 2) t234 0 (⟨#[]⟩ : ByteArray) (⟨#[]⟩ : ByteArray) (⟨#[]⟩ : ByteArray)) else (if t236.toList = ([105] : List UInt8) then (spec_l14Read.j0 k t230 t236 ((t230.length : Int) == 2) t234 0 (⟨#[]⟩ : ByteArray) (⟨#[]⟩ : ByteArray) (⟨#[]⟩ : ByteArray)) else (if t236.toList = ([116] : List UInt8) then (spec_l14Read.j0 k t230 t236 ((t230.length : Int) == 2) t234 0 (⟨#[]⟩ : ByteArray) (⟨#[]⟩ : ByteArray) (⟨#[]⟩ : ByteArray)) else (spec_l14Read.j0 k t230 t236 false t234 0 (⟨#[]⟩ : ByteArray) (⟨#[]⟩ : ByteArray) (⟨#[]⟩ : ByteArray))))))) else (none))) = some (r1, r2, r3, r4, r5, r6) := h; clear h; replace H := Option.bind_eq_some_iff.mp H; obtain ⟨t230, A20, H⟩ := H; replace H : (if 0 < (t230.length : Int) then ((spec_l14Op.f k (rdOf ByteArray.empty t230 0)).bind fun t234 => ((spec_OpForm.f k t234).bind fun t236 => (if t236.toList = ([110] : List UInt8) then (spec_l14Read.j0 k t230 t236 ((t230.length : Int) == 2) t234 0 (⟨#[]⟩ : ByteArray) (⟨#[]⟩ : ByteArray) (⟨#[]⟩ : ByteArray)) else (if t236.toList = ([105] : List UInt8) then (spec_l14Read.j0 k t230 t236 ((t230.length : Int) == 2) t234 0 (⟨#[]⟩ : ByteArray) (⟨#[]⟩ : ByteArray) (⟨#[]⟩ : ByteArray)) else (if t236.toList = ([116] : List UInt8) then (spec_l14Read.j0 k t230 t236 ((t230.length : Int) == 2) t234 0 (⟨#[]⟩ : ByteArray) (⟨#[]⟩ : ByteArray) (⟨#[]⟩ : ByteArray)) else (spec_l14Read.j0 k t230 t236 false t234 0 (⟨#[]⟩ : ByteArray) (⟨#[]⟩ : ByteArray) (⟨#[]⟩ : ByteArray))))))) else (none)) = some (r1, r2, r3, r4, r5, r6) := H; have A2 := Zm A20; clear A20; by_cases c3 : 0 < (t230.length : Int); rotate_left
 · rw [if_neg c3] at H; exact absurd H (by simp)

 rw [if_pos c3] at H
 have c3b0 := decide_eq_true c3
 have c3b1 : decide (0 < t230.length) = true := decide_eq_true (by omega)
 clear c3
 replace H := Option.bind_eq_some_iff.mp H
 obtain ⟨t234, A40, H⟩ := H
 replace H : ((spec_OpForm.f k t234).bind fun t236 => (if t236.toList = ([110] : List UInt8) then (spec_l14Read.j0 k t230 t236 ((t230.length : Int) == 2) t234 0 (⟨#[]⟩ : ByteArray) (⟨#[]⟩ : ByteArray) (⟨#[]⟩ : ByteArray)) else (if t236.toList = ([105] : List UInt8) then (spec_l14Read.j0 k t230 t236 ((t230.length : Int) == 2) t234 0 (⟨#[]⟩ : ByteArray) (⟨#[]⟩ : ByteArray) (⟨#[]⟩ : ByteArray)) else (if t236.toList = ([116] : List UInt8) then (spec_l14Read.j0 k t230 t236 ((t230.length : Int) == 2) t234 0 (⟨#[]⟩ : ByteArray) (⟨#[]⟩ : ByteArray) (⟨#[]⟩ : ByteArray)) else (spec_l14Read.j0 k t230 t236 false t234 0 (⟨#[]⟩ : ByteArray) (⟨#[]⟩ : ByteArray) (⟨#[]⟩ : ByteArray)))))) = some (r1, r2, r3, r4, r5, r6) := H
 have A4 := Zm A40
 clear A40
 replace H := Option.bind_eq_some_iff.mp H
 obtain ⟨t236, A50, H⟩ := H
 replace H : (if t236.toList = ([110] : List UInt8) then (spec_l14Read.j0 k t230 t236 ((t230.length : Int) == 2) t234 0 (⟨#[]⟩ : ByteArray) (⟨#[]⟩ : ByteArray) (⟨#[]⟩ : ByteArray)) else (if t236.toList = ([105] : List UInt8) then (spec_l14Read.j0 k t230 t236 ((t230.length : Int) == 2) t234 0 (⟨#[]⟩ : ByteArray) (⟨#[]⟩ : ByteArray) (⟨#[]⟩ : ByteArray)) else (if t236.toList = ([116] : List UInt8) then (spec_l14Read.j0 k t230 t236 ((t230.length : Int) == 2) t234 0 (⟨#[]⟩ : ByteArray) (⟨#[]⟩ : ByteArray) (⟨#[]⟩ : ByteArray)) else (spec_l14Read.j0 k t230 t236 false t234 0 (⟨#[]⟩ : ByteArray) (⟨#[]⟩ : ByteArray) (⟨#[]⟩ : ByteArray))))) = some (r1, r2, r3, r4, r5, r6) := H
 have A5 := Zm A50
 clear A50
 have HC6 := Zm H
 clear H
 go_enter Tryd.func34, Tryd.ntmps34
 go_upto_region 4 with (first | ((with_reducible refine gate_dst (N := 2) rfl ?_); (try (refine gate_guard (by rfl) ?_; dsimp only)); refine box_event ?hg (N := 2) ?hd (cs := #[.int .i64 0, .int .i64 0, .string (⟨#[]⟩ : ByteArray), .string (⟨#[]⟩ : ByteArray), .string (⟨#[]⟩ : ByteArray)]) (t := 44) ?hr ?_; (case hd => rfl); (case hg => rfl); (case hr => first | (go_simp; done) | (go_simp; rfl)); intro gb229 hg w7 hbox hb; have n0_ := (⟨Zm (Zbt (bk HB.out) hb), Zm (hbox), Zm ((by rw [hg]; exact (Zbz (bk HB.out)) : w.heap.size ≤ gb229)), Zm ((by rw [hg]; exact (Zbz (bk HB.out)) : w.heap.size ≤ gb229))⟩ : _ ∧ _ ∧ _ ∧ _); clear HB; obtain ⟨HB, BK229, GW229, GE229⟩ := n0_; clear hb hbox hg) | ((with_reducible refine gate_callee (f := 56) rfl ?_); refine ge_ (some 10) Tryd.func56 #[.string a0, .int .u8 32] ?_; (with_reducible refine (spec_l01Split.calls _ _ _ _ _ A2.out).mono ?_); rintro e w8 ⟨v231, rfl, ho0, hb⟩; refine ⟨_, rfl, ?_⟩; have n0_ := (⟨Zm (Kd.R_lower ho0 (Zbz (bk HB.out))), Zm (Zkb (pk BK229.out) hb), Zm (Zbt (bk HB.out) hb)⟩ : _ ∧ _ ∧ _); clear BK229 HB; obtain ⟨HO232, BK229, HB⟩ := n0_; (try clear hb); (try clear hb2); (try clear hk); (try clear hi); (try clear ho0); obtain ⟨Ao9, co9, eo9⟩ := Kd.R_slice HO232.out; subst eo9; have p233 : 0 ≤ (0 : Int) := (by omega); have q233 : 0 < (t230.length : Int) := of_decide_eq_true (by first | (with_reducible assumption) | assumption); obtain ⟨ad233, e233, hx233_0⟩ := Kd.at_string (Kd.R_reads' HO232.out).2.2 0 p233 q233; cases e233; have qi233 : (0 < t230.length) = True := eq_true (by omega); (try rw [show ((0 : Int)).toNat = 0 from rfl] at hx233_0); (try rw [Addr.add_zero'] at hx233_0); replace p233 := eq_true p233; replace q233 := eq_true q233) | ((with_reducible refine gate_callee (f := 57) rfl ?_); refine ge_ (some 14) Tryd.func57 #[.string (rdOf ByteArray.empty t230 0)] ?_; (with_reducible refine (spec_l14Op.calls _ _ _ _ A4.out).mono ?_); rintro e w10 ⟨rfl, hb⟩; refine ⟨_, rfl, ?_⟩; have n0_ := (⟨Zm (Kd.R_below (by (with_reducible repeat (first | apply Kd.R_alloc | apply Kd.R_drewN | apply Kd.R_drew)); exact HO232.out) hb), Zm (Zkb (pk BK229.out) hb), Zm (Zbt (bk HB.out) hb)⟩ : _ ∧ _ ∧ _); clear HO232 BK229 HB; obtain ⟨HO232, BK229, HB⟩ := n0_; (try clear hb); (try clear hb2); (try clear hk); (try clear hi)) | ((with_reducible refine gate_dst (N := 5) rfl ?_); (try (refine gate_guard (by rfl) ?_; dsimp only)); refine box_event ?hg (N := 5) ?hd (cs := #[.int .i64 0, .int .i64 0, .string (⟨#[]⟩ : ByteArray), .string (⟨#[]⟩ : ByteArray), .string (⟨#[]⟩ : ByteArray)]) (t := 44) ?hr ?_; (case hd => rfl); (case hg => rfl); (case hr => first | (go_simp; done) | (go_simp; rfl)); intro gb235 hg w11 hbox hb; have n0_ := (⟨Zm (Kd.R_below (by (with_reducible repeat (first | apply Kd.R_alloc | apply Kd.R_drewN | apply Kd.R_drew)); exact HO232.out) hb), Zm (Zkb (pk BK229.out) hb), Zm (Zbt (bk HB.out) hb), Zm (hbox), Zm ((by rw [hg]; exact (Zbz (bk HB.out)) : w.heap.size ≤ gb235)), Zm ((by rw [hg]; exact (Zbz (bk HB.out)) : w.heap.size ≤ gb235)), Zm ((by rw [hg]; exact Nat.ne_of_lt (blk_lt (pk BK229.out)) : gb229 ≠ gb235)), Zm ((by rw [hg]; exact Nat.ne_of_gt (blk_lt (pk BK229.out)) : gb235 ≠ gb229))⟩ : _ ∧ _ ∧ _ ∧ _ ∧ _ ∧ _ ∧ _ ∧ _); clear HO232 BK229 HB; obtain ⟨HO232, BK229, HB, BK235, GW235, GE235, NB229_235, NB235_229⟩ := n0_; clear hb hbox hg; have hnb12 := NB235_229.out; have hnc12 := NB229_235.out; obtain ⟨hcz13_0, hcz13_1, hcz13_2, hcz13_3, hcz13_4⟩ := cz5 BK235.out; have hfz13_0 := Zkf BK235.out 0; have hfz13_1 := Zkf BK235.out 1; have hfz13_2 := Zkf BK235.out 2; have hfz13_3 := Zkf BK235.out 3; have hfz13_4 := Zkf BK235.out 4) | ((with_reducible refine gate_callee (f := 41) rfl ?_); refine ge_ (some 18) Tryd.func41 #[.int .i64 t234] ?_; (with_reducible refine (spec_OpForm.calls _ _ _ _ A5.out).mono ?_); rintro e w14 ⟨rfl, hb⟩; refine ⟨_, rfl, ?_⟩; have n0_ := (⟨Zm (Kd.R_below (by (with_reducible repeat (first | apply Kd.R_alloc | apply Kd.R_drewN | apply Kd.R_drew)); exact (Kd.R_mono (Kd.R_far (p := ⟨gb235, 4, none⟩) (Kd.R_far (p := ⟨gb235, 3, none⟩) (Kd.R_far (p := ⟨gb235, 2, none⟩) (Kd.R_far (p := ⟨gb235, 1, none⟩) (Kd.R_far (p := ⟨gb235, 0, none⟩) (Kd.R_types HO232.out BK235.out (by decide)) (fun _ hk => hk.2) (.int .i64 t234)) (fun _ hk => hk.2) (.int .i64 0)) (fun _ hk => hk.2) (.string (⟨#[]⟩ : ByteArray))) (fun _ hk => hk.2) (.string (⟨#[]⟩ : ByteArray))) (fun _ hk => hk.2) (.string (⟨#[]⟩ : ByteArray))) (fun _ h_ => h_.1))) hb), Zm (Zkb (g := gb229) (o := .cells #[.int .i64 0, .int .i64 0, .string (⟨#[]⟩ : ByteArray), .string (⟨#[]⟩ : ByteArray), .string (⟨#[]⟩ : ByteArray)] 44 (0, 0)) zc_ hb), Zm (Zkb (g := gb235) (o := .cells #[.int .i64 t234, .int .i64 0, .string (⟨#[]⟩ : ByteArray), .string (⟨#[]⟩ : ByteArray), .string (⟨#[]⟩ : ByteArray)] 44 (0, 0)) zc_ hb), Zm (Zbt hb_ hb)⟩ : _ ∧ _ ∧ _ ∧ _); clear HO232 BK229 BK235 HB; obtain ⟨HO232, BK229, BK235, HB⟩ := n0_; (try clear hb); (try clear hb2); (try clear hk); (try clear hi)))
 (try simp only [Act.put, List.setIfInBounds_toArray, List.set_cons_zero, List.set_cons_succ])
 go_cut [19] (fun v19 wc => ∃ (kq : Nat) (x19_5 : Bool), v19 = .bool x19_5 ∧ Aside0 (spec_l14Read.j0 kq t230 t236 x19_5 t234 0 (⟨#[]⟩ : ByteArray) (⟨#[]⟩ : ByteArray) (⟨#[]⟩ : ByteArray) = some (r1, r2, r3, r4, r5, r6)) ∧ Aside0 (kq ≤ k) ∧ Aside0 (Kd.R Kd.string 9 wc w.heap.size (fun _ => True) (.slice (some ad233) t230.length co9) t230) ∧ Aside0 (wc.heap[gb229]? = some (.cells #[.int .i64 0, .int .i64 0, .string (⟨#[]⟩ : ByteArray), .string (⟨#[]⟩ : ByteArray), .string (⟨#[]⟩ : ByteArray)] 44 (0, 0))) ∧ Aside0 (wc.heap[gb235]? = some (.cells #[.int .i64 t234, .int .i64 0, .string (⟨#[]⟩ : ByteArray), .string (⟨#[]⟩ : ByteArray), .string (⟨#[]⟩ : ByteArray)] 44 (0, 0))) ∧ Aside0 (Below w.heap.size w wc))
 case first =>
  have H := HC6.out
  clear HC6
  by_cases c15 : t236.toList = ([110] : List UInt8)
  rotate_left
  · rw [if_neg c15] at H
    have c15b0 : (t236.toList == ([110] : List UInt8)) = false := beq_eq_false_iff_ne.mpr c15
    have c15b1 : (t236.toList != ([110] : List UInt8)) = true := bne_iff_ne.mpr c15
    (first | rw [c15b0] | (simp only [i64_w, i32_w]; rw [c15b0]) | skip)
    by_cases c16 : t236.toList = ([105] : List UInt8)
    rotate_left
    · rw [if_neg c16] at H
      have c16b0 : (t236.toList == ([105] : List UInt8)) = false := beq_eq_false_iff_ne.mpr c16
      have c16b1 : (t236.toList != ([105] : List UInt8)) = true := bne_iff_ne.mpr c16
      by_cases c17 : t236.toList = ([116] : List UInt8)
      rotate_left
      · rw [if_neg c17] at H
        have c17b0 : (t236.toList == ([116] : List UInt8)) = false := beq_eq_false_iff_ne.mpr c17
        have c17b1 : (t236.toList != ([116] : List UInt8)) = true := bne_iff_ne.mpr c17
        have H' := Zm H
        clear H
        go_wp2
        go_meet
        case rel => exact ⟨_, (false), (by first | rfl | (simp; done) | (simp [*]; done)), H', ⟨by first | omega | exact Nat.le_refl _⟩, ⟨by (with_reducible repeat (first | apply Kd.R_alloc | apply Kd.R_drewN | apply Kd.R_drew)); exact HO232.out⟩, ⟨pk BK229.out⟩, ⟨pk BK235.out⟩, ⟨bk HB.out⟩⟩
      rw [if_pos c17] at H
      have c17b0 : (t236.toList == ([116] : List UInt8)) = true := beq_iff_eq.mpr c17
      have c17b1 : (t236.toList != ([116] : List UInt8)) = false := bne_eq_false_iff_eq.mpr c17
      clear c17
      have H' := Zm H
      clear H
      go_wp2
      go_meet
      case rel => exact ⟨_, (((t230.length : Int) == 2)), (by first | rfl | (simp; done) | (simp [*]; done)), H', ⟨by first | omega | exact Nat.le_refl _⟩, ⟨by (with_reducible repeat (first | apply Kd.R_alloc | apply Kd.R_drewN | apply Kd.R_drew)); exact HO232.out⟩, ⟨pk BK229.out⟩, ⟨pk BK235.out⟩, ⟨bk HB.out⟩⟩
    rw [if_pos c16] at H
    have c16b0 : (t236.toList == ([105] : List UInt8)) = true := beq_iff_eq.mpr c16
    have c16b1 : (t236.toList != ([105] : List UInt8)) = false := bne_eq_false_iff_eq.mpr c16
    clear c16
    have H' := Zm H
    clear H
    go_wp2
    go_meet
    case rel => exact ⟨_, (((t230.length : Int) == 2)), (by first | rfl | (simp; done) | (simp [*]; done)), H', ⟨by first | omega | exact Nat.le_refl _⟩, ⟨by (with_reducible repeat (first | apply Kd.R_alloc | apply Kd.R_drewN | apply Kd.R_drew)); exact HO232.out⟩, ⟨pk BK229.out⟩, ⟨pk BK235.out⟩, ⟨bk HB.out⟩⟩
  rw [if_pos c15] at H
  have c15b0 : (t236.toList == ([110] : List UInt8)) = true := beq_iff_eq.mpr c15
  have c15b1 : (t236.toList != ([110] : List UInt8)) = false := bne_eq_false_iff_eq.mpr c15
  clear c15
  (first | rw [c15b0] | (simp only [i64_w, i32_w]; rw [c15b0]) | skip)
  have H' := Zm H
  clear H
  go_wp2
  go_meet
  case rel => exact ⟨_, (((t230.length : Int) == 2)), (by first | rfl | (simp; done) | (simp [*]; done)), H', ⟨by first | omega | exact Nat.le_refl _⟩, ⟨by (with_reducible repeat (first | apply Kd.R_alloc | apply Kd.R_drewN | apply Kd.R_drew)); exact HO232.out⟩, ⟨pk BK229.out⟩, ⟨pk BK235.out⟩, ⟨bk HB.out⟩⟩
 case rest =>
  clear HC6
  (try clear c3); (try clear c3b0); (try clear c3b1); (try clear hcz13_0); (try clear hcz13_1); (try clear hcz13_2); (try clear hcz13_3); (try clear hcz13_4); (try clear hfz13_0); (try clear hfz13_1); (try clear hfz13_2); (try clear hfz13_3); (try clear hfz13_4); (try clear hx233_0); (try clear p233); (try clear q233)
  obtain ⟨kq, x19_5, rfl, HA, HJ5, HO_4, BK229, BK235, HB⟩ := hcut
  cases kq with
  | zero => exact absurd HA.out (by simp [spec_l14Read.j0])
  | succ kj5 =>
   have H := HA.out
   clear HA
   simp only [spec_l14Read.j0] at H
   by_cases c18 : x19_5 = true
   rotate_left
   · replace c18 := Bool.eq_false_iff.mpr c18
     subst c18
     rw [if_neg (show ¬ (false = true) by decide)] at H
     have HC25 := Zm H
     clear H
     go_upto_region 8 with (fail)
     go_cut [46] (fun v46 wc => ∃ (kq : Nat) (x46_24 : Bool), v46 = .bool x46_24 ∧ Aside0 (spec_l14Read.j1 kq t230 t236 x46_24 t234 0 (⟨#[]⟩ : ByteArray) (⟨#[]⟩ : ByteArray) (⟨#[]⟩ : ByteArray) = some (r1, r2, r3, r4, r5, r6)) ∧ Aside0 (kq ≤ kj5) ∧ Aside0 (Kd.R Kd.string 9 wc w.heap.size (fun _ => True) (.slice (some ad233) t230.length co9) t230) ∧ Aside0 (wc.heap[gb229]? = some (.cells #[.int .i64 0, .int .i64 0, .string (⟨#[]⟩ : ByteArray), .string (⟨#[]⟩ : ByteArray), .string (⟨#[]⟩ : ByteArray)] 44 (0, 0))) ∧ Aside0 (wc.heap[gb235]? = some (.cells #[.int .i64 t234, .int .i64 0, .string (⟨#[]⟩ : ByteArray), .string (⟨#[]⟩ : ByteArray), .string (⟨#[]⟩ : ByteArray)] 44 (0, 0))) ∧ Aside0 (Below w.heap.size w wc))
     case first =>
      have H := HC25.out
      clear HC25
      by_cases c26 : t236.toList = ([99] : List UInt8)
      rotate_left
      · rw [if_neg c26] at H
        have c26b0 : (t236.toList == ([99] : List UInt8)) = false := beq_eq_false_iff_ne.mpr c26
        have c26b1 : (t236.toList != ([99] : List UInt8)) = true := bne_iff_ne.mpr c26
        (first | rw [c26b0] | (simp only [i64_w, i32_w]; rw [c26b0]) | skip)
        have H' := Zm H
        clear H
        go_wp2
        go_meet
        case rel => exact ⟨_, (false), (by first | rfl | (simp; done) | (simp [*]; done)), H', ⟨by have := HJ5.out; first | omega | exact Nat.le_refl _⟩, ⟨by (with_reducible repeat (first | apply Kd.R_alloc | apply Kd.R_drewN | apply Kd.R_drew)); exact HO_4.out⟩, ⟨pk BK229.out⟩, ⟨pk BK235.out⟩, ⟨bk HB.out⟩⟩
      rw [if_pos c26] at H
      have c26b0 : (t236.toList == ([99] : List UInt8)) = true := beq_iff_eq.mpr c26
      have c26b1 : (t236.toList != ([99] : List UInt8)) = false := bne_eq_false_iff_eq.mpr c26
      clear c26
      (first | rw [c26b0] | (simp only [i64_w, i32_w]; rw [c26b0]) | skip)
      have H' := Zm H
      clear H
      go_wp2
      go_meet
      case rel => exact ⟨_, (((t230.length : Int) == 2)), (by first | rfl | (simp; done) | (simp [*]; done)), H', ⟨by have := HJ5.out; first | omega | exact Nat.le_refl _⟩, ⟨by (with_reducible repeat (first | apply Kd.R_alloc | apply Kd.R_drewN | apply Kd.R_drew)); exact HO_4.out⟩, ⟨pk BK229.out⟩, ⟨pk BK235.out⟩, ⟨bk HB.out⟩⟩
     case rest =>
      clear HC25
      (try clear c3); (try clear c3b0); (try clear c3b1); (try clear c18); (try clear hcz13_0); (try clear hcz13_1); (try clear hcz13_2); (try clear hcz13_3); (try clear hcz13_4); (try clear hfz13_0); (try clear hfz13_1); (try clear hfz13_2); (try clear hfz13_3); (try clear hfz13_4); (try clear hx233_0); (try clear p233); (try clear q233)
      obtain ⟨kq, x46_24, rfl, HA, HJ24, HO_4, BK229, BK235, HB⟩ := hcut
      cases kq with
      | zero => exact absurd HA.out (by simp [spec_l14Read.j1])
      | succ kj24 =>
       have H := HA.out
       clear HA
       simp only [spec_l14Read.j1] at H
       by_cases c27 : x46_24 = true
       rotate_left
       · replace c27 := Bool.eq_false_iff.mpr c27
         subst c27
         rw [if_neg (show ¬ (false = true) by decide)] at H
         have HC32 := Zm H
         clear H
         go_upto_region 11 with (fail)
         go_cut [59] (fun v59 wc => ∃ (kq : Nat) (x59_31 : Bool), v59 = .bool x59_31 ∧ Aside0 (spec_l14Read.j2 kq t230 t236 x59_31 t234 0 (⟨#[]⟩ : ByteArray) (⟨#[]⟩ : ByteArray) (⟨#[]⟩ : ByteArray) = some (r1, r2, r3, r4, r5, r6)) ∧ Aside0 (kq ≤ kj24) ∧ Aside0 (Kd.R Kd.string 9 wc w.heap.size (fun _ => True) (.slice (some ad233) t230.length co9) t230) ∧ Aside0 (wc.heap[gb229]? = some (.cells #[.int .i64 0, .int .i64 0, .string (⟨#[]⟩ : ByteArray), .string (⟨#[]⟩ : ByteArray), .string (⟨#[]⟩ : ByteArray)] 44 (0, 0))) ∧ Aside0 (wc.heap[gb235]? = some (.cells #[.int .i64 t234, .int .i64 0, .string (⟨#[]⟩ : ByteArray), .string (⟨#[]⟩ : ByteArray), .string (⟨#[]⟩ : ByteArray)] 44 (0, 0))) ∧ Aside0 (Below w.heap.size w wc))
         case first =>
          have H := HC32.out
          clear HC32
          by_cases c33 : t236.toList = ([121] : List UInt8)
          rotate_left
          · rw [if_neg c33] at H
            have c33b0 : (t236.toList == ([121] : List UInt8)) = false := beq_eq_false_iff_ne.mpr c33
            have c33b1 : (t236.toList != ([121] : List UInt8)) = true := bne_iff_ne.mpr c33
            (first | rw [c33b0] | (simp only [i64_w, i32_w]; rw [c33b0]) | skip)
            have H' := Zm H
            clear H
            go_wp2
            go_meet
            case rel => exact ⟨_, (false), (by first | rfl | (simp; done) | (simp [*]; done)), H', ⟨by have := HJ5.out; have := HJ24.out; first | omega | exact Nat.le_refl _⟩, ⟨by (with_reducible repeat (first | apply Kd.R_alloc | apply Kd.R_drewN | apply Kd.R_drew)); exact HO_4.out⟩, ⟨pk BK229.out⟩, ⟨pk BK235.out⟩, ⟨bk HB.out⟩⟩
          rw [if_pos c33] at H
          have c33b0 : (t236.toList == ([121] : List UInt8)) = true := beq_iff_eq.mpr c33
          have c33b1 : (t236.toList != ([121] : List UInt8)) = false := bne_eq_false_iff_eq.mpr c33
          clear c33
          (first | rw [c33b0] | (simp only [i64_w, i32_w]; rw [c33b0]) | skip)
          have H' := Zm H
          clear H
          go_wp2
          go_meet
          case rel => exact ⟨_, (((t230.length : Int) == 2)), (by first | rfl | (simp; done) | (simp [*]; done)), H', ⟨by have := HJ5.out; have := HJ24.out; first | omega | exact Nat.le_refl _⟩, ⟨by (with_reducible repeat (first | apply Kd.R_alloc | apply Kd.R_drewN | apply Kd.R_drew)); exact HO_4.out⟩, ⟨pk BK229.out⟩, ⟨pk BK235.out⟩, ⟨bk HB.out⟩⟩
         case rest =>
          clear HC32
          (try clear c3); (try clear c3b0); (try clear c3b1); (try clear c18); (try clear c27); (try clear hcz13_0); (try clear hcz13_1); (try clear hcz13_2); (try clear hcz13_3); (try clear hcz13_4); (try clear hfz13_0); (try clear hfz13_1); (try clear hfz13_2); (try clear hfz13_3); (try clear hfz13_4); (try clear hx233_0); (try clear p233); (try clear q233)
          obtain ⟨kq, x59_31, rfl, HA, HJ31, HO_4, BK229, BK235, HB⟩ := hcut
          cases kq with
          | zero => exact absurd HA.out (by simp [spec_l14Read.j2])
          | succ kj31 =>
           have H := HA.out
           clear HA
           simp only [spec_l14Read.j2] at H
           by_cases c34 : x59_31 = true
           rotate_left
           · replace c34 := Bool.eq_false_iff.mpr c34
             subst c34
             rw [if_neg (show ¬ (false = true) by decide)] at H
             by_cases c39 : t236.toList = ([102] : List UInt8)
             rotate_left
             · rw [if_neg c39] at H
               have c39b0 : (t236.toList == ([102] : List UInt8)) = false := beq_eq_false_iff_ne.mpr c39
               have c39b1 : (t236.toList != ([102] : List UInt8)) = true := bne_iff_ne.mpr c39
               by_cases c54 : t236.toList = ([109] : List UInt8)
               rotate_left
               · rw [if_neg c54] at H
                 have c54b0 : (t236.toList == ([109] : List UInt8)) = false := beq_eq_false_iff_ne.mpr c54
                 have c54b1 : (t236.toList != ([109] : List UInt8)) = true := bne_iff_ne.mpr c54
                 by_cases c69 : t236.toList = ([] : List UInt8)
                 rotate_left
                 · rw [if_neg c69] at H
                   have c69b0 : (t236.toList == ([] : List UInt8)) = false := beq_eq_false_iff_ne.mpr c69
                   have c69b1 : (t236.toList != ([] : List UInt8)) = true := bne_iff_ne.mpr c69
                   simp only [Option.some.injEq, Prod.mk.injEq] at H
                   obtain ⟨rfl, rfl, rfl, rfl, rfl, rfl⟩ := H
                   have hnb73 := NB235_229.out
                   have hnc73 := NB229_235.out
                   obtain ⟨hcz74_0, hcz74_1, hcz74_2, hcz74_3, hcz74_4⟩ := cz5 BK235.out
                   have hfz74_0 := Zkf BK235.out 0
                   have hfz74_1 := Zkf BK235.out 1
                   have hfz74_2 := Zkf BK235.out 2
                   have hfz74_3 := Zkf BK235.out 3
                   have hfz74_4 := Zkf BK235.out 4
                   obtain ⟨hcz75_0, hcz75_1, hcz75_2, hcz75_3, hcz75_4⟩ := cz5 BK229.out
                   have hfz75_0 := Zkf BK229.out 0
                   have hfz75_1 := Zkf BK229.out 1
                   have hfz75_2 := Zkf BK229.out 2
                   have hfz75_3 := Zkf BK229.out 3
                   have hfz75_4 := Zkf BK229.out 4
                   go_wp2
                   refine bodyPost_ret (results_ct rfl _ _ gb229 44 #[.int .i64 t234, .int .i64 0, .string (⟨#[]⟩ : ByteArray), .string (⟨#[]⟩ : ByteArray), .string (⟨#[]⟩ : ByteArray)] (0, 0) _ rfl zc_ Tryd.underlying44 rfl (by kernel_rfl)) rfl ?_
                   exact ⟨by first | rfl | (simp [*] <;> rfl), hb_⟩
                 rw [if_pos c69] at H
                 have c69b0 : (t236.toList == ([] : List UInt8)) = true := beq_iff_eq.mpr c69
                 have c69b1 : (t236.toList != ([] : List UInt8)) = false := bne_eq_false_iff_eq.mpr c69
                 clear c69
                 simp only [Option.some.injEq, Prod.mk.injEq] at H
                 obtain ⟨rfl, rfl, rfl, rfl, rfl, rfl⟩ := H
                 have hnb70 := NB235_229.out
                 have hnc70 := NB229_235.out
                 obtain ⟨hcz71_0, hcz71_1, hcz71_2, hcz71_3, hcz71_4⟩ := cz5 BK235.out
                 have hfz71_0 := Zkf BK235.out 0
                 have hfz71_1 := Zkf BK235.out 1
                 have hfz71_2 := Zkf BK235.out 2
                 have hfz71_3 := Zkf BK235.out 3
                 have hfz71_4 := Zkf BK235.out 4
                 obtain ⟨hcz72_0, hcz72_1, hcz72_2, hcz72_3, hcz72_4⟩ := cz5 BK229.out
                 have hfz72_0 := Zkf BK229.out 0
                 have hfz72_1 := Zkf BK229.out 1
                 have hfz72_2 := Zkf BK229.out 2
                 have hfz72_3 := Zkf BK229.out 3
                 have hfz72_4 := Zkf BK229.out 4
                 go_wp2
                 refine bodyPost_ret (results_ct rfl _ _ gb229 44 #[.int .i64 t234, .int .i64 0, .string (⟨#[]⟩ : ByteArray), .string (⟨#[]⟩ : ByteArray), .string (⟨#[]⟩ : ByteArray)] (0, 0) _ rfl zc_ Tryd.underlying44 rfl (by kernel_rfl)) rfl ?_
                 exact ⟨by first | rfl | (simp [*] <;> rfl), hb_⟩
               rw [if_pos c54] at H
               have c54b0 : (t236.toList == ([109] : List UInt8)) = true := beq_iff_eq.mpr c54
               have c54b1 : (t236.toList != ([109] : List UInt8)) = false := bne_eq_false_iff_eq.mpr c54
               clear c54
               by_cases c55 : (t230.length : Int) = 4
               rotate_left
               · rw [if_neg c55] at H
                 have c55b0 : ((t230.length : Int) == 4) = false := beq_eq_false_iff_ne.mpr c55
                 have c55b1 : ((t230.length : Int) != 4) = true := bne_iff_ne.mpr c55
                 by_cases c62 : t236.toList = ([] : List UInt8)
                 rotate_left
                 · rw [if_neg c62] at H
                   have c62b0 : (t236.toList == ([] : List UInt8)) = false := beq_eq_false_iff_ne.mpr c62
                   have c62b1 : (t236.toList != ([] : List UInt8)) = true := bne_iff_ne.mpr c62
                   simp only [Option.some.injEq, Prod.mk.injEq] at H
                   obtain ⟨rfl, rfl, rfl, rfl, rfl, rfl⟩ := H
                   have hnb66 := NB235_229.out
                   have hnc66 := NB229_235.out
                   obtain ⟨hcz67_0, hcz67_1, hcz67_2, hcz67_3, hcz67_4⟩ := cz5 BK235.out
                   have hfz67_0 := Zkf BK235.out 0
                   have hfz67_1 := Zkf BK235.out 1
                   have hfz67_2 := Zkf BK235.out 2
                   have hfz67_3 := Zkf BK235.out 3
                   have hfz67_4 := Zkf BK235.out 4
                   obtain ⟨hcz68_0, hcz68_1, hcz68_2, hcz68_3, hcz68_4⟩ := cz5 BK229.out
                   have hfz68_0 := Zkf BK229.out 0
                   have hfz68_1 := Zkf BK229.out 1
                   have hfz68_2 := Zkf BK229.out 2
                   have hfz68_3 := Zkf BK229.out 3
                   have hfz68_4 := Zkf BK229.out 4
                   go_wp2
                   refine bodyPost_ret (results_ct rfl _ _ gb229 44 #[.int .i64 t234, .int .i64 0, .string (⟨#[]⟩ : ByteArray), .string (⟨#[]⟩ : ByteArray), .string (⟨#[]⟩ : ByteArray)] (0, 0) _ rfl zc_ Tryd.underlying44 rfl (by kernel_rfl)) rfl ?_
                   exact ⟨by first | rfl | (simp [*] <;> rfl), hb_⟩
                 rw [if_pos c62] at H
                 have c62b0 : (t236.toList == ([] : List UInt8)) = true := beq_iff_eq.mpr c62
                 have c62b1 : (t236.toList != ([] : List UInt8)) = false := bne_eq_false_iff_eq.mpr c62
                 clear c62
                 simp only [Option.some.injEq, Prod.mk.injEq] at H
                 obtain ⟨rfl, rfl, rfl, rfl, rfl, rfl⟩ := H
                 have hnb63 := NB235_229.out
                 have hnc63 := NB229_235.out
                 obtain ⟨hcz64_0, hcz64_1, hcz64_2, hcz64_3, hcz64_4⟩ := cz5 BK235.out
                 have hfz64_0 := Zkf BK235.out 0
                 have hfz64_1 := Zkf BK235.out 1
                 have hfz64_2 := Zkf BK235.out 2
                 have hfz64_3 := Zkf BK235.out 3
                 have hfz64_4 := Zkf BK235.out 4
                 obtain ⟨hcz65_0, hcz65_1, hcz65_2, hcz65_3, hcz65_4⟩ := cz5 BK229.out
                 have hfz65_0 := Zkf BK229.out 0
                 have hfz65_1 := Zkf BK229.out 1
                 have hfz65_2 := Zkf BK229.out 2
                 have hfz65_3 := Zkf BK229.out 3
                 have hfz65_4 := Zkf BK229.out 4
                 go_wp2
                 refine bodyPost_ret (results_ct rfl _ _ gb229 44 #[.int .i64 t234, .int .i64 0, .string (⟨#[]⟩ : ByteArray), .string (⟨#[]⟩ : ByteArray), .string (⟨#[]⟩ : ByteArray)] (0, 0) _ rfl zc_ Tryd.underlying44 rfl (by kernel_rfl)) rfl ?_
                 exact ⟨by first | rfl | (simp [*] <;> rfl), hb_⟩
               rw [if_pos c55] at H
               have c55b0 : ((t230.length : Int) == 4) = true := beq_iff_eq.mpr c55
               have c55b1 : ((t230.length : Int) != 4) = false := bne_eq_false_iff_eq.mpr c55
               clear c55
               by_cases c56 : 1 < (t230.length : Int)
               rotate_left
               · rw [if_neg c56] at H
                 exact absurd H (by simp)
               rw [if_pos c56] at H
               have c56b0 := decide_eq_true c56
               have c56b1 : decide (1 < t230.length) = true := decide_eq_true (by omega)
               clear c56
               by_cases c57 : 2 < (t230.length : Int)
               rotate_left
               · rw [if_neg c57] at H
                 exact absurd H (by simp)
               rw [if_pos c57] at H
               have c57b0 := decide_eq_true c57
               have c57b1 : decide (2 < t230.length) = true := decide_eq_true (by omega)
               clear c57
               by_cases c58 : 3 < (t230.length : Int)
               rotate_left
               · rw [if_neg c58] at H
                 exact absurd H (by simp)
               rw [if_pos c58] at H
               have c58b0 := decide_eq_true c58
               have c58b1 : decide (3 < t230.length) = true := decide_eq_true (by omega)
               clear c58
               simp only [Option.some.injEq, Prod.mk.injEq] at H
               obtain ⟨rfl, rfl, rfl, rfl, rfl, rfl⟩ := H
               have p245 : 0 ≤ (1 : Int) := (by omega)
               have q245 : 1 < (t230.length : Int) := of_decide_eq_true (by first | (with_reducible assumption) | assumption)
               obtain ⟨ad245, e245, hx245_0⟩ := Kd.at_string (Kd.R_reads' HO_4.out).2.2 1 p245 q245
               obtain rfl : ad233 = ad245 := (by injection e245)
               (try simp only [show (1 : Int).toNat = 1 from rfl, Nat.reduceMul, Nat.reduceEqDiff, Go.Addr.add, ↓reduceIte] at hx245_0)
               have qi245 : (1 < t230.length) = True := eq_true (by omega)
               (try rw [show ((1 : Int)).toNat = 1 from rfl] at hx245_0)
               replace p245 := eq_true p245
               replace q245 := eq_true q245
               have hnb59 := NB235_229.out
               have hnc59 := NB229_235.out
               obtain ⟨hcz60_0, hcz60_1, hcz60_2, hcz60_3, hcz60_4⟩ := cz5 BK235.out
               have hfz60_0 := Zkf BK235.out 0
               have hfz60_1 := Zkf BK235.out 1
               have hfz60_2 := Zkf BK235.out 2
               have hfz60_3 := Zkf BK235.out 3
               have hfz60_4 := Zkf BK235.out 4
               have p246 : 0 ≤ (2 : Int) := (by omega)
               have q246 : 2 < (t230.length : Int) := of_decide_eq_true (by first | (with_reducible assumption) | assumption)
               obtain ⟨ad246, e246, hx246_0⟩ := Kd.at_string (Kd.R_reads' HO_4.out).2.2 2 p246 q246
               obtain rfl : ad233 = ad246 := (by injection e246)
               (try simp only [show (2 : Int).toNat = 2 from rfl, Nat.reduceMul, Nat.reduceEqDiff, Go.Addr.add, ↓reduceIte] at hx246_0)
               have qi246 : (2 < t230.length) = True := eq_true (by omega)
               (try rw [show ((2 : Int)).toNat = 2 from rfl] at hx246_0)
               have hn246_0 : ad233.block ≠ gb235 := Kd.own_blk (Kd.R_ne HO_4.out BK235.out (by decide))
               replace hx246_0 := (cell_far (p := ⟨gb235, 2, none⟩) (by first | (rw [Zab]; exact hn246_0) | (show (Addr.add _ _).block ≠ _; rw [Zab]; exact hn246_0) | exact hn246_0) (.string (rdOf ByteArray.empty t230 1))).trans hx246_0
               clear hn246_0
               replace p246 := eq_true p246
               replace q246 := eq_true q246
               have p247 : 0 ≤ (3 : Int) := (by omega)
               have q247 : 3 < (t230.length : Int) := of_decide_eq_true (by first | (with_reducible assumption) | assumption)
               obtain ⟨ad247, e247, hx247_0⟩ := Kd.at_string (Kd.R_reads' HO_4.out).2.2 3 p247 q247
               obtain rfl : ad233 = ad247 := (by injection e247)
               (try simp only [show (3 : Int).toNat = 3 from rfl, Nat.reduceMul, Nat.reduceEqDiff, Go.Addr.add, ↓reduceIte] at hx247_0)
               have qi247 : (3 < t230.length) = True := eq_true (by omega)
               (try rw [show ((3 : Int)).toNat = 3 from rfl] at hx247_0)
               have hn247_0 : ad233.block ≠ gb235 := Kd.own_blk (Kd.R_ne HO_4.out BK235.out (by decide))
               have hn247_1 : ad233.block ≠ gb235 := Kd.own_blk (Kd.R_ne HO_4.out BK235.out (by decide))
               replace hx247_0 := (cell_far (p := ⟨gb235, 2, none⟩) (by first | (rw [Zab]; exact hn247_0) | (show (Addr.add _ _).block ≠ _; rw [Zab]; exact hn247_0) | exact hn247_0) (.string (rdOf ByteArray.empty t230 1))).trans hx247_0
               replace hx247_0 := (cell_far (p := ⟨gb235, 3, none⟩) (by first | (rw [Zab]; exact hn247_1) | (show (Addr.add _ _).block ≠ _; rw [Zab]; exact hn247_1) | exact hn247_1) (.string (rdOf ByteArray.empty t230 2))).trans hx247_0
               clear hn247_0
               clear hn247_1
               replace p247 := eq_true p247
               replace q247 := eq_true q247
               obtain ⟨hcz61_0, hcz61_1, hcz61_2, hcz61_3, hcz61_4⟩ := cz5 BK229.out
               have hfz61_0 := Zkf BK229.out 0
               have hfz61_1 := Zkf BK229.out 1
               have hfz61_2 := Zkf BK229.out 2
               have hfz61_3 := Zkf BK229.out 3
               have hfz61_4 := Zkf BK229.out 4
               go_wp2
               refine bodyPost_ret (results_ct rfl _ _ gb229 44 #[.int .i64 t234, .int .i64 0, .string (rdOf ByteArray.empty t230 1), .string (rdOf ByteArray.empty t230 2), .string (rdOf ByteArray.empty t230 3)] (0, 0) _ rfl zc_ Tryd.underlying44 rfl (by kernel_rfl)) rfl ?_
               exact ⟨by first | rfl | (simp [*] <;> rfl), hb_⟩
             rw [if_pos c39] at H
             have c39b0 : (t236.toList == ([102] : List UInt8)) = true := beq_iff_eq.mpr c39
             have c39b1 : (t236.toList != ([102] : List UInt8)) = false := bne_eq_false_iff_eq.mpr c39
             clear c39
             by_cases c40 : (t230.length : Int) = 4
             rotate_left
             · rw [if_neg c40] at H
               have c40b0 : ((t230.length : Int) == 4) = false := beq_eq_false_iff_ne.mpr c40
               have c40b1 : ((t230.length : Int) != 4) = true := bne_iff_ne.mpr c40
               by_cases c47 : t236.toList = ([] : List UInt8)
               rotate_left
               · rw [if_neg c47] at H
                 have c47b0 : (t236.toList == ([] : List UInt8)) = false := beq_eq_false_iff_ne.mpr c47
                 have c47b1 : (t236.toList != ([] : List UInt8)) = true := bne_iff_ne.mpr c47
                 simp only [Option.some.injEq, Prod.mk.injEq] at H
                 obtain ⟨rfl, rfl, rfl, rfl, rfl, rfl⟩ := H
                 have hnb51 := NB235_229.out
                 have hnc51 := NB229_235.out
                 obtain ⟨hcz52_0, hcz52_1, hcz52_2, hcz52_3, hcz52_4⟩ := cz5 BK235.out
                 have hfz52_0 := Zkf BK235.out 0
                 have hfz52_1 := Zkf BK235.out 1
                 have hfz52_2 := Zkf BK235.out 2
                 have hfz52_3 := Zkf BK235.out 3
                 have hfz52_4 := Zkf BK235.out 4
                 obtain ⟨hcz53_0, hcz53_1, hcz53_2, hcz53_3, hcz53_4⟩ := cz5 BK229.out
                 have hfz53_0 := Zkf BK229.out 0
                 have hfz53_1 := Zkf BK229.out 1
                 have hfz53_2 := Zkf BK229.out 2
                 have hfz53_3 := Zkf BK229.out 3
                 have hfz53_4 := Zkf BK229.out 4
                 go_wp2
                 refine bodyPost_ret (results_ct rfl _ _ gb229 44 #[.int .i64 t234, .int .i64 0, .string (⟨#[]⟩ : ByteArray), .string (⟨#[]⟩ : ByteArray), .string (⟨#[]⟩ : ByteArray)] (0, 0) _ rfl zc_ Tryd.underlying44 rfl (by kernel_rfl)) rfl ?_
                 exact ⟨by first | rfl | (simp [*] <;> rfl), hb_⟩
               rw [if_pos c47] at H
               have c47b0 : (t236.toList == ([] : List UInt8)) = true := beq_iff_eq.mpr c47
               have c47b1 : (t236.toList != ([] : List UInt8)) = false := bne_eq_false_iff_eq.mpr c47
               clear c47
               simp only [Option.some.injEq, Prod.mk.injEq] at H
               obtain ⟨rfl, rfl, rfl, rfl, rfl, rfl⟩ := H
               have hnb48 := NB235_229.out
               have hnc48 := NB229_235.out
               obtain ⟨hcz49_0, hcz49_1, hcz49_2, hcz49_3, hcz49_4⟩ := cz5 BK235.out
               have hfz49_0 := Zkf BK235.out 0
               have hfz49_1 := Zkf BK235.out 1
               have hfz49_2 := Zkf BK235.out 2
               have hfz49_3 := Zkf BK235.out 3
               have hfz49_4 := Zkf BK235.out 4
               obtain ⟨hcz50_0, hcz50_1, hcz50_2, hcz50_3, hcz50_4⟩ := cz5 BK229.out
               have hfz50_0 := Zkf BK229.out 0
               have hfz50_1 := Zkf BK229.out 1
               have hfz50_2 := Zkf BK229.out 2
               have hfz50_3 := Zkf BK229.out 3
               have hfz50_4 := Zkf BK229.out 4
               go_wp2
               refine bodyPost_ret (results_ct rfl _ _ gb229 44 #[.int .i64 t234, .int .i64 0, .string (⟨#[]⟩ : ByteArray), .string (⟨#[]⟩ : ByteArray), .string (⟨#[]⟩ : ByteArray)] (0, 0) _ rfl zc_ Tryd.underlying44 rfl (by kernel_rfl)) rfl ?_
               exact ⟨by first | rfl | (simp [*] <;> rfl), hb_⟩
             rw [if_pos c40] at H
             have c40b0 : ((t230.length : Int) == 4) = true := beq_iff_eq.mpr c40
             have c40b1 : ((t230.length : Int) != 4) = false := bne_eq_false_iff_eq.mpr c40
             clear c40
             by_cases c41 : 1 < (t230.length : Int)
             rotate_left
             · rw [if_neg c41] at H
               exact absurd H (by simp)
             rw [if_pos c41] at H
             have c41b0 := decide_eq_true c41
             have c41b1 : decide (1 < t230.length) = true := decide_eq_true (by omega)
             clear c41
             by_cases c42 : 2 < (t230.length : Int)
             rotate_left
             · rw [if_neg c42] at H
               exact absurd H (by simp)
             rw [if_pos c42] at H
             have c42b0 := decide_eq_true c42
             have c42b1 : decide (2 < t230.length) = true := decide_eq_true (by omega)
             clear c42
             by_cases c43 : 3 < (t230.length : Int)
             rotate_left
             · rw [if_neg c43] at H
               exact absurd H (by simp)
             rw [if_pos c43] at H
             have c43b0 := decide_eq_true c43
             have c43b1 : decide (3 < t230.length) = true := decide_eq_true (by omega)
             clear c43
             simp only [Option.some.injEq, Prod.mk.injEq] at H
             obtain ⟨rfl, rfl, rfl, rfl, rfl, rfl⟩ := H
             have p242 : 0 ≤ (1 : Int) := (by omega)
             have q242 : 1 < (t230.length : Int) := of_decide_eq_true (by first | (with_reducible assumption) | assumption)
             obtain ⟨ad242, e242, hx242_0⟩ := Kd.at_string (Kd.R_reads' HO_4.out).2.2 1 p242 q242
             obtain rfl : ad233 = ad242 := (by injection e242)
             (try simp only [show (1 : Int).toNat = 1 from rfl, Nat.reduceMul, Nat.reduceEqDiff, Go.Addr.add, ↓reduceIte] at hx242_0)
             have qi242 : (1 < t230.length) = True := eq_true (by omega)
             (try rw [show ((1 : Int)).toNat = 1 from rfl] at hx242_0)
             replace p242 := eq_true p242
             replace q242 := eq_true q242
             have hnb44 := NB235_229.out
             have hnc44 := NB229_235.out
             obtain ⟨hcz45_0, hcz45_1, hcz45_2, hcz45_3, hcz45_4⟩ := cz5 BK235.out
             have hfz45_0 := Zkf BK235.out 0
             have hfz45_1 := Zkf BK235.out 1
             have hfz45_2 := Zkf BK235.out 2
             have hfz45_3 := Zkf BK235.out 3
             have hfz45_4 := Zkf BK235.out 4
             have p243 : 0 ≤ (2 : Int) := (by omega)
             have q243 : 2 < (t230.length : Int) := of_decide_eq_true (by first | (with_reducible assumption) | assumption)
             obtain ⟨ad243, e243, hx243_0⟩ := Kd.at_string (Kd.R_reads' HO_4.out).2.2 2 p243 q243
             obtain rfl : ad233 = ad243 := (by injection e243)
             (try simp only [show (2 : Int).toNat = 2 from rfl, Nat.reduceMul, Nat.reduceEqDiff, Go.Addr.add, ↓reduceIte] at hx243_0)
             have qi243 : (2 < t230.length) = True := eq_true (by omega)
             (try rw [show ((2 : Int)).toNat = 2 from rfl] at hx243_0)
             have hn243_0 : ad233.block ≠ gb235 := Kd.own_blk (Kd.R_ne HO_4.out BK235.out (by decide))
             replace hx243_0 := (cell_far (p := ⟨gb235, 2, none⟩) (by first | (rw [Zab]; exact hn243_0) | (show (Addr.add _ _).block ≠ _; rw [Zab]; exact hn243_0) | exact hn243_0) (.string (rdOf ByteArray.empty t230 1))).trans hx243_0
             clear hn243_0
             replace p243 := eq_true p243
             replace q243 := eq_true q243
             have p244 : 0 ≤ (3 : Int) := (by omega)
             have q244 : 3 < (t230.length : Int) := of_decide_eq_true (by first | (with_reducible assumption) | assumption)
             obtain ⟨ad244, e244, hx244_0⟩ := Kd.at_string (Kd.R_reads' HO_4.out).2.2 3 p244 q244
             obtain rfl : ad233 = ad244 := (by injection e244)
             (try simp only [show (3 : Int).toNat = 3 from rfl, Nat.reduceMul, Nat.reduceEqDiff, Go.Addr.add, ↓reduceIte] at hx244_0)
             have qi244 : (3 < t230.length) = True := eq_true (by omega)
             (try rw [show ((3 : Int)).toNat = 3 from rfl] at hx244_0)
             have hn244_0 : ad233.block ≠ gb235 := Kd.own_blk (Kd.R_ne HO_4.out BK235.out (by decide))
             have hn244_1 : ad233.block ≠ gb235 := Kd.own_blk (Kd.R_ne HO_4.out BK235.out (by decide))
             replace hx244_0 := (cell_far (p := ⟨gb235, 2, none⟩) (by first | (rw [Zab]; exact hn244_0) | (show (Addr.add _ _).block ≠ _; rw [Zab]; exact hn244_0) | exact hn244_0) (.string (rdOf ByteArray.empty t230 1))).trans hx244_0
             replace hx244_0 := (cell_far (p := ⟨gb235, 3, none⟩) (by first | (rw [Zab]; exact hn244_1) | (show (Addr.add _ _).block ≠ _; rw [Zab]; exact hn244_1) | exact hn244_1) (.string (rdOf ByteArray.empty t230 2))).trans hx244_0
             clear hn244_0
             clear hn244_1
             replace p244 := eq_true p244
             replace q244 := eq_true q244
             obtain ⟨hcz46_0, hcz46_1, hcz46_2, hcz46_3, hcz46_4⟩ := cz5 BK229.out
             have hfz46_0 := Zkf BK229.out 0
             have hfz46_1 := Zkf BK229.out 1
             have hfz46_2 := Zkf BK229.out 2
             have hfz46_3 := Zkf BK229.out 3
             have hfz46_4 := Zkf BK229.out 4
             go_wp2
             refine bodyPost_ret (results_ct rfl _ _ gb229 44 #[.int .i64 t234, .int .i64 0, .string (rdOf ByteArray.empty t230 1), .string (rdOf ByteArray.empty t230 2), .string (rdOf ByteArray.empty t230 3)] (0, 0) _ rfl zc_ Tryd.underlying44 rfl (by kernel_rfl)) rfl ?_
             exact ⟨by first | rfl | (simp [*] <;> rfl), hb_⟩
           subst c34
           rw [if_pos rfl] at H
           by_cases c35 : 1 < (t230.length : Int)
           rotate_left
           · rw [if_neg c35] at H
             exact absurd H (by simp)
           rw [if_pos c35] at H
           have c35b0 := decide_eq_true c35
           have c35b1 : decide (1 < t230.length) = true := decide_eq_true (by omega)
           clear c35
           simp only [Option.some.injEq, Prod.mk.injEq] at H
           obtain ⟨rfl, rfl, rfl, rfl, rfl, rfl⟩ := H
           have p241 : 0 ≤ (1 : Int) := (by omega)
           have q241 : 1 < (t230.length : Int) := of_decide_eq_true (by first | (with_reducible assumption) | assumption)
           obtain ⟨ad241, e241, hx241_0⟩ := Kd.at_string (Kd.R_reads' HO_4.out).2.2 1 p241 q241
           obtain rfl : ad233 = ad241 := (by injection e241)
           (try simp only [show (1 : Int).toNat = 1 from rfl, Nat.reduceMul, Nat.reduceEqDiff, Go.Addr.add, ↓reduceIte] at hx241_0)
           have qi241 : (1 < t230.length) = True := eq_true (by omega)
           (try rw [show ((1 : Int)).toNat = 1 from rfl] at hx241_0)
           replace p241 := eq_true p241
           replace q241 := eq_true q241
           have hnb36 := NB235_229.out
           have hnc36 := NB229_235.out
           obtain ⟨hcz37_0, hcz37_1, hcz37_2, hcz37_3, hcz37_4⟩ := cz5 BK235.out
           have hfz37_0 := Zkf BK235.out 0
           have hfz37_1 := Zkf BK235.out 1
           have hfz37_2 := Zkf BK235.out 2
           have hfz37_3 := Zkf BK235.out 3
           have hfz37_4 := Zkf BK235.out 4
           obtain ⟨hcz38_0, hcz38_1, hcz38_2, hcz38_3, hcz38_4⟩ := cz5 BK229.out
           have hfz38_0 := Zkf BK229.out 0
           have hfz38_1 := Zkf BK229.out 1
           have hfz38_2 := Zkf BK229.out 2
           have hfz38_3 := Zkf BK229.out 3
           have hfz38_4 := Zkf BK229.out 4
           go_wp2
           refine bodyPost_ret (results_ct rfl _ _ gb229 44 #[.int .i64 t234, .int .i64 0, .string (⟨#[]⟩ : ByteArray), .string (⟨#[]⟩ : ByteArray), .string (rdOf ByteArray.empty t230 1)] (0, 0) _ rfl zc_ Tryd.underlying44 rfl (by kernel_rfl)) rfl ?_
           exact ⟨by first | rfl | (simp [*] <;> rfl), hb_⟩
       subst c27
       rw [if_pos rfl] at H
       by_cases c28 : 1 < (t230.length : Int)
       rotate_left
       · rw [if_neg c28] at H
         exact absurd H (by simp)
       rw [if_pos c28] at H
       have c28b0 := decide_eq_true c28
       have c28b1 : decide (1 < t230.length) = true := decide_eq_true (by omega)
       clear c28
       simp only [Option.some.injEq, Prod.mk.injEq] at H
       obtain ⟨rfl, rfl, rfl, rfl, rfl, rfl⟩ := H
       have p240 : 0 ≤ (1 : Int) := (by omega)
       have q240 : 1 < (t230.length : Int) := of_decide_eq_true (by first | (with_reducible assumption) | assumption)
       obtain ⟨ad240, e240, hx240_0⟩ := Kd.at_string (Kd.R_reads' HO_4.out).2.2 1 p240 q240
       obtain rfl : ad233 = ad240 := (by injection e240)
       (try simp only [show (1 : Int).toNat = 1 from rfl, Nat.reduceMul, Nat.reduceEqDiff, Go.Addr.add, ↓reduceIte] at hx240_0)
       have qi240 : (1 < t230.length) = True := eq_true (by omega)
       (try rw [show ((1 : Int)).toNat = 1 from rfl] at hx240_0)
       replace p240 := eq_true p240
       replace q240 := eq_true q240
       have hnb29 := NB235_229.out
       have hnc29 := NB229_235.out
       obtain ⟨hcz30_0, hcz30_1, hcz30_2, hcz30_3, hcz30_4⟩ := cz5 BK235.out
       have hfz30_0 := Zkf BK235.out 0
       have hfz30_1 := Zkf BK235.out 1
       have hfz30_2 := Zkf BK235.out 2
       have hfz30_3 := Zkf BK235.out 3
       have hfz30_4 := Zkf BK235.out 4
       obtain ⟨hcz31_0, hcz31_1, hcz31_2, hcz31_3, hcz31_4⟩ := cz5 BK229.out
       have hfz31_0 := Zkf BK229.out 0
       have hfz31_1 := Zkf BK229.out 1
       have hfz31_2 := Zkf BK229.out 2
       have hfz31_3 := Zkf BK229.out 3
       have hfz31_4 := Zkf BK229.out 4
       go_wp2
       refine bodyPost_ret (results_ct rfl _ _ gb229 44 #[.int .i64 t234, .int .i64 0, .string (rdOf ByteArray.empty t230 1), .string (⟨#[]⟩ : ByteArray), .string (⟨#[]⟩ : ByteArray)] (0, 0) _ rfl zc_ Tryd.underlying44 rfl (by kernel_rfl)) rfl ?_
       exact ⟨by first | rfl | (simp [*] <;> rfl), hb_⟩
   subst c18
   rw [if_pos rfl] at H
   by_cases c19 : 1 < (t230.length : Int)
   rotate_left
   · rw [if_neg c19] at H
     exact absurd H (by simp)
   rw [if_pos c19] at H
   have c19b0 := decide_eq_true c19
   have c19b1 : decide (1 < t230.length) = true := decide_eq_true (by omega)
   clear c19
   replace H := Option.bind_eq_some_iff.mp H
   obtain ⟨⟨t238, t239⟩, A200, H⟩ := H
   replace H : (some (t234, t238, (⟨#[]⟩ : ByteArray), (⟨#[]⟩ : ByteArray), (⟨#[]⟩ : ByteArray), t239)) = some (r1, r2, r3, r4, r5, r6) := H
   have A20 := Zm A200
   clear A200
   simp only [Option.some.injEq, Prod.mk.injEq] at H
   obtain ⟨rfl, rfl, rfl, rfl, rfl, rfl⟩ := H
   have p237 : 0 ≤ (1 : Int) := (by omega)
   have q237 : 1 < (t230.length : Int) := of_decide_eq_true (by first | (with_reducible assumption) | assumption)
   obtain ⟨ad237, e237, hx237_0⟩ := Kd.at_string (Kd.R_reads' HO_4.out).2.2 1 p237 q237
   obtain rfl : ad233 = ad237 := (by injection e237)
   (try simp only [show (1 : Int).toNat = 1 from rfl, Nat.reduceMul, Nat.reduceEqDiff, Go.Addr.add, ↓reduceIte] at hx237_0)
   have qi237 : (1 < t230.length) = True := eq_true (by omega)
   (try rw [show ((1 : Int)).toNat = 1 from rfl] at hx237_0)
   replace p237 := eq_true p237
   replace q237 := eq_true q237
   (try clear HO_4)
   go_wp2_with (first | ((with_reducible refine gate_callee (f := 58) rfl ?_); refine ge_ (some 39) Tryd.func58 #[.string (rdOf ByteArray.empty t230 1)] ?_; (with_reducible refine (spec_l01Num.calls _ _ _ _ _ A20.out).mono ?_); rintro e w21 ⟨rfl, hb⟩; refine ⟨_, rfl, ?_⟩; have n0_ := (⟨Zm (Zkb (pk BK229.out) hb), Zm (Zkb (pk BK235.out) hb), Zm (Zbt (bk HB.out) hb)⟩ : _ ∧ _ ∧ _); clear BK229 BK235 HB; obtain ⟨BK229, BK235, HB⟩ := n0_; (try clear hb); (try clear hb2); (try clear hk); (try clear hi); have hnb22 := NB235_229.out; have hnc22 := NB229_235.out; obtain ⟨hcz23_0, hcz23_1, hcz23_2, hcz23_3, hcz23_4⟩ := cz5 BK235.out; have hfz23_0 := Zkf BK235.out 0; have hfz23_1 := Zkf BK235.out 1; have hfz23_2 := Zkf BK235.out 2; have hfz23_3 := Zkf BK235.out 3; have hfz23_4 := Zkf BK235.out 4; obtain ⟨hcz24_0, hcz24_1, hcz24_2, hcz24_3, hcz24_4⟩ := cz5 BK229.out; have hfz24_0 := Zkf BK229.out 0; have hfz24_1 := Zkf BK229.out 1; have hfz24_2 := Zkf BK229.out 2; have hfz24_3 := Zkf BK229.out 3; have hfz24_4 := Zkf BK229.out 4))
   refine bodyPost_ret (results_ct rfl _ _ gb229 44 #[.int .i64 t234, .int .i64 t238, .string (⟨#[]⟩ : ByteArray), .string (⟨#[]⟩ : ByteArray), .string (⟨#[]⟩ : ByteArray)] (0, 0) _ rfl zc_ Tryd.underlying44 rfl (by kernel_rfl)) rfl ?_
   exact ⟨by first | rfl | (simp [*] <;> rfl), hb_⟩
/-! ### spec_InsParse: function 20 -/
def spec_InsParse.f (k : Nat) (a0 : ByteArray) : Option (Int × Int × ByteArray × ByteArray × ByteArray) := if (a0.size : Int) > 20000 then (some (0, 0, (⟨#[]⟩ : ByteArray), (⟨#[]⟩ : ByteArray), (⟨#[]⟩ : ByteArray))) else ((spec_l14Read.f k a0).bind fun bt249 => (if bt249.2.2.2.2.2 = true then ((spec_InsRight.f k bt249.1 bt249.2.1 bt249.2.2.1 bt249.2.2.2.1 bt249.2.2.2.2.1).bind fun t256 => (if t256 = true then ((spec_l14Ins.f k bt249.1 bt249.2.1 bt249.2.2.1 bt249.2.2.2.1 bt249.2.2.2.2.1).bind fun t257 => (if t257.toList = a0.toList then (some (bt249.1, bt249.2.1, bt249.2.2.1, bt249.2.2.2.1, bt249.2.2.2.2.1)) else (some (0, 0, (⟨#[]⟩ : ByteArray), (⟨#[]⟩ : ByteArray), (⟨#[]⟩ : ByteArray))))) else (some (0, 0, (⟨#[]⟩ : ByteArray), (⟨#[]⟩ : ByteArray), (⟨#[]⟩ : ByteArray))))) else (some (0, 0, (⟨#[]⟩ : ByteArray), (⟨#[]⟩ : ByteArray), (⟨#[]⟩ : ByteArray)))))
set_option maxHeartbeats 8000000 in
set_option maxRecDepth 100000 in
theorem spec_InsParse.calls (k : Nat) (a0 : ByteArray) (r1 : Int) (r2 : Int) (r3 : ByteArray) (r4 : ByteArray) (r5 : ByteArray) (w : World) (h : spec_InsParse.f k a0 = some (r1, r2, r3, r4, r5)) :
 Calls Tryd.prog 20 #[.string a0] w fun e w' => e = .returned (.agg #[.int .i64 r1, .int .i64 r2, .string r3, .string r4, .string r5]) ∧ Below w.heap.size w w' := by
 have hu44 := Tryd.underlying44; have HB := Zm (Below.refl w.heap.size w); have H : (if (a0.size : Int) > 20000 then (some (0, 0, (⟨#[]⟩ : ByteArray), (⟨#[]⟩ : ByteArray), (⟨#[]⟩ : ByteArray))) else ((spec_l14Read.f k a0).bind fun bt249 => (if bt249.2.2.2.2.2 = true then ((spec_InsRight.f k bt249.1 bt249.2.1 bt249.2.2.1 bt249.2.2.2.1 bt249.2.2.2.2.1).bind fun t256 => (if t256 = true then ((spec_l14Ins.f k bt249.1 bt249.2.1 bt249.2.2.1 bt249.2.2.2.1 bt249.2.2.2.2.1).bind fun t257 => (if t257.toList = a0.toList then (some (bt249.1, bt249.2.1, bt249.2.2.1, bt249.2.2.2.1, bt249.2.2.2.2.1)) else (some (0, 0, (⟨#[]⟩ : ByteArray), (⟨#[]⟩ : ByteArray), (⟨#[]⟩ : ByteArray))))) else (some (0, 0, (⟨#[]⟩ : ByteArray), (⟨#[]⟩ : ByteArray), (⟨#[]⟩ : ByteArray))))) else (some (0, 0, (⟨#[]⟩ : ByteArray), (⟨#[]⟩ : ByteArray), (⟨#[]⟩ : ByteArray)))))) = some (r1, r2, r3, r4, r5) := h; clear h; have HC2 := Zm H; clear H; go_enter Tryd.func20, Tryd.ntmps20; go_upto_if 7 with (first | ((with_reducible refine gate_dst (N := 2) rfl ?_); refine box_event ?hg (N := 2) ?hd (cs := #[.int .i64 0, .int .i64 0, .string (⟨#[]⟩ : ByteArray), .string (⟨#[]⟩ : ByteArray), .string (⟨#[]⟩ : ByteArray)]) (t := 44) ?hr ?_; (case hd => rfl); (case hg => rfl); (case hr => first | (go_simp; done) | (go_simp; rfl)); intro gb248 hg w3 hbox hb; have n0_ := (⟨Zm (Zbt (bk HB.out) hb), Zm (hbox), Zm ((by rw [hg]; exact (Zbz (bk HB.out)) : w.heap.size ≤ gb248)), Zm ((by rw [hg]; exact (Zbz (bk HB.out)) : w.heap.size ≤ gb248))⟩ : _ ∧ _ ∧ _ ∧ _); clear HB; obtain ⟨HB, BK248, GW248, GE248⟩ := n0_; clear hb hbox hg)); have H := HC2.out; clear HC2; by_cases c4 : (a0.size : Int) > 20000; rotate_left
 · rw [if_neg c4] at H; have c4b0 : decide (20000 < (a0.size : Int)) = false := decide_eq_false c4; have c4b1 : decide (20000 < a0.size) = false := decide_eq_false (by omega); clear c4; (first | rw [c4b0] | (simp only [i64_w, i32_w]; rw [c4b0]) | skip); replace H := Option.bind_eq_some_iff.mp H; obtain ⟨⟨t249, t250, t251, t252, t253, t254⟩, A60, H⟩ := H; replace H : (if t254 = true then ((spec_InsRight.f k t249 t250 t251 t252 t253).bind fun t256 => (if t256 = true then ((spec_l14Ins.f k t249 t250 t251 t252 t253).bind fun t257 => (if t257.toList = a0.toList then (some (t249, t250, t251, t252, t253)) else (some (0, 0, (⟨#[]⟩ : ByteArray), (⟨#[]⟩ : ByteArray), (⟨#[]⟩ : ByteArray))))) else (some (0, 0, (⟨#[]⟩ : ByteArray), (⟨#[]⟩ : ByteArray), (⟨#[]⟩ : ByteArray))))) else (some (0, 0, (⟨#[]⟩ : ByteArray), (⟨#[]⟩ : ByteArray), (⟨#[]⟩ : ByteArray)))) = some (r1, r2, r3, r4, r5) := H; have A6 := Zm A60; clear A60; by_cases c7 : t254 = true; rotate_left
   · replace c7 := Bool.eq_false_iff.mpr c7; subst c7; rw [if_neg (show ¬ (false = true) by decide)] at H; simp only [Option.some.injEq, Prod.mk.injEq] at H; obtain ⟨rfl, rfl, rfl, rfl, rfl⟩ := H; go_wp2_with (first | ((with_reducible refine gate_callee (f := 34) rfl ?_); refine ge_ (some 11) Tryd.func34 #[.string a0] ?_; (with_reducible refine (spec_l14Read.calls _ _ _ _ _ _ _ _ _ A6.out).mono ?_); rintro e w31 ⟨rfl, hb⟩; refine ⟨_, rfl, ?_⟩; have n0_ := (⟨Zm (Zkb (pk BK248.out) hb), Zm (Zbt (bk HB.out) hb)⟩ : _ ∧ _); clear BK248 HB; obtain ⟨BK248, HB⟩ := n0_; (try clear hb); (try clear hb2); (try clear hk); (try clear hi)) | ((with_reducible refine gate_dst (N := 3) rfl ?_); refine box_event ?hg (N := 3) ?hd (cs := #[.int .i64 0, .int .i64 0, .string (⟨#[]⟩ : ByteArray), .string (⟨#[]⟩ : ByteArray), .string (⟨#[]⟩ : ByteArray)]) (t := 44) ?hr ?_; (case hd => rfl); (case hg => rfl); (case hr => first | (go_simp; done) | (go_simp; rfl)); intro gb255 hg w32 hbox hb; have n0_ := (⟨Zm (Zkb (pk BK248.out) hb), Zm (Zbt (bk HB.out) hb), Zm (hbox), Zm ((by rw [hg]; exact (Zbz (bk HB.out)) : w.heap.size ≤ gb255)), Zm ((by rw [hg]; exact (Zbz (bk HB.out)) : w.heap.size ≤ gb255)), Zm ((by rw [hg]; exact Nat.ne_of_lt (blk_lt (pk BK248.out)) : gb248 ≠ gb255)), Zm ((by rw [hg]; exact Nat.ne_of_gt (blk_lt (pk BK248.out)) : gb255 ≠ gb248))⟩ : _ ∧ _ ∧ _ ∧ _ ∧ _ ∧ _ ∧ _); clear BK248 HB; obtain ⟨BK248, HB, BK255, GW255, GE255, NB248_255, NB255_248⟩ := n0_; clear hb hbox hg; have hnb33 := NB255_248.out; have hnc33 := NB248_255.out; obtain ⟨hcz34_0, hcz34_1, hcz34_2, hcz34_3, hcz34_4⟩ := cz5 BK255.out; have hfz34_0 := Zkf BK255.out 0; have hfz34_1 := Zkf BK255.out 1; have hfz34_2 := Zkf BK255.out 2; have hfz34_3 := Zkf BK255.out 3; have hfz34_4 := Zkf BK255.out 4; obtain ⟨hcz35_0, hcz35_1, hcz35_2, hcz35_3, hcz35_4⟩ := cz5 BK248.out; have hfz35_0 := Zkf BK248.out 0; have hfz35_1 := Zkf BK248.out 1; have hfz35_2 := Zkf BK248.out 2; have hfz35_3 := Zkf BK248.out 3; have hfz35_4 := Zkf BK248.out 4)); refine bodyPost_ret (results_cell_row rfl _ _ gb248 44 #[.int .i64 0, .int .i64 0, .string (⟨#[]⟩ : ByteArray), .string (⟨#[]⟩ : ByteArray), .string (⟨#[]⟩ : ByteArray)] (0, 0) _ rfl zc_ Tryd.underlying44 rfl (by kernel_rfl)) rfl ?_; exact ⟨by first | rfl | (simp [*] <;> rfl), hb_⟩

   subst c7
   rw [if_pos rfl] at H
   replace H := Option.bind_eq_some_iff.mp H
   obtain ⟨t256, A80, H⟩ := H
   replace H : (if t256 = true then ((spec_l14Ins.f k t249 t250 t251 t252 t253).bind fun t257 => (if t257.toList = a0.toList then (some (t249, t250, t251, t252, t253)) else (some (0, 0, (⟨#[]⟩ : ByteArray), (⟨#[]⟩ : ByteArray), (⟨#[]⟩ : ByteArray))))) else (some (0, 0, (⟨#[]⟩ : ByteArray), (⟨#[]⟩ : ByteArray), (⟨#[]⟩ : ByteArray)))) = some (r1, r2, r3, r4, r5) := H
   have A8 := Zm A80
   clear A80
   by_cases c9 : t256 = true
   rotate_left
   · replace c9 := Bool.eq_false_iff.mpr c9
     subst c9
     rw [if_neg (show ¬ (false = true) by decide)] at H
     simp only [Option.some.injEq, Prod.mk.injEq] at H
     obtain ⟨rfl, rfl, rfl, rfl, rfl⟩ := H
     go_wp2_with (first | ((with_reducible refine gate_callee (f := 34) rfl ?_); refine ge_ (some 11) Tryd.func34 #[.string a0] ?_; (with_reducible refine (spec_l14Read.calls _ _ _ _ _ _ _ _ _ A6.out).mono ?_); rintro e w25 ⟨rfl, hb⟩; refine ⟨_, rfl, ?_⟩; have n0_ := (⟨Zm (Zkb (pk BK248.out) hb), Zm (Zbt (bk HB.out) hb)⟩ : _ ∧ _); clear BK248 HB; obtain ⟨BK248, HB⟩ := n0_; (try clear hb); (try clear hb2); (try clear hk); (try clear hi)) | ((with_reducible refine gate_dst (N := 3) rfl ?_); refine box_event ?hg (N := 3) ?hd (cs := #[.int .i64 0, .int .i64 0, .string (⟨#[]⟩ : ByteArray), .string (⟨#[]⟩ : ByteArray), .string (⟨#[]⟩ : ByteArray)]) (t := 44) ?hr ?_; (case hd => rfl); (case hg => rfl); (case hr => first | (go_simp; done) | (go_simp; rfl)); intro gb255 hg w26 hbox hb; have n0_ := (⟨Zm (Zkb (pk BK248.out) hb), Zm (Zbt (bk HB.out) hb), Zm (hbox), Zm ((by rw [hg]; exact (Zbz (bk HB.out)) : w.heap.size ≤ gb255)), Zm ((by rw [hg]; exact (Zbz (bk HB.out)) : w.heap.size ≤ gb255)), Zm ((by rw [hg]; exact Nat.ne_of_lt (blk_lt (pk BK248.out)) : gb248 ≠ gb255)), Zm ((by rw [hg]; exact Nat.ne_of_gt (blk_lt (pk BK248.out)) : gb255 ≠ gb248))⟩ : _ ∧ _ ∧ _ ∧ _ ∧ _ ∧ _ ∧ _); clear BK248 HB; obtain ⟨BK248, HB, BK255, GW255, GE255, NB248_255, NB255_248⟩ := n0_; clear hb hbox hg; have hnb27 := NB255_248.out; have hnc27 := NB248_255.out; obtain ⟨hcz28_0, hcz28_1, hcz28_2, hcz28_3, hcz28_4⟩ := cz5 BK255.out; have hfz28_0 := Zkf BK255.out 0; have hfz28_1 := Zkf BK255.out 1; have hfz28_2 := Zkf BK255.out 2; have hfz28_3 := Zkf BK255.out 3; have hfz28_4 := Zkf BK255.out 4) | (go_at_call 30; (first | (with_reducible refine (spec_InsRight.calls _ _ _ _ _ _ _ _ A8.out).mono ?_) | (with_reducible refine (calls_of_args ?_ (spec_InsRight.calls _ _ _ _ _ _ _ _ A8.out)).mono ?_; focus (simp [*]; done))); rintro e w29 ⟨rfl, hb⟩; have n0_ := (⟨Zm (Zkb (g := gb248) (o := .cells #[.int .i64 0, .int .i64 0, .string (⟨#[]⟩ : ByteArray), .string (⟨#[]⟩ : ByteArray), .string (⟨#[]⟩ : ByteArray)] 44 (0, 0)) zc_ hb), Zm (Zkb (g := gb255) (o := .cells #[.int .i64 t249, .int .i64 t250, .string t251, .string t252, .string t253] 44 (0, 0)) zc_ hb), Zm (Zbt hb_ hb)⟩ : _ ∧ _ ∧ _); clear BK248 BK255 HB; obtain ⟨BK248, BK255, HB⟩ := n0_; (try clear hb); (try clear hb2); (try clear hk); (try clear hi); obtain ⟨hcz30_0, hcz30_1, hcz30_2, hcz30_3, hcz30_4⟩ := cz5 BK248.out; have hfz30_0 := Zkf BK248.out 0; have hfz30_1 := Zkf BK248.out 1; have hfz30_2 := Zkf BK248.out 2; have hfz30_3 := Zkf BK248.out 3; have hfz30_4 := Zkf BK248.out 4))
     refine bodyPost_ret (results_cell_row rfl _ _ gb248 44 #[.int .i64 0, .int .i64 0, .string (⟨#[]⟩ : ByteArray), .string (⟨#[]⟩ : ByteArray), .string (⟨#[]⟩ : ByteArray)] (0, 0) _ rfl zc_ Tryd.underlying44 rfl (by kernel_rfl)) rfl ?_
     exact ⟨by first | rfl | (simp [*] <;> rfl), hb_⟩
   subst c9
   rw [if_pos rfl] at H
   replace H := Option.bind_eq_some_iff.mp H
   obtain ⟨t257, A100, H⟩ := H
   replace H : (if t257.toList = a0.toList then (some (t249, t250, t251, t252, t253)) else (some (0, 0, (⟨#[]⟩ : ByteArray), (⟨#[]⟩ : ByteArray), (⟨#[]⟩ : ByteArray)))) = some (r1, r2, r3, r4, r5) := H
   have A10 := Zm A100
   clear A100
   have HC11 := Zm H
   clear H
   go_upto_if 26 with (first | ((with_reducible refine gate_callee (f := 34) rfl ?_); refine ge_ (some 11) Tryd.func34 #[.string a0] ?_; (with_reducible refine (spec_l14Read.calls _ _ _ _ _ _ _ _ _ A6.out).mono ?_); rintro e w12 ⟨rfl, hb⟩; refine ⟨_, rfl, ?_⟩; have n0_ := (⟨Zm (Zkb (pk BK248.out) hb), Zm (Zbt (bk HB.out) hb)⟩ : _ ∧ _); clear BK248 HB; obtain ⟨BK248, HB⟩ := n0_; (try clear hb); (try clear hb2); (try clear hk); (try clear hi)) | ((with_reducible refine gate_dst (N := 3) rfl ?_); refine box_event ?hg (N := 3) ?hd (cs := #[.int .i64 0, .int .i64 0, .string (⟨#[]⟩ : ByteArray), .string (⟨#[]⟩ : ByteArray), .string (⟨#[]⟩ : ByteArray)]) (t := 44) ?hr ?_; (case hd => rfl); (case hg => rfl); (case hr => first | (go_simp; done) | (go_simp; rfl)); intro gb255 hg w13 hbox hb; have n0_ := (⟨Zm (Zkb (pk BK248.out) hb), Zm (Zbt (bk HB.out) hb), Zm (hbox), Zm ((by rw [hg]; exact (Zbz (bk HB.out)) : w.heap.size ≤ gb255)), Zm ((by rw [hg]; exact (Zbz (bk HB.out)) : w.heap.size ≤ gb255)), Zm ((by rw [hg]; exact Nat.ne_of_lt (blk_lt (pk BK248.out)) : gb248 ≠ gb255)), Zm ((by rw [hg]; exact Nat.ne_of_gt (blk_lt (pk BK248.out)) : gb255 ≠ gb248))⟩ : _ ∧ _ ∧ _ ∧ _ ∧ _ ∧ _ ∧ _); clear BK248 HB; obtain ⟨BK248, HB, BK255, GW255, GE255, NB248_255, NB255_248⟩ := n0_; clear hb hbox hg; have hnb14 := NB255_248.out; have hnc14 := NB248_255.out; obtain ⟨hcz15_0, hcz15_1, hcz15_2, hcz15_3, hcz15_4⟩ := cz5 BK255.out; have hfz15_0 := Zkf BK255.out 0; have hfz15_1 := Zkf BK255.out 1; have hfz15_2 := Zkf BK255.out 2; have hfz15_3 := Zkf BK255.out 3; have hfz15_4 := Zkf BK255.out 4) | (go_at_call 30; (first | (with_reducible refine (spec_InsRight.calls _ _ _ _ _ _ _ _ A8.out).mono ?_) | (with_reducible refine (calls_of_args ?_ (spec_InsRight.calls _ _ _ _ _ _ _ _ A8.out)).mono ?_; focus (simp [*]; done))); rintro e w16 ⟨rfl, hb⟩; have n0_ := (⟨Zm (Zkb (g := gb248) (o := .cells #[.int .i64 0, .int .i64 0, .string (⟨#[]⟩ : ByteArray), .string (⟨#[]⟩ : ByteArray), .string (⟨#[]⟩ : ByteArray)] 44 (0, 0)) zc_ hb), Zm (Zkb (g := gb255) (o := .cells #[.int .i64 t249, .int .i64 t250, .string t251, .string t252, .string t253] 44 (0, 0)) zc_ hb), Zm (Zbt hb_ hb)⟩ : _ ∧ _ ∧ _); clear BK248 BK255 HB; obtain ⟨BK248, BK255, HB⟩ := n0_; (try clear hb); (try clear hb2); (try clear hk); (try clear hi); obtain ⟨hcz17_0, hcz17_1, hcz17_2, hcz17_3, hcz17_4⟩ := cz5 BK255.out; have hfz17_0 := Zkf BK255.out 0; have hfz17_1 := Zkf BK255.out 1; have hfz17_2 := Zkf BK255.out 2; have hfz17_3 := Zkf BK255.out 3; have hfz17_4 := Zkf BK255.out 4) | (go_at_call 31; (first | (with_reducible refine (spec_l14Ins.calls _ _ _ _ _ _ _ _ A10.out).mono ?_) | (with_reducible refine (calls_of_args ?_ (spec_l14Ins.calls _ _ _ _ _ _ _ _ A10.out)).mono ?_; focus (simp [*]; done))); rintro e w18 ⟨rfl, hb⟩; have n0_ := (⟨Zm (Zkb (pk BK248.out) hb), Zm (Zkb (pk BK255.out) hb), Zm (Zbt (bk HB.out) hb)⟩ : _ ∧ _ ∧ _); clear BK248 BK255 HB; obtain ⟨BK248, BK255, HB⟩ := n0_; (try clear hb); (try clear hb2); (try clear hk); (try clear hi)))
   have H := HC11.out
   clear HC11
   by_cases c19 : t257.toList = a0.toList
   rotate_left
   · rw [if_neg c19] at H
     have c19b0 : (t257.toList == a0.toList) = false := beq_eq_false_iff_ne.mpr c19
     have c19b1 : (t257.toList != a0.toList) = true := bne_iff_ne.mpr c19
     (first | rw [c19b0] | (simp only [i64_w, i32_w]; rw [c19b0]) | skip)
     simp only [Option.some.injEq, Prod.mk.injEq] at H
     obtain ⟨rfl, rfl, rfl, rfl, rfl⟩ := H
     have hnb23 := NB248_255.out
     have hnc23 := NB255_248.out
     obtain ⟨hcz24_0, hcz24_1, hcz24_2, hcz24_3, hcz24_4⟩ := cz5 BK248.out
     have hfz24_0 := Zkf BK248.out 0
     have hfz24_1 := Zkf BK248.out 1
     have hfz24_2 := Zkf BK248.out 2
     have hfz24_3 := Zkf BK248.out 3
     have hfz24_4 := Zkf BK248.out 4
     go_wp2
     refine bodyPost_ret (results_cell_row rfl _ _ gb248 44 #[.int .i64 0, .int .i64 0, .string (⟨#[]⟩ : ByteArray), .string (⟨#[]⟩ : ByteArray), .string (⟨#[]⟩ : ByteArray)] (0, 0) _ rfl zc_ Tryd.underlying44 rfl (by kernel_rfl)) rfl ?_
     exact ⟨by first | rfl | (simp [*] <;> rfl), hb_⟩
   rw [if_pos c19] at H
   have c19b0 : (t257.toList == a0.toList) = true := beq_iff_eq.mpr c19
   have c19b1 : (t257.toList != a0.toList) = false := bne_eq_false_iff_eq.mpr c19
   clear c19
   (first | rw [c19b0] | (simp only [i64_w, i32_w]; rw [c19b0]) | skip)
   simp only [Option.some.injEq, Prod.mk.injEq] at H
   obtain ⟨rfl, rfl, rfl, rfl, rfl⟩ := H
   have hnb20 := NB255_248.out
   have hnc20 := NB248_255.out
   obtain ⟨hcz21_0, hcz21_1, hcz21_2, hcz21_3, hcz21_4⟩ := cz5 BK255.out
   have hfz21_0 := Zkf BK255.out 0
   have hfz21_1 := Zkf BK255.out 1
   have hfz21_2 := Zkf BK255.out 2
   have hfz21_3 := Zkf BK255.out 3
   have hfz21_4 := Zkf BK255.out 4
   obtain ⟨hcz22_0, hcz22_1, hcz22_2, hcz22_3, hcz22_4⟩ := cz5 BK248.out
   have hfz22_0 := Zkf BK248.out 0
   have hfz22_1 := Zkf BK248.out 1
   have hfz22_2 := Zkf BK248.out 2
   have hfz22_3 := Zkf BK248.out 3
   have hfz22_4 := Zkf BK248.out 4
   go_wp2
   refine bodyPost_ret (results_cell_row rfl _ _ gb248 44 #[.int .i64 t249, .int .i64 t250, .string t251, .string t252, .string t253] (0, 0) _ rfl zc_ Tryd.underlying44 rfl (by kernel_rfl)) rfl ?_
   exact ⟨by first | rfl | (simp [*] <;> rfl), hb_⟩
 rw [if_pos c4] at H
 have c4b0 : decide (20000 < (a0.size : Int)) = true := decide_eq_true c4
 have c4b1 : decide (20000 < a0.size) = true := decide_eq_true (by omega)
 clear c4
 (first | rw [c4b0] | (simp only [i64_w, i32_w]; rw [c4b0]) | skip)
 simp only [Option.some.injEq, Prod.mk.injEq] at H
 obtain ⟨rfl, rfl, rfl, rfl, rfl⟩ := H
 obtain ⟨hcz5_0, hcz5_1, hcz5_2, hcz5_3, hcz5_4⟩ := cz5 BK248.out
 have hfz5_0 := Zkf BK248.out 0
 have hfz5_1 := Zkf BK248.out 1
 have hfz5_2 := Zkf BK248.out 2
 have hfz5_3 := Zkf BK248.out 3
 have hfz5_4 := Zkf BK248.out 4
 go_wp2
 refine bodyPost_ret (results_cell_row rfl _ _ gb248 44 #[.int .i64 0, .int .i64 0, .string (⟨#[]⟩ : ByteArray), .string (⟨#[]⟩ : ByteArray), .string (⟨#[]⟩ : ByteArray)] (0, 0) _ rfl zc_ Tryd.underlying44 rfl (by kernel_rfl)) rfl ?_
 exact ⟨by first | rfl | (simp [*] <;> rfl), hb_⟩
end Go.Proofs.YtdfnljchoomliaaDoor.PFnExactInsParse
