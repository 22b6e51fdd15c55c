/- Functions of the program as plain Lean functions, each with a proof that the program's call comes to the same; no condition. Written by a program of this session. -/
import Derived.Test.YtlflbmbcjjegaaaPFnExactMethodRightx0
import Derived.Test.YtlflbmbcjjegaaaPFnExactMethodRightx1
import Derived.Test.YtlflbmbcjjegaaaPFnExactMethodRightx6
import Derived.Test.YtlflbmbcjjegaaaPFnExactMethodRightx7
import Derived.Test.YtlflbmbcjjegaaaPFnExactMethodRightx12
import Derived.Test.YtlflbmbcjjegaaaPFnExactMethodRightx13
namespace Go.Proofs.Ytlflbmbcjjegaaa.PFnExactMethodRight
open Go.RowKit Go.Proofs.YtlflbmbcjjegaaaW.PrintWords Go.Proofs.YtlflbmbcjjegaaaW.PrintLast Go.Proofs.YtlflbmbcjjegaaaW.PrintMore
open Go.Proofs.YtlflbmbcjjegaaaW.PrintWords renaming below_alloc → Zba, pw_below_drewN → Zbn, below_drew1 → Zbd, below_set → Zbs, below_size → Zbz, below_step → Zbt, blk_drewN → Zkn, blk_drew → Zkd, blk_alloc → Zka, blk_cell → Zkc, blk_frozen → Zkf, blk_far → Zkr, blk_put → Zkp, blk_below → Zkb
open Go.Proofs.YtlflbmbcjjegaaaW.PrintWords.Aside0 renaming mk → Zm
attribute [local go_sem] max2_int min2_int max_two min_two max_three min_three max_four min_four   -- for this text's walks alone
set_option linter.unusedVariables false
set_option linter.unusedSimpArgs false

/-! ### laws_FnExactMethodRight: function 7 -/
def laws_FnExactMethodRight.f (k : Nat) (a0_0 : ByteArray) (a0_1 : ByteArray) (a0_2 : Bool) (a0_3 : Bool) (a0_4 : Bool) (a0_5 : Int) (a0_6 : Int) (l0_7 : List (S199)) (l0_8 : List (S201)) : Option (Bool) := (laws_szMethod.f k a0_0 a0_1 a0_2 a0_3 a0_4 a0_5 a0_6 l0_7 l0_8 1048576).bind fun t453 => (if t453 < 0 then (some true) else ((laws_toMethod.f k a0_0 a0_1 a0_2 a0_3 a0_4 a0_5 a0_6 l0_7 l0_8).bind fun bt454 => ((spec_MethodRight.f k bt454.1 bt454.2.1 bt454.2.2.1 bt454.2.2.2.1 bt454.2.2.2.2.1 bt454.2.2.2.2.2.1 bt454.2.2.2.2.2.2.1 bt454.2.2.2.2.2.2.2.1 bt454.2.2.2.2.2.2.2.2).bind fun t467 => ((laws_toMethod.f k a0_0 a0_1 a0_2 a0_3 a0_4 a0_5 a0_6 l0_7 l0_8).bind fun bt468 => ((impl_MethodRight.f k bt468.1 bt468.2.1 bt468.2.2.1 bt468.2.2.2.1 bt468.2.2.2.2.1 bt468.2.2.2.2.2.1 bt468.2.2.2.2.2.2.1 bt468.2.2.2.2.2.2.2.1 bt468.2.2.2.2.2.2.2.2).bind fun t482 => (if (t482 != t467) = true then (some false) else ((laws_toMethod.f k a0_0 a0_1 a0_2 a0_3 a0_4 a0_5 a0_6 l0_7 l0_8).bind fun bt483 => ((laws_eqMethod.f k bt468.1 bt468.2.1 bt468.2.2.1 bt468.2.2.2.1 bt468.2.2.2.2.1 bt468.2.2.2.2.2.1 bt468.2.2.2.2.2.2.1 bt468.2.2.2.2.2.2.2.1 bt468.2.2.2.2.2.2.2.2 bt483.1 bt483.2.1 bt483.2.2.1 bt483.2.2.2.1 bt483.2.2.2.2.1 bt483.2.2.2.2.2.1 bt483.2.2.2.2.2.2.1 bt483.2.2.2.2.2.2.2.1 bt483.2.2.2.2.2.2.2.2).bind fun t496 => (if t496 = true then (some true) else (some false))))))))))
theorem laws_FnExactMethodRight.mono : ∀ a0 a1 a2 a3 a4 a5 a6 a7 a8 k, LeO (laws_FnExactMethodRight.f k a0 a1 a2 a3 a4 a5 a6 a7 a8) (laws_FnExactMethodRight.f (k + 1) a0 a1 a2 a3 a4 a5 a6 a7 a8) := by
 intro a0 a1 a2 a3 a4 a5 a6 a7 a8 k
 unfold laws_FnExactMethodRight.f
 repeat' first
  | (with_reducible exact impl_MethodRight.mono _ _ _ _ _ _ _ _ _ _)
  | (with_reducible exact laws_eqMethod.mono _ _ _ _ _ _ _ _ _ _ _ _ _ _ _ _ _ _ _)
  | (with_reducible exact laws_szMethod.mono _ _ _ _ _ _ _ _ _ _ _)
  | (with_reducible exact laws_toMethod.mono _ _ _ _ _ _ _ _ _ _)
  | (with_reducible exact spec_MethodRight.mono _ _ _ _ _ _ _ _ _ _)
  | (with_reducible exact LeO.refl _)
  | (with_reducible exact LeO.none _)
  | (with_reducible refine LeO.ite ?_ ?_)
  | (with_reducible refine LeO.bind ?_ (fun _ => ?_))
  | exact impl_MethodRight.mono _ _ _ _ _ _ _ _ _ _
  | exact laws_eqMethod.mono _ _ _ _ _ _ _ _ _ _ _ _ _ _ _ _ _ _ _
  | exact laws_szMethod.mono _ _ _ _ _ _ _ _ _ _ _
  | exact laws_toMethod.mono _ _ _ _ _ _ _ _ _ _
  | exact spec_MethodRight.mono _ _ _ _ _ _ _ _ _ _
  | exact LeO.none _
  | refine LeO.ite ?_ ?_
  | refine LeO.bind ?_ (fun _ => ?_)
set_option maxHeartbeats 8000000 in
set_option maxRecDepth 100000 in
theorem laws_FnExactMethodRight.calls (k : Nat) (a0_0 : ByteArray) (a0_1 : ByteArray) (a0_2 : Bool) (a0_3 : Bool) (a0_4 : Bool) (a0_5 : Int) (a0_6 : Int) (A0_7 : Option Addr) (c0_7 : Nat) (l0_7 : List (S199)) (A0_8 : Option Addr) (c0_8 : Nat) (l0_8 : List (S201)) (r : Bool) (w : World) (hr0_7 : Kd.C k199 w A0_7 l0_7.length l0_7) (hc0_7 : l0_7.length ≤ c0_7) (hr0_8 : Kd.C k201 w A0_8 l0_8.length l0_8) (hc0_8 : l0_8.length ≤ c0_8) (hT_ : r = true) (h : laws_FnExactMethodRight.f k a0_0 a0_1 a0_2 a0_3 a0_4 a0_5 a0_6 l0_7 l0_8 = some r) :
 Calls Try.prog 7 #[.agg #[.string a0_0, .string a0_1, .bool a0_2, .bool a0_3, .bool a0_4, .int .i64 a0_5, .int .i64 a0_6, .slice A0_7 l0_7.length c0_7, .slice A0_8 l0_8.length c0_8]] w fun e w' => e = .returned (.bool r) ∧ Below w.heap.size w w' := by
 have hu78 := Try.underlying78
 have hu84 := Try.underlying84
 have HR0_7 := Zm hr0_7
 have HC0_7 := Zm hc0_7
 clear hr0_7 hc0_7
 have HR0_8 := Zm hr0_8
 have HC0_8 := Zm hc0_8
 clear hr0_8 hc0_8
 have HB := Zm (Below.refl w.heap.size w)
 have H : ((laws_szMethod.f k a0_0 a0_1 a0_2 a0_3 a0_4 a0_5 a0_6 l0_7 l0_8 1048576).bind fun t453 => (if t453 < 0 then (some true) else ((laws_toMethod.f k a0_0 a0_1 a0_2 a0_3 a0_4 a0_5 a0_6 l0_7 l0_8).bind fun bt454 => ((spec_MethodRight.f k bt454.1 bt454.2.1 bt454.2.2.1 bt454.2.2.2.1 bt454.2.2.2.2.1 bt454.2.2.2.2.2.1 bt454.2.2.2.2.2.2.1 bt454.2.2.2.2.2.2.2.1 bt454.2.2.2.2.2.2.2.2).bind fun t467 => ((laws_toMethod.f k a0_0 a0_1 a0_2 a0_3 a0_4 a0_5 a0_6 l0_7 l0_8).bind fun bt468 => ((impl_MethodRight.f k bt468.1 bt468.2.1 bt468.2.2.1 bt468.2.2.2.1 bt468.2.2.2.2.1 bt468.2.2.2.2.2.1 bt468.2.2.2.2.2.2.1 bt468.2.2.2.2.2.2.2.1 bt468.2.2.2.2.2.2.2.2).bind fun t482 => (if (t482 != t467) = true then (some false) else ((laws_toMethod.f k a0_0 a0_1 a0_2 a0_3 a0_4 a0_5 a0_6 l0_7 l0_8).bind fun bt483 => ((laws_eqMethod.f k bt468.1 bt468.2.1 bt468.2.2.1 bt468.2.2.2.1 bt468.2.2.2.2.1 bt468.2.2.2.2.2.1 bt468.2.2.2.2.2.2.1 bt468.2.2.2.2.2.2.2.1 bt468.2.2.2.2.2.2.2.2 bt483.1 bt483.2.1 bt483.2.2.1 bt483.2.2.2.1 bt483.2.2.2.2.1 bt483.2.2.2.2.2.1 bt483.2.2.2.2.2.2.1 bt483.2.2.2.2.2.2.2.1 bt483.2.2.2.2.2.2.2.2).bind fun t496 => (if t496 = true then (some true) else (some false))))))))))) = some r := h
 clear h
 replace H := Option.bind_eq_some_iff.mp H
 obtain ⟨t453, A20, H⟩ := H
 (try dsimp only at H)
 have A2 := Zm A20
 clear A20
 have HC3 := Zm H
 clear H
 go_enter Try.func7, Try.ntmps7
 go_upto_if 11 with (first | ((with_reducible refine gate_dst (N := 1) rfl ?_); refine box_event ?hg (N := 1) ?hd (cs := #[.string a0_0, .string a0_1, .bool a0_2, .bool a0_3, .bool a0_4, .int .i64 a0_5, .int .i64 a0_6, .slice A0_7 l0_7.length c0_7, .slice A0_8 l0_8.length c0_8]) (t := 78) ?hr ?_; (case hd => rfl); (case hg => rfl); (case hr => first | (go_simp; done) | (go_simp; rfl)); intro gb452 hg w4 hbox hb; have n0_ := (⟨Zm (Zbt (bk HB.out) hb), Zm (hbox), Zm ((by rw [hg]; exact (Zbz (bk HB.out)) : w.heap.size ≤ gb452)), Zm ((by rw [hg]; exact (Zbz (bk HB.out)) : w.heap.size ≤ gb452))⟩ : _ ∧ _ ∧ _ ∧ _); clear HB; obtain ⟨HB, BK452, GW452, GE452⟩ := n0_; clear hb hbox hg; obtain ⟨hcz5_0, hcz5_1, hcz5_2, hcz5_3, hcz5_4, hcz5_5, hcz5_6, hcz5_7, hcz5_8⟩ := cz9 BK452.out; have hfz5_8 := Zkf BK452.out 8) | ((with_reducible refine gate_callee (f := 33) rfl ?_); refine goesL_ (some 9) rfl rfl Try.func33 (by kernel_rfl) rfl #[.agg #[.string a0_0, .string a0_1, .bool a0_2, .bool a0_3, .bool a0_4, .int .i64 a0_5, .int .i64 a0_6, .slice A0_7 l0_7.length c0_7, .slice A0_8 l0_8.length c0_8], .int .i64 1048576] rfl (by (try simp only [List.map_toArray, List.map_cons, List.map_nil]); first | done | rfl | (simp only [List.length_drop, List.length_take]; rfl)) ?_; (with_reducible refine (laws_szMethod.calls k a0_0 a0_1 a0_2 a0_3 a0_4 a0_5 a0_6 _ _ l0_7 _ _ l0_8 1048576 t453 _ ?side1 ?side2 ?side3 ?side4 A2.out).mono ?_); (case side1 => exact pc (Kd.C_below HR0_7.out HB.out)); (case side2 => exact HC0_7.out); (case side3 => exact pc (Kd.C_below HR0_8.out HB.out)); (case side4 => exact HC0_8.out); rintro e w6 ⟨rfl, hb⟩; refine ⟨_, rfl, ?_⟩; have n0_ := (⟨Zm (Zkb (pk BK452.out) hb), Zm (Zbt (bk HB.out) hb)⟩ : _ ∧ _); clear BK452 HB; obtain ⟨BK452, HB⟩ := n0_; (try clear hb); (try clear hb2); (try clear hk); (try clear hi)))
 have H := HC3.out
 clear HC3
 by_cases c7 : t453 < 0
 rotate_left
 · rw [if_neg c7] at H
   have c7b0 := decide_eq_false c7
   clear c7
   (first | rw [c7b0] | (simp only [i64_w, i32_w]; rw [c7b0]) | skip)
   replace H := Option.bind_eq_some_iff.mp H
   obtain ⟨⟨t454, t455, t456, t457, t458, t459, t460, t461, t464⟩, A80, H⟩ := H
   (try dsimp only at H)
   have A8 := Zm A80
   clear A80
   replace H := Option.bind_eq_some_iff.mp H
   obtain ⟨t467, A90, H⟩ := H
   (try dsimp only at H)
   have A9 := Zm A90
   clear A90
   replace H := Option.bind_eq_some_iff.mp H
   obtain ⟨⟨t468, t469, t470, t471, t472, t473, t474, t475, t478⟩, A100, H⟩ := H
   (try dsimp only at H)
   have A10 := Zm A100
   clear A100
   replace H := Option.bind_eq_some_iff.mp H
   obtain ⟨t482, A110, H⟩ := H
   (try dsimp only at H)
   have A11 := Zm A110
   clear A110
   by_cases c12 : (t482 != t467) = true
   rotate_left
   · rw [if_neg c12] at H
     have c12b0 : (t482 != t467) = false := by simpa using c12
     (try (have c12b1 : decide (t482 = t467) = true := by simpa using c12))
     (try (have c12b2 : (t482 == t467) = true := by simpa using c12))
     clear c12
     replace H := Option.bind_eq_some_iff.mp H
     obtain ⟨⟨t483, t484, t485, t486, t487, t488, t489, t490, t493⟩, A130, H⟩ := H
     (try dsimp only at H)
     have A13 := Zm A130
     clear A130
     replace H := Option.bind_eq_some_iff.mp H
     obtain ⟨t496, A140, H⟩ := H
     (try dsimp only at H)
     have A14 := Zm A140
     clear A140
     by_cases c15 : t496 = true
     rotate_left
     · replace c15 := Bool.eq_false_iff.mpr c15
       subst c15
       rw [if_neg (show ¬ (false = true) by decide)] at H
       exact absurd (H.trans (congrArg some hT_)) (by simp)
     subst c15
     rw [if_pos rfl] at H
     clear hT_
     obtain rfl := Option.some.inj H
     obtain ⟨hcz16_0, hcz16_1, hcz16_2, hcz16_3, hcz16_4, hcz16_5, hcz16_6, hcz16_7, hcz16_8⟩ := cz9 BK452.out
     try go_wp2_with (first | ((with_reducible refine gate_callee (f := 35) rfl ?_); refine goesL_ (some 13) rfl rfl Try.func35 (by kernel_rfl) rfl #[.agg #[.string a0_0, .string a0_1, .bool a0_2, .bool a0_3, .bool a0_4, .int .i64 a0_5, .int .i64 a0_6, .slice A0_7 l0_7.length c0_7, .slice A0_8 l0_8.length c0_8]] rfl (by (try simp only [List.map_toArray, List.map_cons, List.map_nil]); first | done | rfl | (simp only [List.length_drop, List.length_take]; rfl)) ?_; (with_reducible refine (laws_toMethod.calls k a0_0 a0_1 a0_2 a0_3 a0_4 a0_5 a0_6 _ _ l0_7 _ _ l0_8 t454 t455 t456 t457 t458 t459 t460 t461 t464 _ ?side1 ?side2 ?side3 ?side4 A8.out).mono ?_); (case side1 => exact pc (Kd.C_below HR0_7.out HB.out)); (case side2 => exact HC0_7.out); (case side3 => exact pc (Kd.C_below HR0_8.out HB.out)); (case side4 => exact HC0_8.out); rintro e w17 ⟨v462, v465, rfl, ho0, ho1, hb⟩; refine ⟨_, rfl, ?_⟩; have n0_ := (⟨Zm (Kd.R_lower ho0 (Zbz (bk HB.out))), Zm (Kd.R_lower ho1 (Zbz (bk HB.out))), Zm (Zkb (pk BK452.out) hb), Zm (Zbt (bk HB.out) hb)⟩ : _ ∧ _ ∧ _ ∧ _); clear BK452 HB; obtain ⟨HO463, HO466, BK452, HB⟩ := n0_; (try clear hb); (try clear hb2); (try clear hk); (try clear hi); (try clear ho0); (try clear ho1); obtain ⟨Ao18, co18, eo18⟩ := Kd.R_slice HO463.out; subst eo18; obtain ⟨Ao19, co19, eo19⟩ := Kd.R_slice HO466.out; subst eo19) | ((with_reducible refine gate_callee (f := 34) rfl ?_); refine goesL_ (some 14) rfl rfl Try.func34 (by kernel_rfl) rfl #[.agg #[.string t454, .string t455, .bool t456, .bool t457, .bool t458, .int .i64 t459, .int .i64 t460, .slice Ao18 t461.length co18, .slice Ao19 t464.length co19]] rfl (by (try simp only [List.map_toArray, List.map_cons, List.map_nil]); first | done | rfl | (simp only [List.length_drop, List.length_take]; rfl)) ?_; (with_reducible refine (spec_MethodRight.calls k t454 t455 t456 t457 t458 t459 t460 _ _ t461 _ _ t464 t467 _ ?side1 ?side2 ?side3 ?side4 A9.out).mono ?_); (case side1 => exact pc (Kd.R_reads' HO463.out).2.2); (case side2 => exact (Kd.R_reads' HO463.out).2.1); (case side3 => exact pc (Kd.R_reads' HO466.out).2.2); (case side4 => exact (Kd.R_reads' HO466.out).2.1); rintro e w20 ⟨rfl, hb⟩; refine ⟨_, rfl, ?_⟩; have n0_ := (⟨Zm (Kd.R_below (by (with_reducible repeat (first | apply Kd.R_alloc | apply Kd.R_drewN | apply Kd.R_drew)); exact HO463.out) hb), Zm (Kd.R_below (by (with_reducible repeat (first | apply Kd.R_alloc | apply Kd.R_drewN | apply Kd.R_drew)); exact HO466.out) hb), Zm (Zkb (pk BK452.out) hb), Zm (Zbt (bk HB.out) hb)⟩ : _ ∧ _ ∧ _ ∧ _); clear HO463 HO466 BK452 HB; obtain ⟨HO463, HO466, BK452, HB⟩ := n0_; (try clear hb); (try clear hb2); (try clear hk); (try clear hi); obtain ⟨hcz21_0, hcz21_1, hcz21_2, hcz21_3, hcz21_4, hcz21_5, hcz21_6, hcz21_7, hcz21_8⟩ := cz9 BK452.out; have hfz21_8 := Zkf BK452.out 8) | ((with_reducible refine gate_callee (f := 35) rfl ?_); refine goesL_ (some 16) rfl rfl Try.func35 (by kernel_rfl) rfl #[.agg #[.string a0_0, .string a0_1, .bool a0_2, .bool a0_3, .bool a0_4, .int .i64 a0_5, .int .i64 a0_6, .slice A0_7 l0_7.length c0_7, .slice A0_8 l0_8.length c0_8]] rfl (by (try simp only [List.map_toArray, List.map_cons, List.map_nil]); first | done | rfl | (simp only [List.length_drop, List.length_take]; rfl)) ?_; (with_reducible refine (laws_toMethod.calls k a0_0 a0_1 a0_2 a0_3 a0_4 a0_5 a0_6 _ _ l0_7 _ _ l0_8 t468 t469 t470 t471 t472 t473 t474 t475 t478 _ ?side1 ?side2 ?side3 ?side4 A10.out).mono ?_); (case side1 => exact pc (Kd.C_below HR0_7.out HB.out)); (case side2 => exact HC0_7.out); (case side3 => exact pc (Kd.C_below HR0_8.out HB.out)); (case side4 => exact HC0_8.out); rintro e w22 ⟨v476, v479, rfl, ho0, ho1, hb⟩; refine ⟨_, rfl, ?_⟩; have n0_ := (⟨Zm (Kd.R_elder' (by (with_reducible repeat (first | apply Kd.R_alloc | apply Kd.R_drewN | apply Kd.R_drew)); exact HO463.out) (Kd.R_base ho0) hb), Zm (Kd.R_elder' (by (with_reducible repeat (first | apply Kd.R_alloc | apply Kd.R_drewN | apply Kd.R_drew)); exact HO466.out) (Kd.R_base ho1) hb), Zm (Kd.R_lower (Kd.R_new' ho0 (Kd.R_lt (by (with_reducible repeat (first | apply Kd.R_alloc | apply Kd.R_drewN | apply Kd.R_drew)); exact HO463.out))) (Zbz (bk HB.out))), Zm (Kd.R_lower (Kd.R_new' ho1 (Kd.R_lt (by (with_reducible repeat (first | apply Kd.R_alloc | apply Kd.R_drewN | apply Kd.R_drew)); exact HO466.out))) (Zbz (bk HB.out))), Zm (Zkb (pk BK452.out) hb), Zm (Zbt (bk HB.out) hb)⟩ : _ ∧ _ ∧ _ ∧ _ ∧ _ ∧ _); clear HO463 HO466 BK452 HB; obtain ⟨HO463, HO466, HO477, HO480, BK452, HB⟩ := n0_; (try clear hb); (try clear hb2); (try clear hk); (try clear hi); (try clear ho0); (try clear ho1)) | ((with_reducible refine gate_dst (N := 5) rfl ?_); refine box_event ?hg (N := 5) ?hd (cs := #[.string (⟨#[]⟩ : ByteArray), .string (⟨#[]⟩ : ByteArray), .bool false, .bool false, .bool false, .int .i64 0, .int .i64 0, .slice none 0 0, .slice none 0 0]) (t := 84) ?hr ?_; (case hd => rfl); (case hg => rfl); (case hr => first | (go_simp; done) | (go_simp; rfl)); intro gb481 hg w23 hbox hb; have n0_ := (⟨Zm (Kd.R_below (by (with_reducible repeat (first | apply Kd.R_alloc | apply Kd.R_drewN | apply Kd.R_drew)); exact HO463.out) hb), Zm (Kd.R_below (by (with_reducible repeat (first | apply Kd.R_alloc | apply Kd.R_drewN | apply Kd.R_drew)); exact HO466.out) hb), Zm (Kd.R_below (by (with_reducible repeat (first | apply Kd.R_alloc | apply Kd.R_drewN | apply Kd.R_drew)); exact HO477.out) hb), Zm (Kd.R_below (by (with_reducible repeat (first | apply Kd.R_alloc | apply Kd.R_drewN | apply Kd.R_drew)); exact HO480.out) hb), Zm (Zkb (pk BK452.out) hb), Zm (Zbt (bk HB.out) hb), Zm (hbox), Zm ((by rw [hg]; exact (Zbz (bk HB.out)) : w.heap.size ≤ gb481)), Zm ((by rw [hg]; exact (Zbz (bk HB.out)) : w.heap.size ≤ gb481)), Zm ((by rw [hg]; exact Nat.ne_of_lt (blk_lt (pk BK452.out)) : gb452 ≠ gb481)), Zm ((by rw [hg]; exact Nat.ne_of_gt (blk_lt (pk BK452.out)) : gb481 ≠ gb452))⟩ : _ ∧ _ ∧ _ ∧ _ ∧ _ ∧ _ ∧ _ ∧ _ ∧ _ ∧ _ ∧ _); clear HO463 HO466 HO477 HO480 BK452 HB; obtain ⟨HO463, HO466, HO477, HO480, BK452, HB, BK481, GW481, GE481, NB452_481, NB481_452⟩ := n0_; clear hb hbox hg; have hnb24 := NB481_452.out; have hnc24 := NB452_481.out; obtain ⟨hcz25_0, hcz25_1, hcz25_2, hcz25_3, hcz25_4, hcz25_5, hcz25_6, hcz25_7, hcz25_8⟩ := cz9 BK481.out; have hfz25_0 := Zkf BK481.out 0; have hfz25_1 := Zkf BK481.out 1; have hfz25_2 := Zkf BK481.out 2; have hfz25_3 := Zkf BK481.out 3; have hfz25_4 := Zkf BK481.out 4; have hfz25_5 := Zkf BK481.out 5; have hfz25_6 := Zkf BK481.out 6; have hfz25_7 := Zkf BK481.out 7; have hfz25_8 := Zkf BK481.out 8; obtain ⟨Ao26, co26, eo26⟩ := Kd.R_slice HO477.out; subst eo26; obtain ⟨Ao27, co27, eo27⟩ := Kd.R_slice HO480.out; subst eo27) | ((with_reducible refine gate_callee (f := 36) rfl ?_); refine goesL_ (some 18) rfl rfl Try.func36 (by kernel_rfl) rfl #[.agg #[.string t468, .string t469, .bool t470, .bool t471, .bool t472, .int .i64 t473, .int .i64 t474, .slice Ao26 t475.length co26, .slice Ao27 t478.length co27]] rfl (by (try simp only [List.map_toArray, List.map_cons, List.map_nil]); first | done | rfl | (simp only [List.length_drop, List.length_take]; rfl)) ?_; (with_reducible refine (impl_MethodRight.calls k t468 t469 t470 t471 t472 t473 t474 _ _ t475 _ _ t478 t482 _ ?side1 ?side2 ?side3 ?side4 A11.out).mono ?_); (case side1 => refine (Kd.R_reads' (e := 156) (base := w.heap.size) (ok := fun k_ => (True ∧ some k_ ≠ (.slice Ao18 t461.length co18 : Value).ownBlock)) (n := t475.length) (c := co26) ?_).2.2; exact (by (with_reducible repeat (first | apply Kd.R_alloc | apply Kd.R_drewN | apply Kd.R_drew)); exact (Kd.R_mono (Kd.R_far (p := ⟨gb481, 8, none⟩) (Kd.R_far (p := ⟨gb481, 7, none⟩) (Kd.R_far (p := ⟨gb481, 6, none⟩) (Kd.R_far (p := ⟨gb481, 5, none⟩) (Kd.R_far (p := ⟨gb481, 4, none⟩) (Kd.R_far (p := ⟨gb481, 3, none⟩) (Kd.R_far (p := ⟨gb481, 2, none⟩) (Kd.R_far (p := ⟨gb481, 1, none⟩) (Kd.R_far (p := ⟨gb481, 0, none⟩) (Kd.R_types HO477.out BK481.out (by decide)) (fun _ hk => hk.2) (.string t468)) (fun _ hk => hk.2) (.string t469)) (fun _ hk => hk.2) (.bool t470)) (fun _ hk => hk.2) (.bool t471)) (fun _ hk => hk.2) (.bool t472)) (fun _ hk => hk.2) (.int .i64 t473)) (fun _ hk => hk.2) (.int .i64 t474)) (fun _ hk => hk.2) (.slice Ao26 t475.length co26)) (fun _ hk => hk.2) (.slice Ao27 t478.length co27)) (fun _ h_ => h_.1)))); (case side2 => exact (Kd.R_reads' HO477.out).2.1); (case side3 => refine (Kd.R_reads' (e := 160) (base := w.heap.size) (ok := fun k_ => (True ∧ some k_ ≠ (.slice Ao19 t464.length co19 : Value).ownBlock)) (n := t478.length) (c := co27) ?_).2.2; exact (by (with_reducible repeat (first | apply Kd.R_alloc | apply Kd.R_drewN | apply Kd.R_drew)); exact (Kd.R_mono (Kd.R_far (p := ⟨gb481, 8, none⟩) (Kd.R_far (p := ⟨gb481, 7, none⟩) (Kd.R_far (p := ⟨gb481, 6, none⟩) (Kd.R_far (p := ⟨gb481, 5, none⟩) (Kd.R_far (p := ⟨gb481, 4, none⟩) (Kd.R_far (p := ⟨gb481, 3, none⟩) (Kd.R_far (p := ⟨gb481, 2, none⟩) (Kd.R_far (p := ⟨gb481, 1, none⟩) (Kd.R_far (p := ⟨gb481, 0, none⟩) (Kd.R_types HO480.out BK481.out (by decide)) (fun _ hk => hk.2) (.string t468)) (fun _ hk => hk.2) (.string t469)) (fun _ hk => hk.2) (.bool t470)) (fun _ hk => hk.2) (.bool t471)) (fun _ hk => hk.2) (.bool t472)) (fun _ hk => hk.2) (.int .i64 t473)) (fun _ hk => hk.2) (.int .i64 t474)) (fun _ hk => hk.2) (.slice Ao26 t475.length co26)) (fun _ hk => hk.2) (.slice Ao27 t478.length co27)) (fun _ h_ => h_.1)))); (case side4 => exact (Kd.R_reads' HO480.out).2.1); rintro e w28 ⟨rfl, hb⟩; refine ⟨_, rfl, ?_⟩; have n0_ := (⟨Zm (Kd.R_below (by (with_reducible repeat (first | apply Kd.R_alloc | apply Kd.R_drewN | apply Kd.R_drew)); exact (Kd.R_mono (Kd.R_far (p := ⟨gb481, 8, none⟩) (Kd.R_far (p := ⟨gb481, 7, none⟩) (Kd.R_far (p := ⟨gb481, 6, none⟩) (Kd.R_far (p := ⟨gb481, 5, none⟩) (Kd.R_far (p := ⟨gb481, 4, none⟩) (Kd.R_far (p := ⟨gb481, 3, none⟩) (Kd.R_far (p := ⟨gb481, 2, none⟩) (Kd.R_far (p := ⟨gb481, 1, none⟩) (Kd.R_far (p := ⟨gb481, 0, none⟩) (Kd.R_types HO463.out BK481.out (by decide)) (fun _ hk => hk.2) (.string t468)) (fun _ hk => hk.2) (.string t469)) (fun _ hk => hk.2) (.bool t470)) (fun _ hk => hk.2) (.bool t471)) (fun _ hk => hk.2) (.bool t472)) (fun _ hk => hk.2) (.int .i64 t473)) (fun _ hk => hk.2) (.int .i64 t474)) (fun _ hk => hk.2) (.slice Ao26 t475.length co26)) (fun _ hk => hk.2) (.slice Ao27 t478.length co27)) (fun _ h_ => h_.1))) hb), Zm (Kd.R_below (by (with_reducible repeat (first | apply Kd.R_alloc | apply Kd.R_drewN | apply Kd.R_drew)); exact (Kd.R_mono (Kd.R_far (p := ⟨gb481, 8, none⟩) (Kd.R_far (p := ⟨gb481, 7, none⟩) (Kd.R_far (p := ⟨gb481, 6, none⟩) (Kd.R_far (p := ⟨gb481, 5, none⟩) (Kd.R_far (p := ⟨gb481, 4, none⟩) (Kd.R_far (p := ⟨gb481, 3, none⟩) (Kd.R_far (p := ⟨gb481, 2, none⟩) (Kd.R_far (p := ⟨gb481, 1, none⟩) (Kd.R_far (p := ⟨gb481, 0, none⟩) (Kd.R_types HO466.out BK481.out (by decide)) (fun _ hk => hk.2) (.string t468)) (fun _ hk => hk.2) (.string t469)) (fun _ hk => hk.2) (.bool t470)) (fun _ hk => hk.2) (.bool t471)) (fun _ hk => hk.2) (.bool t472)) (fun _ hk => hk.2) (.int .i64 t473)) (fun _ hk => hk.2) (.int .i64 t474)) (fun _ hk => hk.2) (.slice Ao26 t475.length co26)) (fun _ hk => hk.2) (.slice Ao27 t478.length co27)) (fun _ h_ => h_.1))) hb), Zm (Kd.R_below (by (with_reducible repeat (first | apply Kd.R_alloc | apply Kd.R_drewN | apply Kd.R_drew)); exact (Kd.R_mono (Kd.R_far (p := ⟨gb481, 8, none⟩) (Kd.R_far (p := ⟨gb481, 7, none⟩) (Kd.R_far (p := ⟨gb481, 6, none⟩) (Kd.R_far (p := ⟨gb481, 5, none⟩) (Kd.R_far (p := ⟨gb481, 4, none⟩) (Kd.R_far (p := ⟨gb481, 3, none⟩) (Kd.R_far (p := ⟨gb481, 2, none⟩) (Kd.R_far (p := ⟨gb481, 1, none⟩) (Kd.R_far (p := ⟨gb481, 0, none⟩) (Kd.R_types HO477.out BK481.out (by decide)) (fun _ hk => hk.2) (.string t468)) (fun _ hk => hk.2) (.string t469)) (fun _ hk => hk.2) (.bool t470)) (fun _ hk => hk.2) (.bool t471)) (fun _ hk => hk.2) (.bool t472)) (fun _ hk => hk.2) (.int .i64 t473)) (fun _ hk => hk.2) (.int .i64 t474)) (fun _ hk => hk.2) (.slice Ao26 t475.length co26)) (fun _ hk => hk.2) (.slice Ao27 t478.length co27)) (fun _ h_ => h_.1))) hb), Zm (Kd.R_below (by (with_reducible repeat (first | apply Kd.R_alloc | apply Kd.R_drewN | apply Kd.R_drew)); exact (Kd.R_mono (Kd.R_far (p := ⟨gb481, 8, none⟩) (Kd.R_far (p := ⟨gb481, 7, none⟩) (Kd.R_far (p := ⟨gb481, 6, none⟩) (Kd.R_far (p := ⟨gb481, 5, none⟩) (Kd.R_far (p := ⟨gb481, 4, none⟩) (Kd.R_far (p := ⟨gb481, 3, none⟩) (Kd.R_far (p := ⟨gb481, 2, none⟩) (Kd.R_far (p := ⟨gb481, 1, none⟩) (Kd.R_far (p := ⟨gb481, 0, none⟩) (Kd.R_types HO480.out BK481.out (by decide)) (fun _ hk => hk.2) (.string t468)) (fun _ hk => hk.2) (.string t469)) (fun _ hk => hk.2) (.bool t470)) (fun _ hk => hk.2) (.bool t471)) (fun _ hk => hk.2) (.bool t472)) (fun _ hk => hk.2) (.int .i64 t473)) (fun _ hk => hk.2) (.int .i64 t474)) (fun _ hk => hk.2) (.slice Ao26 t475.length co26)) (fun _ hk => hk.2) (.slice Ao27 t478.length co27)) (fun _ h_ => h_.1))) hb), Zm (Zkb (g := gb452) (o := .cells #[.string a0_0, .string a0_1, .bool a0_2, .bool a0_3, .bool a0_4, .int .i64 a0_5, .int .i64 a0_6, .slice A0_7 l0_7.length c0_7, .slice A0_8 l0_8.length c0_8] 78 (0, 0)) (by (with_reducible repeat (first | refine Zkn ?_ _ | refine Zkd ?_ | refine Zka ?_ _)); refine Zkr ?_ NB452_481.out _; (with_reducible repeat (first | refine Zkn ?_ _ | refine Zkd ?_ | refine Zka ?_ _)); refine Zkr ?_ NB452_481.out _; (with_reducible repeat (first | refine Zkn ?_ _ | refine Zkd ?_ | refine Zka ?_ _)); refine Zkr ?_ NB452_481.out _; (with_reducible repeat (first | refine Zkn ?_ _ | refine Zkd ?_ | refine Zka ?_ _)); refine Zkr ?_ NB452_481.out _; (with_reducible repeat (first | refine Zkn ?_ _ | refine Zkd ?_ | refine Zka ?_ _)); refine Zkr ?_ NB452_481.out _; (with_reducible repeat (first | refine Zkn ?_ _ | refine Zkd ?_ | refine Zka ?_ _)); refine Zkr ?_ NB452_481.out _; (with_reducible repeat (first | refine Zkn ?_ _ | refine Zkd ?_ | refine Zka ?_ _)); refine Zkr ?_ NB452_481.out _; (with_reducible repeat (first | refine Zkn ?_ _ | refine Zkd ?_ | refine Zka ?_ _)); refine Zkr ?_ NB452_481.out _; (with_reducible repeat (first | refine Zkn ?_ _ | refine Zkd ?_ | refine Zka ?_ _)); refine Zkr ?_ NB452_481.out _; (with_reducible repeat (first | refine Zkn ?_ _ | refine Zkd ?_ | refine Zka ?_ _)); exact BK452.out) hb), Zm (Zkb (g := gb481) (o := .cells #[.string t468, .string t469, .bool t470, .bool t471, .bool t472, .int .i64 t473, .int .i64 t474, .slice Ao26 t475.length co26, .slice Ao27 t478.length co27] 84 (0, 0)) (by (with_reducible repeat (first | refine Zkn ?_ _ | refine Zkd ?_ | refine Zka ?_ _)); refine Zkp (cs := #[.string t468, .string t469, .bool t470, .bool t471, .bool t472, .int .i64 t473, .int .i64 t474, .slice Ao26 t475.length co26, .slice none 0 0]) ?_ 8 _ rfl; (with_reducible repeat (first | refine Zkn ?_ _ | refine Zkd ?_ | refine Zka ?_ _)); refine Zkp (cs := #[.string t468, .string t469, .bool t470, .bool t471, .bool t472, .int .i64 t473, .int .i64 t474, .slice none 0 0, .slice none 0 0]) ?_ 7 _ rfl; (with_reducible repeat (first | refine Zkn ?_ _ | refine Zkd ?_ | refine Zka ?_ _)); refine Zkp (cs := #[.string t468, .string t469, .bool t470, .bool t471, .bool t472, .int .i64 t473, .int .i64 0, .slice none 0 0, .slice none 0 0]) ?_ 6 _ rfl; (with_reducible repeat (first | refine Zkn ?_ _ | refine Zkd ?_ | refine Zka ?_ _)); refine Zkp (cs := #[.string t468, .string t469, .bool t470, .bool t471, .bool t472, .int .i64 0, .int .i64 0, .slice none 0 0, .slice none 0 0]) ?_ 5 _ rfl; (with_reducible repeat (first | refine Zkn ?_ _ | refine Zkd ?_ | refine Zka ?_ _)); refine Zkp (cs := #[.string t468, .string t469, .bool t470, .bool t471, .bool false, .int .i64 0, .int .i64 0, .slice none 0 0, .slice none 0 0]) ?_ 4 _ rfl; (with_reducible repeat (first | refine Zkn ?_ _ | refine Zkd ?_ | refine Zka ?_ _)); refine Zkp (cs := #[.string t468, .string t469, .bool t470, .bool false, .bool false, .int .i64 0, .int .i64 0, .slice none 0 0, .slice none 0 0]) ?_ 3 _ rfl; (with_reducible repeat (first | refine Zkn ?_ _ | refine Zkd ?_ | refine Zka ?_ _)); refine Zkp (cs := #[.string t468, .string t469, .bool false, .bool false, .bool false, .int .i64 0, .int .i64 0, .slice none 0 0, .slice none 0 0]) ?_ 2 _ rfl; (with_reducible repeat (first | refine Zkn ?_ _ | refine Zkd ?_ | refine Zka ?_ _)); refine Zkp (cs := #[.string t468, .string (⟨#[]⟩ : ByteArray), .bool false, .bool false, .bool false, .int .i64 0, .int .i64 0, .slice none 0 0, .slice none 0 0]) ?_ 1 _ rfl; (with_reducible repeat (first | refine Zkn ?_ _ | refine Zkd ?_ | refine Zka ?_ _)); refine Zkp (cs := #[.string (⟨#[]⟩ : ByteArray), .string (⟨#[]⟩ : ByteArray), .bool false, .bool false, .bool false, .int .i64 0, .int .i64 0, .slice none 0 0, .slice none 0 0]) ?_ 0 _ rfl; (with_reducible repeat (first | refine Zkn ?_ _ | refine Zkd ?_ | refine Zka ?_ _)); exact BK481.out) hb), Zm (Zbt (by repeat (first | (with_reducible first | exact HB.out | apply Zba | apply Zbn | apply Zbd | refine Zbs ?_ GE452.out | refine Zbs ?_ GE481.out) | exact HB.out)) hb)⟩ : _ ∧ _ ∧ _ ∧ _ ∧ _ ∧ _ ∧ _); clear HO463 HO466 HO477 HO480 BK452 BK481 HB; obtain ⟨HO463, HO466, HO477, HO480, BK452, BK481, HB⟩ := n0_; (try clear hb); (try clear hb2); (try clear hk); (try clear hi)))
     have n0_ := (⟨Zm (Kd.R_drew HO463.out), Zm (Kd.R_drew HO466.out), Zm (Kd.R_drew HO477.out), Zm (Kd.R_drew HO480.out), Zm (Zkd BK452.out), Zm (Zkd BK481.out), Zm (Zbd HB.out)⟩ : _ ∧ _ ∧ _ ∧ _ ∧ _ ∧ _ ∧ _)
     clear HO463 HO466 HO477 HO480 BK452 BK481 HB
     obtain ⟨HO463, HO466, HO477, HO480, BK452, BK481, HB⟩ := n0_
     refine start_ (n := 5) (S := fun w' => w'.cell? ⟨gb481, 0, none⟩ = some (.string t468) ∧ w'.cell? ⟨gb481, 1, none⟩ = some (.string t469) ∧ w'.cell? ⟨gb481, 2, none⟩ = some (.bool t470) ∧ w'.cell? ⟨gb481, 3, none⟩ = some (.bool t471) ∧ w'.cell? ⟨gb481, 4, none⟩ = some (.bool t472) ∧ w'.cell? ⟨gb481, 5, none⟩ = some (.int .i64 t473) ∧ w'.cell? ⟨gb481, 6, none⟩ = some (.int .i64 t474) ∧ w'.cell? ⟨gb481, 7, none⟩ = some (.slice Ao26 t475.length co26) ∧ w'.cell? ⟨gb481, 8, none⟩ = some (.slice Ao27 t478.length co27) ∧ w'.cell? ⟨gb452, 0, none⟩ = some (.string a0_0) ∧ w'.cell? ⟨gb452, 1, none⟩ = some (.string a0_1) ∧ w'.cell? ⟨gb452, 2, none⟩ = some (.bool a0_2) ∧ w'.cell? ⟨gb452, 3, none⟩ = some (.bool a0_3) ∧ w'.cell? ⟨gb452, 4, none⟩ = some (.bool a0_4) ∧ w'.cell? ⟨gb452, 5, none⟩ = some (.int .i64 a0_5) ∧ w'.cell? ⟨gb452, 6, none⟩ = some (.int .i64 a0_6) ∧ w'.cell? ⟨gb452, 7, none⟩ = some (.slice A0_7 l0_7.length c0_7) ∧ w'.cell? ⟨gb452, 8, none⟩ = some (.slice A0_8 l0_8.length c0_8)) (ds := []) #[false, false, false, false, false] (by kernel_rfl) rfl rfl ⟨(Zkc BK481.out 0).trans rfl, (Zkc BK481.out 1).trans rfl, (Zkc BK481.out 2).trans rfl, (Zkc BK481.out 3).trans rfl, (Zkc BK481.out 4).trans rfl, (Zkc BK481.out 5).trans rfl, (Zkc BK481.out 6).trans rfl, (Zkc BK481.out 7).trans rfl, (Zkc BK481.out 8).trans rfl, (Zkc BK452.out 0).trans rfl, (Zkc BK452.out 1).trans rfl, (Zkc BK452.out 2).trans rfl, (Zkc BK452.out 3).trans rfl, (Zkc BK452.out 4).trans rfl, (Zkc BK452.out 5).trans rfl, (Zkc BK452.out 6).trans rfl, (Zkc BK452.out 7).trans rfl, (Zkc BK452.out 8).trans rfl⟩ (fun hHeld => ?_)
     generalize w28.drew = w29 at HO463 HO466 HO477 HO480 BK452 BK481 HB hHeld ⊢
     refine take_ (i := 0) (N := some 22) (v := ?_) (a' := ?_) #[true, false, false, false, false] rfl rfl (by kernel_rfl) (fun _ _ _ h => h) (Or.inl ⟨by rfl, ?_⟩) hHeld ?_ ?_
     rotate_left
     · rintro w' ⟨s0, s1, s2, s3, s4, s5, s6, s7, s8, s9, s10, s11, s12, s13, s14, s15, s16, s17⟩
       go_simp
       with_reducible rfl
     rotate_left
     · simp only [Act.put, List.setIfInBounds_toArray, List.set_cons_zero, List.set_cons_succ, i64_w, i32_w]
       rfl
     refine take_ (i := 1) (N := some 23) (v := ?_) (a' := ?_) #[true, true, false, false, false] rfl rfl (by kernel_rfl) (fun _ _ _ h => h) (Or.inl ⟨by rfl, ?_⟩) hHeld ?_ ?_
     rotate_left
     · rintro w' ⟨s0, s1, s2, s3, s4, s5, s6, s7, s8, s9, s10, s11, s12, s13, s14, s15, s16, s17⟩
       go_simp
       with_reducible rfl
     rotate_left
     · simp only [Act.put, List.setIfInBounds_toArray, List.set_cons_zero, List.set_cons_succ, i64_w, i32_w]
       rfl
     refine one_ (i := 2) (N := some 24) #[true, true, true, false, false] rfl rfl (by kernel_rfl) (by decide) (fun K hK => ?_)
     refine goes_ Try.func35 (by kernel_rfl) rfl #[.agg #[.string a0_0, .string a0_1, .bool a0_2, .bool a0_3, .bool a0_4, .int .i64 a0_5, .int .i64 a0_6, .slice A0_7 l0_7.length c0_7, .slice A0_8 l0_8.length c0_8]] (by rfl) rfl rfl (by (try simp only [List.map_toArray, List.map_cons, List.map_nil]); first | done | rfl | (simp only [List.length_drop, List.length_take]; rfl)) ?_
     with_reducible refine (laws_toMethod.calls k a0_0 a0_1 a0_2 a0_3 a0_4 a0_5 a0_6 _ _ l0_7 _ _ l0_8 t483 t484 t485 t486 t487 t488 t489 t490 t493 _ ?side1 ?side2 ?side3 ?side4 A13.out).mono ?_
     (case side1 => exact pc (Kd.C_below HR0_7.out HB.out))
     (case side2 => exact HC0_7.out)
     (case side3 => exact pc (Kd.C_below HR0_8.out HB.out))
     (case side4 => exact HC0_8.out)
     rintro e w30 ⟨v491, v494, rfl, ho0, ho1, hb⟩
     refine ⟨_, rfl, ?_⟩
     have n0_ := Zm (Kd.R_elder' (by (with_reducible repeat (first | apply Kd.R_alloc | apply Kd.R_drewN | apply Kd.R_drew)); exact HO463.out) (Kd.R_base ho0) hb)
     have n1_ := Zm (Kd.R_elder' (by (with_reducible repeat (first | apply Kd.R_alloc | apply Kd.R_drewN | apply Kd.R_drew)); exact HO466.out) (Kd.R_base ho1) hb)
     have n2_ := Zm (Kd.R_elder' (by (with_reducible repeat (first | apply Kd.R_alloc | apply Kd.R_drewN | apply Kd.R_drew)); exact HO477.out) (Kd.R_base ho0) hb)
     have n3_ := Zm (Kd.R_elder' (by (with_reducible repeat (first | apply Kd.R_alloc | apply Kd.R_drewN | apply Kd.R_drew)); exact HO480.out) (Kd.R_base ho1) hb)
     have n4_ := Zm (Kd.R_lower (Kd.R_new' (Kd.R_new' ho0 (Kd.R_lt (by (with_reducible repeat (first | apply Kd.R_alloc | apply Kd.R_drewN | apply Kd.R_drew)); exact HO463.out))) (Kd.R_lt (by (with_reducible repeat (first | apply Kd.R_alloc | apply Kd.R_drewN | apply Kd.R_drew)); exact HO477.out))) (Zbz (bk HB.out)))
     have n5_ := Zm (Kd.R_lower (Kd.R_new' (Kd.R_new' ho1 (Kd.R_lt (by (with_reducible repeat (first | apply Kd.R_alloc | apply Kd.R_drewN | apply Kd.R_drew)); exact HO466.out))) (Kd.R_lt (by (with_reducible repeat (first | apply Kd.R_alloc | apply Kd.R_drewN | apply Kd.R_drew)); exact HO480.out))) (Zbz (bk HB.out)))
     have n6_ := Zm (Zkb (pk BK452.out) hb)
     have n7_ := Zm (Zkb (pk BK481.out) hb)
     have n8_ := Zm (Zbt (bk HB.out) hb)
     clear HO463
     clear HO466
     clear HO477
     clear HO480
     clear BK452
     clear BK481
     clear HB
     have HO463 := n0_
     have HO466 := n1_
     have HO477 := n2_
     have HO480 := n3_
     have HO492 := n4_
     have HO495 := n5_
     have BK452 := n6_
     have BK481 := n7_
     have HB := n8_
     clear n0_ n1_ n2_ n3_ n4_ n5_ n6_ n7_ n8_
     obtain ⟨Ao31, co31, eo31⟩ := Kd.R_slice HO492.out
     (first | subst eo31 | (injection eo31 with f1_ f2_ f3_; have f4_ := f1_.symm; have f5_ := f3_.symm; clear f1_ f2_ f3_; subst f4_; subst f5_))
     obtain ⟨Ao32, co32, eo32⟩ := Kd.R_slice HO495.out
     (first | subst eo32 | (injection eo32 with f1_ f2_ f3_; have f4_ := f1_.symm; have f5_ := f3_.symm; clear f1_ f2_ f3_; subst f4_; subst f5_))
     refine hK.out _ _ ⟨(Zkc BK481.out 0).trans rfl, (Zkc BK481.out 1).trans rfl, (Zkc BK481.out 2).trans rfl, (Zkc BK481.out 3).trans rfl, (Zkc BK481.out 4).trans rfl, (Zkc BK481.out 5).trans rfl, (Zkc BK481.out 6).trans rfl, (Zkc BK481.out 7).trans rfl, (Zkc BK481.out 8).trans rfl, (Zkc BK452.out 0).trans rfl, (Zkc BK452.out 1).trans rfl, (Zkc BK452.out 2).trans rfl, (Zkc BK452.out 3).trans rfl, (Zkc BK452.out 4).trans rfl, (Zkc BK452.out 5).trans rfl, (Zkc BK452.out 6).trans rfl, (Zkc BK452.out 7).trans rfl, (Zkc BK452.out 8).trans rfl⟩ (fun hHeld => ?_)
     clear hK K
     refine norm_ (a' := ?_) ?_ ?_
     rotate_left
     · show Act.put _ (some 24) _ = _
       simp only [Act.put, List.setIfInBounds_toArray, List.set_cons_zero, List.set_cons_succ, i64_w, i32_w]
       rfl
     refine one_ (i := 3) (N := some 25) #[true, true, true, true, false] rfl rfl (by kernel_rfl) (by decide) (fun K hK => ?_)
     refine goes_ Try.func37 (by kernel_rfl) rfl #[.agg #[.string t468, .string t469, .bool t470, .bool t471, .bool t472, .int .i64 t473, .int .i64 t474, .slice Ao26 t475.length co26, .slice Ao27 t478.length co27], .agg #[.string t483, .string t484, .bool t485, .bool t486, .bool t487, .int .i64 t488, .int .i64 t489, .slice Ao31 t490.length co31, .slice Ao32 t493.length co32]] (by rfl) rfl rfl (by (try simp only [List.map_toArray, List.map_cons, List.map_nil]); first | done | rfl | (simp only [List.length_drop, List.length_take]; rfl)) ?_
     with_reducible refine (laws_eqMethod.calls k t468 t469 t470 t471 t472 t473 t474 _ _ t475 _ _ t478 t483 t484 t485 t486 t487 t488 t489 _ _ t490 _ _ t493 true _ ?side1 ?side2 ?side3 ?side4 ?side5 ?side6 ?side7 ?side8 A14.out).mono ?_
     (case side1 => exact pc (Kd.R_reads' HO477.out).2.2)
     (case side2 => exact (Kd.R_reads' HO477.out).2.1)
     (case side3 => exact pc (Kd.R_reads' HO480.out).2.2)
     (case side4 => exact (Kd.R_reads' HO480.out).2.1)
     (case side5 => exact pc (Kd.R_reads' HO492.out).2.2)
     (case side6 => exact (Kd.R_reads' HO492.out).2.1)
     (case side7 => exact pc (Kd.R_reads' HO495.out).2.2)
     (case side8 => exact (Kd.R_reads' HO495.out).2.1)
     rintro e w33 ⟨rfl, hb⟩
     refine ⟨_, rfl, ?_⟩
     have n0_ := Zm (Kd.R_below (by (with_reducible repeat (first | apply Kd.R_alloc | apply Kd.R_drewN | apply Kd.R_drew)); exact HO463.out) hb)
     have n1_ := Zm (Kd.R_below (by (with_reducible repeat (first | apply Kd.R_alloc | apply Kd.R_drewN | apply Kd.R_drew)); exact HO466.out) hb)
     have n2_ := Zm (Kd.R_below (by (with_reducible repeat (first | apply Kd.R_alloc | apply Kd.R_drewN | apply Kd.R_drew)); exact HO477.out) hb)
     have n3_ := Zm (Kd.R_below (by (with_reducible repeat (first | apply Kd.R_alloc | apply Kd.R_drewN | apply Kd.R_drew)); exact HO480.out) hb)
     have n4_ := Zm (Kd.R_below (by (with_reducible repeat (first | apply Kd.R_alloc | apply Kd.R_drewN | apply Kd.R_drew)); exact HO492.out) hb)
     have n5_ := Zm (Kd.R_below (by (with_reducible repeat (first | apply Kd.R_alloc | apply Kd.R_drewN | apply Kd.R_drew)); exact HO495.out) hb)
     have n6_ := Zm (Zkb (pk BK452.out) hb)
     have n7_ := Zm (Zkb (pk BK481.out) hb)
     have n8_ := Zm (Zbt (bk HB.out) hb)
     clear HO463
     clear HO466
     clear HO477
     clear HO480
     clear HO492
     clear HO495
     clear BK452
     clear BK481
     clear HB
     have HO463 := n0_
     have HO466 := n1_
     have HO477 := n2_
     have HO480 := n3_
     have HO492 := n4_
     have HO495 := n5_
     have BK452 := n6_
     have BK481 := n7_
     have HB := n8_
     clear n0_ n1_ n2_ n3_ n4_ n5_ n6_ n7_ n8_
     refine hK.out _ _ ⟨(Zkc BK481.out 0).trans rfl, (Zkc BK481.out 1).trans rfl, (Zkc BK481.out 2).trans rfl, (Zkc BK481.out 3).trans rfl, (Zkc BK481.out 4).trans rfl, (Zkc BK481.out 5).trans rfl, (Zkc BK481.out 6).trans rfl, (Zkc BK481.out 7).trans rfl, (Zkc BK481.out 8).trans rfl, (Zkc BK452.out 0).trans rfl, (Zkc BK452.out 1).trans rfl, (Zkc BK452.out 2).trans rfl, (Zkc BK452.out 3).trans rfl, (Zkc BK452.out 4).trans rfl, (Zkc BK452.out 5).trans rfl, (Zkc BK452.out 6).trans rfl, (Zkc BK452.out 7).trans rfl, (Zkc BK452.out 8).trans rfl⟩ (fun hHeld => ?_)
     clear hK K
     refine norm_ (a' := ?_) ?_ ?_
     rotate_left
     · show Act.put _ (some 25) _ = _
       simp only [Act.put, List.setIfInBounds_toArray, List.set_cons_zero, List.set_cons_succ, i64_w, i32_w]
       rfl
     refine pure_ (i := 4) (N := some 26) (v := ?_) (a' := ?_) #[true, true, true, true, true] rfl rfl (by kernel_rfl) (fun _ _ _ h => h) (Or.inl ⟨by rfl, ?_⟩) ?_ ?_
     rotate_left
     · intro w'
       go_simp
       with_reducible rfl
     rotate_left
     · simp only [Act.put, List.setIfInBounds_toArray, List.set_cons_zero, List.set_cons_succ, i64_w, i32_w]
       rfl
     refine done_ (by kernel_rfl) ?_
     try go_wp2
     go_ret
     exact ⟨by first | rfl | (simp [*] <;> rfl), bk HB.out⟩
   rw [if_pos c12] at H
   have c12b0 : (t482 != t467) = true := c12
   (try (have c12b1 : decide (t482 = t467) = false := by simpa using c12))
   (try (have c12b2 : (t482 == t467) = false := by simpa using c12))
   (try (have c12b3 : ¬ (t482 = t467) := by simpa using c12))
   clear c12
   exact absurd (H.trans (congrArg some hT_)) (by simp)
 rw [if_pos c7] at H
 have c7b0 := decide_eq_true c7
 clear c7
 (first | rw [c7b0] | (simp only [i64_w, i32_w]; rw [c7b0]) | skip)
 clear hT_
 obtain rfl := Option.some.inj H
 go_wp2
 go_ret
 exact ⟨by first | rfl | (simp [*] <;> rfl), bk HB.out⟩
def ok199 (x : S199) : Prop := (Lit.int .i64 x.f0).wf = true ∧ (Lit.int .i64 x.f1).wf = true ∧ x.f2.size ≤ maxLen ∧ x.f3.size ≤ maxLen ∧ x.f4.size ≤ maxLen
def ok201 (x : S201) : Prop := (Lit.int .i64 x.f0).wf = true ∧ (Lit.int .i64 x.f1).wf = true ∧ (Lit.int .i64 x.f2).wf = true ∧ x.f3.size ≤ maxLen
def ok78 (x : S78) : Prop := x.f0.size ≤ maxLen ∧ x.f1.size ≤ maxLen ∧ True ∧ True ∧ True ∧ (Lit.int .i64 x.f5).wf = true ∧ (Lit.int .i64 x.f6).wf = true ∧ (x.f7.length ≤ maxLen ∧ ∀ x_ ∈ x.f7, ok199 x_) ∧ (x.f8.length ≤ maxLen ∧ ∀ x_ ∈ x.f8, ok201 x_)
/-- THE ONE PURE STATEMENT of laws_FnExactMethodRight: yours. -/
def laws_FnExactMethodRight.Pure : Prop := ∀ (x0 : S78), ok78 x0 → ∃ k, laws_FnExactMethodRight.f k x0.f0 x0.f1 x0.f2 x0.f3 x0.f4 x0.f5 x0.f6 x0.f7 x0.f8 = some true

end Go.Proofs.Ytlflbmbcjjegaaa.PFnExactMethodRight
