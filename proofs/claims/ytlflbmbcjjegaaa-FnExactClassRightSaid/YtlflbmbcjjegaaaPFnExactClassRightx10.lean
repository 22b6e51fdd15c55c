/- Functions of the program as plain Lean functions, each with a proof that the program's call comes to the same; no condition. Written by a program of this session. -/
import Derived.Test.YtlflbmbcjjegaaaPFnExactClassRightx0
import Derived.Test.YtlflbmbcjjegaaaPFnExactClassRightx7
import Derived.Test.YtlflbmbcjjegaaaPFnExactClassRightx8
import Derived.Test.YtlflbmbcjjegaaaPFnExactClassRightx9
namespace Go.Proofs.Ytlflbmbcjjegaaa.PFnExactClassRight
open Go.RowKit Go.Proofs.YtlflbmbcjjegaaaW.PrintWords Go.Proofs.YtlflbmbcjjegaaaW.PrintLast Go.Proofs.YtlflbmbcjjegaaaW.PrintMore
open Go.Proofs.YtlflbmbcjjegaaaW.PrintWords renaming below_alloc → Zba, pw_below_drewN → Zbn, below_drew1 → Zbd, below_set → Zbs, below_size → Zbz, below_step → Zbt, blk_drewN → Zkn, blk_drew → Zkd, blk_alloc → Zka, blk_frozen → Zkf, blk_far → Zkr, blk_put → Zkp, blk_below → Zkb
open Go.World renaming block_lt_of_cell? → Zlt
open Go.Proofs.YtlflbmbcjjegaaaW.PrintWords.Aside0 renaming mk → Zm
attribute [local go_sem] max2_int min2_int max_two min_two max_three min_three max_four min_four   -- for this text's walks alone
set_option linter.unusedVariables false
set_option linter.unusedSimpArgs false

/-! ### spec_MethodRight: function 34 -/
mutual
def spec_MethodRight.j0 : Nat → Bool → ByteArray → ByteArray → Bool → Bool → Bool → Int → Int → List (S156) → List (S160) → List ByteArray → ByteArray → Int → Int → Option (Bool)
 | 0, _, _, _, _, _, _, _, _, _, _, _, _, _, _ => none
 | k + 1, x44, x324000, x324001, x324002, x324003, x324004, x324005, x324006, x324007, x324008, x331000, x331001, x331002, x331003 => if x44 = true then (some false) else (if x324003 = true then (if x324005 = 0 then (if x324006 = 0 then (if (x324007.length : Int) = 0 then (if (x324008.length : Int) = 0 then (if x324002 = true then (some false) else (if x324004 = true then (some false) else (some (x324000.toList != ([60, 105, 110, 105, 116, 62] : List UInt8))))) else (some false)) else (some false)) else (some false)) else (some false)) else (if x324002 = true then (spec_MethodRight.j1 k (x324007.length : Int) (x331000.length : Int) x324000 x324001 x324002 x324003 x324004 x324005 x324006 x324007 x324008 x331000 x331001 x331002 x331003) else (spec_MethodRight.j1 k (x324007.length : Int) (wrap64 ((x331000.length : Int) + 1)) x324000 x324001 x324002 x324003 x324004 x324005 x324006 x324007 x324008 x331000 x331001 x331002 x331003)))
def spec_MethodRight.j1 : Nat → Int → Int → ByteArray → ByteArray → Bool → Bool → Bool → Int → Int → List (S156) → List (S160) → List ByteArray → ByteArray → Int → Int → Option (Bool)
 | 0, _, _, _, _, _, _, _, _, _, _, _, _, _, _, _ => none
 | k + 1, x4, x5, x324000, x324001, x324002, x324003, x324004, x324005, x324006, x324007, x324008, x331000, x331001, x331002, x331003 => if x4 < 1 then (spec_MethodRight.j2 k x4 true x324000 x324001 x324002 x324003 x324004 x324005 x324006 x324007 x324008 x331000 x331001 x331002 x331003) else (if x4 > 60 then (spec_MethodRight.j2 k x4 true x324000 x324001 x324002 x324003 x324004 x324005 x324006 x324007 x324008 x331000 x331001 x331002 x331003) else (if x324006 < x5 then (spec_MethodRight.j2 k x4 true x324000 x324001 x324002 x324003 x324004 x324005 x324006 x324007 x324008 x331000 x331001 x331002 x331003) else (spec_MethodRight.j2 k x4 (decide ((x324008.length : Int) > 6)) x324000 x324001 x324002 x324003 x324004 x324005 x324006 x324007 x324008 x331000 x331001 x331002 x331003)))
def spec_MethodRight.j2 : Nat → Int → Bool → ByteArray → ByteArray → Bool → Bool → Bool → Int → Int → List (S156) → List (S160) → List ByteArray → ByteArray → Int → Int → Option (Bool)
 | 0, _, _, _, _, _, _, _, _, _, _, _, _, _, _, _ => none
 | k + 1, x4, x111, x324000, x324001, x324002, x324003, x324004, x324005, x324006, x324007, x324008, x331000, x331001, x331002, x331003 => if x111 = true then (some false) else (spec_MethodRight.l0 k x4 0 x324000 x324001 x324002 x324003 x324004 x324005 x324006 x324007 x324008 x331000 x331001 x331002 x331003)
def spec_MethodRight.l0 : Nat → Int → Int → ByteArray → ByteArray → Bool → Bool → Bool → Int → Int → List (S156) → List (S160) → List ByteArray → ByteArray → Int → Int → Option (Bool)
 | 0, _, _, _, _, _, _, _, _, _, _, _, _, _, _, _ => none
 | k + 1, x4, x6, x324000, x324001, x324002, x324003, x324004, x324005, x324006, x324007, x324008, x331000, x331001, x331002, x331003 => if x6 < (x324007.length : Int) then (if 0 ≤ x6 then ((spec_InsRight.f k ((rd_T156 x324007 x6).f0) ((rd_T156 x324007 x6).f1) ((rd_T156 x324007 x6).f2) ((rd_T156 x324007 x6).f3) ((rd_T156 x324007 x6).f4)).bind fun t333 => (if t333 = true then ((spec_OpForm.f k ((rd_T156 x324007 x6).f0)).bind fun t335 => (if t335.toList = ([116] : List UInt8) then (if ((rd_T156 x324007 x6).f1) ≥ x4 then (some false) else (spec_MethodRight.l0 k x4 (wrap64 (x6 + 1)) x324000 x324001 x324002 x324003 x324004 x324005 x324006 x324007 x324008 x331000 x331001 x331002 x331003)) else (spec_MethodRight.l0 k x4 (wrap64 (x6 + 1)) x324000 x324001 x324002 x324003 x324004 x324005 x324006 x324007 x324008 x331000 x331001 x331002 x331003))) else (some false))) else (none)) else (spec_MethodRight.l1 k x4 0 x324000 x324001 x324002 x324003 x324004 x324005 x324006 x324007 x324008 x331000 x331001 x331002 x331003)
def spec_MethodRight.l1 : Nat → Int → Int → ByteArray → ByteArray → Bool → Bool → Bool → Int → Int → List (S156) → List (S160) → List ByteArray → ByteArray → Int → Int → Option (Bool)
 | 0, _, _, _, _, _, _, _, _, _, _, _, _, _, _, _ => none
 | k + 1, x4, x7, x324000, x324001, x324002, x324003, x324004, x324005, x324006, x324007, x324008, x331000, x331001, x331002, x331003 => if x7 < (x324008.length : Int) then (if 0 ≤ x7 then ((spec_l03Handler.f k ((rd_T160 x324008 x7).f0) ((rd_T160 x324008 x7).f1) ((rd_T160 x324008 x7).f2) ((rd_T160 x324008 x7).f3) x4).bind fun t338 => (if t338 = true then (spec_MethodRight.l1 k x4 (wrap64 (x7 + 1)) x324000 x324001 x324002 x324003 x324004 x324005 x324006 x324007 x324008 x331000 x331001 x331002 x331003) else (some false))) else (none)) else (if x324000.toList = ([60, 105, 110, 105, 116, 62] : List UInt8) then (if x324002 = true then (some false) else (if x324004 = true then (some false) else (some (x331001.toList == ([86] : List UInt8))))) else (some true))
end
def spec_MethodRight.f (k : Nat) (a0_0 : ByteArray) (a0_1 : ByteArray) (a0_2 : Bool) (a0_3 : Bool) (a0_4 : Bool) (a0_5 : Int) (a0_6 : Int) (l0_7 : List (S156)) (l0_8 : List (S160)) : Option (Bool) := (spec_DescRead.f k a0_1).bind fun bt324 => ((spec_NameRight.f k a0_0).bind fun t331 => (if t331 = true then (if bt324.2.2.2 = 0 then (if a0_5 < 0 then (spec_MethodRight.j0 k true a0_0 a0_1 a0_2 a0_3 a0_4 a0_5 a0_6 l0_7 l0_8 bt324.1 bt324.2.1 bt324.2.2.1 bt324.2.2.2) else (if a0_5 > 16 then (spec_MethodRight.j0 k true a0_0 a0_1 a0_2 a0_3 a0_4 a0_5 a0_6 l0_7 l0_8 bt324.1 bt324.2.1 bt324.2.2.1 bt324.2.2.2) else (if a0_6 < 0 then (spec_MethodRight.j0 k true a0_0 a0_1 a0_2 a0_3 a0_4 a0_5 a0_6 l0_7 l0_8 bt324.1 bt324.2.1 bt324.2.2.1 bt324.2.2.2) else (spec_MethodRight.j0 k (decide (a0_6 > 16)) a0_0 a0_1 a0_2 a0_3 a0_4 a0_5 a0_6 l0_7 l0_8 bt324.1 bt324.2.1 bt324.2.2.1 bt324.2.2.2)))) else (spec_MethodRight.j0 k true a0_0 a0_1 a0_2 a0_3 a0_4 a0_5 a0_6 l0_7 l0_8 bt324.1 bt324.2.1 bt324.2.2.1 bt324.2.2.2)) else (if a0_0.toList = ([60, 105, 110, 105, 116, 62] : List UInt8) then (if bt324.2.2.2 = 0 then (if a0_5 < 0 then (spec_MethodRight.j0 k true a0_0 a0_1 a0_2 a0_3 a0_4 a0_5 a0_6 l0_7 l0_8 bt324.1 bt324.2.1 bt324.2.2.1 bt324.2.2.2) else (if a0_5 > 16 then (spec_MethodRight.j0 k true a0_0 a0_1 a0_2 a0_3 a0_4 a0_5 a0_6 l0_7 l0_8 bt324.1 bt324.2.1 bt324.2.2.1 bt324.2.2.2) else (if a0_6 < 0 then (spec_MethodRight.j0 k true a0_0 a0_1 a0_2 a0_3 a0_4 a0_5 a0_6 l0_7 l0_8 bt324.1 bt324.2.1 bt324.2.2.1 bt324.2.2.2) else (spec_MethodRight.j0 k (decide (a0_6 > 16)) a0_0 a0_1 a0_2 a0_3 a0_4 a0_5 a0_6 l0_7 l0_8 bt324.1 bt324.2.1 bt324.2.2.1 bt324.2.2.2)))) else (spec_MethodRight.j0 k true a0_0 a0_1 a0_2 a0_3 a0_4 a0_5 a0_6 l0_7 l0_8 bt324.1 bt324.2.1 bt324.2.2.1 bt324.2.2.2)) else (spec_MethodRight.j0 k true a0_0 a0_1 a0_2 a0_3 a0_4 a0_5 a0_6 l0_7 l0_8 bt324.1 bt324.2.1 bt324.2.2.1 bt324.2.2.2))))
set_option maxHeartbeats 8000000 in
set_option maxRecDepth 100000 in
theorem spec_MethodRight.calls (k : Nat) (a0_0 : ByteArray) (a0_1 : ByteArray) (a0_2 : Bool) (a0_3 : Bool) (a0_4 : Bool) (a0_5 : Int) (a0_6 : Int) (A0_7 : Option Addr) (c0_7 : Nat) (l0_7 : List (S156)) (A0_8 : Option Addr) (c0_8 : Nat) (l0_8 : List (S160)) (r : Bool) (w : World) (hr0_7 : Kd.C k156 w A0_7 l0_7.length l0_7) (hc0_7 : l0_7.length ≤ c0_7) (hr0_8 : Kd.C k160 w A0_8 l0_8.length l0_8) (hc0_8 : l0_8.length ≤ c0_8) (h : spec_MethodRight.f k a0_0 a0_1 a0_2 a0_3 a0_4 a0_5 a0_6 l0_7 l0_8 = some r) :
 Calls Try.prog 34 #[.agg #[.string a0_0, .string a0_1, .bool a0_2, .bool a0_3, .bool a0_4, .int .i64 a0_5, .int .i64 a0_6, .slice A0_7 l0_7.length c0_7, .slice A0_8 l0_8.length c0_8]] w fun e w' => e = .returned (.bool r) ∧ Below w.heap.size w w' := by
 have hu84 := Try.underlying84; have hu151 := Try.underlying151; have hu156 := Try.underlying156; have hu160 := Try.underlying160; have HR0_7 := Zm hr0_7; have HC0_7 := Zm hc0_7; clear hr0_7 hc0_7; have HR0_8 := Zm hr0_8; have HC0_8 := Zm hc0_8; clear hr0_8 hc0_8; have HB := Zm (Below.refl w.heap.size w); have H : ((spec_DescRead.f k a0_1).bind fun bt324 => ((spec_NameRight.f k a0_0).bind fun t331 => (if t331 = true then (if bt324.2.2.2 = 0 then (if a0_5 < 0 then (spec_MethodRight.j0 k true a0_0 a0_1 a0_2 a0_3 a0_4 a0_5 a0_6 l0_7 l0_8 bt324.1 bt324.2.1 bt324.2.2.1 bt324.2.2.2) else (if a0_5 > 16 then (spec_MethodRight.j0 k true a0_0 a0_1 a0_2 a0_3 a0_4 a0_5 a0_6 l0_7 l0_8 bt324.1 bt324.2.1 bt324.2.2.1 bt324.2.2.2) else (if a0_6 < 0 then (spec_MethodRight.j0 k true a0_0 a0_1 a0_2 a0_3 a0_4 a0_5 a0_6 l0_7 l0_8 bt324.1 bt324.2.1 bt324.2.2.1 bt324.2.2.2) else (spec_MethodRight.j0 k (decide (a0_6 > 16)) a0_0 a0_1 a0_2 a0_3 a0_4 a0_5 a0_6 l0_7 l0_8 bt324.1 bt324.2.1 bt324.2.2.1 bt324.2.2.2)))) else (spec_MethodRight.j0 k true a0_0 a0_1 a0_2 a0_3 a0_4 a0_5 a0_6 l0_7 l0_8 bt324.1 bt324.2.1 bt324.2.2.1 bt324.2.2.2)) else (if a0_0.toList = ([60, 105, 110, 105, 116, 62] : List UInt8) then (if bt324.2.2.2 = 0 then (if a0_5 < 0 then (spec_MethodRight.j0 k true a0_0 a0_1 a0_2 a0_3 a0_4 a0_5 a0_6 l0_7 l0_8 bt324.1 bt324.2.1 bt324.2.2.1 bt324.2.2.2) else (if a0_5 > 16 then (spec_MethodRight.j0 k true a0_0 a0_1 a0_2 a0_3 a0_4 a0_5 a0_6 l0_7 l0_8 bt324.1 bt324.2.1 bt324.2.2.1 bt324.2.2.2) else (if a0_6 < 0 then (spec_MethodRight.j0 k true a0_0 a0_1 a0_2 a0_3 a0_4 a0_5 a0_6 l0_7 l0_8 bt324.1 bt324.2.1 bt324.2.2.1 bt324.2.2.2) else (spec_MethodRight.j0 k (decide (a0_6 > 16)) a0_0 a0_1 a0_2 a0_3 a0_4 a0_5 a0_6 l0_7 l0_8 bt324.1 bt324.2.1 bt324.2.2.1 bt324.2.2.2)))) else (spec_MethodRight.j0 k true a0_0 a0_1 a0_2 a0_3 a0_4 a0_5 a0_6 l0_7 l0_8 bt324.1 bt324.2.1 bt324.2.2.1 bt324.2.2.2)) else (spec_MethodRight.j0 k true a0_0 a0_1 a0_2 a0_3 a0_4 a0_5 a0_6 l0_7 l0_8 bt324.1 bt324.2.1 bt324.2.2.1 bt324.2.2.2))))) = some r := h; clear h; replace H := Option.bind_eq_some_iff.mp H; obtain ⟨⟨t324, t327, t328, t329⟩, A20, H⟩ := H; (try dsimp only at H); have A2 := Zm A20; clear A20; have HC3 := Zm H; clear H; go_enter Try.func34, Try.ntmps34; go_upto_region 2 with (first | ((with_reducible refine gate_dst (N := 1) rfl ?_); (try (refine gate_guard (by rfl) ?_; dsimp only)); refine box_event ?hg (N := 1) ?hd (cs := #[.string a0_0, .string a0_1, .bool a0_2, .bool a0_3, .bool a0_4, .int .i64 a0_5, .int .i64 a0_6, .slice A0_7 l0_7.length c0_7, .slice A0_8 l0_8.length c0_8]) (t := 84) ?hr ?_; (case hd => rfl); (case hg => rfl); (case hr => first | (go_simp; done) | (go_simp; rfl)); intro gb323 hg w4 hbox hb; have n0_ := (⟨Zm (Zbt (bk HB.out) hb), Zm (hbox), Zm ((by rw [hg]; exact (Zbz (bk HB.out)) : w.heap.size ≤ gb323)), Zm ((by rw [hg]; exact (Zbz (bk HB.out)) : w.heap.size ≤ gb323))⟩ : _ ∧ _ ∧ _ ∧ _); clear HB; obtain ⟨HB, BK323, GW323, GE323⟩ := n0_; clear hb hbox hg; obtain ⟨hcz5_0, hcz5_1, hcz5_2, hcz5_3, hcz5_4, hcz5_5, hcz5_6, hcz5_7, hcz5_8⟩ := cz9 BK323.out; have hfz5_8 := Zkf BK323.out 8) | ((with_reducible refine gate_callee (f := 96) rfl ?_); refine ge_ (some 10) Try.func96 #[.string a0_1] ?_; (with_reducible refine (spec_DescRead.calls _ _ _ _ _ _ _ A2.out).mono ?_); rintro e w6 ⟨v325, rfl, ho0, hb⟩; refine ⟨_, rfl, ?_⟩; have n0_ := (⟨Zm (Kd.R_lower ho0 (Zbz (bk HB.out))), Zm (Zkb (pk BK323.out) hb), Zm (Zbt (bk HB.out) hb)⟩ : _ ∧ _ ∧ _); clear BK323 HB; obtain ⟨HO326, BK323, HB⟩ := n0_; (try clear hb); (try clear hb2); (try clear hk); (try clear hi); (try clear ho0)) | ((with_reducible refine gate_dst (N := 3) rfl ?_); (try (refine gate_guard (by rfl) ?_; dsimp only)); refine box_event ?hg (N := 3) ?hd (cs := #[.slice none 0 0, .string (⟨#[]⟩ : ByteArray), .int .i64 0, .int .i64 0]) (t := 151) ?hr ?_; (case hd => rfl); (case hg => rfl); (case hr => first | (go_simp; done) | (go_simp; rfl)); intro gb330 hg w7 hbox hb; have n0_ := (⟨Zm (Kd.R_below (by (with_reducible repeat (first | apply Kd.R_alloc | apply Kd.R_drewN | apply Kd.R_drew)); exact HO326.out) hb), Zm (Zkb (pk BK323.out) hb), Zm (Zbt (bk HB.out) hb), Zm (hbox), Zm ((by rw [hg]; exact (Zbz (bk HB.out)) : w.heap.size ≤ gb330)), Zm ((by rw [hg]; exact (Zbz (bk HB.out)) : w.heap.size ≤ gb330)), Zm ((by rw [hg]; exact Nat.ne_of_lt (blk_lt (pk BK323.out)) : gb323 ≠ gb330)), Zm ((by rw [hg]; exact Nat.ne_of_gt (blk_lt (pk BK323.out)) : gb330 ≠ gb323))⟩ : _ ∧ _ ∧ _ ∧ _ ∧ _ ∧ _ ∧ _ ∧ _); clear HO326 BK323 HB; obtain ⟨HO326, BK323, HB, BK330, GW330, GE330, NB323_330, NB330_323⟩ := n0_; clear hb hbox hg; obtain ⟨Ao8, co8, eo8⟩ := Kd.R_slice HO326.out; subst eo8; have hnb9 := NB330_323.out; have hnc9 := NB323_330.out; obtain ⟨hcz10_0, hcz10_1, hcz10_2, hcz10_3⟩ := cz4 BK330.out; have hfz10_0 := Zkf BK330.out 0; have hfz10_1 := Zkf BK330.out 1; have hfz10_2 := Zkf BK330.out 2; have hfz10_3 := Zkf BK330.out 3)); (try simp only [Act.put, List.setIfInBounds_toArray, List.set_cons_zero, List.set_cons_succ]); go_cut [44] (fun v44 wc => ∃ (kq : Nat) (x44_2 : Bool), v44 = .bool x44_2 ∧ Aside0 (spec_MethodRight.j0 kq x44_2 a0_0 a0_1 a0_2 a0_3 a0_4 a0_5 a0_6 l0_7 l0_8 t324 t327 t328 t329 = some r) ∧ Aside0 (kq ≤ k) ∧ Aside0 (Kd.R Kd.string 9 wc w.heap.size (fun _ => True) (.slice Ao8 t324.length co8) t324) ∧ Aside0 (wc.heap[gb323]? = some (.cells #[.string a0_0, .string a0_1, .bool a0_2, .bool a0_3, .bool a0_4, .int .i64 a0_5, .int .i64 a0_6, (.slice A0_7 l0_7.length c0_7), (.slice A0_8 l0_8.length c0_8)] 84 (0, 0))) ∧ Aside0 (wc.heap[gb330]? = some (.cells #[(.slice Ao8 t324.length co8), .string t327, .int .i64 t328, .int .i64 t329] 151 (0, 0))) ∧ Aside0 (Below w.heap.size w wc))
 case first =>
  have H := HC3.out; clear HC3; replace H := Option.bind_eq_some_iff.mp H; obtain ⟨t331, A110, H⟩ := H; (try dsimp only at H); have A11 := Zm A110; clear A110; by_cases c12 : t331 = true; rotate_left
  · replace c12 := Bool.eq_false_iff.mpr c12; subst c12; rw [if_neg (show ¬ (false = true) by decide)] at H; by_cases c32 : a0_0.toList = ([60, 105, 110, 105, 116, 62] : List UInt8); rotate_left
    · rw [if_neg c32] at H; have c32b0 : (a0_0.toList == ([60, 105, 110, 105, 116, 62] : List UInt8)) = false := beq_eq_false_iff_ne.mpr c32; have c32b1 : (a0_0.toList != ([60, 105, 110, 105, 116, 62] : List UInt8)) = true := bne_iff_ne.mpr c32; have H' := Zm H; clear H; have hnb52 := NB323_330.out; have hnc52 := NB330_323.out; obtain ⟨hcz53_0, hcz53_1, hcz53_2, hcz53_3, hcz53_4, hcz53_5, hcz53_6, hcz53_7, hcz53_8⟩ := cz9 BK323.out; go_wp2_with (first | ((with_reducible refine gate_callee (f := 97) rfl ?_); refine ge_ (some 13) Try.func97 #[.string a0_0] ?_; (with_reducible refine (spec_NameRight.calls _ _ _ _ A11.out).mono ?_); rintro e w' ⟨rfl, ⟨nd, rfl⟩⟩; refine ⟨_, rfl, ?_⟩)); go_meet
      case rel => exact ⟨_, (true), (by first | rfl | (simp; done) | (simp [*]; done)), H', ⟨by first | omega | exact Nat.le_refl _⟩, ⟨by (with_reducible repeat (first | apply Kd.R_alloc | apply Kd.R_drewN | apply Kd.R_drew)); exact Kd.R_mono (Kd.R_far (p := ⟨gb330, 3, none⟩) (Kd.R_far (p := ⟨gb330, 2, none⟩) (Kd.R_far (p := ⟨gb330, 1, none⟩) (Kd.R_far (p := ⟨gb330, 0, none⟩) (Kd.R_types HO326.out BK330.out (by decide)) (fun _ hk => hk.2) (.slice Ao8 t324.length co8)) (fun _ hk => hk.2) (.string t327)) (fun _ hk => hk.2) (.int .i64 t328)) (fun _ hk => hk.2) (.int .i64 t329)) (fun _ hk => trivial)⟩, ⟨zc_⟩, ⟨zc_⟩, ⟨hb_⟩⟩
    rw [if_pos c32] at H; have c32b0 : (a0_0.toList == ([60, 105, 110, 105, 116, 62] : List UInt8)) = true := beq_iff_eq.mpr c32; have c32b1 : (a0_0.toList != ([60, 105, 110, 105, 116, 62] : List UInt8)) = false := bne_eq_false_iff_eq.mpr c32; clear c32; by_cases c33 : t329 = 0; rotate_left
    · rw [if_neg c33] at H; have c33b0 : (t329 == 0) = false := beq_eq_false_iff_ne.mpr c33; have c33b1 : (t329 != 0) = true := bne_iff_ne.mpr c33; have H' := Zm H; clear H; have hnb49 := NB323_330.out; have hnc49 := NB330_323.out; obtain ⟨hcz50_0, hcz50_1, hcz50_2, hcz50_3, hcz50_4, hcz50_5, hcz50_6, hcz50_7, hcz50_8⟩ := cz9 BK323.out; go_wp2_with (first | ((with_reducible refine gate_callee (f := 97) rfl ?_); refine ge_ (some 13) Try.func97 #[.string a0_0] ?_; (with_reducible refine (spec_NameRight.calls _ _ _ _ A11.out).mono ?_); rintro e w' ⟨rfl, ⟨nd, rfl⟩⟩; refine ⟨_, rfl, ?_⟩; obtain ⟨hcz51_0, hcz51_1, hcz51_2, hcz51_3⟩ := cz4 BK330.out; have hfz51_0 := Zkf BK330.out 0; have hfz51_1 := Zkf BK330.out 1; have hfz51_2 := Zkf BK330.out 2; have hfz51_3 := Zkf BK330.out 3)); go_meet
      case rel => exact ⟨_, (true), (by first | rfl | (simp; done) | (simp [*]; done)), H', ⟨by first | omega | exact Nat.le_refl _⟩, ⟨by (with_reducible repeat (first | apply Kd.R_alloc | apply Kd.R_drewN | apply Kd.R_drew)); exact Kd.R_mono (Kd.R_far (p := ⟨gb330, 3, none⟩) (Kd.R_far (p := ⟨gb330, 2, none⟩) (Kd.R_far (p := ⟨gb330, 1, none⟩) (Kd.R_far (p := ⟨gb330, 0, none⟩) (Kd.R_types HO326.out BK330.out (by decide)) (fun _ hk => hk.2) (.slice Ao8 t324.length co8)) (fun _ hk => hk.2) (.string t327)) (fun _ hk => hk.2) (.int .i64 t328)) (fun _ hk => hk.2) (.int .i64 t329)) (fun _ hk => trivial)⟩, ⟨zc_⟩, ⟨zc_⟩, ⟨hb_⟩⟩
    rw [if_pos c33] at H; have c33b0 : (t329 == 0) = true := beq_iff_eq.mpr c33; have c33b1 : (t329 != 0) = false := bne_eq_false_iff_eq.mpr c33; clear c33; by_cases c34 : a0_5 < 0; rotate_left
    · rw [if_neg c34] at H; have c34b0 := decide_eq_false c34; clear c34; by_cases c38 : a0_5 > 16; rotate_left
      · rw [if_neg c38] at H; have c38b0 : decide (16 < a0_5) = false := decide_eq_false c38; clear c38; by_cases c42 : a0_6 < 0; rotate_left
        · rw [if_neg c42] at H; have c42b0 := decide_eq_false c42; clear c42; have H' := Zm H; clear H; have hnb46 := NB323_330.out; have hnc46 := NB330_323.out; obtain ⟨hcz47_0, hcz47_1, hcz47_2, hcz47_3, hcz47_4, hcz47_5, hcz47_6, hcz47_7, hcz47_8⟩ := cz9 BK323.out; go_wp2_with (first | ((with_reducible refine gate_callee (f := 97) rfl ?_); refine ge_ (some 13) Try.func97 #[.string a0_0] ?_; (with_reducible refine (spec_NameRight.calls _ _ _ _ A11.out).mono ?_); rintro e w' ⟨rfl, ⟨nd, rfl⟩⟩; refine ⟨_, rfl, ?_⟩; obtain ⟨hcz48_0, hcz48_1, hcz48_2, hcz48_3⟩ := cz4 BK330.out; have hfz48_0 := Zkf BK330.out 0; have hfz48_1 := Zkf BK330.out 1; have hfz48_2 := Zkf BK330.out 2; have hfz48_3 := Zkf BK330.out 3)); go_meet
          case rel => exact ⟨_, (decide (a0_6 > 16)), (by first | rfl | (simp; done) | (simp [*]; done)), H', ⟨by first | omega | exact Nat.le_refl _⟩, ⟨by (with_reducible repeat (first | apply Kd.R_alloc | apply Kd.R_drewN | apply Kd.R_drew)); exact Kd.R_mono (Kd.R_far (p := ⟨gb330, 3, none⟩) (Kd.R_far (p := ⟨gb330, 2, none⟩) (Kd.R_far (p := ⟨gb330, 1, none⟩) (Kd.R_far (p := ⟨gb330, 0, none⟩) (Kd.R_types HO326.out BK330.out (by decide)) (fun _ hk => hk.2) (.slice Ao8 t324.length co8)) (fun _ hk => hk.2) (.string t327)) (fun _ hk => hk.2) (.int .i64 t328)) (fun _ hk => hk.2) (.int .i64 t329)) (fun _ hk => trivial)⟩, ⟨zc_⟩, ⟨zc_⟩, ⟨hb_⟩⟩
        rw [if_pos c42] at H; have c42b0 := decide_eq_true c42; clear c42; have H' := Zm H; clear H; have hnb43 := NB323_330.out; have hnc43 := NB330_323.out; obtain ⟨hcz44_0, hcz44_1, hcz44_2, hcz44_3, hcz44_4, hcz44_5, hcz44_6, hcz44_7, hcz44_8⟩ := cz9 BK323.out; go_wp2_with (first | ((with_reducible refine gate_callee (f := 97) rfl ?_); refine ge_ (some 13) Try.func97 #[.string a0_0] ?_; (with_reducible refine (spec_NameRight.calls _ _ _ _ A11.out).mono ?_); rintro e w' ⟨rfl, ⟨nd, rfl⟩⟩; refine ⟨_, rfl, ?_⟩; obtain ⟨hcz45_0, hcz45_1, hcz45_2, hcz45_3⟩ := cz4 BK330.out; have hfz45_0 := Zkf BK330.out 0; have hfz45_1 := Zkf BK330.out 1; have hfz45_2 := Zkf BK330.out 2; have hfz45_3 := Zkf BK330.out 3)); go_meet
        case rel => exact ⟨_, (true), (by first | rfl | (simp; done) | (simp [*]; done)), H', ⟨by first | omega | exact Nat.le_refl _⟩, ⟨by (with_reducible repeat (first | apply Kd.R_alloc | apply Kd.R_drewN | apply Kd.R_drew)); exact Kd.R_mono (Kd.R_far (p := ⟨gb330, 3, none⟩) (Kd.R_far (p := ⟨gb330, 2, none⟩) (Kd.R_far (p := ⟨gb330, 1, none⟩) (Kd.R_far (p := ⟨gb330, 0, none⟩) (Kd.R_types HO326.out BK330.out (by decide)) (fun _ hk => hk.2) (.slice Ao8 t324.length co8)) (fun _ hk => hk.2) (.string t327)) (fun _ hk => hk.2) (.int .i64 t328)) (fun _ hk => hk.2) (.int .i64 t329)) (fun _ hk => trivial)⟩, ⟨zc_⟩, ⟨zc_⟩, ⟨hb_⟩⟩
      rw [if_pos c38] at H; have c38b0 : decide (16 < a0_5) = true := decide_eq_true c38; clear c38; have H' := Zm H; clear H; have hnb39 := NB323_330.out; have hnc39 := NB330_323.out; obtain ⟨hcz40_0, hcz40_1, hcz40_2, hcz40_3, hcz40_4, hcz40_5, hcz40_6, hcz40_7, hcz40_8⟩ := cz9 BK323.out; go_wp2_with (first | ((with_reducible refine gate_callee (f := 97) rfl ?_); refine ge_ (some 13) Try.func97 #[.string a0_0] ?_; (with_reducible refine (spec_NameRight.calls _ _ _ _ A11.out).mono ?_); rintro e w' ⟨rfl, ⟨nd, rfl⟩⟩; refine ⟨_, rfl, ?_⟩; obtain ⟨hcz41_0, hcz41_1, hcz41_2, hcz41_3⟩ := cz4 BK330.out; have hfz41_0 := Zkf BK330.out 0; have hfz41_1 := Zkf BK330.out 1; have hfz41_2 := Zkf BK330.out 2; have hfz41_3 := Zkf BK330.out 3)); go_meet
      case rel => exact ⟨_, (true), (by first | rfl | (simp; done) | (simp [*]; done)), H', ⟨by first | omega | exact Nat.le_refl _⟩, ⟨by (with_reducible repeat (first | apply Kd.R_alloc | apply Kd.R_drewN | apply Kd.R_drew)); exact Kd.R_mono (Kd.R_far (p := ⟨gb330, 3, none⟩) (Kd.R_far (p := ⟨gb330, 2, none⟩) (Kd.R_far (p := ⟨gb330, 1, none⟩) (Kd.R_far (p := ⟨gb330, 0, none⟩) (Kd.R_types HO326.out BK330.out (by decide)) (fun _ hk => hk.2) (.slice Ao8 t324.length co8)) (fun _ hk => hk.2) (.string t327)) (fun _ hk => hk.2) (.int .i64 t328)) (fun _ hk => hk.2) (.int .i64 t329)) (fun _ hk => trivial)⟩, ⟨zc_⟩, ⟨zc_⟩, ⟨hb_⟩⟩
    rw [if_pos c34] at H; have c34b0 := decide_eq_true c34; clear c34; have H' := Zm H; clear H; have hnb35 := NB323_330.out; have hnc35 := NB330_323.out; obtain ⟨hcz36_0, hcz36_1, hcz36_2, hcz36_3, hcz36_4, hcz36_5, hcz36_6, hcz36_7, hcz36_8⟩ := cz9 BK323.out; go_wp2_with (first | ((with_reducible refine gate_callee (f := 97) rfl ?_); refine ge_ (some 13) Try.func97 #[.string a0_0] ?_; (with_reducible refine (spec_NameRight.calls _ _ _ _ A11.out).mono ?_); rintro e w' ⟨rfl, ⟨nd, rfl⟩⟩; refine ⟨_, rfl, ?_⟩; obtain ⟨hcz37_0, hcz37_1, hcz37_2, hcz37_3⟩ := cz4 BK330.out; have hfz37_0 := Zkf BK330.out 0; have hfz37_1 := Zkf BK330.out 1; have hfz37_2 := Zkf BK330.out 2; have hfz37_3 := Zkf BK330.out 3)); go_meet
    case rel => exact ⟨_, (true), (by first | rfl | (simp; done) | (simp [*]; done)), H', ⟨by first | omega | exact Nat.le_refl _⟩, ⟨by (with_reducible repeat (first | apply Kd.R_alloc | apply Kd.R_drewN | apply Kd.R_drew)); exact Kd.R_mono (Kd.R_far (p := ⟨gb330, 3, none⟩) (Kd.R_far (p := ⟨gb330, 2, none⟩) (Kd.R_far (p := ⟨gb330, 1, none⟩) (Kd.R_far (p := ⟨gb330, 0, none⟩) (Kd.R_types HO326.out BK330.out (by decide)) (fun _ hk => hk.2) (.slice Ao8 t324.length co8)) (fun _ hk => hk.2) (.string t327)) (fun _ hk => hk.2) (.int .i64 t328)) (fun _ hk => hk.2) (.int .i64 t329)) (fun _ hk => trivial)⟩, ⟨zc_⟩, ⟨zc_⟩, ⟨hb_⟩⟩
  subst c12; rw [if_pos rfl] at H; by_cases c13 : t329 = 0; rotate_left
  · rw [if_neg c13] at H; have c13b0 : (t329 == 0) = false := beq_eq_false_iff_ne.mpr c13; have c13b1 : (t329 != 0) = true := bne_iff_ne.mpr c13; (first | rw [c13b0] | (simp only [i64_w, i32_w]; rw [c13b0]) | skip); have H' := Zm H; clear H; have hnb29 := NB323_330.out; have hnc29 := NB330_323.out; obtain ⟨hcz30_0, hcz30_1, hcz30_2, hcz30_3, hcz30_4, hcz30_5, hcz30_6, hcz30_7, hcz30_8⟩ := cz9 BK323.out; go_wp2_with (first | ((with_reducible refine gate_callee (f := 97) rfl ?_); refine ge_ (some 13) Try.func97 #[.string a0_0] ?_; (with_reducible refine (spec_NameRight.calls _ _ _ _ A11.out).mono ?_); rintro e w' ⟨rfl, ⟨nd, rfl⟩⟩; refine ⟨_, rfl, ?_⟩; obtain ⟨hcz31_0, hcz31_1, hcz31_2, hcz31_3⟩ := cz4 BK330.out; have hfz31_0 := Zkf BK330.out 0; have hfz31_1 := Zkf BK330.out 1; have hfz31_2 := Zkf BK330.out 2; have hfz31_3 := Zkf BK330.out 3)); go_meet
    case rel => exact ⟨_, (true), (by first | rfl | (simp; done) | (simp [*]; done)), H', ⟨by first | omega | exact Nat.le_refl _⟩, ⟨by (with_reducible repeat (first | apply Kd.R_alloc | apply Kd.R_drewN | apply Kd.R_drew)); exact Kd.R_mono (Kd.R_far (p := ⟨gb330, 3, none⟩) (Kd.R_far (p := ⟨gb330, 2, none⟩) (Kd.R_far (p := ⟨gb330, 1, none⟩) (Kd.R_far (p := ⟨gb330, 0, none⟩) (Kd.R_types HO326.out BK330.out (by decide)) (fun _ hk => hk.2) (.slice Ao8 t324.length co8)) (fun _ hk => hk.2) (.string t327)) (fun _ hk => hk.2) (.int .i64 t328)) (fun _ hk => hk.2) (.int .i64 t329)) (fun _ hk => trivial)⟩, ⟨zc_⟩, ⟨zc_⟩, ⟨hb_⟩⟩
  rw [if_pos c13] at H; have c13b0 : (t329 == 0) = true := beq_iff_eq.mpr c13; have c13b1 : (t329 != 0) = false := bne_eq_false_iff_eq.mpr c13; clear c13; (first | rw [c13b0] | (simp only [i64_w, i32_w]; rw [c13b0]) | skip); by_cases c14 : a0_5 < 0; rotate_left
  · rw [if_neg c14] at H; have c14b0 := decide_eq_false c14; clear c14; by_cases c18 : a0_5 > 16; rotate_left
    · rw [if_neg c18] at H; have c18b0 : decide (16 < a0_5) = false := decide_eq_false c18; clear c18; by_cases c22 : a0_6 < 0; rotate_left
      · rw [if_neg c22] at H; have c22b0 := decide_eq_false c22; clear c22; have H' := Zm H; clear H; have hnb26 := NB323_330.out; have hnc26 := NB330_323.out; obtain ⟨hcz27_0, hcz27_1, hcz27_2, hcz27_3, hcz27_4, hcz27_5, hcz27_6, hcz27_7, hcz27_8⟩ := cz9 BK323.out; go_wp2_with (first | ((with_reducible refine gate_callee (f := 97) rfl ?_); refine ge_ (some 13) Try.func97 #[.string a0_0] ?_; (with_reducible refine (spec_NameRight.calls _ _ _ _ A11.out).mono ?_); rintro e w' ⟨rfl, ⟨nd, rfl⟩⟩; refine ⟨_, rfl, ?_⟩; obtain ⟨hcz28_0, hcz28_1, hcz28_2, hcz28_3⟩ := cz4 BK330.out; have hfz28_0 := Zkf BK330.out 0; have hfz28_1 := Zkf BK330.out 1; have hfz28_2 := Zkf BK330.out 2; have hfz28_3 := Zkf BK330.out 3)); go_meet
        case rel => exact ⟨_, (decide (a0_6 > 16)), (by first | rfl | (simp; done) | (simp [*]; done)), H', ⟨by first | omega | exact Nat.le_refl _⟩, ⟨by (with_reducible repeat (first | apply Kd.R_alloc | apply Kd.R_drewN | apply Kd.R_drew)); exact Kd.R_mono (Kd.R_far (p := ⟨gb330, 3, none⟩) (Kd.R_far (p := ⟨gb330, 2, none⟩) (Kd.R_far (p := ⟨gb330, 1, none⟩) (Kd.R_far (p := ⟨gb330, 0, none⟩) (Kd.R_types HO326.out BK330.out (by decide)) (fun _ hk => hk.2) (.slice Ao8 t324.length co8)) (fun _ hk => hk.2) (.string t327)) (fun _ hk => hk.2) (.int .i64 t328)) (fun _ hk => hk.2) (.int .i64 t329)) (fun _ hk => trivial)⟩, ⟨zc_⟩, ⟨zc_⟩, ⟨hb_⟩⟩
      rw [if_pos c22] at H; have c22b0 := decide_eq_true c22; clear c22; have H' := Zm H; clear H; have hnb23 := NB323_330.out; have hnc23 := NB330_323.out; obtain ⟨hcz24_0, hcz24_1, hcz24_2, hcz24_3, hcz24_4, hcz24_5, hcz24_6, hcz24_7, hcz24_8⟩ := cz9 BK323.out; go_wp2_with (first | ((with_reducible refine gate_callee (f := 97) rfl ?_); refine ge_ (some 13) Try.func97 #[.string a0_0] ?_; (with_reducible refine (spec_NameRight.calls _ _ _ _ A11.out).mono ?_); rintro e w' ⟨rfl, ⟨nd, rfl⟩⟩; refine ⟨_, rfl, ?_⟩; obtain ⟨hcz25_0, hcz25_1, hcz25_2, hcz25_3⟩ := cz4 BK330.out; have hfz25_0 := Zkf BK330.out 0; have hfz25_1 := Zkf BK330.out 1; have hfz25_2 := Zkf BK330.out 2; have hfz25_3 := Zkf BK330.out 3)); go_meet
      case rel => exact ⟨_, (true), (by first | rfl | (simp; done) | (simp [*]; done)), H', ⟨by first | omega | exact Nat.le_refl _⟩, ⟨by (with_reducible repeat (first | apply Kd.R_alloc | apply Kd.R_drewN | apply Kd.R_drew)); exact Kd.R_mono (Kd.R_far (p := ⟨gb330, 3, none⟩) (Kd.R_far (p := ⟨gb330, 2, none⟩) (Kd.R_far (p := ⟨gb330, 1, none⟩) (Kd.R_far (p := ⟨gb330, 0, none⟩) (Kd.R_types HO326.out BK330.out (by decide)) (fun _ hk => hk.2) (.slice Ao8 t324.length co8)) (fun _ hk => hk.2) (.string t327)) (fun _ hk => hk.2) (.int .i64 t328)) (fun _ hk => hk.2) (.int .i64 t329)) (fun _ hk => trivial)⟩, ⟨zc_⟩, ⟨zc_⟩, ⟨hb_⟩⟩
    rw [if_pos c18] at H; have c18b0 : decide (16 < a0_5) = true := decide_eq_true c18; clear c18; have H' := Zm H; clear H; have hnb19 := NB323_330.out; have hnc19 := NB330_323.out; obtain ⟨hcz20_0, hcz20_1, hcz20_2, hcz20_3, hcz20_4, hcz20_5, hcz20_6, hcz20_7, hcz20_8⟩ := cz9 BK323.out; go_wp2_with (first | ((with_reducible refine gate_callee (f := 97) rfl ?_); refine ge_ (some 13) Try.func97 #[.string a0_0] ?_; (with_reducible refine (spec_NameRight.calls _ _ _ _ A11.out).mono ?_); rintro e w' ⟨rfl, ⟨nd, rfl⟩⟩; refine ⟨_, rfl, ?_⟩; obtain ⟨hcz21_0, hcz21_1, hcz21_2, hcz21_3⟩ := cz4 BK330.out; have hfz21_0 := Zkf BK330.out 0; have hfz21_1 := Zkf BK330.out 1; have hfz21_2 := Zkf BK330.out 2; have hfz21_3 := Zkf BK330.out 3)); go_meet
    case rel => exact ⟨_, (true), (by first | rfl | (simp; done) | (simp [*]; done)), H', ⟨by first | omega | exact Nat.le_refl _⟩, ⟨by (with_reducible repeat (first | apply Kd.R_alloc | apply Kd.R_drewN | apply Kd.R_drew)); exact Kd.R_mono (Kd.R_far (p := ⟨gb330, 3, none⟩) (Kd.R_far (p := ⟨gb330, 2, none⟩) (Kd.R_far (p := ⟨gb330, 1, none⟩) (Kd.R_far (p := ⟨gb330, 0, none⟩) (Kd.R_types HO326.out BK330.out (by decide)) (fun _ hk => hk.2) (.slice Ao8 t324.length co8)) (fun _ hk => hk.2) (.string t327)) (fun _ hk => hk.2) (.int .i64 t328)) (fun _ hk => hk.2) (.int .i64 t329)) (fun _ hk => trivial)⟩, ⟨zc_⟩, ⟨zc_⟩, ⟨hb_⟩⟩
  rw [if_pos c14] at H; have c14b0 := decide_eq_true c14; clear c14; have H' := Zm H; clear H; have hnb15 := NB323_330.out; have hnc15 := NB330_323.out; obtain ⟨hcz16_0, hcz16_1, hcz16_2, hcz16_3, hcz16_4, hcz16_5, hcz16_6, hcz16_7, hcz16_8⟩ := cz9 BK323.out; go_wp2_with (first | ((with_reducible refine gate_callee (f := 97) rfl ?_); refine ge_ (some 13) Try.func97 #[.string a0_0] ?_; (with_reducible refine (spec_NameRight.calls _ _ _ _ A11.out).mono ?_); rintro e w' ⟨rfl, ⟨nd, rfl⟩⟩; refine ⟨_, rfl, ?_⟩; obtain ⟨hcz17_0, hcz17_1, hcz17_2, hcz17_3⟩ := cz4 BK330.out; have hfz17_0 := Zkf BK330.out 0; have hfz17_1 := Zkf BK330.out 1; have hfz17_2 := Zkf BK330.out 2; have hfz17_3 := Zkf BK330.out 3)); go_meet
  case rel => exact ⟨_, (true), (by first | rfl | (simp; done) | (simp [*]; done)), H', ⟨by first | omega | exact Nat.le_refl _⟩, ⟨by (with_reducible repeat (first | apply Kd.R_alloc | apply Kd.R_drewN | apply Kd.R_drew)); exact Kd.R_mono (Kd.R_far (p := ⟨gb330, 3, none⟩) (Kd.R_far (p := ⟨gb330, 2, none⟩) (Kd.R_far (p := ⟨gb330, 1, none⟩) (Kd.R_far (p := ⟨gb330, 0, none⟩) (Kd.R_types HO326.out BK330.out (by decide)) (fun _ hk => hk.2) (.slice Ao8 t324.length co8)) (fun _ hk => hk.2) (.string t327)) (fun _ hk => hk.2) (.int .i64 t328)) (fun _ hk => hk.2) (.int .i64 t329)) (fun _ hk => trivial)⟩, ⟨zc_⟩, ⟨zc_⟩, ⟨hb_⟩⟩
 case rest =>
  clear HC3; (try clear hcz10_0); (try clear hcz10_1); (try clear hcz10_2); (try clear hcz10_3); (try clear hcz5_0); (try clear hcz5_1); (try clear hcz5_2); (try clear hcz5_3); (try clear hcz5_4); (try clear hcz5_5); (try clear hcz5_6); (try clear hcz5_7); (try clear hcz5_8); (try clear hfz10_0); (try clear hfz10_1); (try clear hfz10_2); (try clear hfz10_3); (try clear hfz5_8); obtain ⟨kq, x44_2, rfl, HA, HJ2, HO_331000, BK323, BK330, HB⟩ := hcut
  cases kq with
  | zero => exact absurd HA.out (by simp [spec_MethodRight.j0])
  | succ kj2 =>
   have H := HA.out; clear HA; simp only [spec_MethodRight.j0] at H; by_cases c54 : x44_2 = true; rotate_left
   · replace c54 := Bool.eq_false_iff.mpr c54; subst c54; rw [if_neg (show ¬ (false = true) by decide)] at H; by_cases c55 : a0_3 = true; rotate_left
     · replace c55 := Bool.eq_false_iff.mpr c55; subst c55; rw [if_neg (show ¬ (false = true) by decide)] at H; have HC76 := Zm H; clear H; have hnb77 := NB323_330.out; have hnc77 := NB330_323.out; obtain ⟨hcz78_0, hcz78_1, hcz78_2, hcz78_3, hcz78_4, hcz78_5, hcz78_6, hcz78_7, hcz78_8⟩ := cz9 BK323.out; obtain ⟨hcz79_0, hcz79_1, hcz79_2, hcz79_3⟩ := cz4 BK330.out; have hfz79_0 := Zkf BK330.out 0; have hfz79_1 := Zkf BK330.out 1; have hfz79_2 := Zkf BK330.out 2; have hfz79_3 := Zkf BK330.out 3; go_upto_if 91 with (fail); go_cut [5] (fun v5 wc => ∃ (kq : Nat) (x5_75 : Int), v5 = .int .i64 x5_75 ∧ Aside0 (spec_MethodRight.j1 kq (l0_7.length : Int) x5_75 a0_0 a0_1 a0_2 false a0_4 a0_5 a0_6 l0_7 l0_8 t324 t327 t328 t329 = some r) ∧ Aside0 (kq ≤ kj2) ∧ Aside0 (Kd.R Kd.string 9 wc w.heap.size (fun _ => True) (.slice Ao8 t324.length co8) t324) ∧ Aside0 (wc.heap[gb323]? = some (.cells #[.string a0_0, .string a0_1, .bool a0_2, .bool false, .bool a0_4, .int .i64 a0_5, .int .i64 a0_6, (.slice A0_7 l0_7.length c0_7), (.slice A0_8 l0_8.length c0_8)] 84 (0, 0))) ∧ Aside0 (wc.heap[gb330]? = some (.cells #[(.slice Ao8 t324.length co8), .string t327, .int .i64 t328, .int .i64 t329] 151 (0, 0))) ∧ Aside0 (Below w.heap.size w wc))
       case first =>
        have H := HC76.out; clear HC76; by_cases c80 : a0_2 = true; rotate_left
        · replace c80 := Bool.eq_false_iff.mpr c80; subst c80; rw [if_neg (show ¬ (false = true) by decide)] at H; have H' := Zm H; clear H; go_wp2; go_meet
          case rel => exact ⟨_, (wrap64 ((t324.length : Int) + 1)), (by first | rfl | (simp; done) | (simp [*]; done)), H', ⟨by have := HJ2.out; first | omega | exact Nat.le_refl _⟩, ⟨by (with_reducible repeat (first | apply Kd.R_alloc | apply Kd.R_drewN | apply Kd.R_drew)); exact HO_331000.out⟩, ⟨pk BK323.out⟩, ⟨pk BK330.out⟩, ⟨bk HB.out⟩⟩
        subst c80; rw [if_pos rfl] at H; have H' := Zm H; clear H; go_wp2; go_meet
        case rel => exact ⟨_, ((t324.length : Int)), (by first | rfl | (simp; done) | (simp [*]; done)), H', ⟨by have := HJ2.out; first | omega | exact Nat.le_refl _⟩, ⟨by (with_reducible repeat (first | apply Kd.R_alloc | apply Kd.R_drewN | apply Kd.R_drew)); exact HO_331000.out⟩, ⟨pk BK323.out⟩, ⟨pk BK330.out⟩, ⟨bk HB.out⟩⟩
       case rest =>
        clear HC76; (try clear c54); (try clear c55); (try clear hcz5_0); (try clear hcz5_1); (try clear hcz5_2); (try clear hcz5_3); (try clear hcz5_4); (try clear hcz5_5); (try clear hcz5_6); (try clear hcz5_7); (try clear hcz5_8); (try clear hcz78_0); (try clear hcz78_1); (try clear hcz78_2); (try clear hcz78_3); (try clear hcz78_4); (try clear hcz78_5); (try clear hcz78_6); (try clear hcz78_7); (try clear hcz78_8); (try clear hcz79_0); (try clear hcz79_1); (try clear hcz79_2); (try clear hcz79_3); (try clear hfz10_0); (try clear hfz10_1); (try clear hfz10_2); (try clear hfz10_3); (try clear hfz5_8); (try clear hfz79_0); (try clear hfz79_1); (try clear hfz79_2); (try clear hfz79_3); obtain ⟨kq, x5_75, rfl, HA, HJ75, HO_331000, BK323, BK330, HB⟩ := hcut
        cases kq with
        | zero => exact absurd HA.out (by simp [spec_MethodRight.j1])
        | succ kj75 =>
         have H := HA.out; clear HA; simp only [spec_MethodRight.j1] at H; have HC81 := Zm H; clear H; go_upto_region 10 with (fail); go_cut [111] (fun v111 wc => ∃ (kq : Nat) (x111_80 : Bool), v111 = .bool x111_80 ∧ Aside0 (spec_MethodRight.j2 kq (l0_7.length : Int) x111_80 a0_0 a0_1 a0_2 false a0_4 a0_5 a0_6 l0_7 l0_8 t324 t327 t328 t329 = some r) ∧ Aside0 (kq ≤ kj75) ∧ Aside0 (Kd.R Kd.string 9 wc w.heap.size (fun _ => True) (.slice Ao8 t324.length co8) t324) ∧ Aside0 (wc.heap[gb323]? = some (.cells #[.string a0_0, .string a0_1, .bool a0_2, .bool false, .bool a0_4, .int .i64 a0_5, .int .i64 a0_6, (.slice A0_7 l0_7.length c0_7), (.slice A0_8 l0_8.length c0_8)] 84 (0, 0))) ∧ Aside0 (wc.heap[gb330]? = some (.cells #[(.slice Ao8 t324.length co8), .string t327, .int .i64 t328, .int .i64 t329] 151 (0, 0))) ∧ Aside0 (Below w.heap.size w wc))
         case first =>
          have H := HC81.out; clear HC81; by_cases c82 : (l0_7.length : Int) < 1; rotate_left
          · rw [if_neg c82] at H; have c82b0 := decide_eq_false c82; have c82b1 : decide (l0_7.length < 1) = false := decide_eq_false (by omega); clear c82; (first | rw [c82b0] | (simp only [i64_w, i32_w]; rw [c82b0]) | skip); by_cases c83 : (l0_7.length : Int) > 60; rotate_left
            · rw [if_neg c83] at H; have c83b0 : decide (60 < (l0_7.length : Int)) = false := decide_eq_false c83; have c83b1 : decide (60 < l0_7.length) = false := decide_eq_false (by omega); clear c83; by_cases c84 : a0_6 < x5_75; rotate_left
              · rw [if_neg c84] at H; have c84b0 := decide_eq_false c84; clear c84; have H' := Zm H; clear H; have hnb87 := NB323_330.out; have hnc87 := NB330_323.out; obtain ⟨hcz88_0, hcz88_1, hcz88_2, hcz88_3, hcz88_4, hcz88_5, hcz88_6, hcz88_7, hcz88_8⟩ := cz9 BK323.out; go_wp2; go_meet
                case rel => exact ⟨_, (decide ((l0_8.length : Int) > 6)), (by first | rfl | (simp; done) | (simp [*]; done)), H', ⟨by have := HJ2.out; have := HJ75.out; first | omega | exact Nat.le_refl _⟩, ⟨by (with_reducible repeat (first | apply Kd.R_alloc | apply Kd.R_drewN | apply Kd.R_drew)); exact HO_331000.out⟩, ⟨pk BK323.out⟩, ⟨pk BK330.out⟩, ⟨bk HB.out⟩⟩
              rw [if_pos c84] at H; have c84b0 := decide_eq_true c84; clear c84; have H' := Zm H; clear H; have hnb85 := NB323_330.out; have hnc85 := NB330_323.out; obtain ⟨hcz86_0, hcz86_1, hcz86_2, hcz86_3, hcz86_4, hcz86_5, hcz86_6, hcz86_7, hcz86_8⟩ := cz9 BK323.out; go_wp2; go_meet
              case rel => exact ⟨_, (true), (by first | rfl | (simp; done) | (simp [*]; done)), H', ⟨by have := HJ2.out; have := HJ75.out; first | omega | exact Nat.le_refl _⟩, ⟨by (with_reducible repeat (first | apply Kd.R_alloc | apply Kd.R_drewN | apply Kd.R_drew)); exact HO_331000.out⟩, ⟨pk BK323.out⟩, ⟨pk BK330.out⟩, ⟨bk HB.out⟩⟩
            rw [if_pos c83] at H; have c83b0 : decide (60 < (l0_7.length : Int)) = true := decide_eq_true c83; have c83b1 : decide (60 < l0_7.length) = true := decide_eq_true (by omega); clear c83; have H' := Zm H; clear H; go_wp2; go_meet
            case rel => exact ⟨_, (true), (by first | rfl | (simp; done) | (simp [*]; done)), H', ⟨by have := HJ2.out; have := HJ75.out; first | omega | exact Nat.le_refl _⟩, ⟨by (with_reducible repeat (first | apply Kd.R_alloc | apply Kd.R_drewN | apply Kd.R_drew)); exact HO_331000.out⟩, ⟨pk BK323.out⟩, ⟨pk BK330.out⟩, ⟨bk HB.out⟩⟩
          rw [if_pos c82] at H; have c82b0 := decide_eq_true c82; have c82b1 : decide (l0_7.length < 1) = true := decide_eq_true (by omega); clear c82; (first | rw [c82b0] | (simp only [i64_w, i32_w]; rw [c82b0]) | skip); have H' := Zm H; clear H; go_wp2; go_meet
          case rel => exact ⟨_, (true), (by first | rfl | (simp; done) | (simp [*]; done)), H', ⟨by have := HJ2.out; have := HJ75.out; first | omega | exact Nat.le_refl _⟩, ⟨by (with_reducible repeat (first | apply Kd.R_alloc | apply Kd.R_drewN | apply Kd.R_drew)); exact HO_331000.out⟩, ⟨pk BK323.out⟩, ⟨pk BK330.out⟩, ⟨bk HB.out⟩⟩
         case rest =>
          clear HC81; (try clear c54); (try clear c55); (try clear hcz5_0); (try clear hcz5_1); (try clear hcz5_2); (try clear hcz5_3); (try clear hcz5_4); (try clear hcz5_5); (try clear hcz5_6); (try clear hcz5_7); (try clear hcz5_8); (try clear hcz78_0); (try clear hcz78_1); (try clear hcz78_2); (try clear hcz78_3); (try clear hcz78_4); (try clear hcz78_5); (try clear hcz78_6); (try clear hcz78_7); (try clear hcz78_8); (try clear hcz79_0); (try clear hcz79_1); (try clear hcz79_2); (try clear hcz79_3); (try clear hfz10_0); (try clear hfz10_1); (try clear hfz10_2); (try clear hfz10_3); (try clear hfz5_8); (try clear hfz79_0); (try clear hfz79_1); (try clear hfz79_2); (try clear hfz79_3); obtain ⟨kq, x111_80, rfl, HA, HJ80, HO_331000, BK323, BK330, HB⟩ := hcut
          cases kq with
          | zero => exact absurd HA.out (by simp [spec_MethodRight.j2])
          | succ kj80 =>
           have H := HA.out; clear HA; simp only [spec_MethodRight.j2] at H; by_cases c89 : x111_80 = true; rotate_left
           · replace c89 := Bool.eq_false_iff.mpr c89; subst c89; rw [if_neg (show ¬ (false = true) by decide)] at H; have H' := Zm H; clear H; go_wp2; go_loopg [6] kj80 (fun kq v6 w' => ∃ (x6_4 : Int), v6 = .int .i64 x6_4 ∧ Aside0 (spec_MethodRight.l0 kq (l0_7.length : Int) x6_4 a0_0 a0_1 a0_2 false a0_4 a0_5 a0_6 l0_7 l0_8 t324 t327 t328 t329 = some r) ∧ Aside0 (kq ≤ kj80) ∧ Aside0 (Kd.R Kd.string 9 w' w.heap.size (fun _ => True) (.slice Ao8 t324.length co8) t324) ∧ Aside0 (w'.heap[gb323]? = some (.cells #[.string a0_0, .string a0_1, .bool a0_2, .bool false, .bool a0_4, .int .i64 a0_5, .int .i64 a0_6, (.slice A0_7 l0_7.length c0_7), (.slice A0_8 l0_8.length c0_8)] 84 (0, 0))) ∧ Aside0 (w'.heap[gb330]? = some (.cells #[(.slice Ao8 t324.length co8), .string t327, .int .i64 t328, .int .i64 t329] 151 (0, 0))) ∧ Aside0 (Below w.heap.size w w'))
             case atStart => exact ⟨(0), (by first | rfl | (simp; done) | (simp [*]; done)), H', ⟨Nat.le_refl _⟩, ⟨by (with_reducible repeat (first | apply Kd.R_alloc | apply Kd.R_drewN | apply Kd.R_drew)); exact HO_331000.out⟩, ⟨pk BK323.out⟩, ⟨pk BK330.out⟩, ⟨bk HB.out⟩⟩
             case round =>
              clear H'; (try clear c54); (try clear c55); (try clear c89); (try clear hcz5_0); (try clear hcz5_1); (try clear hcz5_2); (try clear hcz5_3); (try clear hcz5_4); (try clear hcz5_5); (try clear hcz5_6); (try clear hcz5_7); (try clear hcz5_8); (try clear hcz78_0); (try clear hcz78_1); (try clear hcz78_2); (try clear hcz78_3); (try clear hcz78_4); (try clear hcz78_5); (try clear hcz78_6); (try clear hcz78_7); (try clear hcz78_8); (try clear hcz79_0); (try clear hcz79_1); (try clear hcz79_2); (try clear hcz79_3); (try clear hfz10_0); (try clear hfz10_1); (try clear hfz10_2); (try clear hfz10_3); (try clear hfz5_8); (try clear hfz79_0); (try clear hfz79_1); (try clear hfz79_2); (try clear hfz79_3); obtain ⟨x6_4, rfl, HA, HK4, HO_331000, BK323, BK330, HB⟩ := hrel
              cases gk with
              | zero => exact absurd HA.out (by simp [spec_MethodRight.l0])
              | succ k4 =>
               have H := HA.out; clear HA; simp only [spec_MethodRight.l0] at H; by_cases c90 : x6_4 < (l0_7.length : Int); rotate_left
               · rw [if_neg c90] at H; have c90b0 := decide_eq_false c90; clear c90; have H' := Zm H; clear H; have hnb112 := NB323_330.out; have hnc112 := NB330_323.out; obtain ⟨hcz113_0, hcz113_1, hcz113_2, hcz113_3, hcz113_4, hcz113_5, hcz113_6, hcz113_7, hcz113_8⟩ := cz9 BK323.out; go_wp2; go_loopg [7] k4 (fun kq v7 w' => ∃ (x7_5 : Int), v7 = .int .i64 x7_5 ∧ Aside0 (spec_MethodRight.l1 kq (l0_7.length : Int) x7_5 a0_0 a0_1 a0_2 false a0_4 a0_5 a0_6 l0_7 l0_8 t324 t327 t328 t329 = some r) ∧ Aside0 (kq ≤ k4) ∧ Aside0 (Kd.R Kd.string 9 w' w.heap.size (fun _ => True) (.slice Ao8 t324.length co8) t324) ∧ Aside0 (w'.heap[gb323]? = some (.cells #[.string a0_0, .string a0_1, .bool a0_2, .bool false, .bool a0_4, .int .i64 a0_5, .int .i64 a0_6, (.slice A0_7 l0_7.length c0_7), (.slice A0_8 l0_8.length c0_8)] 84 (0, 0))) ∧ Aside0 (w'.heap[gb330]? = some (.cells #[(.slice Ao8 t324.length co8), .string t327, .int .i64 t328, .int .i64 t329] 151 (0, 0))) ∧ Aside0 (Below w.heap.size w w'))
                 case atStart => exact ⟨(0), (by first | rfl | (simp; done) | (simp [*]; done)), H', ⟨Nat.le_refl _⟩, ⟨by (with_reducible repeat (first | apply Kd.R_alloc | apply Kd.R_drewN | apply Kd.R_drew)); exact HO_331000.out⟩, ⟨pk BK323.out⟩, ⟨pk BK330.out⟩, ⟨bk HB.out⟩⟩
                 case round =>
                  clear H'; (try clear c90); (try clear c90b0); (try clear hcz113_0); (try clear hcz113_1); (try clear hcz113_2); (try clear hcz113_3); (try clear hcz113_4); (try clear hcz113_5); (try clear hcz113_6); (try clear hcz113_7); (try clear hcz113_8); (try clear hcz5_0); (try clear hcz5_1); (try clear hcz5_2); (try clear hcz5_3); (try clear hcz5_4); (try clear hcz5_5); (try clear hcz5_6); (try clear hcz5_7); (try clear hcz5_8); (try clear hcz78_0); (try clear hcz78_1); (try clear hcz78_2); (try clear hcz78_3); (try clear hcz78_4); (try clear hcz78_5); (try clear hcz78_6); (try clear hcz78_7); (try clear hcz78_8); (try clear hcz79_0); (try clear hcz79_1); (try clear hcz79_2); (try clear hcz79_3); (try clear hfz10_0); (try clear hfz10_1); (try clear hfz10_2); (try clear hfz10_3); (try clear hfz5_8); (try clear hfz79_0); (try clear hfz79_1); (try clear hfz79_2); (try clear hfz79_3); obtain ⟨x7_5, rfl, HA, HK5, HO_331000, BK323, BK330, HB⟩ := hrel
                  cases gk with
                  | zero => exact absurd HA.out (by simp [spec_MethodRight.l1])
                  | succ k5 =>
                   have H := HA.out; clear HA; simp only [spec_MethodRight.l1] at H; by_cases c114 : x7_5 < (l0_8.length : Int); rotate_left
                   · rw [if_neg c114] at H; have c114b0 := decide_eq_false c114; clear c114; by_cases c122 : a0_0.toList = ([60, 105, 110, 105, 116, 62] : List UInt8); rotate_left
                     · rw [if_neg c122] at H; have c122b0 : (a0_0.toList == ([60, 105, 110, 105, 116, 62] : List UInt8)) = false := beq_eq_false_iff_ne.mpr c122; have c122b1 : (a0_0.toList != ([60, 105, 110, 105, 116, 62] : List UInt8)) = true := bne_iff_ne.mpr c122; obtain rfl := Option.some.inj H; have hnb132 := NB323_330.out; have hnc132 := NB330_323.out; obtain ⟨hcz133_0, hcz133_1, hcz133_2, hcz133_3, hcz133_4, hcz133_5, hcz133_6, hcz133_7, hcz133_8⟩ := cz9 BK323.out; go_wp2; go_ret; exact fin_ HB

                     rw [if_pos c122] at H
                     have c122b0 : (a0_0.toList == ([60, 105, 110, 105, 116, 62] : List UInt8)) = true := beq_iff_eq.mpr c122
                     have c122b1 : (a0_0.toList != ([60, 105, 110, 105, 116, 62] : List UInt8)) = false := bne_eq_false_iff_eq.mpr c122
                     clear c122
                     by_cases c123 : a0_2 = true
                     rotate_left
                     · replace c123 := Bool.eq_false_iff.mpr c123
                       subst c123
                       rw [if_neg (show ¬ (false = true) by decide)] at H
                       by_cases c126 : a0_4 = true
                       rotate_left
                       · replace c126 := Bool.eq_false_iff.mpr c126
                         subst c126
                         rw [if_neg (show ¬ (false = true) by decide)] at H
                         obtain rfl := Option.some.inj H
                         have hnb129 := NB323_330.out
                         have hnc129 := NB330_323.out
                         obtain ⟨hcz130_0, hcz130_1, hcz130_2, hcz130_3, hcz130_4, hcz130_5, hcz130_6, hcz130_7, hcz130_8⟩ := cz9 BK323.out
                         obtain ⟨hcz131_0, hcz131_1, hcz131_2, hcz131_3⟩ := cz4 BK330.out
                         have hfz131_0 := Zkf BK330.out 0
                         have hfz131_1 := Zkf BK330.out 1
                         have hfz131_2 := Zkf BK330.out 2
                         have hfz131_3 := Zkf BK330.out 3
                         go_wp2
                         go_ret
                         exact fin_ HB
                       subst c126
                       rw [if_pos rfl] at H
                       obtain rfl := Option.some.inj H
                       have hnb127 := NB323_330.out
                       have hnc127 := NB330_323.out
                       obtain ⟨hcz128_0, hcz128_1, hcz128_2, hcz128_3, hcz128_4, hcz128_5, hcz128_6, hcz128_7, hcz128_8⟩ := cz9 BK323.out
                       go_wp2
                       go_ret
                       exact fin_ HB
                     subst c123
                     rw [if_pos rfl] at H
                     obtain rfl := Option.some.inj H
                     have hnb124 := NB323_330.out
                     have hnc124 := NB330_323.out
                     obtain ⟨hcz125_0, hcz125_1, hcz125_2, hcz125_3, hcz125_4, hcz125_5, hcz125_6, hcz125_7, hcz125_8⟩ := cz9 BK323.out
                     go_wp2
                     go_ret
                     exact fin_ HB
                   rw [if_pos c114] at H
                   have c114b0 := decide_eq_true c114
                   clear c114
                   by_cases c115 : 0 ≤ x7_5
                   rotate_left
                   · rw [if_neg c115] at H
                     exact absurd H (by simp)
                   rw [if_pos c115] at H
                   have c115b0 := decide_eq_true c115
                   clear c115
                   replace H := Option.bind_eq_some_iff.mp H
                   obtain ⟨t338, A1160, H⟩ := H
                   (try dsimp only at H)
                   have A116 := Zm A1160
                   clear A1160
                   have HC117 := Zm H
                   clear H
                   have hnb118 := NB323_330.out
                   have hnc118 := NB330_323.out
                   obtain ⟨hcz119_0, hcz119_1, hcz119_2, hcz119_3, hcz119_4, hcz119_5, hcz119_6, hcz119_7, hcz119_8⟩ := cz9 BK323.out
                   have p337 : 0 ≤ (x7_5 : Int) := of_decide_eq_true (by first | (with_reducible assumption) | assumption)
                   have q337 : x7_5 < (l0_8.length : Int) := of_decide_eq_true (by first | (with_reducible assumption) | assumption)
                   obtain ⟨ad337, e337, hx337_0, hx337_1, hx337_2, hx337_3⟩ := at_T160 HR0_8.out x7_5 p337 q337
                   cases e337
                   replace hx337_0 := hx_ HB hx337_0 (Zlt _ _ hx337_0)
                   replace hx337_1 := hx_ HB hx337_1 (Zlt _ _ hx337_1)
                   replace hx337_2 := hx_ HB hx337_2 (Zlt _ _ hx337_2)
                   replace hx337_3 := hx_ HB hx337_3 (Zlt _ _ hx337_3)
                   replace p337 := eq_true p337
                   replace q337 := eq_true q337
                   go_upto_if 160 with (first | ((with_reducible refine gate_callee (f := 100) rfl ?_); refine ge_ (some 159) Try.func100 #[.agg #[.int .i64 ((rd_T160 l0_8 x7_5).f0), .int .i64 ((rd_T160 l0_8 x7_5).f1), .int .i64 ((rd_T160 l0_8 x7_5).f2), .string ((rd_T160 l0_8 x7_5).f3)], .int .i64 (l0_7.length : Int)] ?_; (with_reducible refine (spec_l03Handler.calls _ _ _ _ _ _ _ _ A116.out).mono ?_); rintro e w120 ⟨rfl, hb⟩; refine ⟨_, rfl, ?_⟩; have n0_ := (⟨Zm (Kd.R_below (by (with_reducible repeat (first | apply Kd.R_alloc | apply Kd.R_drewN | apply Kd.R_drew)); exact HO_331000.out) hb), Zm (Zkb (pk BK323.out) hb), Zm (Zkb (pk BK330.out) hb), Zm (Zbt (bk HB.out) hb)⟩ : _ ∧ _ ∧ _ ∧ _); clear HO_331000 BK323 BK330 HB; obtain ⟨HO_331000, BK323, BK330, HB⟩ := n0_; (try clear hb); (try clear hb2); (try clear hk); (try clear hi)))
                   have H := HC117.out
                   clear HC117
                   by_cases c121 : t338 = true
                   rotate_left
                   · replace c121 := Bool.eq_false_iff.mpr c121
                     subst c121
                     rw [if_neg (show ¬ (false = true) by decide)] at H
                     obtain rfl := Option.some.inj H
                     go_wp2
                     go_ret
                     exact fin_ HB
                   subst c121
                   rw [if_pos rfl] at H
                   have H' := Zm H
                   clear H
                   go_wp2
                   go_roundg k5
                   case measure => have := HJ2.out; have := HJ75.out; have := HJ80.out; have := HK4.out; have := HK5.out; omega
                   case rel => exact ⟨(wrap64 (x7_5 + 1)), (by first | rfl | (simp; done) | (simp [*]; done)), H', ⟨by have := HJ2.out; have := HJ75.out; have := HJ80.out; have := HK4.out; have := HK5.out; omega⟩, ⟨by (with_reducible repeat (first | apply Kd.R_alloc | apply Kd.R_drewN | apply Kd.R_drew)); exact HO_331000.out⟩, ⟨pk BK323.out⟩, ⟨pk BK330.out⟩, ⟨bk HB.out⟩⟩
               rw [if_pos c90] at H
               have c90b0 := decide_eq_true c90
               clear c90
               by_cases c91 : 0 ≤ x6_4
               rotate_left
               · rw [if_neg c91] at H
                 exact absurd H (by simp)
               rw [if_pos c91] at H
               have c91b0 := decide_eq_true c91
               clear c91
               replace H := Option.bind_eq_some_iff.mp H
               obtain ⟨t333, A920, H⟩ := H
               (try dsimp only at H)
               have A92 := Zm A920
               clear A920
               by_cases c93 : t333 = true
               rotate_left
               · replace c93 := Bool.eq_false_iff.mpr c93
                 subst c93
                 rw [if_neg (show ¬ (false = true) by decide)] at H
                 obtain rfl := Option.some.inj H
                 have hnb109 := NB323_330.out
                 have hnc109 := NB330_323.out
                 obtain ⟨hcz110_0, hcz110_1, hcz110_2, hcz110_3, hcz110_4, hcz110_5, hcz110_6, hcz110_7, hcz110_8⟩ := cz9 BK323.out
                 have p332 : 0 ≤ (x6_4 : Int) := of_decide_eq_true (by first | (with_reducible assumption) | assumption)
                 have q332 : x6_4 < (l0_7.length : Int) := of_decide_eq_true (by first | (with_reducible assumption) | assumption)
                 obtain ⟨ad332, e332, hx332_0, hx332_1, hx332_2, hx332_3, hx332_4⟩ := at_T156 HR0_7.out x6_4 p332 q332
                 cases e332
                 replace hx332_0 := hx_ HB hx332_0 (Zlt _ _ hx332_0)
                 replace hx332_1 := hx_ HB hx332_1 (Zlt _ _ hx332_1)
                 replace hx332_2 := hx_ HB hx332_2 (Zlt _ _ hx332_2)
                 replace hx332_3 := hx_ HB hx332_3 (Zlt _ _ hx332_3)
                 replace hx332_4 := hx_ HB hx332_4 (Zlt _ _ hx332_4)
                 replace p332 := eq_true p332
                 replace q332 := eq_true q332
                 (try clear HO_331000)
                 (try clear BK323)
                 (try clear BK330)
                 go_wp2_with (first | ((with_reducible refine gate_callee (f := 98) rfl ?_); refine ge_ (some 124) Try.func98 #[.agg #[.int .i64 ((rd_T156 l0_7 x6_4).f0), .int .i64 ((rd_T156 l0_7 x6_4).f1), .string ((rd_T156 l0_7 x6_4).f2), .string ((rd_T156 l0_7 x6_4).f3), .string ((rd_T156 l0_7 x6_4).f4)]] ?_; (with_reducible refine (spec_InsRight.calls _ _ _ _ _ _ _ _ A92.out).mono ?_); rintro e w111 ⟨rfl, hb⟩; refine ⟨_, rfl, ?_⟩; have n0_ := Zm (Zbt (bk HB.out) hb); clear HB; have HB := n0_; clear n0_; (try clear hb); (try clear hb2); (try clear hk); (try clear hi)))
                 go_ret
                 exact fin_ HB
               subst c93
               rw [if_pos rfl] at H
               replace H := Option.bind_eq_some_iff.mp H
               obtain ⟨t335, A940, H⟩ := H
               (try dsimp only at H)
               have A94 := Zm A940
               clear A940
               by_cases c95 : t335.toList = ([116] : List UInt8)
               rotate_left
               · rw [if_neg c95] at H
                 have c95b0 : (t335.toList == ([116] : List UInt8)) = false := beq_eq_false_iff_ne.mpr c95
                 have c95b1 : (t335.toList != ([116] : List UInt8)) = true := bne_iff_ne.mpr c95
                 have H' := Zm H
                 clear H
                 have hnb104 := NB323_330.out
                 have hnc104 := NB330_323.out
                 obtain ⟨hcz105_0, hcz105_1, hcz105_2, hcz105_3, hcz105_4, hcz105_5, hcz105_6, hcz105_7, hcz105_8⟩ := cz9 BK323.out
                 have p332 : 0 ≤ (x6_4 : Int) := of_decide_eq_true (by first | (with_reducible assumption) | assumption)
                 have q332 : x6_4 < (l0_7.length : Int) := of_decide_eq_true (by first | (with_reducible assumption) | assumption)
                 obtain ⟨ad332, e332, hx332_0, hx332_1, hx332_2, hx332_3, hx332_4⟩ := at_T156 HR0_7.out x6_4 p332 q332
                 cases e332
                 replace hx332_0 := hx_ HB hx332_0 (Zlt _ _ hx332_0)
                 replace hx332_1 := hx_ HB hx332_1 (Zlt _ _ hx332_1)
                 replace hx332_2 := hx_ HB hx332_2 (Zlt _ _ hx332_2)
                 replace hx332_3 := hx_ HB hx332_3 (Zlt _ _ hx332_3)
                 replace hx332_4 := hx_ HB hx332_4 (Zlt _ _ hx332_4)
                 replace p332 := eq_true p332
                 replace q332 := eq_true q332
                 go_wp2_with (first | ((with_reducible refine gate_callee (f := 98) rfl ?_); refine ge_ (some 124) Try.func98 #[.agg #[.int .i64 ((rd_T156 l0_7 x6_4).f0), .int .i64 ((rd_T156 l0_7 x6_4).f1), .string ((rd_T156 l0_7 x6_4).f2), .string ((rd_T156 l0_7 x6_4).f3), .string ((rd_T156 l0_7 x6_4).f4)]] ?_; (with_reducible refine (spec_InsRight.calls _ _ _ _ _ _ _ _ A92.out).mono ?_); rintro e w106 ⟨rfl, hb⟩; refine ⟨_, rfl, ?_⟩; have n0_ := (⟨Zm (Kd.R_below (by (with_reducible repeat (first | apply Kd.R_alloc | apply Kd.R_drewN | apply Kd.R_drew)); exact HO_331000.out) hb), Zm (Zkb (pk BK323.out) hb), Zm (Zkb (pk BK330.out) hb), Zm (Zbt (bk HB.out) hb)⟩ : _ ∧ _ ∧ _ ∧ _); clear HO_331000 BK323 BK330 HB; obtain ⟨HO_331000, BK323, BK330, HB⟩ := n0_; (try clear hb); (try clear hb2); (try clear hk); (try clear hi); obtain ⟨hcz107_0, hcz107_1, hcz107_2, hcz107_3, hcz107_4, hcz107_5, hcz107_6, hcz107_7, hcz107_8⟩ := cz9 BK323.out; have p334 : 0 ≤ (x6_4 : Int) := of_decide_eq_true (by first | (with_reducible assumption) | assumption); have q334 : x6_4 < (l0_7.length : Int) := of_decide_eq_true (by first | (with_reducible assumption) | assumption); obtain ⟨ad334, e334, hx334_0, hx334_1, hx334_2, hx334_3, hx334_4⟩ := at_T156 HR0_7.out x6_4 p334 q334; obtain rfl : ad332 = ad334 := (by injection e334); replace hx334_0 := hx_ HB hx334_0 (Zlt _ _ hx334_0); replace hx334_1 := hx_ HB hx334_1 (Zlt _ _ hx334_1); replace hx334_2 := hx_ HB hx334_2 (Zlt _ _ hx334_2); replace hx334_3 := hx_ HB hx334_3 (Zlt _ _ hx334_3); replace hx334_4 := hx_ HB hx334_4 (Zlt _ _ hx334_4); replace p334 := eq_true p334; replace q334 := eq_true q334) | (go_at_call 99; (first | (with_reducible refine (spec_OpForm.calls _ _ _ _ A94.out).mono ?_) | (with_reducible refine (calls_of_args ?_ (spec_OpForm.calls _ _ _ _ A94.out)).mono ?_; focus (simp [*]; done))); rintro e w108 ⟨rfl, hb⟩; have n0_ := (⟨Zm (Kd.R_below (by (with_reducible repeat (first | apply Kd.R_alloc | apply Kd.R_drewN | apply Kd.R_drew)); exact HO_331000.out) hb), Zm (Zkb (pk BK323.out) hb), Zm (Zkb (pk BK330.out) hb), Zm (Zbt (bk HB.out) hb)⟩ : _ ∧ _ ∧ _ ∧ _); clear HO_331000 BK323 BK330 HB; obtain ⟨HO_331000, BK323, BK330, HB⟩ := n0_; (try clear hb); (try clear hb2); (try clear hk); (try clear hi)))
                 go_roundg k4
                 case measure => have := HJ2.out; have := HJ75.out; have := HJ80.out; have := HK4.out; omega
                 case rel => exact ⟨(wrap64 (x6_4 + 1)), (by first | rfl | (simp; done) | (simp [*]; done)), H', ⟨by have := HJ2.out; have := HJ75.out; have := HJ80.out; have := HK4.out; omega⟩, ⟨by (with_reducible repeat (first | apply Kd.R_alloc | apply Kd.R_drewN | apply Kd.R_drew)); exact HO_331000.out⟩, ⟨pk BK323.out⟩, ⟨pk BK330.out⟩, ⟨bk HB.out⟩⟩
               rw [if_pos c95] at H
               have c95b0 : (t335.toList == ([116] : List UInt8)) = true := beq_iff_eq.mpr c95
               have c95b1 : (t335.toList != ([116] : List UInt8)) = false := bne_eq_false_iff_eq.mpr c95
               clear c95
               have HC96 := Zm H
               clear H
               have hnb97 := NB323_330.out
               have hnc97 := NB330_323.out
               obtain ⟨hcz98_0, hcz98_1, hcz98_2, hcz98_3, hcz98_4, hcz98_5, hcz98_6, hcz98_7, hcz98_8⟩ := cz9 BK323.out
               have p332 : 0 ≤ (x6_4 : Int) := of_decide_eq_true (by first | (with_reducible assumption) | assumption)
               have q332 : x6_4 < (l0_7.length : Int) := of_decide_eq_true (by first | (with_reducible assumption) | assumption)
               obtain ⟨ad332, e332, hx332_0, hx332_1, hx332_2, hx332_3, hx332_4⟩ := at_T156 HR0_7.out x6_4 p332 q332
               cases e332
               replace hx332_0 := hx_ HB hx332_0 (Zlt _ _ hx332_0)
               replace hx332_1 := hx_ HB hx332_1 (Zlt _ _ hx332_1)
               replace hx332_2 := hx_ HB hx332_2 (Zlt _ _ hx332_2)
               replace hx332_3 := hx_ HB hx332_3 (Zlt _ _ hx332_3)
               replace hx332_4 := hx_ HB hx332_4 (Zlt _ _ hx332_4)
               replace p332 := eq_true p332
               replace q332 := eq_true q332
               go_upto_if 145 with (first | ((with_reducible refine gate_callee (f := 98) rfl ?_); refine ge_ (some 124) Try.func98 #[.agg #[.int .i64 ((rd_T156 l0_7 x6_4).f0), .int .i64 ((rd_T156 l0_7 x6_4).f1), .string ((rd_T156 l0_7 x6_4).f2), .string ((rd_T156 l0_7 x6_4).f3), .string ((rd_T156 l0_7 x6_4).f4)]] ?_; (with_reducible refine (spec_InsRight.calls _ _ _ _ _ _ _ _ A92.out).mono ?_); rintro e w99 ⟨rfl, hb⟩; refine ⟨_, rfl, ?_⟩; have n0_ := (⟨Zm (Kd.R_below (by (with_reducible repeat (first | apply Kd.R_alloc | apply Kd.R_drewN | apply Kd.R_drew)); exact HO_331000.out) hb), Zm (Zkb (pk BK323.out) hb), Zm (Zkb (pk BK330.out) hb), Zm (Zbt (bk HB.out) hb)⟩ : _ ∧ _ ∧ _ ∧ _); clear HO_331000 BK323 BK330 HB; obtain ⟨HO_331000, BK323, BK330, HB⟩ := n0_; (try clear hb); (try clear hb2); (try clear hk); (try clear hi); obtain ⟨hcz100_0, hcz100_1, hcz100_2, hcz100_3, hcz100_4, hcz100_5, hcz100_6, hcz100_7, hcz100_8⟩ := cz9 BK323.out; have p334 : 0 ≤ (x6_4 : Int) := of_decide_eq_true (by first | (with_reducible assumption) | assumption); have q334 : x6_4 < (l0_7.length : Int) := of_decide_eq_true (by first | (with_reducible assumption) | assumption); obtain ⟨ad334, e334, hx334_0, hx334_1, hx334_2, hx334_3, hx334_4⟩ := at_T156 HR0_7.out x6_4 p334 q334; obtain rfl : ad332 = ad334 := (by injection e334); replace hx334_0 := hx_ HB hx334_0 (Zlt _ _ hx334_0); replace hx334_1 := hx_ HB hx334_1 (Zlt _ _ hx334_1); replace hx334_2 := hx_ HB hx334_2 (Zlt _ _ hx334_2); replace hx334_3 := hx_ HB hx334_3 (Zlt _ _ hx334_3); replace hx334_4 := hx_ HB hx334_4 (Zlt _ _ hx334_4); replace p334 := eq_true p334; replace q334 := eq_true q334) | (go_at_call 99; (first | (with_reducible refine (spec_OpForm.calls _ _ _ _ A94.out).mono ?_) | (with_reducible refine (calls_of_args ?_ (spec_OpForm.calls _ _ _ _ A94.out)).mono ?_; focus (simp [*]; done))); rintro e w101 ⟨rfl, hb⟩; have n0_ := (⟨Zm (Kd.R_below (by (with_reducible repeat (first | apply Kd.R_alloc | apply Kd.R_drewN | apply Kd.R_drew)); exact HO_331000.out) hb), Zm (Zkb (pk BK323.out) hb), Zm (Zkb (pk BK330.out) hb), Zm (Zbt (bk HB.out) hb)⟩ : _ ∧ _ ∧ _ ∧ _); clear HO_331000 BK323 BK330 HB; obtain ⟨HO_331000, BK323, BK330, HB⟩ := n0_; (try clear hb); (try clear hb2); (try clear hk); (try clear hi); obtain ⟨hcz102_0, hcz102_1, hcz102_2, hcz102_3, hcz102_4, hcz102_5, hcz102_6, hcz102_7, hcz102_8⟩ := cz9 BK323.out; have p336 : 0 ≤ (x6_4 : Int) := of_decide_eq_true (by first | (with_reducible assumption) | assumption); have q336 : x6_4 < (l0_7.length : Int) := of_decide_eq_true (by first | (with_reducible assumption) | assumption); obtain ⟨ad336, e336, hx336_0, hx336_1, hx336_2, hx336_3, hx336_4⟩ := at_T156 HR0_7.out x6_4 p336 q336; obtain rfl : ad332 = ad336 := (by injection e336); replace hx336_0 := hx_ HB hx336_0 (Zlt _ _ hx336_0); replace hx336_1 := hx_ HB hx336_1 (Zlt _ _ hx336_1); replace hx336_2 := hx_ HB hx336_2 (Zlt _ _ hx336_2); replace hx336_3 := hx_ HB hx336_3 (Zlt _ _ hx336_3); replace hx336_4 := hx_ HB hx336_4 (Zlt _ _ hx336_4); replace p336 := eq_true p336; replace q336 := eq_true q336))
               have H := HC96.out
               clear HC96
               by_cases c103 : ((rd_T156 l0_7 x6_4).f1) ≥ (l0_7.length : Int)
               rotate_left
               · rw [if_neg c103] at H
                 have c103b0 : decide ((l0_7.length : Int) ≤ ((rd_T156 l0_7 x6_4).f1)) = false := decide_eq_false c103
                 clear c103
                 (first | rw [c103b0] | (simp only [i64_w, i32_w]; rw [c103b0]) | skip)
                 have H' := Zm H
                 clear H
                 go_wp2
                 go_roundg k4
                 case measure => have := HJ2.out; have := HJ75.out; have := HJ80.out; have := HK4.out; omega
                 case rel => exact ⟨(wrap64 (x6_4 + 1)), (by first | rfl | (simp; done) | (simp [*]; done)), H', ⟨by have := HJ2.out; have := HJ75.out; have := HJ80.out; have := HK4.out; omega⟩, ⟨by (with_reducible repeat (first | apply Kd.R_alloc | apply Kd.R_drewN | apply Kd.R_drew)); exact HO_331000.out⟩, ⟨pk BK323.out⟩, ⟨pk BK330.out⟩, ⟨bk HB.out⟩⟩
               rw [if_pos c103] at H
               have c103b0 : decide ((l0_7.length : Int) ≤ ((rd_T156 l0_7 x6_4).f1)) = true := decide_eq_true c103
               clear c103
               (first | rw [c103b0] | (simp only [i64_w, i32_w]; rw [c103b0]) | skip)
               obtain rfl := Option.some.inj H
               go_wp2
               go_ret
               exact fin_ HB
           subst c89
           rw [if_pos rfl] at H
           obtain rfl := Option.some.inj H
           go_wp2
           go_ret
           exact fin_ HB
     subst c55
     rw [if_pos rfl] at H
     by_cases c56 : a0_5 = 0
     rotate_left
     · rw [if_neg c56] at H
       have c56b0 : (a0_5 == 0) = false := beq_eq_false_iff_ne.mpr c56
       have c56b1 : (a0_5 != 0) = true := bne_iff_ne.mpr c56
       obtain rfl := Option.some.inj H
       have hnb74 := NB323_330.out
       have hnc74 := NB330_323.out
       obtain ⟨hcz75_0, hcz75_1, hcz75_2, hcz75_3, hcz75_4, hcz75_5, hcz75_6, hcz75_7, hcz75_8⟩ := cz9 BK323.out
       go_wp2
       go_ret
       exact fin_ HB
     rw [if_pos c56] at H
     have c56b0 : (a0_5 == 0) = true := beq_iff_eq.mpr c56
     have c56b1 : (a0_5 != 0) = false := bne_eq_false_iff_eq.mpr c56
     clear c56
     by_cases c57 : a0_6 = 0
     rotate_left
     · rw [if_neg c57] at H
       have c57b0 : (a0_6 == 0) = false := beq_eq_false_iff_ne.mpr c57
       have c57b1 : (a0_6 != 0) = true := bne_iff_ne.mpr c57
       obtain rfl := Option.some.inj H
       have hnb72 := NB323_330.out
       have hnc72 := NB330_323.out
       obtain ⟨hcz73_0, hcz73_1, hcz73_2, hcz73_3, hcz73_4, hcz73_5, hcz73_6, hcz73_7, hcz73_8⟩ := cz9 BK323.out
       go_wp2
       go_ret
       exact fin_ HB
     rw [if_pos c57] at H
     have c57b0 : (a0_6 == 0) = true := beq_iff_eq.mpr c57
     have c57b1 : (a0_6 != 0) = false := bne_eq_false_iff_eq.mpr c57
     clear c57
     by_cases c58 : (l0_7.length : Int) = 0
     rotate_left
     · rw [if_neg c58] at H
       have c58b0 : ((l0_7.length : Int) == 0) = false := beq_eq_false_iff_ne.mpr c58
       have c58b1 : ((l0_7.length : Int) != 0) = true := bne_iff_ne.mpr c58
       have c58b2 : ¬ (l0_7 = []) := fun h_ => c58 (by rw [h_]; rfl)
       obtain rfl := Option.some.inj H
       have hnb70 := NB323_330.out
       have hnc70 := NB330_323.out
       obtain ⟨hcz71_0, hcz71_1, hcz71_2, hcz71_3, hcz71_4, hcz71_5, hcz71_6, hcz71_7, hcz71_8⟩ := cz9 BK323.out
       go_wp2
       go_ret
       exact fin_ HB
     rw [if_pos c58] at H
     have c58b0 : ((l0_7.length : Int) == 0) = true := beq_iff_eq.mpr c58
     have c58b1 : ((l0_7.length : Int) != 0) = false := bne_eq_false_iff_eq.mpr c58
     clear c58
     by_cases c59 : (l0_8.length : Int) = 0
     rotate_left
     · rw [if_neg c59] at H
       have c59b0 : ((l0_8.length : Int) == 0) = false := beq_eq_false_iff_ne.mpr c59
       have c59b1 : ((l0_8.length : Int) != 0) = true := bne_iff_ne.mpr c59
       have c59b2 : ¬ (l0_8 = []) := fun h_ => c59 (by rw [h_]; rfl)
       obtain rfl := Option.some.inj H
       have hnb68 := NB323_330.out
       have hnc68 := NB330_323.out
       obtain ⟨hcz69_0, hcz69_1, hcz69_2, hcz69_3, hcz69_4, hcz69_5, hcz69_6, hcz69_7, hcz69_8⟩ := cz9 BK323.out
       go_wp2
       go_ret
       exact fin_ HB
     rw [if_pos c59] at H
     have c59b0 : ((l0_8.length : Int) == 0) = true := beq_iff_eq.mpr c59
     have c59b1 : ((l0_8.length : Int) != 0) = false := bne_eq_false_iff_eq.mpr c59
     clear c59
     by_cases c60 : a0_2 = true
     rotate_left
     · replace c60 := Bool.eq_false_iff.mpr c60
       subst c60
       rw [if_neg (show ¬ (false = true) by decide)] at H
       by_cases c63 : a0_4 = true
       rotate_left
       · replace c63 := Bool.eq_false_iff.mpr c63
         subst c63
         rw [if_neg (show ¬ (false = true) by decide)] at H
         obtain rfl := Option.some.inj H
         have hnb66 := NB323_330.out
         have hnc66 := NB330_323.out
         obtain ⟨hcz67_0, hcz67_1, hcz67_2, hcz67_3, hcz67_4, hcz67_5, hcz67_6, hcz67_7, hcz67_8⟩ := cz9 BK323.out
         go_wp2
         go_ret
         exact fin_ HB
       subst c63
       rw [if_pos rfl] at H
       obtain rfl := Option.some.inj H
       have hnb64 := NB323_330.out
       have hnc64 := NB330_323.out
       obtain ⟨hcz65_0, hcz65_1, hcz65_2, hcz65_3, hcz65_4, hcz65_5, hcz65_6, hcz65_7, hcz65_8⟩ := cz9 BK323.out
       go_wp2
       go_ret
       exact fin_ HB
     subst c60
     rw [if_pos rfl] at H
     obtain rfl := Option.some.inj H
     have hnb61 := NB323_330.out
     have hnc61 := NB330_323.out
     obtain ⟨hcz62_0, hcz62_1, hcz62_2, hcz62_3, hcz62_4, hcz62_5, hcz62_6, hcz62_7, hcz62_8⟩ := cz9 BK323.out
     go_wp2
     go_ret
     exact fin_ HB
   subst c54
   rw [if_pos rfl] at H
   obtain rfl := Option.some.inj H
   go_wp2
   go_ret
   exact fin_ HB
end Go.Proofs.Ytlflbmbcjjegaaa.PFnExactClassRight
