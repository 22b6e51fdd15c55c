/- Functions of the program as plain Lean functions, each with a proof that the program's call comes to the same; no condition. Written by a program of this session. -/
import Derived.Test.YtlflbmbcjjegaaaPFnExactClassRightx0
import Derived.Test.YtlflbmbcjjegaaaPFnExactClassRightx3
import Derived.Test.YtlflbmbcjjegaaaPFnExactClassRightx4
namespace Go.Proofs.Ytlflbmbcjjegaaa.PFnExactClassRight
open Go.RowKit Go.Proofs.YtlflbmbcjjegaaaW.PrintWords Go.Proofs.YtlflbmbcjjegaaaW.PrintLast Go.Proofs.YtlflbmbcjjegaaaW.PrintMore
open Go.Proofs.YtlflbmbcjjegaaaW.PrintWords renaming below_alloc → Zba, pw_below_drewN → Zbn, below_drew1 → Zbd, below_set → Zbs, below_size → Zbz, below_step → Zbt, blk_drewN → Zkn, blk_drew → Zkd, blk_alloc → Zka, blk_frozen → Zkf, blk_put → Zkp, blk_below → Zkb
open Go.Proofs.YtlflbmbcjjegaaaW.PrintWords.Aside0 renaming mk → Zm
attribute [local go_sem] max2_int min2_int max_two min_two max_three min_three max_four min_four   -- for this text's walks alone
set_option linter.unusedVariables false
set_option linter.unusedSimpArgs false

/-! ### laws_eqClass: function 24 -/
def laws_eqClass.f (k : Nat) (a0_0 : ByteArray) (a0_1 : ByteArray) (a0_2 : Bool) (a0_3 : Bool) (l0_4 : List (S123)) (l0_5 : List (S84)) (a1_0 : ByteArray) (a1_1 : ByteArray) (a1_2 : Bool) (a1_3 : Bool) (l1_4 : List (S123)) (l1_5 : List (S84)) : Option (Bool) := if a0_0.toList = a1_0.toList then (if a0_1.toList = a1_1.toList then (if (a0_2 != a1_2) = true then (some false) else (if (a0_3 != a1_3) = true then (some false) else ((laws_eqFieldS.f k l0_4 l1_4).bind fun t214 => (if t214 = true then ((laws_eqMethodS.f k l0_5 l1_5).bind fun t215 => (if t215 = true then (some true) else (some false))) else (some false))))) else (some false)) else (some false)
set_option maxHeartbeats 8000000 in
set_option maxRecDepth 100000 in
theorem laws_eqClass.calls (k : Nat) (a0_0 : ByteArray) (a0_1 : ByteArray) (a0_2 : Bool) (a0_3 : Bool) (A0_4 : Option Addr) (c0_4 : Nat) (l0_4 : List (S123)) (A0_5 : Option Addr) (c0_5 : Nat) (l0_5 : List (S84)) (a1_0 : ByteArray) (a1_1 : ByteArray) (a1_2 : Bool) (a1_3 : Bool) (A1_4 : Option Addr) (c1_4 : Nat) (l1_4 : List (S123)) (A1_5 : Option Addr) (c1_5 : Nat) (l1_5 : List (S84)) (r : Bool) (w : World) (hr0_4 : Kd.C k123 w A0_4 l0_4.length l0_4) (hc0_4 : l0_4.length ≤ c0_4) (hr0_5 : Kd.C k84 w A0_5 l0_5.length l0_5) (hc0_5 : l0_5.length ≤ c0_5) (hr1_4 : Kd.C k123 w A1_4 l1_4.length l1_4) (hc1_4 : l1_4.length ≤ c1_4) (hr1_5 : Kd.C k84 w A1_5 l1_5.length l1_5) (hc1_5 : l1_5.length ≤ c1_5) (h : laws_eqClass.f k a0_0 a0_1 a0_2 a0_3 l0_4 l0_5 a1_0 a1_1 a1_2 a1_3 l1_4 l1_5 = some r) :
 Calls Try.prog 24 #[.agg #[.string a0_0, .string a0_1, .bool a0_2, .bool a0_3, .slice A0_4 l0_4.length c0_4, .slice A0_5 l0_5.length c0_5], .agg #[.string a1_0, .string a1_1, .bool a1_2, .bool a1_3, .slice A1_4 l1_4.length c1_4, .slice A1_5 l1_5.length c1_5]] w fun e w' => e = .returned (.bool r) ∧ Below w.heap.size w w' := by
 have hu51 := Try.underlying51; have HR0_4 := Zm hr0_4; have HC0_4 := Zm hc0_4; clear hr0_4 hc0_4; have HR0_5 := Zm hr0_5; have HC0_5 := Zm hc0_5; clear hr0_5 hc0_5; have HR1_4 := Zm hr1_4; have HC1_4 := Zm hc1_4; clear hr1_4 hc1_4; have HR1_5 := Zm hr1_5; have HC1_5 := Zm hc1_5; clear hr1_5 hc1_5; have HB := Zm (Below.refl w.heap.size w); have H : (if a0_0.toList = a1_0.toList then (if a0_1.toList = a1_1.toList then (if (a0_2 != a1_2) = true then (some false) else (if (a0_3 != a1_3) = true then (some false) else ((laws_eqFieldS.f k l0_4 l1_4).bind fun t214 => (if t214 = true then ((laws_eqMethodS.f k l0_5 l1_5).bind fun t215 => (if t215 = true then (some true) else (some false))) else (some false))))) else (some false)) else (some false)) = some r := h; clear h; have HC3 := Zm H; clear H; go_enter Try.func24, Try.ntmps24; go_upto_if 9 with (first | ((with_reducible refine gate_dst (N := 2) rfl ?_); refine box_event ?hg (N := 2) ?hd (cs := #[.string a0_0, .string a0_1, .bool a0_2, .bool a0_3, .slice A0_4 l0_4.length c0_4, .slice A0_5 l0_5.length c0_5]) (t := 51) ?hr ?_; (case hd => rfl); (case hg => rfl); (case hr => first | (go_simp; done) | (go_simp; rfl)); intro gb212 hg w4 hbox hb; have n0_ := (⟨Zm (Zbt (bk HB.out) hb), Zm (hbox), Zm ((by rw [hg]; exact (Zbz (bk HB.out)) : w.heap.size ≤ gb212)), Zm ((by rw [hg]; exact (Zbz (bk HB.out)) : w.heap.size ≤ gb212))⟩ : _ ∧ _ ∧ _ ∧ _); clear HB; obtain ⟨HB, BK212, GW212, GE212⟩ := n0_; clear hb hbox hg) | ((with_reducible refine gate_dst (N := 3) rfl ?_); refine box_event ?hg (N := 3) ?hd (cs := #[.string a1_0, .string a1_1, .bool a1_2, .bool a1_3, .slice A1_4 l1_4.length c1_4, .slice A1_5 l1_5.length c1_5]) (t := 51) ?hr ?_; (case hd => rfl); (case hg => rfl); (case hr => first | (go_simp; done) | (go_simp; rfl)); intro gb213 hg w5 hbox hb; have n0_ := (⟨Zm (Zkb (pk BK212.out) hb), Zm (Zbt (bk HB.out) hb), Zm (hbox), Zm ((by rw [hg]; exact (Zbz (bk HB.out)) : w.heap.size ≤ gb213)), Zm ((by rw [hg]; exact (Zbz (bk HB.out)) : w.heap.size ≤ gb213)), Zm ((by rw [hg]; exact Nat.ne_of_lt (blk_lt (pk BK212.out)) : gb212 ≠ gb213)), Zm ((by rw [hg]; exact Nat.ne_of_gt (blk_lt (pk BK212.out)) : gb213 ≠ gb212))⟩ : _ ∧ _ ∧ _ ∧ _ ∧ _ ∧ _ ∧ _); clear BK212 HB; obtain ⟨BK212, HB, BK213, GW213, GE213, NB212_213, NB213_212⟩ := n0_; clear hb hbox hg; have hnb6 := NB212_213.out; have hnc6 := NB213_212.out; obtain ⟨hcz7_0, hcz7_1, hcz7_2, hcz7_3, hcz7_4, hcz7_5⟩ := cz6 BK212.out; obtain ⟨hcz8_0, hcz8_1, hcz8_2, hcz8_3, hcz8_4, hcz8_5⟩ := cz6 BK213.out; have hfz8_5 := Zkf BK213.out 5)); have H := HC3.out; clear HC3; by_cases c9 : a0_0.toList = a1_0.toList; rotate_left
 · rw [if_neg c9] at H; have c9b0 : (a0_0.toList == a1_0.toList) = false := beq_eq_false_iff_ne.mpr c9; have c9b1 : (a0_0.toList != a1_0.toList) = true := bne_iff_ne.mpr c9; (first | rw [c9b0] | (simp only [i64_w, i32_w]; rw [c9b0]) | skip); obtain rfl := Option.some.inj H; go_wp2; go_ret; exact fin_ HB

 rw [if_pos c9] at H
 have c9b0 : (a0_0.toList == a1_0.toList) = true := beq_iff_eq.mpr c9
 have c9b1 : (a0_0.toList != a1_0.toList) = false := bne_eq_false_iff_eq.mpr c9
 clear c9
 (first | rw [c9b0] | (simp only [i64_w, i32_w]; rw [c9b0]) | skip)
 by_cases c10 : a0_1.toList = a1_1.toList
 rotate_left
 · rw [if_neg c10] at H
   have c10b0 : (a0_1.toList == a1_1.toList) = false := beq_eq_false_iff_ne.mpr c10
   have c10b1 : (a0_1.toList != a1_1.toList) = true := bne_iff_ne.mpr c10
   obtain rfl := Option.some.inj H
   have hnb34 := NB212_213.out
   have hnc34 := NB213_212.out
   obtain ⟨hcz35_0, hcz35_1, hcz35_2, hcz35_3, hcz35_4, hcz35_5⟩ := cz6 BK212.out
   obtain ⟨hcz36_0, hcz36_1, hcz36_2, hcz36_3, hcz36_4, hcz36_5⟩ := cz6 BK213.out
   go_wp2
   go_ret
   exact fin_ HB
 rw [if_pos c10] at H
 have c10b0 : (a0_1.toList == a1_1.toList) = true := beq_iff_eq.mpr c10
 have c10b1 : (a0_1.toList != a1_1.toList) = false := bne_eq_false_iff_eq.mpr c10
 clear c10
 have HC11 := Zm H
 clear H
 have hnb12 := NB212_213.out
 have hnc12 := NB213_212.out
 obtain ⟨hcz13_0, hcz13_1, hcz13_2, hcz13_3, hcz13_4, hcz13_5⟩ := cz6 BK212.out
 obtain ⟨hcz14_0, hcz14_1, hcz14_2, hcz14_3, hcz14_4, hcz14_5⟩ := cz6 BK213.out
 go_upto_if 19 with (fail)
 have H := HC11.out
 clear HC11
 by_cases c15 : (a0_2 != a1_2) = true
 rotate_left
 · rw [if_neg c15] at H
   have c15b0 : (a0_2 != a1_2) = false := by simpa using c15
   (try (have c15b1 : decide (a0_2 = a1_2) = true := by simpa using c15))
   (try (have c15b2 : (a0_2 == a1_2) = true := by simpa using c15))
   clear c15
   (first | rw [c15b0] | (simp only [i64_w, i32_w]; rw [c15b0]) | rw [bne_ c15b0] | skip)
   by_cases c16 : (a0_3 != a1_3) = true
   rotate_left
   · rw [if_neg c16] at H
     have c16b0 : (a0_3 != a1_3) = false := by simpa using c16
     (try (have c16b1 : decide (a0_3 = a1_3) = true := by simpa using c16))
     (try (have c16b2 : (a0_3 == a1_3) = true := by simpa using c16))
     clear c16
     replace H := Option.bind_eq_some_iff.mp H
     obtain ⟨t214, A200, H⟩ := H
     (try dsimp only at H)
     have A20 := Zm A200
     clear A200
     have HC21 := Zm H
     clear H
     have hnb22 := NB212_213.out
     have hnc22 := NB213_212.out
     obtain ⟨hcz23_0, hcz23_1, hcz23_2, hcz23_3, hcz23_4, hcz23_5⟩ := cz6 BK212.out
     obtain ⟨hcz24_0, hcz24_1, hcz24_2, hcz24_3, hcz24_4, hcz24_5⟩ := cz6 BK213.out
     go_upto_if 30 with (first | ((with_reducible refine gate_callee (f := 72) rfl ?_); refine ge_ (some 29) Try.func72 #[.slice A0_4 l0_4.length c0_4, .slice A1_4 l1_4.length c1_4] ?_; (with_reducible refine (laws_eqFieldS.calls _ _ _ _ _ _ _ _ _ ?side1 ?side2 ?side3 ?side4 A20.out).mono ?_); (case side1 => exact pc (Kd.C_below HR0_4.out HB.out)); (case side2 => exact HC0_4.out); (case side3 => exact pc (Kd.C_below HR1_4.out HB.out)); (case side4 => exact HC1_4.out); rintro e w25 ⟨rfl, hb⟩; refine ⟨_, rfl, ?_⟩; have n0_ := (⟨Zm (Zkb (pk BK212.out) hb), Zm (Zkb (pk BK213.out) hb), Zm (Zbt (bk HB.out) hb)⟩ : _ ∧ _ ∧ _); clear BK212 BK213 HB; obtain ⟨BK212, BK213, HB⟩ := n0_; (try clear hb); (try clear hb2); (try clear hk); (try clear hi)))
     have H := HC21.out
     clear HC21
     by_cases c26 : t214 = true
     rotate_left
     · replace c26 := Bool.eq_false_iff.mpr c26
       subst c26
       rw [if_neg (show ¬ (false = true) by decide)] at H
       obtain rfl := Option.some.inj H
       go_wp2
       go_ret
       exact fin_ HB
     subst c26
     rw [if_pos rfl] at H
     replace H := Option.bind_eq_some_iff.mp H
     obtain ⟨t215, A270, H⟩ := H
     (try dsimp only at H)
     have A27 := Zm A270
     clear A270
     have HC28 := Zm H
     clear H
     have hnb29 := NB212_213.out
     have hnc29 := NB213_212.out
     obtain ⟨hcz30_0, hcz30_1, hcz30_2, hcz30_3, hcz30_4, hcz30_5⟩ := cz6 BK212.out
     obtain ⟨hcz31_0, hcz31_1, hcz31_2, hcz31_3, hcz31_4, hcz31_5⟩ := cz6 BK213.out
     (try clear BK212)
     (try clear BK213)
     go_upto_if 36 with (first | ((with_reducible refine gate_callee (f := 73) rfl ?_); refine ge_ (some 35) Try.func73 #[.slice A0_5 l0_5.length c0_5, .slice A1_5 l1_5.length c1_5] ?_; (with_reducible refine (laws_eqMethodS.calls _ _ _ _ _ _ _ _ _ ?side1 ?side2 ?side3 ?side4 A27.out).mono ?_); (case side1 => exact pc (Kd.C_below HR0_5.out HB.out)); (case side2 => exact HC0_5.out); (case side3 => exact pc (Kd.C_below HR1_5.out HB.out)); (case side4 => exact HC1_5.out); rintro e w32 ⟨rfl, hb⟩; refine ⟨_, rfl, ?_⟩; have n0_ := Zm (Zbt (bk HB.out) hb); clear HB; have HB := n0_; clear n0_; (try clear hb); (try clear hb2); (try clear hk); (try clear hi)))
     have H := HC28.out
     clear HC28
     by_cases c33 : t215 = true
     rotate_left
     · replace c33 := Bool.eq_false_iff.mpr c33
       subst c33
       rw [if_neg (show ¬ (false = true) by decide)] at H
       obtain rfl := Option.some.inj H
       go_wp2
       go_ret
       exact fin_ HB
     subst c33
     rw [if_pos rfl] at H
     obtain rfl := Option.some.inj H
     go_wp2
     go_ret
     exact fin_ HB
   rw [if_pos c16] at H
   have c16b0 : (a0_3 != a1_3) = true := c16
   (try (have c16b1 : decide (a0_3 = a1_3) = false := by simpa using c16))
   (try (have c16b2 : (a0_3 == a1_3) = false := by simpa using c16))
   (try (have c16b3 : ¬ (a0_3 = a1_3) := by simpa using c16))
   clear c16
   obtain rfl := Option.some.inj H
   have hnb17 := NB212_213.out
   have hnc17 := NB213_212.out
   obtain ⟨hcz18_0, hcz18_1, hcz18_2, hcz18_3, hcz18_4, hcz18_5⟩ := cz6 BK212.out
   obtain ⟨hcz19_0, hcz19_1, hcz19_2, hcz19_3, hcz19_4, hcz19_5⟩ := cz6 BK213.out
   go_wp2
   go_ret
   exact fin_ HB
 rw [if_pos c15] at H
 have c15b0 : (a0_2 != a1_2) = true := c15
 (try (have c15b1 : decide (a0_2 = a1_2) = false := by simpa using c15))
 (try (have c15b2 : (a0_2 == a1_2) = false := by simpa using c15))
 (try (have c15b3 : ¬ (a0_2 = a1_2) := by simpa using c15))
 clear c15
 (first | rw [c15b0] | (simp only [i64_w, i32_w]; rw [c15b0]) | rw [bne_ c15b0] | skip)
 obtain rfl := Option.some.inj H
 go_wp2
 go_ret
 exact fin_ HB
/-! ### spec_l02Wrong: function 141 -/
def spec_l02Wrong.f (a0 : Int) : Option (List ByteArray × ByteArray × Int × Int) := some (([] : List ByteArray), (⟨#[]⟩ : ByteArray), a0, 3)
set_option maxHeartbeats 8000000 in
set_option maxRecDepth 100000 in
theorem spec_l02Wrong.calls (a0 : Int) (r1 : List ByteArray) (r2 : ByteArray) (r3 : Int) (r4 : Int) (w : World) (h : spec_l02Wrong.f a0 = some (r1, r2, r3, r4)) :
 Calls Try.prog 141 #[.int .i64 a0] w fun e w' => ∃ v0_ : Value, e = .returned (.agg #[v0_, .string r2, .int .i64 r3, .int .i64 r4]) ∧ Kd.R Kd.string 9 w' w.heap.size (fun _ => True) v0_ r1 ∧ Below w.heap.size w w' := by
 have hu151 := Try.underlying151; have HB := Zm (Below.refl w.heap.size w); have H : (some (([] : List ByteArray), (⟨#[]⟩ : ByteArray), a0, 3)) = some (r1, r2, r3, r4) := h; clear h; simp only [Option.some.injEq, Prod.mk.injEq] at H; obtain ⟨rfl, rfl, rfl, rfl⟩ := H; go_enter Try.func141, Try.ntmps141; go_wp2_with (first | ((with_reducible refine gate_dst (N := 2) rfl ?_); refine box_event ?hg (N := 2) ?hd (cs := #[.slice none 0 0, .string (⟨#[]⟩ : ByteArray), .int .i64 0, .int .i64 0]) (t := 151) ?hr ?_; (case hd => rfl); (case hg => rfl); (case hr => first | (go_simp; done) | (go_simp; rfl)); intro gb216 hg w2 hbox hb; have n0_ := (⟨Zm (Zbt (bk HB.out) hb), Zm (hbox), Zm ((by rw [hg]; exact (Zbz (bk HB.out)) : w.heap.size ≤ gb216)), Zm ((by rw [hg]; exact (Zbz (bk HB.out)) : w.heap.size ≤ gb216))⟩ : _ ∧ _ ∧ _ ∧ _); clear HB; obtain ⟨HB, BK216, GW216, GE216⟩ := n0_; clear hb hbox hg; obtain ⟨hcz3_0, hcz3_1, hcz3_2, hcz3_3⟩ := cz4 BK216.out; have hfz3_0 := Zkf BK216.out 0; have hfz3_1 := Zkf BK216.out 1; have hfz3_2 := Zkf BK216.out 2; have hfz3_3 := Zkf BK216.out 3)); refine bodyPost_ret (results_cell_row rfl _ _ gb216 151 #[.slice none 0 0, .string (⟨#[]⟩ : ByteArray), .int .i64 a0, .int .i64 3] (0, 0) _ rfl zc_ Try.underlying151 rfl (by kernel_rfl)) rfl ?_; exact ⟨_, by first | rfl | (simp [*] <;> rfl), by first | exact Kd.R_nil _ _ _ _ _ | exact Kd.N_nil _ _ _ _ _ | exact Kd.V_nil _ _ _ _ _ | exact Kd.Q_nil _ _ _ _ _ | exact Kd.S_nil _ _ _ _ _, hb_⟩

/-! ### spec_l01NameByte: function 143 -/
def spec_l01NameByte.f (a0 : Int) (a1 : Bool) : Option (Bool) := if a0 ≥ 97 then (if a0 ≤ 122 then (some true) else (if a0 ≥ 65 then (if a0 ≤ 90 then (some true) else (if a0 = 36 then (some true) else (if a1 = true then (some false) else (if a0 ≥ 48 then (some (decide (a0 ≤ 57))) else (some false))))) else (if a0 = 36 then (some true) else (if a1 = true then (some false) else (if a0 ≥ 48 then (some (decide (a0 ≤ 57))) else (some false)))))) else (if a0 ≥ 65 then (if a0 ≤ 90 then (some true) else (if a0 = 36 then (some true) else (if a1 = true then (some false) else (if a0 ≥ 48 then (some (decide (a0 ≤ 57))) else (some false))))) else (if a0 = 36 then (some true) else (if a1 = true then (some false) else (if a0 ≥ 48 then (some (decide (a0 ≤ 57))) else (some false)))))
set_option maxHeartbeats 8000000 in
set_option maxRecDepth 100000 in
theorem spec_l01NameByte.calls (a0 : Int) (a1 : Bool) (r : Bool) (w : World) (h : spec_l01NameByte.f a0 a1 = some r) :
 Calls Try.prog 143 #[.int .u8 a0, .bool a1] w fun e w' => e = .returned (.bool r) ∧ Drawn0 w w' := by
 have H : (if a0 ≥ 97 then (if a0 ≤ 122 then (some true) else (if a0 ≥ 65 then (if a0 ≤ 90 then (some true) else (if a0 = 36 then (some true) else (if a1 = true then (some false) else (if a0 ≥ 48 then (some (decide (a0 ≤ 57))) else (some false))))) else (if a0 = 36 then (some true) else (if a1 = true then (some false) else (if a0 ≥ 48 then (some (decide (a0 ≤ 57))) else (some false)))))) else (if a0 ≥ 65 then (if a0 ≤ 90 then (some true) else (if a0 = 36 then (some true) else (if a1 = true then (some false) else (if a0 ≥ 48 then (some (decide (a0 ≤ 57))) else (some false))))) else (if a0 = 36 then (some true) else (if a1 = true then (some false) else (if a0 ≥ 48 then (some (decide (a0 ≤ 57))) else (some false)))))) = some r := h; clear h; by_cases c3 : a0 ≥ 97; rotate_left
 · rw [if_neg c3] at H; have c3b0 : decide (97 ≤ a0) = false := decide_eq_false c3; clear c3; by_cases c13 : a0 ≥ 65; rotate_left
   · rw [if_neg c13] at H; have c13b0 : decide (65 ≤ a0) = false := decide_eq_false c13; clear c13; by_cases c18 : a0 = 36; rotate_left
     · rw [if_neg c18] at H; have c18b0 : (a0 == 36) = false := beq_eq_false_iff_ne.mpr c18; have c18b1 : (a0 != 36) = true := bne_iff_ne.mpr c18; by_cases c19 : a1 = true; rotate_left
       · replace c19 := Bool.eq_false_iff.mpr c19; subst c19; rw [if_neg (show ¬ (false = true) by decide)] at H; by_cases c20 : a0 ≥ 48; rotate_left
         · rw [if_neg c20] at H; have c20b0 : decide (48 ≤ a0) = false := decide_eq_false c20; clear c20; obtain rfl := Option.some.inj H; go_enter Try.func143, Try.ntmps143; go_wp2; go_ret; exact ⟨by first | rfl | (simp; done) | (simp [*]; done), by repeat (first | exact Drawn0.refl _ | apply Drawn0.step)⟩

         rw [if_pos c20] at H
         have c20b0 : decide (48 ≤ a0) = true := decide_eq_true c20
         clear c20
         obtain rfl := Option.some.inj H
         go_enter Try.func143, Try.ntmps143
         go_wp2
         go_ret
         exact ⟨by first | rfl | (simp; done) | (simp [*]; done), by repeat (first | exact Drawn0.refl _ | apply Drawn0.step)⟩
       subst c19
       rw [if_pos rfl] at H
       obtain rfl := Option.some.inj H
       go_enter Try.func143, Try.ntmps143
       go_wp2
       go_ret
       exact ⟨by first | rfl | (simp; done) | (simp [*]; done), by repeat (first | exact Drawn0.refl _ | apply Drawn0.step)⟩
     rw [if_pos c18] at H
     have c18b0 : (a0 == 36) = true := beq_iff_eq.mpr c18
     have c18b1 : (a0 != 36) = false := bne_eq_false_iff_eq.mpr c18
     clear c18
     obtain rfl := Option.some.inj H
     go_enter Try.func143, Try.ntmps143
     go_wp2
     go_ret
     exact ⟨by first | rfl | (simp; done) | (simp [*]; done), by repeat (first | exact Drawn0.refl _ | apply Drawn0.step)⟩
   rw [if_pos c13] at H
   have c13b0 : decide (65 ≤ a0) = true := decide_eq_true c13
   clear c13
   by_cases c14 : a0 ≤ 90
   rotate_left
   · rw [if_neg c14] at H
     have c14b0 := decide_eq_false c14
     clear c14
     by_cases c15 : a0 = 36
     rotate_left
     · rw [if_neg c15] at H
       have c15b0 : (a0 == 36) = false := beq_eq_false_iff_ne.mpr c15
       have c15b1 : (a0 != 36) = true := bne_iff_ne.mpr c15
       by_cases c16 : a1 = true
       rotate_left
       · replace c16 := Bool.eq_false_iff.mpr c16
         subst c16
         rw [if_neg (show ¬ (false = true) by decide)] at H
         by_cases c17 : a0 ≥ 48
         rotate_left
         · rw [if_neg c17] at H
           have c17b0 : decide (48 ≤ a0) = false := decide_eq_false c17
           clear c17
           obtain rfl := Option.some.inj H
           go_enter Try.func143, Try.ntmps143
           go_wp2
           go_ret
           exact ⟨by first | rfl | (simp; done) | (simp [*]; done), by repeat (first | exact Drawn0.refl _ | apply Drawn0.step)⟩
         rw [if_pos c17] at H
         have c17b0 : decide (48 ≤ a0) = true := decide_eq_true c17
         clear c17
         obtain rfl := Option.some.inj H
         go_enter Try.func143, Try.ntmps143
         go_wp2
         go_ret
         exact ⟨by first | rfl | (simp; done) | (simp [*]; done), by repeat (first | exact Drawn0.refl _ | apply Drawn0.step)⟩
       subst c16
       rw [if_pos rfl] at H
       obtain rfl := Option.some.inj H
       go_enter Try.func143, Try.ntmps143
       go_wp2
       go_ret
       exact ⟨by first | rfl | (simp; done) | (simp [*]; done), by repeat (first | exact Drawn0.refl _ | apply Drawn0.step)⟩
     rw [if_pos c15] at H
     have c15b0 : (a0 == 36) = true := beq_iff_eq.mpr c15
     have c15b1 : (a0 != 36) = false := bne_eq_false_iff_eq.mpr c15
     clear c15
     obtain rfl := Option.some.inj H
     go_enter Try.func143, Try.ntmps143
     go_wp2
     go_ret
     exact ⟨by first | rfl | (simp; done) | (simp [*]; done), by repeat (first | exact Drawn0.refl _ | apply Drawn0.step)⟩
   rw [if_pos c14] at H
   have c14b0 := decide_eq_true c14
   clear c14
   obtain rfl := Option.some.inj H
   go_enter Try.func143, Try.ntmps143
   go_wp2
   go_ret
   exact ⟨by first | rfl | (simp; done) | (simp [*]; done), by repeat (first | exact Drawn0.refl _ | apply Drawn0.step)⟩
 rw [if_pos c3] at H
 have c3b0 : decide (97 ≤ a0) = true := decide_eq_true c3
 clear c3
 by_cases c4 : a0 ≤ 122
 rotate_left
 · rw [if_neg c4] at H
   have c4b0 := decide_eq_false c4
   clear c4
   by_cases c5 : a0 ≥ 65
   rotate_left
   · rw [if_neg c5] at H
     have c5b0 : decide (65 ≤ a0) = false := decide_eq_false c5
     clear c5
     by_cases c10 : a0 = 36
     rotate_left
     · rw [if_neg c10] at H
       have c10b0 : (a0 == 36) = false := beq_eq_false_iff_ne.mpr c10
       have c10b1 : (a0 != 36) = true := bne_iff_ne.mpr c10
       by_cases c11 : a1 = true
       rotate_left
       · replace c11 := Bool.eq_false_iff.mpr c11
         subst c11
         rw [if_neg (show ¬ (false = true) by decide)] at H
         by_cases c12 : a0 ≥ 48
         rotate_left
         · rw [if_neg c12] at H
           have c12b0 : decide (48 ≤ a0) = false := decide_eq_false c12
           clear c12
           obtain rfl := Option.some.inj H
           go_enter Try.func143, Try.ntmps143
           go_wp2
           go_ret
           exact ⟨by first | rfl | (simp; done) | (simp [*]; done), by repeat (first | exact Drawn0.refl _ | apply Drawn0.step)⟩
         rw [if_pos c12] at H
         have c12b0 : decide (48 ≤ a0) = true := decide_eq_true c12
         clear c12
         obtain rfl := Option.some.inj H
         go_enter Try.func143, Try.ntmps143
         go_wp2
         go_ret
         exact ⟨by first | rfl | (simp; done) | (simp [*]; done), by repeat (first | exact Drawn0.refl _ | apply Drawn0.step)⟩
       subst c11
       rw [if_pos rfl] at H
       obtain rfl := Option.some.inj H
       go_enter Try.func143, Try.ntmps143
       go_wp2
       go_ret
       exact ⟨by first | rfl | (simp; done) | (simp [*]; done), by repeat (first | exact Drawn0.refl _ | apply Drawn0.step)⟩
     rw [if_pos c10] at H
     have c10b0 : (a0 == 36) = true := beq_iff_eq.mpr c10
     have c10b1 : (a0 != 36) = false := bne_eq_false_iff_eq.mpr c10
     clear c10
     obtain rfl := Option.some.inj H
     go_enter Try.func143, Try.ntmps143
     go_wp2
     go_ret
     exact ⟨by first | rfl | (simp; done) | (simp [*]; done), by repeat (first | exact Drawn0.refl _ | apply Drawn0.step)⟩
   rw [if_pos c5] at H
   have c5b0 : decide (65 ≤ a0) = true := decide_eq_true c5
   clear c5
   by_cases c6 : a0 ≤ 90
   rotate_left
   · rw [if_neg c6] at H
     have c6b0 := decide_eq_false c6
     clear c6
     by_cases c7 : a0 = 36
     rotate_left
     · rw [if_neg c7] at H
       have c7b0 : (a0 == 36) = false := beq_eq_false_iff_ne.mpr c7
       have c7b1 : (a0 != 36) = true := bne_iff_ne.mpr c7
       by_cases c8 : a1 = true
       rotate_left
       · replace c8 := Bool.eq_false_iff.mpr c8
         subst c8
         rw [if_neg (show ¬ (false = true) by decide)] at H
         by_cases c9 : a0 ≥ 48
         rotate_left
         · rw [if_neg c9] at H
           have c9b0 : decide (48 ≤ a0) = false := decide_eq_false c9
           clear c9
           obtain rfl := Option.some.inj H
           go_enter Try.func143, Try.ntmps143
           go_wp2
           go_ret
           exact ⟨by first | rfl | (simp; done) | (simp [*]; done), by repeat (first | exact Drawn0.refl _ | apply Drawn0.step)⟩
         rw [if_pos c9] at H
         have c9b0 : decide (48 ≤ a0) = true := decide_eq_true c9
         clear c9
         obtain rfl := Option.some.inj H
         go_enter Try.func143, Try.ntmps143
         go_wp2
         go_ret
         exact ⟨by first | rfl | (simp; done) | (simp [*]; done), by repeat (first | exact Drawn0.refl _ | apply Drawn0.step)⟩
       subst c8
       rw [if_pos rfl] at H
       obtain rfl := Option.some.inj H
       go_enter Try.func143, Try.ntmps143
       go_wp2
       go_ret
       exact ⟨by first | rfl | (simp; done) | (simp [*]; done), by repeat (first | exact Drawn0.refl _ | apply Drawn0.step)⟩
     rw [if_pos c7] at H
     have c7b0 : (a0 == 36) = true := beq_iff_eq.mpr c7
     have c7b1 : (a0 != 36) = false := bne_eq_false_iff_eq.mpr c7
     clear c7
     obtain rfl := Option.some.inj H
     go_enter Try.func143, Try.ntmps143
     go_wp2
     go_ret
     exact ⟨by first | rfl | (simp; done) | (simp [*]; done), by repeat (first | exact Drawn0.refl _ | apply Drawn0.step)⟩
   rw [if_pos c6] at H
   have c6b0 := decide_eq_true c6
   clear c6
   obtain rfl := Option.some.inj H
   go_enter Try.func143, Try.ntmps143
   go_wp2
   go_ret
   exact ⟨by first | rfl | (simp; done) | (simp [*]; done), by repeat (first | exact Drawn0.refl _ | apply Drawn0.step)⟩
 rw [if_pos c4] at H
 have c4b0 := decide_eq_true c4
 clear c4
 obtain rfl := Option.some.inj H
 go_enter Try.func143, Try.ntmps143
 go_wp2
 go_ret
 exact ⟨by first | rfl | (simp; done) | (simp [*]; done), by repeat (first | exact Drawn0.refl _ | apply Drawn0.step)⟩
end Go.Proofs.Ytlflbmbcjjegaaa.PFnExactClassRight
