/- Functions of the program as plain Lean functions, each with a proof that the program's call comes to the same; no condition. Written by a program of this session. -/
import Derived.Test.YtlflbmbcjjegaaaPFnExactClassSamex0
import Derived.Test.YtlflbmbcjjegaaaPFnExactClassSamex2
import Derived.Test.YtlflbmbcjjegaaaPFnExactClassSamex3
import Derived.Test.YtlflbmbcjjegaaaPFnExactClassSamex4
namespace Go.Proofs.Ytlflbmbcjjegaaa.PFnExactClassSame
open Go.RowKit Go.Proofs.YtlflbmbcjjegaaaW.PrintWords Go.Proofs.YtlflbmbcjjegaaaW.PrintLast Go.Proofs.YtlflbmbcjjegaaaW.PrintMore
open Go.Proofs.YtlflbmbcjjegaaaW.PrintWords renaming below_alloc → Zba, pw_below_drewN → Zbn, below_drew1 → Zbd, below_set → Zbs, below_size → Zbz, below_step → Zbt, blk_drewN → Zkn, blk_drew → Zkd, blk_alloc → Zka, blk_cell → Zkc, blk_frozen → Zkf, blk_below → Zkb
open Go.World renaming block_lt_of_cell? → Zlt
open Go.Proofs.YtlflbmbcjjegaaaW.PrintWords.Aside0 renaming mk → Zm
attribute [local go_sem] max2_int min2_int max_two min_two max_three min_three max_four min_four   -- for this text's walks alone
set_option linter.unusedVariables false
set_option linter.unusedSimpArgs false

attribute [local go_sem high] eqA156 eqA160
/-! ### laws_szClass: function 20 -/
def laws_szClass.f (k : Nat) (a0_0 : ByteArray) (a0_1 : ByteArray) (a0_2 : Bool) (a0_3 : Bool) (l0_4 : List (S188)) (l0_5 : List (S78)) (a1 : Int) : Option (Int) := if (wrap64 (a1 - (a0_0.size : Int))) < 0 then (some (-1)) else (if (wrap64 ((wrap64 (a1 - (a0_0.size : Int))) - (a0_1.size : Int))) < 0 then (some (-1)) else ((laws_szFieldS.f k l0_4 (wrap64 ((wrap64 (a1 - (a0_0.size : Int))) - (a0_1.size : Int)))).bind fun t116 => (if t116 < 0 then (some (-1)) else ((laws_szMethodS.f k l0_5 t116).bind fun t117 => (if t117 < 0 then (some (-1)) else (some t117))))))
theorem laws_szClass.mono : ∀ a0 a1 a2 a3 a4 a5 a6 k, LeO (laws_szClass.f k a0 a1 a2 a3 a4 a5 a6) (laws_szClass.f (k + 1) a0 a1 a2 a3 a4 a5 a6) := by
  intro a0 a1 a2 a3 a4 a5 a6 k
  unfold laws_szClass.f
  repeat' first
      | (with_reducible exact laws_szFieldS.mono _ _ _)
      | (with_reducible exact laws_szMethodS.mono _ _ _)
      | (with_reducible exact LeO.refl _)
      | (with_reducible exact LeO.none _)
      | (with_reducible refine LeO.ite ?_ ?_)
      | (with_reducible refine LeO.bind ?_ (fun _ => ?_))
      | exact laws_szFieldS.mono _ _ _
      | exact laws_szMethodS.mono _ _ _
      | exact LeO.none _
      | refine LeO.ite ?_ ?_
      | refine LeO.bind ?_ (fun _ => ?_)
set_option maxHeartbeats 8000000 in
set_option maxRecDepth 100000 in
theorem laws_szClass.calls (k : Nat) (a0_0 : ByteArray) (a0_1 : ByteArray) (a0_2 : Bool) (a0_3 : Bool) (A0_4 : Option Addr) (c0_4 : Nat) (l0_4 : List (S188)) (A0_5 : Option Addr) (c0_5 : Nat) (l0_5 : List (S78)) (a1 : Int) (r : Int) (w : World) (hr0_4 : Kd.C k188 w A0_4 l0_4.length l0_4) (hc0_4 : l0_4.length ≤ c0_4) (hr0_5 : Kd.C k78 w A0_5 l0_5.length l0_5) (hc0_5 : l0_5.length ≤ c0_5) (h : laws_szClass.f k a0_0 a0_1 a0_2 a0_3 l0_4 l0_5 a1 = some r) :
    Calls Try.prog 20 #[.agg #[.string a0_0, .string a0_1, .bool a0_2, .bool a0_3, .slice A0_4 l0_4.length c0_4, .slice A0_5 l0_5.length c0_5], .int .i64 a1] w fun e w' => e = .returned (.int .i64 r) ∧ Below w.heap.size w w' := by
  have hu45 := Try.underlying45
  have HR0_4 := Zm hr0_4
  have HC0_4 := Zm hc0_4
  clear hr0_4 hc0_4
  have HR0_5 := Zm hr0_5
  have HC0_5 := Zm hc0_5
  clear hr0_5 hc0_5
  have HB := Zm (Below.refl w.heap.size w)
  have H : (if (wrap64 (a1 - (a0_0.size : Int))) < 0 then (some (-1)) else (if (wrap64 ((wrap64 (a1 - (a0_0.size : Int))) - (a0_1.size : Int))) < 0 then (some (-1)) else ((laws_szFieldS.f k l0_4 (wrap64 ((wrap64 (a1 - (a0_0.size : Int))) - (a0_1.size : Int)))).bind fun t116 => (if t116 < 0 then (some (-1)) else ((laws_szMethodS.f k l0_5 t116).bind fun t117 => (if t117 < 0 then (some (-1)) else (some t117))))))) = some r := h
  clear h
  by_cases c3 : (wrap64 (a1 - (a0_0.size : Int))) < 0
  rotate_left
  · rw [if_neg c3] at H
    have c3b0 : decide ((wrap64 (a1 - (a0_0.size : Int))) < 0) = false := decide_eq_false c3
    (try (have c3b1 : decide ((IntKind.i64.wrap (a1 - (a0_0.size : Int))) < 0) = false := by simp only [i64_w]; exact (decide_eq_false c3)))
    clear c3
    by_cases c6 : (wrap64 ((wrap64 (a1 - (a0_0.size : Int))) - (a0_1.size : Int))) < 0
    rotate_left
    · rw [if_neg c6] at H
      have c6b0 : decide ((wrap64 ((wrap64 (a1 - (a0_0.size : Int))) - (a0_1.size : Int))) < 0) = false := decide_eq_false c6
      (try (have c6b1 : decide ((IntKind.i64.wrap ((IntKind.i64.wrap (a1 - (a0_0.size : Int))) - (a0_1.size : Int))) < 0) = false := by simp only [i64_w]; exact (decide_eq_false c6)))
      clear c6
      replace H := Option.bind_eq_some_iff.mp H
      obtain ⟨t116, A90, H⟩ := H
      replace H : (if t116 < 0 then (some (-1)) else ((laws_szMethodS.f k l0_5 t116).bind fun t117 => (if t117 < 0 then (some (-1)) else (some t117)))) = some r := H
      have A9 := Zm A90
      clear A90
      by_cases c10 : t116 < 0
      rotate_left
      · rw [if_neg c10] at H
        have c10b0 : decide (t116 < 0) = false := decide_eq_false c10
        clear c10
        replace H := Option.bind_eq_some_iff.mp H
        obtain ⟨t117, A140, H⟩ := H
        replace H : (if t117 < 0 then (some (-1)) else (some t117)) = some r := H
        have A14 := Zm A140
        clear A140
        by_cases c15 : t117 < 0
        rotate_left
        · rw [if_neg c15] at H
          have c15b0 : decide (t117 < 0) = false := decide_eq_false c15
          clear c15
          obtain rfl := Option.some.inj H
          go_enter Try.func20, Try.ntmps20
          go_wp2_with (first | ((with_reducible refine gate_dst (N := 2) rfl ?_); refine box_event ?hg (N := 2) ?hd (cs := #[.string a0_0, .string a0_1, .bool a0_2, .bool a0_3, .slice A0_4 l0_4.length c0_4, .slice A0_5 l0_5.length c0_5]) (t := 45) ?hr ?_; (case hd => rfl); (case hg => rfl); (case hr => first | (go_simp; done) | (go_simp; rfl)); intro gb115 hg w21 hbox hb; have n0_ := Zm (Zbt (by repeat (first | (with_reducible first | exact HB.out | apply Zba | apply Zbn | apply Zbd) | exact HB.out)) hb); have n1_ := Zm (hbox); have n2_ := Zm ((by rw [hg]; exact (Zbz (by repeat (first | (with_reducible first | exact HB.out | apply Zba | apply Zbn | apply Zbd) | exact HB.out))) : w.heap.size ≤ gb115)); have n3_ := Zm ((by rw [hg]; exact (Zbz (by repeat (first | (with_reducible first | exact HB.out | apply Zba | apply Zbn | apply Zbd) | exact HB.out))) : w.heap.size ≤ gb115)); clear HB; have HB := n0_; have BK115 := n1_; have GW115 := n2_; have GE115 := n3_; clear n0_ n1_ n2_ n3_; clear hb hbox hg; have hcz22_0 : w21.cell? ⟨gb115, 0, none⟩ = some (.string a0_0) := (Zkc BK115.out 0).trans rfl; have hcz22_1 : w21.cell? ⟨gb115, 1, none⟩ = some (.string a0_1) := (Zkc BK115.out 1).trans rfl; have hcz22_2 : w21.cell? ⟨gb115, 2, none⟩ = some (.bool a0_2) := (Zkc BK115.out 2).trans rfl; have hcz22_3 : w21.cell? ⟨gb115, 3, none⟩ = some (.bool a0_3) := (Zkc BK115.out 3).trans rfl; have hcz22_4 : w21.cell? ⟨gb115, 4, none⟩ = some (.slice A0_4 l0_4.length c0_4) := (Zkc BK115.out 4).trans rfl; have hcz22_5 : w21.cell? ⟨gb115, 5, none⟩ = some (.slice A0_5 l0_5.length c0_5) := (Zkc BK115.out 5).trans rfl; have hfz22_5 := Zkf BK115.out 5) | ((with_reducible refine gate_callee (f := 64) rfl ?_); refine goesL_ (some 22) rfl rfl Try.func64 (by kernel_rfl) rfl #[.slice A0_4 l0_4.length c0_4, .int .i64 (wrap64 ((wrap64 (a1 - (a0_0.size : Int))) - (a0_1.size : Int)))] rfl (by (try simp only [List.map_toArray, List.map_cons, List.map_nil]); first | done | rfl | (simp only [List.length_drop, List.length_take]; rfl)) ?_; (with_reducible refine (laws_szFieldS.calls k _ _ l0_4 (wrap64 ((wrap64 (a1 - (a0_0.size : Int))) - (a0_1.size : Int))) t116 _ ?side1 ?side2 A9.out).mono ?_); (case side1 => repeat (first | exact (Kd.C_below HR0_4.out HB.out) | (with_reducible refine Kd.C_alloc ?_ _) | (with_reducible refine Kd.C_drewN ?_ _) | (with_reducible refine Kd.C_drew ?_))); (case side2 => exact HC0_4.out); rintro e w23 ⟨rfl, hb⟩; refine ⟨_, rfl, ?_⟩; have n0_ := Zm (Zkb (g := gb115) (o := .cells #[.string a0_0, .string a0_1, .bool a0_2, .bool a0_3, .slice A0_4 l0_4.length c0_4, .slice A0_5 l0_5.length c0_5] 45 (0, 0)) (by (with_reducible repeat (first | refine Zkn ?_ _ | refine Zkd ?_ | refine Zka ?_ _)); exact BK115.out) hb); have n1_ := Zm (Zbt (by repeat (first | (with_reducible first | exact HB.out | apply Zba | apply Zbn | apply Zbd | refine Zbs ?_ GE115.out) | exact HB.out)) hb); clear BK115; clear HB; have BK115 := n0_; have HB := n1_; clear n0_ n1_; (try clear hb); (try clear hb2); (try clear hk); (try clear hi); have hcz24_0 : w23.cell? ⟨gb115, 0, none⟩ = some (.string a0_0) := (Zkc BK115.out 0).trans rfl; have hcz24_1 : w23.cell? ⟨gb115, 1, none⟩ = some (.string a0_1) := (Zkc BK115.out 1).trans rfl; have hcz24_2 : w23.cell? ⟨gb115, 2, none⟩ = some (.bool a0_2) := (Zkc BK115.out 2).trans rfl; have hcz24_3 : w23.cell? ⟨gb115, 3, none⟩ = some (.bool a0_3) := (Zkc BK115.out 3).trans rfl; have hcz24_4 : w23.cell? ⟨gb115, 4, none⟩ = some (.slice A0_4 l0_4.length c0_4) := (Zkc BK115.out 4).trans rfl; have hcz24_5 : w23.cell? ⟨gb115, 5, none⟩ = some (.slice A0_5 l0_5.length c0_5) := (Zkc BK115.out 5).trans rfl; (try clear BK115)) | ((with_reducible refine gate_callee (f := 65) rfl ?_); refine goesL_ (some 28) rfl rfl Try.func65 (by kernel_rfl) rfl #[.slice A0_5 l0_5.length c0_5, .int .i64 t116] rfl (by (try simp only [List.map_toArray, List.map_cons, List.map_nil]); first | done | rfl | (simp only [List.length_drop, List.length_take]; rfl)) ?_; (with_reducible refine (laws_szMethodS.calls k _ _ l0_5 t116 t117 _ ?side1 ?side2 A14.out).mono ?_); (case side1 => repeat (first | exact (Kd.C_below HR0_5.out HB.out) | (with_reducible refine Kd.C_alloc ?_ _) | (with_reducible refine Kd.C_drewN ?_ _) | (with_reducible refine Kd.C_drew ?_))); (case side2 => exact HC0_5.out); rintro e w25 ⟨rfl, hb⟩; refine ⟨_, rfl, ?_⟩; have n0_ := Zm (Zbt (by repeat (first | (with_reducible first | exact HB.out | apply Zba | apply Zbn | apply Zbd) | exact HB.out)) hb); clear HB; have HB := n0_; clear n0_; (try clear hb); (try clear hb2); (try clear hk); (try clear hi)))
          go_ret
          exact ⟨by first | rfl | (simp [errW_none, errW_some] <;> rfl) | (simp [*, errW_none, errW_some] <;> rfl), by repeat (first | (with_reducible first | exact HB.out | apply Zba | apply Zbn | apply Zbd) | exact HB.out)⟩

        rw [if_pos c15] at H
        have c15b0 : decide (t117 < 0) = true := decide_eq_true c15
        clear c15
        obtain rfl := Option.some.inj H
        go_enter Try.func20, Try.ntmps20
        go_wp2_with (first | ((with_reducible refine gate_dst (N := 2) rfl ?_); refine box_event ?hg (N := 2) ?hd (cs := #[.string a0_0, .string a0_1, .bool a0_2, .bool a0_3, .slice A0_4 l0_4.length c0_4, .slice A0_5 l0_5.length c0_5]) (t := 45) ?hr ?_; (case hd => rfl); (case hg => rfl); (case hr => first | (go_simp; done) | (go_simp; rfl)); intro gb115 hg w16 hbox hb; have n0_ := Zm (Zbt (by repeat (first | (with_reducible first | exact HB.out | apply Zba | apply Zbn | apply Zbd) | exact HB.out)) hb); have n1_ := Zm (hbox); have n2_ := Zm ((by rw [hg]; exact (Zbz (by repeat (first | (with_reducible first | exact HB.out | apply Zba | apply Zbn | apply Zbd) | exact HB.out))) : w.heap.size ≤ gb115)); have n3_ := Zm ((by rw [hg]; exact (Zbz (by repeat (first | (with_reducible first | exact HB.out | apply Zba | apply Zbn | apply Zbd) | exact HB.out))) : w.heap.size ≤ gb115)); clear HB; have HB := n0_; have BK115 := n1_; have GW115 := n2_; have GE115 := n3_; clear n0_ n1_ n2_ n3_; clear hb hbox hg; have hcz17_0 : w16.cell? ⟨gb115, 0, none⟩ = some (.string a0_0) := (Zkc BK115.out 0).trans rfl; have hcz17_1 : w16.cell? ⟨gb115, 1, none⟩ = some (.string a0_1) := (Zkc BK115.out 1).trans rfl; have hcz17_2 : w16.cell? ⟨gb115, 2, none⟩ = some (.bool a0_2) := (Zkc BK115.out 2).trans rfl; have hcz17_3 : w16.cell? ⟨gb115, 3, none⟩ = some (.bool a0_3) := (Zkc BK115.out 3).trans rfl; have hcz17_4 : w16.cell? ⟨gb115, 4, none⟩ = some (.slice A0_4 l0_4.length c0_4) := (Zkc BK115.out 4).trans rfl; have hcz17_5 : w16.cell? ⟨gb115, 5, none⟩ = some (.slice A0_5 l0_5.length c0_5) := (Zkc BK115.out 5).trans rfl; have hfz17_5 := Zkf BK115.out 5) | ((with_reducible refine gate_callee (f := 64) rfl ?_); refine goesL_ (some 22) rfl rfl Try.func64 (by kernel_rfl) rfl #[.slice A0_4 l0_4.length c0_4, .int .i64 (wrap64 ((wrap64 (a1 - (a0_0.size : Int))) - (a0_1.size : Int)))] rfl (by (try simp only [List.map_toArray, List.map_cons, List.map_nil]); first | done | rfl | (simp only [List.length_drop, List.length_take]; rfl)) ?_; (with_reducible refine (laws_szFieldS.calls k _ _ l0_4 (wrap64 ((wrap64 (a1 - (a0_0.size : Int))) - (a0_1.size : Int))) t116 _ ?side1 ?side2 A9.out).mono ?_); (case side1 => repeat (first | exact (Kd.C_below HR0_4.out HB.out) | (with_reducible refine Kd.C_alloc ?_ _) | (with_reducible refine Kd.C_drewN ?_ _) | (with_reducible refine Kd.C_drew ?_))); (case side2 => exact HC0_4.out); rintro e w18 ⟨rfl, hb⟩; refine ⟨_, rfl, ?_⟩; have n0_ := Zm (Zkb (g := gb115) (o := .cells #[.string a0_0, .string a0_1, .bool a0_2, .bool a0_3, .slice A0_4 l0_4.length c0_4, .slice A0_5 l0_5.length c0_5] 45 (0, 0)) (by (with_reducible repeat (first | refine Zkn ?_ _ | refine Zkd ?_ | refine Zka ?_ _)); exact BK115.out) hb); have n1_ := Zm (Zbt (by repeat (first | (with_reducible first | exact HB.out | apply Zba | apply Zbn | apply Zbd | refine Zbs ?_ GE115.out) | exact HB.out)) hb); clear BK115; clear HB; have BK115 := n0_; have HB := n1_; clear n0_ n1_; (try clear hb); (try clear hb2); (try clear hk); (try clear hi); have hcz19_0 : w18.cell? ⟨gb115, 0, none⟩ = some (.string a0_0) := (Zkc BK115.out 0).trans rfl; have hcz19_1 : w18.cell? ⟨gb115, 1, none⟩ = some (.string a0_1) := (Zkc BK115.out 1).trans rfl; have hcz19_2 : w18.cell? ⟨gb115, 2, none⟩ = some (.bool a0_2) := (Zkc BK115.out 2).trans rfl; have hcz19_3 : w18.cell? ⟨gb115, 3, none⟩ = some (.bool a0_3) := (Zkc BK115.out 3).trans rfl; have hcz19_4 : w18.cell? ⟨gb115, 4, none⟩ = some (.slice A0_4 l0_4.length c0_4) := (Zkc BK115.out 4).trans rfl; have hcz19_5 : w18.cell? ⟨gb115, 5, none⟩ = some (.slice A0_5 l0_5.length c0_5) := (Zkc BK115.out 5).trans rfl; (try clear BK115)) | ((with_reducible refine gate_callee (f := 65) rfl ?_); refine goesL_ (some 28) rfl rfl Try.func65 (by kernel_rfl) rfl #[.slice A0_5 l0_5.length c0_5, .int .i64 t116] rfl (by (try simp only [List.map_toArray, List.map_cons, List.map_nil]); first | done | rfl | (simp only [List.length_drop, List.length_take]; rfl)) ?_; (with_reducible refine (laws_szMethodS.calls k _ _ l0_5 t116 t117 _ ?side1 ?side2 A14.out).mono ?_); (case side1 => repeat (first | exact (Kd.C_below HR0_5.out HB.out) | (with_reducible refine Kd.C_alloc ?_ _) | (with_reducible refine Kd.C_drewN ?_ _) | (with_reducible refine Kd.C_drew ?_))); (case side2 => exact HC0_5.out); rintro e w20 ⟨rfl, hb⟩; refine ⟨_, rfl, ?_⟩; have n0_ := Zm (Zbt (by repeat (first | (with_reducible first | exact HB.out | apply Zba | apply Zbn | apply Zbd) | exact HB.out)) hb); clear HB; have HB := n0_; clear n0_; (try clear hb); (try clear hb2); (try clear hk); (try clear hi)))
        go_ret
        exact ⟨by first | rfl | (simp [errW_none, errW_some] <;> rfl) | (simp [*, errW_none, errW_some] <;> rfl), by repeat (first | (with_reducible first | exact HB.out | apply Zba | apply Zbn | apply Zbd) | exact HB.out)⟩
      rw [if_pos c10] at H
      have c10b0 : decide (t116 < 0) = true := decide_eq_true c10
      clear c10
      obtain rfl := Option.some.inj H
      go_enter Try.func20, Try.ntmps20
      go_wp2_with (first | ((with_reducible refine gate_dst (N := 2) rfl ?_); refine box_event ?hg (N := 2) ?hd (cs := #[.string a0_0, .string a0_1, .bool a0_2, .bool a0_3, .slice A0_4 l0_4.length c0_4, .slice A0_5 l0_5.length c0_5]) (t := 45) ?hr ?_; (case hd => rfl); (case hg => rfl); (case hr => first | (go_simp; done) | (go_simp; rfl)); intro gb115 hg w11 hbox hb; have n0_ := Zm (Zbt (by repeat (first | (with_reducible first | exact HB.out | apply Zba | apply Zbn | apply Zbd) | exact HB.out)) hb); have n1_ := Zm (hbox); have n2_ := Zm ((by rw [hg]; exact (Zbz (by repeat (first | (with_reducible first | exact HB.out | apply Zba | apply Zbn | apply Zbd) | exact HB.out))) : w.heap.size ≤ gb115)); have n3_ := Zm ((by rw [hg]; exact (Zbz (by repeat (first | (with_reducible first | exact HB.out | apply Zba | apply Zbn | apply Zbd) | exact HB.out))) : w.heap.size ≤ gb115)); clear HB; have HB := n0_; have BK115 := n1_; have GW115 := n2_; have GE115 := n3_; clear n0_ n1_ n2_ n3_; clear hb hbox hg; have hcz12_0 : w11.cell? ⟨gb115, 0, none⟩ = some (.string a0_0) := (Zkc BK115.out 0).trans rfl; have hcz12_1 : w11.cell? ⟨gb115, 1, none⟩ = some (.string a0_1) := (Zkc BK115.out 1).trans rfl; have hcz12_2 : w11.cell? ⟨gb115, 2, none⟩ = some (.bool a0_2) := (Zkc BK115.out 2).trans rfl; have hcz12_3 : w11.cell? ⟨gb115, 3, none⟩ = some (.bool a0_3) := (Zkc BK115.out 3).trans rfl; have hcz12_4 : w11.cell? ⟨gb115, 4, none⟩ = some (.slice A0_4 l0_4.length c0_4) := (Zkc BK115.out 4).trans rfl; have hcz12_5 : w11.cell? ⟨gb115, 5, none⟩ = some (.slice A0_5 l0_5.length c0_5) := (Zkc BK115.out 5).trans rfl; (try clear BK115)) | ((with_reducible refine gate_callee (f := 64) rfl ?_); refine goesL_ (some 22) rfl rfl Try.func64 (by kernel_rfl) rfl #[.slice A0_4 l0_4.length c0_4, .int .i64 (wrap64 ((wrap64 (a1 - (a0_0.size : Int))) - (a0_1.size : Int)))] rfl (by (try simp only [List.map_toArray, List.map_cons, List.map_nil]); first | done | rfl | (simp only [List.length_drop, List.length_take]; rfl)) ?_; (with_reducible refine (laws_szFieldS.calls k _ _ l0_4 (wrap64 ((wrap64 (a1 - (a0_0.size : Int))) - (a0_1.size : Int))) t116 _ ?side1 ?side2 A9.out).mono ?_); (case side1 => repeat (first | exact (Kd.C_below HR0_4.out HB.out) | (with_reducible refine Kd.C_alloc ?_ _) | (with_reducible refine Kd.C_drewN ?_ _) | (with_reducible refine Kd.C_drew ?_))); (case side2 => exact HC0_4.out); rintro e w13 ⟨rfl, hb⟩; refine ⟨_, rfl, ?_⟩; have n0_ := Zm (Zbt (by repeat (first | (with_reducible first | exact HB.out | apply Zba | apply Zbn | apply Zbd) | exact HB.out)) hb); clear HB; have HB := n0_; clear n0_; (try clear hb); (try clear hb2); (try clear hk); (try clear hi)))
      go_ret
      exact ⟨by first | rfl | (simp [errW_none, errW_some] <;> rfl) | (simp [*, errW_none, errW_some] <;> rfl), by repeat (first | (with_reducible first | exact HB.out | apply Zba | apply Zbn | apply Zbd) | exact HB.out)⟩
    rw [if_pos c6] at H
    have c6b0 : decide ((wrap64 ((wrap64 (a1 - (a0_0.size : Int))) - (a0_1.size : Int))) < 0) = true := decide_eq_true c6
    (try (have c6b1 : decide ((IntKind.i64.wrap ((IntKind.i64.wrap (a1 - (a0_0.size : Int))) - (a0_1.size : Int))) < 0) = true := by simp only [i64_w]; exact (decide_eq_true c6)))
    clear c6
    obtain rfl := Option.some.inj H
    go_enter Try.func20, Try.ntmps20
    go_wp2_with (first | ((with_reducible refine gate_dst (N := 2) rfl ?_); refine box_event ?hg (N := 2) ?hd (cs := #[.string a0_0, .string a0_1, .bool a0_2, .bool a0_3, .slice A0_4 l0_4.length c0_4, .slice A0_5 l0_5.length c0_5]) (t := 45) ?hr ?_; (case hd => rfl); (case hg => rfl); (case hr => first | (go_simp; done) | (go_simp; rfl)); intro gb115 hg w7 hbox hb; have n0_ := Zm (Zbt (by repeat (first | (with_reducible first | exact HB.out | apply Zba | apply Zbn | apply Zbd) | exact HB.out)) hb); have n1_ := Zm (hbox); have n2_ := Zm ((by rw [hg]; exact (Zbz (by repeat (first | (with_reducible first | exact HB.out | apply Zba | apply Zbn | apply Zbd) | exact HB.out))) : w.heap.size ≤ gb115)); have n3_ := Zm ((by rw [hg]; exact (Zbz (by repeat (first | (with_reducible first | exact HB.out | apply Zba | apply Zbn | apply Zbd) | exact HB.out))) : w.heap.size ≤ gb115)); clear HB; have HB := n0_; have BK115 := n1_; have GW115 := n2_; have GE115 := n3_; clear n0_ n1_ n2_ n3_; clear hb hbox hg; have hcz8_0 : w7.cell? ⟨gb115, 0, none⟩ = some (.string a0_0) := (Zkc BK115.out 0).trans rfl; have hcz8_1 : w7.cell? ⟨gb115, 1, none⟩ = some (.string a0_1) := (Zkc BK115.out 1).trans rfl; have hcz8_2 : w7.cell? ⟨gb115, 2, none⟩ = some (.bool a0_2) := (Zkc BK115.out 2).trans rfl; have hcz8_3 : w7.cell? ⟨gb115, 3, none⟩ = some (.bool a0_3) := (Zkc BK115.out 3).trans rfl; have hcz8_4 : w7.cell? ⟨gb115, 4, none⟩ = some (.slice A0_4 l0_4.length c0_4) := (Zkc BK115.out 4).trans rfl; have hcz8_5 : w7.cell? ⟨gb115, 5, none⟩ = some (.slice A0_5 l0_5.length c0_5) := (Zkc BK115.out 5).trans rfl; have hfz8_5 := Zkf BK115.out 5))
    go_ret
    exact ⟨by first | rfl | (simp [errW_none, errW_some] <;> rfl) | (simp [*, errW_none, errW_some] <;> rfl), by repeat (first | (with_reducible first | exact HB.out | apply Zba | apply Zbn | apply Zbd | refine Zbs ?_ GE115.out) | exact HB.out)⟩
  rw [if_pos c3] at H
  have c3b0 : decide ((wrap64 (a1 - (a0_0.size : Int))) < 0) = true := decide_eq_true c3
  (try (have c3b1 : decide ((IntKind.i64.wrap (a1 - (a0_0.size : Int))) < 0) = true := by simp only [i64_w]; exact (decide_eq_true c3)))
  clear c3
  obtain rfl := Option.some.inj H
  go_enter Try.func20, Try.ntmps20
  go_wp2_with (first | ((with_reducible refine gate_dst (N := 2) rfl ?_); refine box_event ?hg (N := 2) ?hd (cs := #[.string a0_0, .string a0_1, .bool a0_2, .bool a0_3, .slice A0_4 l0_4.length c0_4, .slice A0_5 l0_5.length c0_5]) (t := 45) ?hr ?_; (case hd => rfl); (case hg => rfl); (case hr => first | (go_simp; done) | (go_simp; rfl)); intro gb115 hg w4 hbox hb; have n0_ := Zm (Zbt (by repeat (first | (with_reducible first | exact HB.out | apply Zba | apply Zbn | apply Zbd) | exact HB.out)) hb); have n1_ := Zm (hbox); have n2_ := Zm ((by rw [hg]; exact (Zbz (by repeat (first | (with_reducible first | exact HB.out | apply Zba | apply Zbn | apply Zbd) | exact HB.out))) : w.heap.size ≤ gb115)); have n3_ := Zm ((by rw [hg]; exact (Zbz (by repeat (first | (with_reducible first | exact HB.out | apply Zba | apply Zbn | apply Zbd) | exact HB.out))) : w.heap.size ≤ gb115)); clear HB; have HB := n0_; have BK115 := n1_; have GW115 := n2_; have GE115 := n3_; clear n0_ n1_ n2_ n3_; clear hb hbox hg; have hcz5_0 : w4.cell? ⟨gb115, 0, none⟩ = some (.string a0_0) := (Zkc BK115.out 0).trans rfl; have hcz5_1 : w4.cell? ⟨gb115, 1, none⟩ = some (.string a0_1) := (Zkc BK115.out 1).trans rfl; have hcz5_2 : w4.cell? ⟨gb115, 2, none⟩ = some (.bool a0_2) := (Zkc BK115.out 2).trans rfl; have hcz5_3 : w4.cell? ⟨gb115, 3, none⟩ = some (.bool a0_3) := (Zkc BK115.out 3).trans rfl; have hcz5_4 : w4.cell? ⟨gb115, 4, none⟩ = some (.slice A0_4 l0_4.length c0_4) := (Zkc BK115.out 4).trans rfl; have hcz5_5 : w4.cell? ⟨gb115, 5, none⟩ = some (.slice A0_5 l0_5.length c0_5) := (Zkc BK115.out 5).trans rfl; have hfz5_5 := Zkf BK115.out 5))
  go_ret
  exact ⟨by first | rfl | (simp [errW_none, errW_some] <;> rfl) | (simp [*, errW_none, errW_some] <;> rfl), by repeat (first | (with_reducible first | exact HB.out | apply Zba | apply Zbn | apply Zbd | refine Zbs ?_ GE115.out) | exact HB.out)⟩
/-! ### spec_l03SameMethod: function 66 -/
mutual
def spec_l03SameMethod.j0 : Nat → Bool → ByteArray → ByteArray → Bool → Bool → Bool → Int → Int → List (S156) → List (S160) → ByteArray → ByteArray → Bool → Bool → Bool → Int → Int → List (S156) → List (S160) → Option (Bool)
  | 0, _, _, _, _, _, _, _, _, _, _, _, _, _, _, _, _, _, _, _ => none
  | k + 1, x71, x119000, x119001, x119002, x119003, x119004, x119005, x119006, x119007, x119008, x120000, x120001, x120002, x120003, x120004, x120005, x120006, x120007, x120008 => if x71 = true then (some false) else (spec_l03SameMethod.l0 k 0 x119000 x119001 x119002 x119003 x119004 x119005 x119006 x119007 x119008 x120000 x120001 x120002 x120003 x120004 x120005 x120006 x120007 x120008)
def spec_l03SameMethod.l0 : Nat → Int → ByteArray → ByteArray → Bool → Bool → Bool → Int → Int → List (S156) → List (S160) → ByteArray → ByteArray → Bool → Bool → Bool → Int → Int → List (S156) → List (S160) → Option (Bool)
  | 0, _, _, _, _, _, _, _, _, _, _, _, _, _, _, _, _, _, _, _ => none
  | k + 1, x5, x119000, x119001, x119002, x119003, x119004, x119005, x119006, x119007, x119008, x120000, x120001, x120002, x120003, x120004, x120005, x120006, x120007, x120008 => if x5 < (x119007.length : Int) then (if 0 ≤ x5 then (if x5 < (x120007.length : Int) then (if (!(((rd_T156 x119007 x5).f0) == ((rd_T156 x120007 x5).f0)) || (!(((rd_T156 x119007 x5).f1) == ((rd_T156 x120007 x5).f1)) || (!((((rd_T156 x119007 x5).f2).toList) == (((rd_T156 x120007 x5).f2).toList)) || (!((((rd_T156 x119007 x5).f3).toList) == (((rd_T156 x120007 x5).f3).toList)) || (!((((rd_T156 x119007 x5).f4).toList) == (((rd_T156 x120007 x5).f4).toList))))))) = true then (some false) else (spec_l03SameMethod.l0 k (wrap64 (x5 + 1)) x119000 x119001 x119002 x119003 x119004 x119005 x119006 x119007 x119008 x120000 x120001 x120002 x120003 x120004 x120005 x120006 x120007 x120008)) else (none)) else (none)) else (spec_l03SameMethod.l1 k 0 x119000 x119001 x119002 x119003 x119004 x119005 x119006 x119007 x119008 x120000 x120001 x120002 x120003 x120004 x120005 x120006 x120007 x120008)
def spec_l03SameMethod.l1 : Nat → Int → ByteArray → ByteArray → Bool → Bool → Bool → Int → Int → List (S156) → List (S160) → ByteArray → ByteArray → Bool → Bool → Bool → Int → Int → List (S156) → List (S160) → Option (Bool)
  | 0, _, _, _, _, _, _, _, _, _, _, _, _, _, _, _, _, _, _, _ => none
  | k + 1, x6, x119000, x119001, x119002, x119003, x119004, x119005, x119006, x119007, x119008, x120000, x120001, x120002, x120003, x120004, x120005, x120006, x120007, x120008 => if x6 < (x119008.length : Int) then (if 0 ≤ x6 then (if x6 < (x120008.length : Int) then (if (!(((rd_T160 x119008 x6).f0) == ((rd_T160 x120008 x6).f0)) || (!(((rd_T160 x119008 x6).f1) == ((rd_T160 x120008 x6).f1)) || (!(((rd_T160 x119008 x6).f2) == ((rd_T160 x120008 x6).f2)) || (!((((rd_T160 x119008 x6).f3).toList) == (((rd_T160 x120008 x6).f3).toList)))))) = true then (some false) else (spec_l03SameMethod.l1 k (wrap64 (x6 + 1)) x119000 x119001 x119002 x119003 x119004 x119005 x119006 x119007 x119008 x120000 x120001 x120002 x120003 x120004 x120005 x120006 x120007 x120008)) else (none)) else (none)) else (some true)
end
def spec_l03SameMethod.f (k : Nat) (a0_0 : ByteArray) (a0_1 : ByteArray) (a0_2 : Bool) (a0_3 : Bool) (a0_4 : Bool) (a0_5 : Int) (a0_6 : Int) (l0_7 : List (S156)) (l0_8 : List (S160)) (a1_0 : ByteArray) (a1_1 : ByteArray) (a1_2 : Bool) (a1_3 : Bool) (a1_4 : Bool) (a1_5 : Int) (a1_6 : Int) (l1_7 : List (S156)) (l1_8 : List (S160)) : Option (Bool) := if a0_0.toList = a1_0.toList then (if a0_1.toList = a1_1.toList then (if (a0_2 != a1_2) = true then (spec_l03SameMethod.j0 k true a0_0 a0_1 a0_2 a0_3 a0_4 a0_5 a0_6 l0_7 l0_8 a1_0 a1_1 a1_2 a1_3 a1_4 a1_5 a1_6 l1_7 l1_8) else (if (a0_3 != a1_3) = true then (spec_l03SameMethod.j0 k true a0_0 a0_1 a0_2 a0_3 a0_4 a0_5 a0_6 l0_7 l0_8 a1_0 a1_1 a1_2 a1_3 a1_4 a1_5 a1_6 l1_7 l1_8) else (if (a0_4 != a1_4) = true then (spec_l03SameMethod.j0 k true a0_0 a0_1 a0_2 a0_3 a0_4 a0_5 a0_6 l0_7 l0_8 a1_0 a1_1 a1_2 a1_3 a1_4 a1_5 a1_6 l1_7 l1_8) else (if a0_5 = a1_5 then (if a0_6 = a1_6 then (if (l0_7.length : Int) = (l1_7.length : Int) then (spec_l03SameMethod.j0 k ((l0_8.length : Int) != (l1_8.length : Int)) a0_0 a0_1 a0_2 a0_3 a0_4 a0_5 a0_6 l0_7 l0_8 a1_0 a1_1 a1_2 a1_3 a1_4 a1_5 a1_6 l1_7 l1_8) else (spec_l03SameMethod.j0 k true a0_0 a0_1 a0_2 a0_3 a0_4 a0_5 a0_6 l0_7 l0_8 a1_0 a1_1 a1_2 a1_3 a1_4 a1_5 a1_6 l1_7 l1_8)) else (spec_l03SameMethod.j0 k true a0_0 a0_1 a0_2 a0_3 a0_4 a0_5 a0_6 l0_7 l0_8 a1_0 a1_1 a1_2 a1_3 a1_4 a1_5 a1_6 l1_7 l1_8)) else (spec_l03SameMethod.j0 k true a0_0 a0_1 a0_2 a0_3 a0_4 a0_5 a0_6 l0_7 l0_8 a1_0 a1_1 a1_2 a1_3 a1_4 a1_5 a1_6 l1_7 l1_8))))) else (spec_l03SameMethod.j0 k true a0_0 a0_1 a0_2 a0_3 a0_4 a0_5 a0_6 l0_7 l0_8 a1_0 a1_1 a1_2 a1_3 a1_4 a1_5 a1_6 l1_7 l1_8)) else (spec_l03SameMethod.j0 k true a0_0 a0_1 a0_2 a0_3 a0_4 a0_5 a0_6 l0_7 l0_8 a1_0 a1_1 a1_2 a1_3 a1_4 a1_5 a1_6 l1_7 l1_8)
theorem spec_l03SameMethod.mono_l : ∀ k, (∀ y0 y1 y2 y3 y4 y5 y6 y7 y8 y9 y10 y11 y12 y13 y14 y15 y16 y17 y18, LeO (spec_l03SameMethod.j0 k y0 y1 y2 y3 y4 y5 y6 y7 y8 y9 y10 y11 y12 y13 y14 y15 y16 y17 y18) (spec_l03SameMethod.j0 (k + 1) y0 y1 y2 y3 y4 y5 y6 y7 y8 y9 y10 y11 y12 y13 y14 y15 y16 y17 y18)) ∧ (∀ y0 y1 y2 y3 y4 y5 y6 y7 y8 y9 y10 y11 y12 y13 y14 y15 y16 y17 y18, LeO (spec_l03SameMethod.l0 k y0 y1 y2 y3 y4 y5 y6 y7 y8 y9 y10 y11 y12 y13 y14 y15 y16 y17 y18) (spec_l03SameMethod.l0 (k + 1) y0 y1 y2 y3 y4 y5 y6 y7 y8 y9 y10 y11 y12 y13 y14 y15 y16 y17 y18)) ∧ (∀ y0 y1 y2 y3 y4 y5 y6 y7 y8 y9 y10 y11 y12 y13 y14 y15 y16 y17 y18, LeO (spec_l03SameMethod.l1 k y0 y1 y2 y3 y4 y5 y6 y7 y8 y9 y10 y11 y12 y13 y14 y15 y16 y17 y18) (spec_l03SameMethod.l1 (k + 1) y0 y1 y2 y3 y4 y5 y6 y7 y8 y9 y10 y11 y12 y13 y14 y15 y16 y17 y18))
  | 0 => ⟨fun _ _ _ _ _ _ _ _ _ _ _ _ _ _ _ _ _ _ _ r h => by simp [spec_l03SameMethod.j0] at h, fun _ _ _ _ _ _ _ _ _ _ _ _ _ _ _ _ _ _ _ r h => by simp [spec_l03SameMethod.l0] at h, fun _ _ _ _ _ _ _ _ _ _ _ _ _ _ _ _ _ _ _ r h => by simp [spec_l03SameMethod.l1] at h⟩
  | k + 1 => by
    obtain ⟨ih0, ih1, ih2⟩ := spec_l03SameMethod.mono_l k
    refine ⟨?_, ?_, ?_⟩
    · intro y0 y1 y2 y3 y4 y5 y6 y7 y8 y9 y10 y11 y12 y13 y14 y15 y16 y17 y18
      unfold spec_l03SameMethod.j0
      repeat' first
      | (with_reducible exact ih0 _ _ _ _ _ _ _ _ _ _ _ _ _ _ _ _ _ _ _)
      | (with_reducible exact ih1 _ _ _ _ _ _ _ _ _ _ _ _ _ _ _ _ _ _ _)
      | (with_reducible exact ih2 _ _ _ _ _ _ _ _ _ _ _ _ _ _ _ _ _ _ _)
      | (with_reducible exact LeO.refl _)
      | (with_reducible exact LeO.none _)
      | (with_reducible refine LeO.ite ?_ ?_)
      | (with_reducible refine LeO.bind ?_ (fun _ => ?_))
      | exact ih0 _ _ _ _ _ _ _ _ _ _ _ _ _ _ _ _ _ _ _
      | exact ih1 _ _ _ _ _ _ _ _ _ _ _ _ _ _ _ _ _ _ _
      | exact ih2 _ _ _ _ _ _ _ _ _ _ _ _ _ _ _ _ _ _ _
      | exact LeO.none _
      | refine LeO.ite ?_ ?_
      | refine LeO.bind ?_ (fun _ => ?_)
    · intro y0 y1 y2 y3 y4 y5 y6 y7 y8 y9 y10 y11 y12 y13 y14 y15 y16 y17 y18
      unfold spec_l03SameMethod.l0
      repeat' first
      | (with_reducible exact ih0 _ _ _ _ _ _ _ _ _ _ _ _ _ _ _ _ _ _ _)
      | (with_reducible exact ih1 _ _ _ _ _ _ _ _ _ _ _ _ _ _ _ _ _ _ _)
      | (with_reducible exact ih2 _ _ _ _ _ _ _ _ _ _ _ _ _ _ _ _ _ _ _)
      | (with_reducible exact LeO.refl _)
      | (with_reducible exact LeO.none _)
      | (with_reducible refine LeO.ite ?_ ?_)
      | (with_reducible refine LeO.bind ?_ (fun _ => ?_))
      | exact ih0 _ _ _ _ _ _ _ _ _ _ _ _ _ _ _ _ _ _ _
      | exact ih1 _ _ _ _ _ _ _ _ _ _ _ _ _ _ _ _ _ _ _
      | exact ih2 _ _ _ _ _ _ _ _ _ _ _ _ _ _ _ _ _ _ _
      | exact LeO.none _
      | refine LeO.ite ?_ ?_
      | refine LeO.bind ?_ (fun _ => ?_)
    · intro y0 y1 y2 y3 y4 y5 y6 y7 y8 y9 y10 y11 y12 y13 y14 y15 y16 y17 y18
      unfold spec_l03SameMethod.l1
      repeat' first
      | (with_reducible exact ih0 _ _ _ _ _ _ _ _ _ _ _ _ _ _ _ _ _ _ _)
      | (with_reducible exact ih1 _ _ _ _ _ _ _ _ _ _ _ _ _ _ _ _ _ _ _)
      | (with_reducible exact ih2 _ _ _ _ _ _ _ _ _ _ _ _ _ _ _ _ _ _ _)
      | (with_reducible exact LeO.refl _)
      | (with_reducible exact LeO.none _)
      | (with_reducible refine LeO.ite ?_ ?_)
      | (with_reducible refine LeO.bind ?_ (fun _ => ?_))
      | exact ih0 _ _ _ _ _ _ _ _ _ _ _ _ _ _ _ _ _ _ _
      | exact ih1 _ _ _ _ _ _ _ _ _ _ _ _ _ _ _ _ _ _ _
      | exact ih2 _ _ _ _ _ _ _ _ _ _ _ _ _ _ _ _ _ _ _
      | exact LeO.none _
      | refine LeO.ite ?_ ?_
      | refine LeO.bind ?_ (fun _ => ?_)
theorem spec_l03SameMethod.mono : ∀ a0 a1 a2 a3 a4 a5 a6 a7 a8 a9 a10 a11 a12 a13 a14 a15 a16 a17 k, LeO (spec_l03SameMethod.f k a0 a1 a2 a3 a4 a5 a6 a7 a8 a9 a10 a11 a12 a13 a14 a15 a16 a17) (spec_l03SameMethod.f (k + 1) a0 a1 a2 a3 a4 a5 a6 a7 a8 a9 a10 a11 a12 a13 a14 a15 a16 a17) := by
  intro a0 a1 a2 a3 a4 a5 a6 a7 a8 a9 a10 a11 a12 a13 a14 a15 a16 a17 k
  obtain ⟨ih0, ih1, ih2⟩ := spec_l03SameMethod.mono_l k
  unfold spec_l03SameMethod.f
  repeat' first
      | (with_reducible exact ih0 _ _ _ _ _ _ _ _ _ _ _ _ _ _ _ _ _ _ _)
      | (with_reducible exact ih1 _ _ _ _ _ _ _ _ _ _ _ _ _ _ _ _ _ _ _)
      | (with_reducible exact ih2 _ _ _ _ _ _ _ _ _ _ _ _ _ _ _ _ _ _ _)
      | (with_reducible exact LeO.refl _)
      | (with_reducible exact LeO.none _)
      | (with_reducible refine LeO.ite ?_ ?_)
      | (with_reducible refine LeO.bind ?_ (fun _ => ?_))
      | exact ih0 _ _ _ _ _ _ _ _ _ _ _ _ _ _ _ _ _ _ _
      | exact ih1 _ _ _ _ _ _ _ _ _ _ _ _ _ _ _ _ _ _ _
      | exact ih2 _ _ _ _ _ _ _ _ _ _ _ _ _ _ _ _ _ _ _
      | exact LeO.none _
      | refine LeO.ite ?_ ?_
      | refine LeO.bind ?_ (fun _ => ?_)
set_option maxHeartbeats 8000000 in
set_option maxRecDepth 100000 in
theorem spec_l03SameMethod.calls (k : Nat) (a0_0 : ByteArray) (a0_1 : ByteArray) (a0_2 : Bool) (a0_3 : Bool) (a0_4 : Bool) (a0_5 : Int) (a0_6 : Int) (A0_7 : Option Addr) (c0_7 : Nat) (l0_7 : List (S156)) (A0_8 : Option Addr) (c0_8 : Nat) (l0_8 : List (S160)) (a1_0 : ByteArray) (a1_1 : ByteArray) (a1_2 : Bool) (a1_3 : Bool) (a1_4 : Bool) (a1_5 : Int) (a1_6 : Int) (A1_7 : Option Addr) (c1_7 : Nat) (l1_7 : List (S156)) (A1_8 : Option Addr) (c1_8 : Nat) (l1_8 : List (S160)) (r : Bool) (w : World) (hr0_7 : Kd.C k156 w A0_7 l0_7.length l0_7) (hc0_7 : l0_7.length ≤ c0_7) (hr0_8 : Kd.C k160 w A0_8 l0_8.length l0_8) (hc0_8 : l0_8.length ≤ c0_8) (hr1_7 : Kd.C k156 w A1_7 l1_7.length l1_7) (hc1_7 : l1_7.length ≤ c1_7) (hr1_8 : Kd.C k160 w A1_8 l1_8.length l1_8) (hc1_8 : l1_8.length ≤ c1_8) (h : spec_l03SameMethod.f k a0_0 a0_1 a0_2 a0_3 a0_4 a0_5 a0_6 l0_7 l0_8 a1_0 a1_1 a1_2 a1_3 a1_4 a1_5 a1_6 l1_7 l1_8 = some r) :
    Calls Try.prog 66 #[.agg #[.string a0_0, .string a0_1, .bool a0_2, .bool a0_3, .bool a0_4, .int .i64 a0_5, .int .i64 a0_6, .slice A0_7 l0_7.length c0_7, .slice A0_8 l0_8.length c0_8], .agg #[.string a1_0, .string a1_1, .bool a1_2, .bool a1_3, .bool a1_4, .int .i64 a1_5, .int .i64 a1_6, .slice A1_7 l1_7.length c1_7, .slice A1_8 l1_8.length c1_8]] w fun e w' => e = .returned (.bool r) ∧ Below w.heap.size w w' := by
  have hu84 := Try.underlying84
  have hu156 := Try.underlying156
  have hu160 := Try.underlying160
  have HR0_7 := Zm hr0_7
  have HC0_7 := Zm hc0_7
  clear hr0_7 hc0_7
  have HR0_8 := Zm hr0_8
  have HC0_8 := Zm hc0_8
  clear hr0_8 hc0_8
  have HR1_7 := Zm hr1_7
  have HC1_7 := Zm hc1_7
  clear hr1_7 hc1_7
  have HR1_8 := Zm hr1_8
  have HC1_8 := Zm hc1_8
  clear hr1_8 hc1_8
  have HB := Zm (Below.refl w.heap.size w)
  have H : (if a0_0.toList = a1_0.toList then (if a0_1.toList = a1_1.toList then (if (a0_2 != a1_2) = true then (spec_l03SameMethod.j0 k true a0_0 a0_1 a0_2 a0_3 a0_4 a0_5 a0_6 l0_7 l0_8 a1_0 a1_1 a1_2 a1_3 a1_4 a1_5 a1_6 l1_7 l1_8) else (if (a0_3 != a1_3) = true then (spec_l03SameMethod.j0 k true a0_0 a0_1 a0_2 a0_3 a0_4 a0_5 a0_6 l0_7 l0_8 a1_0 a1_1 a1_2 a1_3 a1_4 a1_5 a1_6 l1_7 l1_8) else (if (a0_4 != a1_4) = true then (spec_l03SameMethod.j0 k true a0_0 a0_1 a0_2 a0_3 a0_4 a0_5 a0_6 l0_7 l0_8 a1_0 a1_1 a1_2 a1_3 a1_4 a1_5 a1_6 l1_7 l1_8) else (if a0_5 = a1_5 then (if a0_6 = a1_6 then (if (l0_7.length : Int) = (l1_7.length : Int) then (spec_l03SameMethod.j0 k ((l0_8.length : Int) != (l1_8.length : Int)) a0_0 a0_1 a0_2 a0_3 a0_4 a0_5 a0_6 l0_7 l0_8 a1_0 a1_1 a1_2 a1_3 a1_4 a1_5 a1_6 l1_7 l1_8) else (spec_l03SameMethod.j0 k true a0_0 a0_1 a0_2 a0_3 a0_4 a0_5 a0_6 l0_7 l0_8 a1_0 a1_1 a1_2 a1_3 a1_4 a1_5 a1_6 l1_7 l1_8)) else (spec_l03SameMethod.j0 k true a0_0 a0_1 a0_2 a0_3 a0_4 a0_5 a0_6 l0_7 l0_8 a1_0 a1_1 a1_2 a1_3 a1_4 a1_5 a1_6 l1_7 l1_8)) else (spec_l03SameMethod.j0 k true a0_0 a0_1 a0_2 a0_3 a0_4 a0_5 a0_6 l0_7 l0_8 a1_0 a1_1 a1_2 a1_3 a1_4 a1_5 a1_6 l1_7 l1_8))))) else (spec_l03SameMethod.j0 k true a0_0 a0_1 a0_2 a0_3 a0_4 a0_5 a0_6 l0_7 l0_8 a1_0 a1_1 a1_2 a1_3 a1_4 a1_5 a1_6 l1_7 l1_8)) else (spec_l03SameMethod.j0 k true a0_0 a0_1 a0_2 a0_3 a0_4 a0_5 a0_6 l0_7 l0_8 a1_0 a1_1 a1_2 a1_3 a1_4 a1_5 a1_6 l1_7 l1_8)) = some r := h
  clear h
  have HC3 := Zm H
  clear H
  go_enter Try.func66, Try.ntmps66
  go_upto_region 1 with (first | ((with_reducible refine gate_dst (N := 2) rfl ?_); (try (refine gate_guard (by rfl) ?_; dsimp only)); refine box_event ?hg (N := 2) ?hd (cs := #[.string a0_0, .string a0_1, .bool a0_2, .bool a0_3, .bool a0_4, .int .i64 a0_5, .int .i64 a0_6, .slice A0_7 l0_7.length c0_7, .slice A0_8 l0_8.length c0_8]) (t := 84) ?hr ?_; (case hd => rfl); (case hg => rfl); (case hr => first | (go_simp; done) | (go_simp; rfl)); intro gb118 hg w4 hbox hb; have n0_ := Zm (Zbt (by repeat (first | (with_reducible first | exact HB.out | apply Zba | apply Zbn | apply Zbd) | exact HB.out)) hb); have n1_ := Zm (hbox); have n2_ := Zm ((by rw [hg]; exact (Zbz (by repeat (first | (with_reducible first | exact HB.out | apply Zba | apply Zbn | apply Zbd) | exact HB.out))) : w.heap.size ≤ gb118)); have n3_ := Zm ((by rw [hg]; exact (Zbz (by repeat (first | (with_reducible first | exact HB.out | apply Zba | apply Zbn | apply Zbd) | exact HB.out))) : w.heap.size ≤ gb118)); clear HB; have HB := n0_; have BK118 := n1_; have GW118 := n2_; have GE118 := n3_; clear n0_ n1_ n2_ n3_; clear hb hbox hg) | ((with_reducible refine gate_dst (N := 3) rfl ?_); (try (refine gate_guard (by rfl) ?_; dsimp only)); refine box_event ?hg (N := 3) ?hd (cs := #[.string a1_0, .string a1_1, .bool a1_2, .bool a1_3, .bool a1_4, .int .i64 a1_5, .int .i64 a1_6, .slice A1_7 l1_7.length c1_7, .slice A1_8 l1_8.length c1_8]) (t := 84) ?hr ?_; (case hd => rfl); (case hg => rfl); (case hr => first | (go_simp; done) | (go_simp; rfl)); intro gb119 hg w5 hbox hb; have n0_ := Zm (Zkb (g := gb118) (o := .cells #[.string a0_0, .string a0_1, .bool a0_2, .bool a0_3, .bool a0_4, .int .i64 a0_5, .int .i64 a0_6, .slice A0_7 l0_7.length c0_7, .slice A0_8 l0_8.length c0_8] 84 (0, 0)) (by (with_reducible repeat (first | refine Zkn ?_ _ | refine Zkd ?_ | refine Zka ?_ _)); exact BK118.out) hb); have n1_ := Zm (Zbt (by repeat (first | (with_reducible first | exact HB.out | apply Zba | apply Zbn | apply Zbd | refine Zbs ?_ GE118.out) | exact HB.out)) hb); have n2_ := Zm (hbox); have n3_ := Zm ((by rw [hg]; exact (Zbz (by repeat (first | (with_reducible first | exact HB.out | apply Zba | apply Zbn | apply Zbd | refine Zbs ?_ GE118.out) | exact HB.out))) : w.heap.size ≤ gb119)); have n4_ := Zm ((by rw [hg]; exact (Zbz (by repeat (first | (with_reducible first | exact HB.out | apply Zba | apply Zbn | apply Zbd | refine Zbs ?_ GE118.out) | exact HB.out))) : w.heap.size ≤ gb119)); have n5_ := Zm ((by rw [hg]; exact Nat.ne_of_lt (blk_lt (g := gb118) (o := .cells #[.string a0_0, .string a0_1, .bool a0_2, .bool a0_3, .bool a0_4, .int .i64 a0_5, .int .i64 a0_6, .slice A0_7 l0_7.length c0_7, .slice A0_8 l0_8.length c0_8] 84 (0, 0)) (by (with_reducible repeat (first | refine Zkn ?_ _ | refine Zkd ?_ | refine Zka ?_ _)); exact BK118.out)) : gb118 ≠ gb119)); have n6_ := Zm ((by rw [hg]; exact Nat.ne_of_gt (blk_lt (g := gb118) (o := .cells #[.string a0_0, .string a0_1, .bool a0_2, .bool a0_3, .bool a0_4, .int .i64 a0_5, .int .i64 a0_6, .slice A0_7 l0_7.length c0_7, .slice A0_8 l0_8.length c0_8] 84 (0, 0)) (by (with_reducible repeat (first | refine Zkn ?_ _ | refine Zkd ?_ | refine Zka ?_ _)); exact BK118.out)) : gb119 ≠ gb118)); clear BK118; clear HB; have BK118 := n0_; have HB := n1_; have BK119 := n2_; have GW119 := n3_; have GE119 := n4_; have NB118_119 := n5_; have NB119_118 := n6_; clear n0_ n1_ n2_ n3_ n4_ n5_ n6_; clear hb hbox hg))
  repeat (go_quiet (first | ((with_reducible refine gate_dst (N := 2) rfl ?_); (try (refine gate_guard (by rfl) ?_; dsimp only)); refine box_event ?hg (N := 2) ?hd (cs := #[.string a0_0, .string a0_1, .bool a0_2, .bool a0_3, .bool a0_4, .int .i64 a0_5, .int .i64 a0_6, .slice A0_7 l0_7.length c0_7, .slice A0_8 l0_8.length c0_8]) (t := 84) ?hr ?_; (case hd => rfl); (case hg => rfl); (case hr => first | (go_simp; done) | (go_simp; rfl)); intro gb118 hg w4 hbox hb; have n0_ := Zm (Zbt (by repeat (first | (with_reducible first | exact HB.out | apply Zba | apply Zbn | apply Zbd) | exact HB.out)) hb); have n1_ := Zm (hbox); have n2_ := Zm ((by rw [hg]; exact (Zbz (by repeat (first | (with_reducible first | exact HB.out | apply Zba | apply Zbn | apply Zbd) | exact HB.out))) : w.heap.size ≤ gb118)); have n3_ := Zm ((by rw [hg]; exact (Zbz (by repeat (first | (with_reducible first | exact HB.out | apply Zba | apply Zbn | apply Zbd) | exact HB.out))) : w.heap.size ≤ gb118)); clear HB; have HB := n0_; have BK118 := n1_; have GW118 := n2_; have GE118 := n3_; clear n0_ n1_ n2_ n3_; clear hb hbox hg) | ((with_reducible refine gate_dst (N := 3) rfl ?_); (try (refine gate_guard (by rfl) ?_; dsimp only)); refine box_event ?hg (N := 3) ?hd (cs := #[.string a1_0, .string a1_1, .bool a1_2, .bool a1_3, .bool a1_4, .int .i64 a1_5, .int .i64 a1_6, .slice A1_7 l1_7.length c1_7, .slice A1_8 l1_8.length c1_8]) (t := 84) ?hr ?_; (case hd => rfl); (case hg => rfl); (case hr => first | (go_simp; done) | (go_simp; rfl)); intro gb119 hg w5 hbox hb; have n0_ := Zm (Zkb (g := gb118) (o := .cells #[.string a0_0, .string a0_1, .bool a0_2, .bool a0_3, .bool a0_4, .int .i64 a0_5, .int .i64 a0_6, .slice A0_7 l0_7.length c0_7, .slice A0_8 l0_8.length c0_8] 84 (0, 0)) (by (with_reducible repeat (first | refine Zkn ?_ _ | refine Zkd ?_ | refine Zka ?_ _)); exact BK118.out) hb); have n1_ := Zm (Zbt (by repeat (first | (with_reducible first | exact HB.out | apply Zba | apply Zbn | apply Zbd | refine Zbs ?_ GE118.out) | exact HB.out)) hb); have n2_ := Zm (hbox); have n3_ := Zm ((by rw [hg]; exact (Zbz (by repeat (first | (with_reducible first | exact HB.out | apply Zba | apply Zbn | apply Zbd | refine Zbs ?_ GE118.out) | exact HB.out))) : w.heap.size ≤ gb119)); have n4_ := Zm ((by rw [hg]; exact (Zbz (by repeat (first | (with_reducible first | exact HB.out | apply Zba | apply Zbn | apply Zbd | refine Zbs ?_ GE118.out) | exact HB.out))) : w.heap.size ≤ gb119)); have n5_ := Zm ((by rw [hg]; exact Nat.ne_of_lt (blk_lt (g := gb118) (o := .cells #[.string a0_0, .string a0_1, .bool a0_2, .bool a0_3, .bool a0_4, .int .i64 a0_5, .int .i64 a0_6, .slice A0_7 l0_7.length c0_7, .slice A0_8 l0_8.length c0_8] 84 (0, 0)) (by (with_reducible repeat (first | refine Zkn ?_ _ | refine Zkd ?_ | refine Zka ?_ _)); exact BK118.out)) : gb118 ≠ gb119)); have n6_ := Zm ((by rw [hg]; exact Nat.ne_of_gt (blk_lt (g := gb118) (o := .cells #[.string a0_0, .string a0_1, .bool a0_2, .bool a0_3, .bool a0_4, .int .i64 a0_5, .int .i64 a0_6, .slice A0_7 l0_7.length c0_7, .slice A0_8 l0_8.length c0_8] 84 (0, 0)) (by (with_reducible repeat (first | refine Zkn ?_ _ | refine Zkd ?_ | refine Zka ?_ _)); exact BK118.out)) : gb119 ≠ gb118)); clear BK118; clear HB; have BK118 := n0_; have HB := n1_; have BK119 := n2_; have GW119 := n3_; have GE119 := n4_; have NB118_119 := n5_; have NB119_118 := n6_; clear n0_ n1_ n2_ n3_ n4_ n5_ n6_; clear hb hbox hg)); go_upto_region 1 with (first | ((with_reducible refine gate_dst (N := 2) rfl ?_); (try (refine gate_guard (by rfl) ?_; dsimp only)); refine box_event ?hg (N := 2) ?hd (cs := #[.string a0_0, .string a0_1, .bool a0_2, .bool a0_3, .bool a0_4, .int .i64 a0_5, .int .i64 a0_6, .slice A0_7 l0_7.length c0_7, .slice A0_8 l0_8.length c0_8]) (t := 84) ?hr ?_; (case hd => rfl); (case hg => rfl); (case hr => first | (go_simp; done) | (go_simp; rfl)); intro gb118 hg w4 hbox hb; have n0_ := Zm (Zbt (by repeat (first | (with_reducible first | exact HB.out | apply Zba | apply Zbn | apply Zbd) | exact HB.out)) hb); have n1_ := Zm (hbox); have n2_ := Zm ((by rw [hg]; exact (Zbz (by repeat (first | (with_reducible first | exact HB.out | apply Zba | apply Zbn | apply Zbd) | exact HB.out))) : w.heap.size ≤ gb118)); have n3_ := Zm ((by rw [hg]; exact (Zbz (by repeat (first | (with_reducible first | exact HB.out | apply Zba | apply Zbn | apply Zbd) | exact HB.out))) : w.heap.size ≤ gb118)); clear HB; have HB := n0_; have BK118 := n1_; have GW118 := n2_; have GE118 := n3_; clear n0_ n1_ n2_ n3_; clear hb hbox hg) | ((with_reducible refine gate_dst (N := 3) rfl ?_); (try (refine gate_guard (by rfl) ?_; dsimp only)); refine box_event ?hg (N := 3) ?hd (cs := #[.string a1_0, .string a1_1, .bool a1_2, .bool a1_3, .bool a1_4, .int .i64 a1_5, .int .i64 a1_6, .slice A1_7 l1_7.length c1_7, .slice A1_8 l1_8.length c1_8]) (t := 84) ?hr ?_; (case hd => rfl); (case hg => rfl); (case hr => first | (go_simp; done) | (go_simp; rfl)); intro gb119 hg w5 hbox hb; have n0_ := Zm (Zkb (g := gb118) (o := .cells #[.string a0_0, .string a0_1, .bool a0_2, .bool a0_3, .bool a0_4, .int .i64 a0_5, .int .i64 a0_6, .slice A0_7 l0_7.length c0_7, .slice A0_8 l0_8.length c0_8] 84 (0, 0)) (by (with_reducible repeat (first | refine Zkn ?_ _ | refine Zkd ?_ | refine Zka ?_ _)); exact BK118.out) hb); have n1_ := Zm (Zbt (by repeat (first | (with_reducible first | exact HB.out | apply Zba | apply Zbn | apply Zbd | refine Zbs ?_ GE118.out) | exact HB.out)) hb); have n2_ := Zm (hbox); have n3_ := Zm ((by rw [hg]; exact (Zbz (by repeat (first | (with_reducible first | exact HB.out | apply Zba | apply Zbn | apply Zbd | refine Zbs ?_ GE118.out) | exact HB.out))) : w.heap.size ≤ gb119)); have n4_ := Zm ((by rw [hg]; exact (Zbz (by repeat (first | (with_reducible first | exact HB.out | apply Zba | apply Zbn | apply Zbd | refine Zbs ?_ GE118.out) | exact HB.out))) : w.heap.size ≤ gb119)); have n5_ := Zm ((by rw [hg]; exact Nat.ne_of_lt (blk_lt (g := gb118) (o := .cells #[.string a0_0, .string a0_1, .bool a0_2, .bool a0_3, .bool a0_4, .int .i64 a0_5, .int .i64 a0_6, .slice A0_7 l0_7.length c0_7, .slice A0_8 l0_8.length c0_8] 84 (0, 0)) (by (with_reducible repeat (first | refine Zkn ?_ _ | refine Zkd ?_ | refine Zka ?_ _)); exact BK118.out)) : gb118 ≠ gb119)); have n6_ := Zm ((by rw [hg]; exact Nat.ne_of_gt (blk_lt (g := gb118) (o := .cells #[.string a0_0, .string a0_1, .bool a0_2, .bool a0_3, .bool a0_4, .int .i64 a0_5, .int .i64 a0_6, .slice A0_7 l0_7.length c0_7, .slice A0_8 l0_8.length c0_8] 84 (0, 0)) (by (with_reducible repeat (first | refine Zkn ?_ _ | refine Zkd ?_ | refine Zka ?_ _)); exact BK118.out)) : gb119 ≠ gb118)); clear BK118; clear HB; have BK118 := n0_; have HB := n1_; have BK119 := n2_; have GW119 := n3_; have GE119 := n4_; have NB118_119 := n5_; have NB119_118 := n6_; clear n0_ n1_ n2_ n3_ n4_ n5_ n6_; clear hb hbox hg)))
  (try simp only [Act.put, List.setIfInBounds_toArray, List.set_cons_zero, List.set_cons_succ])
  go_cut [71] (fun v71 wc => ∃ (kq : Nat) (x71_2 : Bool), v71 = .bool x71_2 ∧ Aside0 (spec_l03SameMethod.j0 kq x71_2 a0_0 a0_1 a0_2 a0_3 a0_4 a0_5 a0_6 l0_7 l0_8 a1_0 a1_1 a1_2 a1_3 a1_4 a1_5 a1_6 l1_7 l1_8 = some r) ∧ Aside0 (kq ≤ k) ∧ Aside0 (wc.heap[gb118]? = some (.cells #[.string a0_0, .string a0_1, .bool a0_2, .bool a0_3, .bool a0_4, .int .i64 a0_5, .int .i64 a0_6, (.slice A0_7 l0_7.length c0_7), (.slice A0_8 l0_8.length c0_8)] 84 (0, 0))) ∧ Aside0 (wc.heap[gb119]? = some (.cells #[.string a1_0, .string a1_1, .bool a1_2, .bool a1_3, .bool a1_4, .int .i64 a1_5, .int .i64 a1_6, (.slice A1_7 l1_7.length c1_7), (.slice A1_8 l1_8.length c1_8)] 84 (0, 0))) ∧ Aside0 (Below w.heap.size w wc))
  case first =>
    have H := HC3.out
    clear HC3
    by_cases c6 : a0_0.toList = a1_0.toList
    rotate_left
    · rw [if_neg c6] at H
      have c6b0 : (a0_0.toList == a1_0.toList) = false := beq_eq_false_iff_ne.mpr c6
      have c6b1 : (a0_0.toList != a1_0.toList) = true := bne_iff_ne.mpr c6
      (first | rw [c6b0] | (simp only [i64_w, i32_w]; rw [c6b0]) | skip)
      have H' := Zm H
      clear H
      have hnb38 := NB118_119.out
      have hnc38 := NB119_118.out
      have hcz39_0 : w5.cell? ⟨gb118, 0, none⟩ = some (.string a0_0) := (Zkc BK118.out 0).trans rfl
      have hcz39_1 : w5.cell? ⟨gb118, 1, none⟩ = some (.string a0_1) := (Zkc BK118.out 1).trans rfl
      have hcz39_2 : w5.cell? ⟨gb118, 2, none⟩ = some (.bool a0_2) := (Zkc BK118.out 2).trans rfl
      have hcz39_3 : w5.cell? ⟨gb118, 3, none⟩ = some (.bool a0_3) := (Zkc BK118.out 3).trans rfl
      have hcz39_4 : w5.cell? ⟨gb118, 4, none⟩ = some (.bool a0_4) := (Zkc BK118.out 4).trans rfl
      have hcz39_5 : w5.cell? ⟨gb118, 5, none⟩ = some (.int .i64 a0_5) := (Zkc BK118.out 5).trans rfl
      have hcz39_6 : w5.cell? ⟨gb118, 6, none⟩ = some (.int .i64 a0_6) := (Zkc BK118.out 6).trans rfl
      have hcz39_7 : w5.cell? ⟨gb118, 7, none⟩ = some (.slice A0_7 l0_7.length c0_7) := (Zkc BK118.out 7).trans rfl
      have hcz39_8 : w5.cell? ⟨gb118, 8, none⟩ = some (.slice A0_8 l0_8.length c0_8) := (Zkc BK118.out 8).trans rfl
      have hcz40_0 : w5.cell? ⟨gb119, 0, none⟩ = some (.string a1_0) := (Zkc BK119.out 0).trans rfl
      have hcz40_1 : w5.cell? ⟨gb119, 1, none⟩ = some (.string a1_1) := (Zkc BK119.out 1).trans rfl
      have hcz40_2 : w5.cell? ⟨gb119, 2, none⟩ = some (.bool a1_2) := (Zkc BK119.out 2).trans rfl
      have hcz40_3 : w5.cell? ⟨gb119, 3, none⟩ = some (.bool a1_3) := (Zkc BK119.out 3).trans rfl
      have hcz40_4 : w5.cell? ⟨gb119, 4, none⟩ = some (.bool a1_4) := (Zkc BK119.out 4).trans rfl
      have hcz40_5 : w5.cell? ⟨gb119, 5, none⟩ = some (.int .i64 a1_5) := (Zkc BK119.out 5).trans rfl
      have hcz40_6 : w5.cell? ⟨gb119, 6, none⟩ = some (.int .i64 a1_6) := (Zkc BK119.out 6).trans rfl
      have hcz40_7 : w5.cell? ⟨gb119, 7, none⟩ = some (.slice A1_7 l1_7.length c1_7) := (Zkc BK119.out 7).trans rfl
      have hcz40_8 : w5.cell? ⟨gb119, 8, none⟩ = some (.slice A1_8 l1_8.length c1_8) := (Zkc BK119.out 8).trans rfl
      go_wp2
      repeat (go_quiet (fail); try go_wp2)
      go_meet
      case rel => exact ⟨_, (true), (by first | rfl | (simp; done) | (simp [*]; done)), H', ⟨by first | omega | exact Nat.le_refl _⟩, ⟨by (with_reducible repeat (first | refine Zkn ?_ _ | refine Zkd ?_ | refine Zka ?_ _)); exact BK118.out⟩, ⟨by (with_reducible repeat (first | refine Zkn ?_ _ | refine Zkd ?_ | refine Zka ?_ _)); exact BK119.out⟩, ⟨by repeat (first | (with_reducible first | exact HB.out | apply Zba | apply Zbn | apply Zbd | refine Zbs ?_ GE118.out | refine Zbs ?_ GE119.out) | exact HB.out)⟩⟩
    rw [if_pos c6] at H
    have c6b0 : (a0_0.toList == a1_0.toList) = true := beq_iff_eq.mpr c6
    have c6b1 : (a0_0.toList != a1_0.toList) = false := bne_eq_false_iff_eq.mpr c6
    clear c6
    (first | rw [c6b0] | (simp only [i64_w, i32_w]; rw [c6b0]) | skip)
    by_cases c7 : a0_1.toList = a1_1.toList
    rotate_left
    · rw [if_neg c7] at H
      have c7b0 : (a0_1.toList == a1_1.toList) = false := beq_eq_false_iff_ne.mpr c7
      have c7b1 : (a0_1.toList != a1_1.toList) = true := bne_iff_ne.mpr c7
      have H' := Zm H
      clear H
      have hnb35 := NB118_119.out
      have hnc35 := NB119_118.out
      have hcz36_0 : w5.cell? ⟨gb118, 0, none⟩ = some (.string a0_0) := (Zkc BK118.out 0).trans rfl
      have hcz36_1 : w5.cell? ⟨gb118, 1, none⟩ = some (.string a0_1) := (Zkc BK118.out 1).trans rfl
      have hcz36_2 : w5.cell? ⟨gb118, 2, none⟩ = some (.bool a0_2) := (Zkc BK118.out 2).trans rfl
      have hcz36_3 : w5.cell? ⟨gb118, 3, none⟩ = some (.bool a0_3) := (Zkc BK118.out 3).trans rfl
      have hcz36_4 : w5.cell? ⟨gb118, 4, none⟩ = some (.bool a0_4) := (Zkc BK118.out 4).trans rfl
      have hcz36_5 : w5.cell? ⟨gb118, 5, none⟩ = some (.int .i64 a0_5) := (Zkc BK118.out 5).trans rfl
      have hcz36_6 : w5.cell? ⟨gb118, 6, none⟩ = some (.int .i64 a0_6) := (Zkc BK118.out 6).trans rfl
      have hcz36_7 : w5.cell? ⟨gb118, 7, none⟩ = some (.slice A0_7 l0_7.length c0_7) := (Zkc BK118.out 7).trans rfl
      have hcz36_8 : w5.cell? ⟨gb118, 8, none⟩ = some (.slice A0_8 l0_8.length c0_8) := (Zkc BK118.out 8).trans rfl
      have hcz37_0 : w5.cell? ⟨gb119, 0, none⟩ = some (.string a1_0) := (Zkc BK119.out 0).trans rfl
      have hcz37_1 : w5.cell? ⟨gb119, 1, none⟩ = some (.string a1_1) := (Zkc BK119.out 1).trans rfl
      have hcz37_2 : w5.cell? ⟨gb119, 2, none⟩ = some (.bool a1_2) := (Zkc BK119.out 2).trans rfl
      have hcz37_3 : w5.cell? ⟨gb119, 3, none⟩ = some (.bool a1_3) := (Zkc BK119.out 3).trans rfl
      have hcz37_4 : w5.cell? ⟨gb119, 4, none⟩ = some (.bool a1_4) := (Zkc BK119.out 4).trans rfl
      have hcz37_5 : w5.cell? ⟨gb119, 5, none⟩ = some (.int .i64 a1_5) := (Zkc BK119.out 5).trans rfl
      have hcz37_6 : w5.cell? ⟨gb119, 6, none⟩ = some (.int .i64 a1_6) := (Zkc BK119.out 6).trans rfl
      have hcz37_7 : w5.cell? ⟨gb119, 7, none⟩ = some (.slice A1_7 l1_7.length c1_7) := (Zkc BK119.out 7).trans rfl
      have hcz37_8 : w5.cell? ⟨gb119, 8, none⟩ = some (.slice A1_8 l1_8.length c1_8) := (Zkc BK119.out 8).trans rfl
      go_wp2
      repeat (go_quiet (fail); try go_wp2)
      go_meet
      case rel => exact ⟨_, (true), (by first | rfl | (simp; done) | (simp [*]; done)), H', ⟨by first | omega | exact Nat.le_refl _⟩, ⟨by (with_reducible repeat (first | refine Zkn ?_ _ | refine Zkd ?_ | refine Zka ?_ _)); exact BK118.out⟩, ⟨by (with_reducible repeat (first | refine Zkn ?_ _ | refine Zkd ?_ | refine Zka ?_ _)); exact BK119.out⟩, ⟨by repeat (first | (with_reducible first | exact HB.out | apply Zba | apply Zbn | apply Zbd | refine Zbs ?_ GE118.out | refine Zbs ?_ GE119.out) | exact HB.out)⟩⟩
    rw [if_pos c7] at H
    have c7b0 : (a0_1.toList == a1_1.toList) = true := beq_iff_eq.mpr c7
    have c7b1 : (a0_1.toList != a1_1.toList) = false := bne_eq_false_iff_eq.mpr c7
    clear c7
    by_cases c8 : (a0_2 != a1_2) = true
    rotate_left
    · rw [if_neg c8] at H
      have c8b0 : (a0_2 != a1_2) = false := by simpa using c8
      (try (have c8b1 : decide (a0_2 = a1_2) = true := by simpa using c8))
      (try (have c8b2 : (a0_2 == a1_2) = true := by simpa using c8))
      clear c8
      by_cases c12 : (a0_3 != a1_3) = true
      rotate_left
      · rw [if_neg c12] at H
        have c12b0 : (a0_3 != a1_3) = false := by simpa using c12
        (try (have c12b1 : decide (a0_3 = a1_3) = true := by simpa using c12))
        (try (have c12b2 : (a0_3 == a1_3) = true := by simpa using c12))
        clear c12
        by_cases c16 : (a0_4 != a1_4) = true
        rotate_left
        · rw [if_neg c16] at H
          have c16b0 : (a0_4 != a1_4) = false := by simpa using c16
          (try (have c16b1 : decide (a0_4 = a1_4) = true := by simpa using c16))
          (try (have c16b2 : (a0_4 == a1_4) = true := by simpa using c16))
          clear c16
          by_cases c20 : a0_5 = a1_5
          rotate_left
          · rw [if_neg c20] at H
            have c20b0 : (a0_5 == a1_5) = false := beq_eq_false_iff_ne.mpr c20
            have c20b1 : (a0_5 != a1_5) = true := bne_iff_ne.mpr c20
            have H' := Zm H
            clear H
            have hnb32 := NB118_119.out
            have hnc32 := NB119_118.out
            have hcz33_0 : w5.cell? ⟨gb118, 0, none⟩ = some (.string a0_0) := (Zkc BK118.out 0).trans rfl
            have hcz33_1 : w5.cell? ⟨gb118, 1, none⟩ = some (.string a0_1) := (Zkc BK118.out 1).trans rfl
            have hcz33_2 : w5.cell? ⟨gb118, 2, none⟩ = some (.bool a0_2) := (Zkc BK118.out 2).trans rfl
            have hcz33_3 : w5.cell? ⟨gb118, 3, none⟩ = some (.bool a0_3) := (Zkc BK118.out 3).trans rfl
            have hcz33_4 : w5.cell? ⟨gb118, 4, none⟩ = some (.bool a0_4) := (Zkc BK118.out 4).trans rfl
            have hcz33_5 : w5.cell? ⟨gb118, 5, none⟩ = some (.int .i64 a0_5) := (Zkc BK118.out 5).trans rfl
            have hcz33_6 : w5.cell? ⟨gb118, 6, none⟩ = some (.int .i64 a0_6) := (Zkc BK118.out 6).trans rfl
            have hcz33_7 : w5.cell? ⟨gb118, 7, none⟩ = some (.slice A0_7 l0_7.length c0_7) := (Zkc BK118.out 7).trans rfl
            have hcz33_8 : w5.cell? ⟨gb118, 8, none⟩ = some (.slice A0_8 l0_8.length c0_8) := (Zkc BK118.out 8).trans rfl
            have hcz34_0 : w5.cell? ⟨gb119, 0, none⟩ = some (.string a1_0) := (Zkc BK119.out 0).trans rfl
            have hcz34_1 : w5.cell? ⟨gb119, 1, none⟩ = some (.string a1_1) := (Zkc BK119.out 1).trans rfl
            have hcz34_2 : w5.cell? ⟨gb119, 2, none⟩ = some (.bool a1_2) := (Zkc BK119.out 2).trans rfl
            have hcz34_3 : w5.cell? ⟨gb119, 3, none⟩ = some (.bool a1_3) := (Zkc BK119.out 3).trans rfl
            have hcz34_4 : w5.cell? ⟨gb119, 4, none⟩ = some (.bool a1_4) := (Zkc BK119.out 4).trans rfl
            have hcz34_5 : w5.cell? ⟨gb119, 5, none⟩ = some (.int .i64 a1_5) := (Zkc BK119.out 5).trans rfl
            have hcz34_6 : w5.cell? ⟨gb119, 6, none⟩ = some (.int .i64 a1_6) := (Zkc BK119.out 6).trans rfl
            have hcz34_7 : w5.cell? ⟨gb119, 7, none⟩ = some (.slice A1_7 l1_7.length c1_7) := (Zkc BK119.out 7).trans rfl
            have hcz34_8 : w5.cell? ⟨gb119, 8, none⟩ = some (.slice A1_8 l1_8.length c1_8) := (Zkc BK119.out 8).trans rfl
            go_wp2
            repeat (go_quiet (fail); try go_wp2)
            go_meet
            case rel => exact ⟨_, (true), (by first | rfl | (simp; done) | (simp [*]; done)), H', ⟨by first | omega | exact Nat.le_refl _⟩, ⟨by (with_reducible repeat (first | refine Zkn ?_ _ | refine Zkd ?_ | refine Zka ?_ _)); exact BK118.out⟩, ⟨by (with_reducible repeat (first | refine Zkn ?_ _ | refine Zkd ?_ | refine Zka ?_ _)); exact BK119.out⟩, ⟨by repeat (first | (with_reducible first | exact HB.out | apply Zba | apply Zbn | apply Zbd | refine Zbs ?_ GE118.out | refine Zbs ?_ GE119.out) | exact HB.out)⟩⟩
          rw [if_pos c20] at H
          have c20b0 : (a0_5 == a1_5) = true := beq_iff_eq.mpr c20
          have c20b1 : (a0_5 != a1_5) = false := bne_eq_false_iff_eq.mpr c20
          clear c20
          by_cases c21 : a0_6 = a1_6
          rotate_left
          · rw [if_neg c21] at H
            have c21b0 : (a0_6 == a1_6) = false := beq_eq_false_iff_ne.mpr c21
            have c21b1 : (a0_6 != a1_6) = true := bne_iff_ne.mpr c21
            have H' := Zm H
            clear H
            have hnb29 := NB118_119.out
            have hnc29 := NB119_118.out
            have hcz30_0 : w5.cell? ⟨gb118, 0, none⟩ = some (.string a0_0) := (Zkc BK118.out 0).trans rfl
            have hcz30_1 : w5.cell? ⟨gb118, 1, none⟩ = some (.string a0_1) := (Zkc BK118.out 1).trans rfl
            have hcz30_2 : w5.cell? ⟨gb118, 2, none⟩ = some (.bool a0_2) := (Zkc BK118.out 2).trans rfl
            have hcz30_3 : w5.cell? ⟨gb118, 3, none⟩ = some (.bool a0_3) := (Zkc BK118.out 3).trans rfl
            have hcz30_4 : w5.cell? ⟨gb118, 4, none⟩ = some (.bool a0_4) := (Zkc BK118.out 4).trans rfl
            have hcz30_5 : w5.cell? ⟨gb118, 5, none⟩ = some (.int .i64 a0_5) := (Zkc BK118.out 5).trans rfl
            have hcz30_6 : w5.cell? ⟨gb118, 6, none⟩ = some (.int .i64 a0_6) := (Zkc BK118.out 6).trans rfl
            have hcz30_7 : w5.cell? ⟨gb118, 7, none⟩ = some (.slice A0_7 l0_7.length c0_7) := (Zkc BK118.out 7).trans rfl
            have hcz30_8 : w5.cell? ⟨gb118, 8, none⟩ = some (.slice A0_8 l0_8.length c0_8) := (Zkc BK118.out 8).trans rfl
            have hcz31_0 : w5.cell? ⟨gb119, 0, none⟩ = some (.string a1_0) := (Zkc BK119.out 0).trans rfl
            have hcz31_1 : w5.cell? ⟨gb119, 1, none⟩ = some (.string a1_1) := (Zkc BK119.out 1).trans rfl
            have hcz31_2 : w5.cell? ⟨gb119, 2, none⟩ = some (.bool a1_2) := (Zkc BK119.out 2).trans rfl
            have hcz31_3 : w5.cell? ⟨gb119, 3, none⟩ = some (.bool a1_3) := (Zkc BK119.out 3).trans rfl
            have hcz31_4 : w5.cell? ⟨gb119, 4, none⟩ = some (.bool a1_4) := (Zkc BK119.out 4).trans rfl
            have hcz31_5 : w5.cell? ⟨gb119, 5, none⟩ = some (.int .i64 a1_5) := (Zkc BK119.out 5).trans rfl
            have hcz31_6 : w5.cell? ⟨gb119, 6, none⟩ = some (.int .i64 a1_6) := (Zkc BK119.out 6).trans rfl
            have hcz31_7 : w5.cell? ⟨gb119, 7, none⟩ = some (.slice A1_7 l1_7.length c1_7) := (Zkc BK119.out 7).trans rfl
            have hcz31_8 : w5.cell? ⟨gb119, 8, none⟩ = some (.slice A1_8 l1_8.length c1_8) := (Zkc BK119.out 8).trans rfl
            go_wp2
            repeat (go_quiet (fail); try go_wp2)
            go_meet
            case rel => exact ⟨_, (true), (by first | rfl | (simp; done) | (simp [*]; done)), H', ⟨by first | omega | exact Nat.le_refl _⟩, ⟨by (with_reducible repeat (first | refine Zkn ?_ _ | refine Zkd ?_ | refine Zka ?_ _)); exact BK118.out⟩, ⟨by (with_reducible repeat (first | refine Zkn ?_ _ | refine Zkd ?_ | refine Zka ?_ _)); exact BK119.out⟩, ⟨by repeat (first | (with_reducible first | exact HB.out | apply Zba | apply Zbn | apply Zbd | refine Zbs ?_ GE118.out | refine Zbs ?_ GE119.out) | exact HB.out)⟩⟩
          rw [if_pos c21] at H
          have c21b0 : (a0_6 == a1_6) = true := beq_iff_eq.mpr c21
          have c21b1 : (a0_6 != a1_6) = false := bne_eq_false_iff_eq.mpr c21
          clear c21
          by_cases c22 : (l0_7.length : Int) = (l1_7.length : Int)
          rotate_left
          · rw [if_neg c22] at H
            have c22b0 : ((l0_7.length : Int) == (l1_7.length : Int)) = false := beq_eq_false_iff_ne.mpr c22
            have c22b1 : ((l0_7.length : Int) != (l1_7.length : Int)) = true := bne_iff_ne.mpr c22
            have c22b2 : (l0_7.length == l1_7.length) = false := by first | simpa using c22 | (simp at c22 ⊢; omega)
            have H' := Zm H
            clear H
            have hnb26 := NB118_119.out
            have hnc26 := NB119_118.out
            have hcz27_0 : w5.cell? ⟨gb118, 0, none⟩ = some (.string a0_0) := (Zkc BK118.out 0).trans rfl
            have hcz27_1 : w5.cell? ⟨gb118, 1, none⟩ = some (.string a0_1) := (Zkc BK118.out 1).trans rfl
            have hcz27_2 : w5.cell? ⟨gb118, 2, none⟩ = some (.bool a0_2) := (Zkc BK118.out 2).trans rfl
            have hcz27_3 : w5.cell? ⟨gb118, 3, none⟩ = some (.bool a0_3) := (Zkc BK118.out 3).trans rfl
            have hcz27_4 : w5.cell? ⟨gb118, 4, none⟩ = some (.bool a0_4) := (Zkc BK118.out 4).trans rfl
            have hcz27_5 : w5.cell? ⟨gb118, 5, none⟩ = some (.int .i64 a0_5) := (Zkc BK118.out 5).trans rfl
            have hcz27_6 : w5.cell? ⟨gb118, 6, none⟩ = some (.int .i64 a0_6) := (Zkc BK118.out 6).trans rfl
            have hcz27_7 : w5.cell? ⟨gb118, 7, none⟩ = some (.slice A0_7 l0_7.length c0_7) := (Zkc BK118.out 7).trans rfl
            have hcz27_8 : w5.cell? ⟨gb118, 8, none⟩ = some (.slice A0_8 l0_8.length c0_8) := (Zkc BK118.out 8).trans rfl
            have hcz28_0 : w5.cell? ⟨gb119, 0, none⟩ = some (.string a1_0) := (Zkc BK119.out 0).trans rfl
            have hcz28_1 : w5.cell? ⟨gb119, 1, none⟩ = some (.string a1_1) := (Zkc BK119.out 1).trans rfl
            have hcz28_2 : w5.cell? ⟨gb119, 2, none⟩ = some (.bool a1_2) := (Zkc BK119.out 2).trans rfl
            have hcz28_3 : w5.cell? ⟨gb119, 3, none⟩ = some (.bool a1_3) := (Zkc BK119.out 3).trans rfl
            have hcz28_4 : w5.cell? ⟨gb119, 4, none⟩ = some (.bool a1_4) := (Zkc BK119.out 4).trans rfl
            have hcz28_5 : w5.cell? ⟨gb119, 5, none⟩ = some (.int .i64 a1_5) := (Zkc BK119.out 5).trans rfl
            have hcz28_6 : w5.cell? ⟨gb119, 6, none⟩ = some (.int .i64 a1_6) := (Zkc BK119.out 6).trans rfl
            have hcz28_7 : w5.cell? ⟨gb119, 7, none⟩ = some (.slice A1_7 l1_7.length c1_7) := (Zkc BK119.out 7).trans rfl
            have hcz28_8 : w5.cell? ⟨gb119, 8, none⟩ = some (.slice A1_8 l1_8.length c1_8) := (Zkc BK119.out 8).trans rfl
            go_wp2
            repeat (go_quiet (fail); try go_wp2)
            go_meet
            case rel => exact ⟨_, (true), (by first | rfl | (simp; done) | (simp [*]; done)), H', ⟨by first | omega | exact Nat.le_refl _⟩, ⟨by (with_reducible repeat (first | refine Zkn ?_ _ | refine Zkd ?_ | refine Zka ?_ _)); exact BK118.out⟩, ⟨by (with_reducible repeat (first | refine Zkn ?_ _ | refine Zkd ?_ | refine Zka ?_ _)); exact BK119.out⟩, ⟨by repeat (first | (with_reducible first | exact HB.out | apply Zba | apply Zbn | apply Zbd | refine Zbs ?_ GE118.out | refine Zbs ?_ GE119.out) | exact HB.out)⟩⟩
          rw [if_pos c22] at H
          have c22b0 : ((l0_7.length : Int) == (l1_7.length : Int)) = true := beq_iff_eq.mpr c22
          have c22b1 : ((l0_7.length : Int) != (l1_7.length : Int)) = false := bne_eq_false_iff_eq.mpr c22
          have c22b2 : (l0_7.length == l1_7.length) = true := by first | simpa using c22 | (simp at c22 ⊢; omega)
          clear c22
          have H' := Zm H
          clear H
          have hnb23 := NB118_119.out
          have hnc23 := NB119_118.out
          have hcz24_0 : w5.cell? ⟨gb118, 0, none⟩ = some (.string a0_0) := (Zkc BK118.out 0).trans rfl
          have hcz24_1 : w5.cell? ⟨gb118, 1, none⟩ = some (.string a0_1) := (Zkc BK118.out 1).trans rfl
          have hcz24_2 : w5.cell? ⟨gb118, 2, none⟩ = some (.bool a0_2) := (Zkc BK118.out 2).trans rfl
          have hcz24_3 : w5.cell? ⟨gb118, 3, none⟩ = some (.bool a0_3) := (Zkc BK118.out 3).trans rfl
          have hcz24_4 : w5.cell? ⟨gb118, 4, none⟩ = some (.bool a0_4) := (Zkc BK118.out 4).trans rfl
          have hcz24_5 : w5.cell? ⟨gb118, 5, none⟩ = some (.int .i64 a0_5) := (Zkc BK118.out 5).trans rfl
          have hcz24_6 : w5.cell? ⟨gb118, 6, none⟩ = some (.int .i64 a0_6) := (Zkc BK118.out 6).trans rfl
          have hcz24_7 : w5.cell? ⟨gb118, 7, none⟩ = some (.slice A0_7 l0_7.length c0_7) := (Zkc BK118.out 7).trans rfl
          have hcz24_8 : w5.cell? ⟨gb118, 8, none⟩ = some (.slice A0_8 l0_8.length c0_8) := (Zkc BK118.out 8).trans rfl
          have hcz25_0 : w5.cell? ⟨gb119, 0, none⟩ = some (.string a1_0) := (Zkc BK119.out 0).trans rfl
          have hcz25_1 : w5.cell? ⟨gb119, 1, none⟩ = some (.string a1_1) := (Zkc BK119.out 1).trans rfl
          have hcz25_2 : w5.cell? ⟨gb119, 2, none⟩ = some (.bool a1_2) := (Zkc BK119.out 2).trans rfl
          have hcz25_3 : w5.cell? ⟨gb119, 3, none⟩ = some (.bool a1_3) := (Zkc BK119.out 3).trans rfl
          have hcz25_4 : w5.cell? ⟨gb119, 4, none⟩ = some (.bool a1_4) := (Zkc BK119.out 4).trans rfl
          have hcz25_5 : w5.cell? ⟨gb119, 5, none⟩ = some (.int .i64 a1_5) := (Zkc BK119.out 5).trans rfl
          have hcz25_6 : w5.cell? ⟨gb119, 6, none⟩ = some (.int .i64 a1_6) := (Zkc BK119.out 6).trans rfl
          have hcz25_7 : w5.cell? ⟨gb119, 7, none⟩ = some (.slice A1_7 l1_7.length c1_7) := (Zkc BK119.out 7).trans rfl
          have hcz25_8 : w5.cell? ⟨gb119, 8, none⟩ = some (.slice A1_8 l1_8.length c1_8) := (Zkc BK119.out 8).trans rfl
          go_wp2
          repeat (go_quiet (fail); try go_wp2)
          go_meet
          case rel => exact ⟨_, (((l0_8.length : Int) != (l1_8.length : Int))), (by first | rfl | (simp; done) | (simp [*]; done)), H', ⟨by first | omega | exact Nat.le_refl _⟩, ⟨by (with_reducible repeat (first | refine Zkn ?_ _ | refine Zkd ?_ | refine Zka ?_ _)); exact BK118.out⟩, ⟨by (with_reducible repeat (first | refine Zkn ?_ _ | refine Zkd ?_ | refine Zka ?_ _)); exact BK119.out⟩, ⟨by repeat (first | (with_reducible first | exact HB.out | apply Zba | apply Zbn | apply Zbd | refine Zbs ?_ GE118.out | refine Zbs ?_ GE119.out) | exact HB.out)⟩⟩
        rw [if_pos c16] at H
        have c16b0 : (a0_4 != a1_4) = true := c16
        (try (have c16b1 : decide (a0_4 = a1_4) = false := by simpa using c16))
        (try (have c16b2 : (a0_4 == a1_4) = false := by simpa using c16))
        (try (have c16b3 : ¬ (a0_4 = a1_4) := by simpa using c16))
        clear c16
        have H' := Zm H
        clear H
        have hnb17 := NB118_119.out
        have hnc17 := NB119_118.out
        have hcz18_0 : w5.cell? ⟨gb118, 0, none⟩ = some (.string a0_0) := (Zkc BK118.out 0).trans rfl
        have hcz18_1 : w5.cell? ⟨gb118, 1, none⟩ = some (.string a0_1) := (Zkc BK118.out 1).trans rfl
        have hcz18_2 : w5.cell? ⟨gb118, 2, none⟩ = some (.bool a0_2) := (Zkc BK118.out 2).trans rfl
        have hcz18_3 : w5.cell? ⟨gb118, 3, none⟩ = some (.bool a0_3) := (Zkc BK118.out 3).trans rfl
        have hcz18_4 : w5.cell? ⟨gb118, 4, none⟩ = some (.bool a0_4) := (Zkc BK118.out 4).trans rfl
        have hcz18_5 : w5.cell? ⟨gb118, 5, none⟩ = some (.int .i64 a0_5) := (Zkc BK118.out 5).trans rfl
        have hcz18_6 : w5.cell? ⟨gb118, 6, none⟩ = some (.int .i64 a0_6) := (Zkc BK118.out 6).trans rfl
        have hcz18_7 : w5.cell? ⟨gb118, 7, none⟩ = some (.slice A0_7 l0_7.length c0_7) := (Zkc BK118.out 7).trans rfl
        have hcz18_8 : w5.cell? ⟨gb118, 8, none⟩ = some (.slice A0_8 l0_8.length c0_8) := (Zkc BK118.out 8).trans rfl
        have hcz19_0 : w5.cell? ⟨gb119, 0, none⟩ = some (.string a1_0) := (Zkc BK119.out 0).trans rfl
        have hcz19_1 : w5.cell? ⟨gb119, 1, none⟩ = some (.string a1_1) := (Zkc BK119.out 1).trans rfl
        have hcz19_2 : w5.cell? ⟨gb119, 2, none⟩ = some (.bool a1_2) := (Zkc BK119.out 2).trans rfl
        have hcz19_3 : w5.cell? ⟨gb119, 3, none⟩ = some (.bool a1_3) := (Zkc BK119.out 3).trans rfl
        have hcz19_4 : w5.cell? ⟨gb119, 4, none⟩ = some (.bool a1_4) := (Zkc BK119.out 4).trans rfl
        have hcz19_5 : w5.cell? ⟨gb119, 5, none⟩ = some (.int .i64 a1_5) := (Zkc BK119.out 5).trans rfl
        have hcz19_6 : w5.cell? ⟨gb119, 6, none⟩ = some (.int .i64 a1_6) := (Zkc BK119.out 6).trans rfl
        have hcz19_7 : w5.cell? ⟨gb119, 7, none⟩ = some (.slice A1_7 l1_7.length c1_7) := (Zkc BK119.out 7).trans rfl
        have hcz19_8 : w5.cell? ⟨gb119, 8, none⟩ = some (.slice A1_8 l1_8.length c1_8) := (Zkc BK119.out 8).trans rfl
        go_wp2
        repeat (go_quiet (fail); try go_wp2)
        go_meet
        case rel => exact ⟨_, (true), (by first | rfl | (simp; done) | (simp [*]; done)), H', ⟨by first | omega | exact Nat.le_refl _⟩, ⟨by (with_reducible repeat (first | refine Zkn ?_ _ | refine Zkd ?_ | refine Zka ?_ _)); exact BK118.out⟩, ⟨by (with_reducible repeat (first | refine Zkn ?_ _ | refine Zkd ?_ | refine Zka ?_ _)); exact BK119.out⟩, ⟨by repeat (first | (with_reducible first | exact HB.out | apply Zba | apply Zbn | apply Zbd | refine Zbs ?_ GE118.out | refine Zbs ?_ GE119.out) | exact HB.out)⟩⟩
      rw [if_pos c12] at H
      have c12b0 : (a0_3 != a1_3) = true := c12
      (try (have c12b1 : decide (a0_3 = a1_3) = false := by simpa using c12))
      (try (have c12b2 : (a0_3 == a1_3) = false := by simpa using c12))
      (try (have c12b3 : ¬ (a0_3 = a1_3) := by simpa using c12))
      clear c12
      have H' := Zm H
      clear H
      have hnb13 := NB118_119.out
      have hnc13 := NB119_118.out
      have hcz14_0 : w5.cell? ⟨gb118, 0, none⟩ = some (.string a0_0) := (Zkc BK118.out 0).trans rfl
      have hcz14_1 : w5.cell? ⟨gb118, 1, none⟩ = some (.string a0_1) := (Zkc BK118.out 1).trans rfl
      have hcz14_2 : w5.cell? ⟨gb118, 2, none⟩ = some (.bool a0_2) := (Zkc BK118.out 2).trans rfl
      have hcz14_3 : w5.cell? ⟨gb118, 3, none⟩ = some (.bool a0_3) := (Zkc BK118.out 3).trans rfl
      have hcz14_4 : w5.cell? ⟨gb118, 4, none⟩ = some (.bool a0_4) := (Zkc BK118.out 4).trans rfl
      have hcz14_5 : w5.cell? ⟨gb118, 5, none⟩ = some (.int .i64 a0_5) := (Zkc BK118.out 5).trans rfl
      have hcz14_6 : w5.cell? ⟨gb118, 6, none⟩ = some (.int .i64 a0_6) := (Zkc BK118.out 6).trans rfl
      have hcz14_7 : w5.cell? ⟨gb118, 7, none⟩ = some (.slice A0_7 l0_7.length c0_7) := (Zkc BK118.out 7).trans rfl
      have hcz14_8 : w5.cell? ⟨gb118, 8, none⟩ = some (.slice A0_8 l0_8.length c0_8) := (Zkc BK118.out 8).trans rfl
      have hcz15_0 : w5.cell? ⟨gb119, 0, none⟩ = some (.string a1_0) := (Zkc BK119.out 0).trans rfl
      have hcz15_1 : w5.cell? ⟨gb119, 1, none⟩ = some (.string a1_1) := (Zkc BK119.out 1).trans rfl
      have hcz15_2 : w5.cell? ⟨gb119, 2, none⟩ = some (.bool a1_2) := (Zkc BK119.out 2).trans rfl
      have hcz15_3 : w5.cell? ⟨gb119, 3, none⟩ = some (.bool a1_3) := (Zkc BK119.out 3).trans rfl
      have hcz15_4 : w5.cell? ⟨gb119, 4, none⟩ = some (.bool a1_4) := (Zkc BK119.out 4).trans rfl
      have hcz15_5 : w5.cell? ⟨gb119, 5, none⟩ = some (.int .i64 a1_5) := (Zkc BK119.out 5).trans rfl
      have hcz15_6 : w5.cell? ⟨gb119, 6, none⟩ = some (.int .i64 a1_6) := (Zkc BK119.out 6).trans rfl
      have hcz15_7 : w5.cell? ⟨gb119, 7, none⟩ = some (.slice A1_7 l1_7.length c1_7) := (Zkc BK119.out 7).trans rfl
      have hcz15_8 : w5.cell? ⟨gb119, 8, none⟩ = some (.slice A1_8 l1_8.length c1_8) := (Zkc BK119.out 8).trans rfl
      go_wp2
      repeat (go_quiet (fail); try go_wp2)
      go_meet
      case rel => exact ⟨_, (true), (by first | rfl | (simp; done) | (simp [*]; done)), H', ⟨by first | omega | exact Nat.le_refl _⟩, ⟨by (with_reducible repeat (first | refine Zkn ?_ _ | refine Zkd ?_ | refine Zka ?_ _)); exact BK118.out⟩, ⟨by (with_reducible repeat (first | refine Zkn ?_ _ | refine Zkd ?_ | refine Zka ?_ _)); exact BK119.out⟩, ⟨by repeat (first | (with_reducible first | exact HB.out | apply Zba | apply Zbn | apply Zbd | refine Zbs ?_ GE118.out | refine Zbs ?_ GE119.out) | exact HB.out)⟩⟩
    rw [if_pos c8] at H
    have c8b0 : (a0_2 != a1_2) = true := c8
    (try (have c8b1 : decide (a0_2 = a1_2) = false := by simpa using c8))
    (try (have c8b2 : (a0_2 == a1_2) = false := by simpa using c8))
    (try (have c8b3 : ¬ (a0_2 = a1_2) := by simpa using c8))
    clear c8
    have H' := Zm H
    clear H
    have hnb9 := NB118_119.out
    have hnc9 := NB119_118.out
    have hcz10_0 : w5.cell? ⟨gb118, 0, none⟩ = some (.string a0_0) := (Zkc BK118.out 0).trans rfl
    have hcz10_1 : w5.cell? ⟨gb118, 1, none⟩ = some (.string a0_1) := (Zkc BK118.out 1).trans rfl
    have hcz10_2 : w5.cell? ⟨gb118, 2, none⟩ = some (.bool a0_2) := (Zkc BK118.out 2).trans rfl
    have hcz10_3 : w5.cell? ⟨gb118, 3, none⟩ = some (.bool a0_3) := (Zkc BK118.out 3).trans rfl
    have hcz10_4 : w5.cell? ⟨gb118, 4, none⟩ = some (.bool a0_4) := (Zkc BK118.out 4).trans rfl
    have hcz10_5 : w5.cell? ⟨gb118, 5, none⟩ = some (.int .i64 a0_5) := (Zkc BK118.out 5).trans rfl
    have hcz10_6 : w5.cell? ⟨gb118, 6, none⟩ = some (.int .i64 a0_6) := (Zkc BK118.out 6).trans rfl
    have hcz10_7 : w5.cell? ⟨gb118, 7, none⟩ = some (.slice A0_7 l0_7.length c0_7) := (Zkc BK118.out 7).trans rfl
    have hcz10_8 : w5.cell? ⟨gb118, 8, none⟩ = some (.slice A0_8 l0_8.length c0_8) := (Zkc BK118.out 8).trans rfl
    have hcz11_0 : w5.cell? ⟨gb119, 0, none⟩ = some (.string a1_0) := (Zkc BK119.out 0).trans rfl
    have hcz11_1 : w5.cell? ⟨gb119, 1, none⟩ = some (.string a1_1) := (Zkc BK119.out 1).trans rfl
    have hcz11_2 : w5.cell? ⟨gb119, 2, none⟩ = some (.bool a1_2) := (Zkc BK119.out 2).trans rfl
    have hcz11_3 : w5.cell? ⟨gb119, 3, none⟩ = some (.bool a1_3) := (Zkc BK119.out 3).trans rfl
    have hcz11_4 : w5.cell? ⟨gb119, 4, none⟩ = some (.bool a1_4) := (Zkc BK119.out 4).trans rfl
    have hcz11_5 : w5.cell? ⟨gb119, 5, none⟩ = some (.int .i64 a1_5) := (Zkc BK119.out 5).trans rfl
    have hcz11_6 : w5.cell? ⟨gb119, 6, none⟩ = some (.int .i64 a1_6) := (Zkc BK119.out 6).trans rfl
    have hcz11_7 : w5.cell? ⟨gb119, 7, none⟩ = some (.slice A1_7 l1_7.length c1_7) := (Zkc BK119.out 7).trans rfl
    have hcz11_8 : w5.cell? ⟨gb119, 8, none⟩ = some (.slice A1_8 l1_8.length c1_8) := (Zkc BK119.out 8).trans rfl
    go_wp2
    repeat (go_quiet (fail); try go_wp2)
    go_meet
    case rel => exact ⟨_, (true), (by first | rfl | (simp; done) | (simp [*]; done)), H', ⟨by first | omega | exact Nat.le_refl _⟩, ⟨by (with_reducible repeat (first | refine Zkn ?_ _ | refine Zkd ?_ | refine Zka ?_ _)); exact BK118.out⟩, ⟨by (with_reducible repeat (first | refine Zkn ?_ _ | refine Zkd ?_ | refine Zka ?_ _)); exact BK119.out⟩, ⟨by repeat (first | (with_reducible first | exact HB.out | apply Zba | apply Zbn | apply Zbd | refine Zbs ?_ GE118.out | refine Zbs ?_ GE119.out) | exact HB.out)⟩⟩
  case rest =>
    clear HC3
    (try clear c1); (try clear c2); (try clear p2); (try clear c3); (try clear c6); (try clear c6b0); (try clear c6b1); (try clear c7); (try clear c7b0); (try clear c7b1); (try clear c8); (try clear c8b0); (try clear c8b1); (try clear c8b2); (try clear c9); (try clear c12); (try clear c12b0); (try clear c12b1); (try clear c12b2); (try clear c13); (try clear c16); (try clear c16b0); (try clear c16b1); (try clear c16b2); (try clear c17); (try clear c20); (try clear c20b0); (try clear c20b1); (try clear c21); (try clear c21b0); (try clear c21b1); (try clear c22); (try clear c22b0); (try clear c22b1); (try clear c22b2); (try clear c23); (try clear c26); (try clear c29); (try clear c32); (try clear c35); (try clear c38); (try clear hcz10_0); (try clear hcz10_1); (try clear hcz10_2); (try clear hcz10_3); (try clear hcz10_4); (try clear hcz10_5); (try clear hcz10_6); (try clear hcz10_7); (try clear hcz10_8); (try clear hcz11_0); (try clear hcz11_1); (try clear hcz11_2); (try clear hcz11_3); (try clear hcz11_4); (try clear hcz11_5); (try clear hcz11_6); (try clear hcz11_7); (try clear hcz11_8); (try clear hcz14_0); (try clear hcz14_1); (try clear hcz14_2); (try clear hcz14_3); (try clear hcz14_4); (try clear hcz14_5); (try clear hcz14_6); (try clear hcz14_7); (try clear hcz14_8); (try clear hcz15_0); (try clear hcz15_1); (try clear hcz15_2); (try clear hcz15_3); (try clear hcz15_4); (try clear hcz15_5); (try clear hcz15_6); (try clear hcz15_7); (try clear hcz15_8); (try clear hcz18_0); (try clear hcz18_1); (try clear hcz18_2); (try clear hcz18_3); (try clear hcz18_4); (try clear hcz18_5); (try clear hcz18_6); (try clear hcz18_7); (try clear hcz18_8); (try clear hcz19_0); (try clear hcz19_1); (try clear hcz19_2); (try clear hcz19_3); (try clear hcz19_4); (try clear hcz19_5); (try clear hcz19_6); (try clear hcz19_7); (try clear hcz19_8); (try clear hcz24_0); (try clear hcz24_1); (try clear hcz24_2); (try clear hcz24_3); (try clear hcz24_4); (try clear hcz24_5); (try clear hcz24_6); (try clear hcz24_7); (try clear hcz24_8); (try clear hcz25_0); (try clear hcz25_1); (try clear hcz25_2); (try clear hcz25_3); (try clear hcz25_4); (try clear hcz25_5); (try clear hcz25_6); (try clear hcz25_7); (try clear hcz25_8); (try clear hcz27_0); (try clear hcz27_1); (try clear hcz27_2); (try clear hcz27_3); (try clear hcz27_4); (try clear hcz27_5); (try clear hcz27_6); (try clear hcz27_7); (try clear hcz27_8); (try clear hcz28_0); (try clear hcz28_1); (try clear hcz28_2); (try clear hcz28_3); (try clear hcz28_4); (try clear hcz28_5); (try clear hcz28_6); (try clear hcz28_7); (try clear hcz28_8); (try clear hcz30_0); (try clear hcz30_1); (try clear hcz30_2); (try clear hcz30_3); (try clear hcz30_4); (try clear hcz30_5); (try clear hcz30_6); (try clear hcz30_7); (try clear hcz30_8); (try clear hcz31_0); (try clear hcz31_1); (try clear hcz31_2); (try clear hcz31_3); (try clear hcz31_4); (try clear hcz31_5); (try clear hcz31_6); (try clear hcz31_7); (try clear hcz31_8); (try clear hcz33_0); (try clear hcz33_1); (try clear hcz33_2); (try clear hcz33_3); (try clear hcz33_4); (try clear hcz33_5); (try clear hcz33_6); (try clear hcz33_7); (try clear hcz33_8); (try clear hcz34_0); (try clear hcz34_1); (try clear hcz34_2); (try clear hcz34_3); (try clear hcz34_4); (try clear hcz34_5); (try clear hcz34_6); (try clear hcz34_7); (try clear hcz34_8); (try clear hcz36_0); (try clear hcz36_1); (try clear hcz36_2); (try clear hcz36_3); (try clear hcz36_4); (try clear hcz36_5); (try clear hcz36_6); (try clear hcz36_7); (try clear hcz36_8); (try clear hcz37_0); (try clear hcz37_1); (try clear hcz37_2); (try clear hcz37_3); (try clear hcz37_4); (try clear hcz37_5); (try clear hcz37_6); (try clear hcz37_7); (try clear hcz37_8); (try clear hcz39_0); (try clear hcz39_1); (try clear hcz39_2); (try clear hcz39_3); (try clear hcz39_4); (try clear hcz39_5); (try clear hcz39_6); (try clear hcz39_7); (try clear hcz39_8); (try clear hcz40_0); (try clear hcz40_1); (try clear hcz40_2); (try clear hcz40_3); (try clear hcz40_4); (try clear hcz40_5); (try clear hcz40_6); (try clear hcz40_7); (try clear hcz40_8)
    obtain ⟨kq, x71_2, rfl, HA, HJ2, BK118, BK119, HB⟩ := hcut
    cases kq with
    | zero => exact absurd HA.out (by simp [spec_l03SameMethod.j0])
    | succ kj2 =>
      have H := HA.out
      clear HA
      simp only [spec_l03SameMethod.j0] at H
      by_cases c41 : x71_2 = true
      rotate_left
      · replace c41 := Bool.eq_false_iff.mpr c41
        subst c41
        have H1 : (spec_l03SameMethod.l0 kj2 0 a0_0 a0_1 a0_2 a0_3 a0_4 a0_5 a0_6 l0_7 l0_8 a1_0 a1_1 a1_2 a1_3 a1_4 a1_5 a1_6 l1_7 l1_8) = some r := by rw [if_neg (show ¬ (false = true) by decide)] at H; exact H
        clear H
        have H := H1
        clear H1
        have H' := Zm H
        clear H
        go_wp2
        repeat (go_quiet (fail); try go_wp2)
        go_loopg [5] kj2 (fun kq v5 w' => ∃ (x5_2 : Int), v5 = .int .i64 x5_2 ∧ Aside0 (spec_l03SameMethod.l0 kq x5_2 a0_0 a0_1 a0_2 a0_3 a0_4 a0_5 a0_6 l0_7 l0_8 a1_0 a1_1 a1_2 a1_3 a1_4 a1_5 a1_6 l1_7 l1_8 = some r) ∧ Aside0 (kq ≤ kj2) ∧ Aside0 (w'.heap[gb118]? = some (.cells #[.string a0_0, .string a0_1, .bool a0_2, .bool a0_3, .bool a0_4, .int .i64 a0_5, .int .i64 a0_6, (.slice A0_7 l0_7.length c0_7), (.slice A0_8 l0_8.length c0_8)] 84 (0, 0))) ∧ Aside0 (w'.heap[gb119]? = some (.cells #[.string a1_0, .string a1_1, .bool a1_2, .bool a1_3, .bool a1_4, .int .i64 a1_5, .int .i64 a1_6, (.slice A1_7 l1_7.length c1_7), (.slice A1_8 l1_8.length c1_8)] 84 (0, 0))) ∧ Aside0 (Below w.heap.size w w'))
        case atStart => exact ⟨(0), (by first | rfl | (simp; done) | (simp [*]; done)), H', ⟨Nat.le_refl _⟩, ⟨by (with_reducible repeat (first | refine Zkn ?_ _ | refine Zkd ?_ | refine Zka ?_ _)); exact BK118.out⟩, ⟨by (with_reducible repeat (first | refine Zkn ?_ _ | refine Zkd ?_ | refine Zka ?_ _)); exact BK119.out⟩, ⟨by repeat (first | (with_reducible first | exact HB.out | apply Zba | apply Zbn | apply Zbd | refine Zbs ?_ GE118.out | refine Zbs ?_ GE119.out) | exact HB.out)⟩⟩
        case round =>
          clear H'
          (try clear c1); (try clear c2); (try clear p2); (try clear c3); (try clear c4); (try clear c6); (try clear c6b0); (try clear c6b1); (try clear c7); (try clear c7b0); (try clear c7b1); (try clear c8); (try clear c8b0); (try clear c8b1); (try clear c8b2); (try clear c9); (try clear c12); (try clear c12b0); (try clear c12b1); (try clear c12b2); (try clear c13); (try clear c16); (try clear c16b0); (try clear c16b1); (try clear c16b2); (try clear c17); (try clear c20); (try clear c20b0); (try clear c20b1); (try clear c21); (try clear c21b0); (try clear c21b1); (try clear c22); (try clear c22b0); (try clear c22b1); (try clear c22b2); (try clear c23); (try clear c26); (try clear c29); (try clear c32); (try clear c35); (try clear c38); (try clear c41); (try clear hcz10_0); (try clear hcz10_1); (try clear hcz10_2); (try clear hcz10_3); (try clear hcz10_4); (try clear hcz10_5); (try clear hcz10_6); (try clear hcz10_7); (try clear hcz10_8); (try clear hcz11_0); (try clear hcz11_1); (try clear hcz11_2); (try clear hcz11_3); (try clear hcz11_4); (try clear hcz11_5); (try clear hcz11_6); (try clear hcz11_7); (try clear hcz11_8); (try clear hcz14_0); (try clear hcz14_1); (try clear hcz14_2); (try clear hcz14_3); (try clear hcz14_4); (try clear hcz14_5); (try clear hcz14_6); (try clear hcz14_7); (try clear hcz14_8); (try clear hcz15_0); (try clear hcz15_1); (try clear hcz15_2); (try clear hcz15_3); (try clear hcz15_4); (try clear hcz15_5); (try clear hcz15_6); (try clear hcz15_7); (try clear hcz15_8); (try clear hcz18_0); (try clear hcz18_1); (try clear hcz18_2); (try clear hcz18_3); (try clear hcz18_4); (try clear hcz18_5); (try clear hcz18_6); (try clear hcz18_7); (try clear hcz18_8); (try clear hcz19_0); (try clear hcz19_1); (try clear hcz19_2); (try clear hcz19_3); (try clear hcz19_4); (try clear hcz19_5); (try clear hcz19_6); (try clear hcz19_7); (try clear hcz19_8); (try clear hcz24_0); (try clear hcz24_1); (try clear hcz24_2); (try clear hcz24_3); (try clear hcz24_4); (try clear hcz24_5); (try clear hcz24_6); (try clear hcz24_7); (try clear hcz24_8); (try clear hcz25_0); (try clear hcz25_1); (try clear hcz25_2); (try clear hcz25_3); (try clear hcz25_4); (try clear hcz25_5); (try clear hcz25_6); (try clear hcz25_7); (try clear hcz25_8); (try clear hcz27_0); (try clear hcz27_1); (try clear hcz27_2); (try clear hcz27_3); (try clear hcz27_4); (try clear hcz27_5); (try clear hcz27_6); (try clear hcz27_7); (try clear hcz27_8); (try clear hcz28_0); (try clear hcz28_1); (try clear hcz28_2); (try clear hcz28_3); (try clear hcz28_4); (try clear hcz28_5); (try clear hcz28_6); (try clear hcz28_7); (try clear hcz28_8); (try clear hcz30_0); (try clear hcz30_1); (try clear hcz30_2); (try clear hcz30_3); (try clear hcz30_4); (try clear hcz30_5); (try clear hcz30_6); (try clear hcz30_7); (try clear hcz30_8); (try clear hcz31_0); (try clear hcz31_1); (try clear hcz31_2); (try clear hcz31_3); (try clear hcz31_4); (try clear hcz31_5); (try clear hcz31_6); (try clear hcz31_7); (try clear hcz31_8); (try clear hcz33_0); (try clear hcz33_1); (try clear hcz33_2); (try clear hcz33_3); (try clear hcz33_4); (try clear hcz33_5); (try clear hcz33_6); (try clear hcz33_7); (try clear hcz33_8); (try clear hcz34_0); (try clear hcz34_1); (try clear hcz34_2); (try clear hcz34_3); (try clear hcz34_4); (try clear hcz34_5); (try clear hcz34_6); (try clear hcz34_7); (try clear hcz34_8); (try clear hcz36_0); (try clear hcz36_1); (try clear hcz36_2); (try clear hcz36_3); (try clear hcz36_4); (try clear hcz36_5); (try clear hcz36_6); (try clear hcz36_7); (try clear hcz36_8); (try clear hcz37_0); (try clear hcz37_1); (try clear hcz37_2); (try clear hcz37_3); (try clear hcz37_4); (try clear hcz37_5); (try clear hcz37_6); (try clear hcz37_7); (try clear hcz37_8); (try clear hcz39_0); (try clear hcz39_1); (try clear hcz39_2); (try clear hcz39_3); (try clear hcz39_4); (try clear hcz39_5); (try clear hcz39_6); (try clear hcz39_7); (try clear hcz39_8); (try clear hcz40_0); (try clear hcz40_1); (try clear hcz40_2); (try clear hcz40_3); (try clear hcz40_4); (try clear hcz40_5); (try clear hcz40_6); (try clear hcz40_7); (try clear hcz40_8); (try clear p2)
          obtain ⟨x5_2, rfl, HA, HK2, BK118, BK119, HB⟩ := hrel
          cases gk with
          | zero => exact absurd HA.out (by simp [spec_l03SameMethod.l0])
          | succ k2 =>
            have H := HA.out
            clear HA
            simp only [spec_l03SameMethod.l0] at H
            by_cases c42 : x5_2 < (l0_7.length : Int)
            rotate_left
            · rw [if_neg c42] at H
              have c42b0 : decide (x5_2 < (l0_7.length : Int)) = false := decide_eq_false c42
              clear c42
              have H' := Zm H
              clear H
              have hnb52 := NB118_119.out
              have hnc52 := NB119_118.out
              have hcz53_0 : wr.cell? ⟨gb118, 0, none⟩ = some (.string a0_0) := (Zkc BK118.out 0).trans rfl
              have hcz53_1 : wr.cell? ⟨gb118, 1, none⟩ = some (.string a0_1) := (Zkc BK118.out 1).trans rfl
              have hcz53_2 : wr.cell? ⟨gb118, 2, none⟩ = some (.bool a0_2) := (Zkc BK118.out 2).trans rfl
              have hcz53_3 : wr.cell? ⟨gb118, 3, none⟩ = some (.bool a0_3) := (Zkc BK118.out 3).trans rfl
              have hcz53_4 : wr.cell? ⟨gb118, 4, none⟩ = some (.bool a0_4) := (Zkc BK118.out 4).trans rfl
              have hcz53_5 : wr.cell? ⟨gb118, 5, none⟩ = some (.int .i64 a0_5) := (Zkc BK118.out 5).trans rfl
              have hcz53_6 : wr.cell? ⟨gb118, 6, none⟩ = some (.int .i64 a0_6) := (Zkc BK118.out 6).trans rfl
              have hcz53_7 : wr.cell? ⟨gb118, 7, none⟩ = some (.slice A0_7 l0_7.length c0_7) := (Zkc BK118.out 7).trans rfl
              have hcz53_8 : wr.cell? ⟨gb118, 8, none⟩ = some (.slice A0_8 l0_8.length c0_8) := (Zkc BK118.out 8).trans rfl
              go_wp2
              repeat (go_quiet (fail); try go_wp2)
              go_loopg [6] k2 (fun kq v6 w' => ∃ (x6_3 : Int), v6 = .int .i64 x6_3 ∧ Aside0 (spec_l03SameMethod.l1 kq x6_3 a0_0 a0_1 a0_2 a0_3 a0_4 a0_5 a0_6 l0_7 l0_8 a1_0 a1_1 a1_2 a1_3 a1_4 a1_5 a1_6 l1_7 l1_8 = some r) ∧ Aside0 (kq ≤ k2) ∧ Aside0 (w'.heap[gb118]? = some (.cells #[.string a0_0, .string a0_1, .bool a0_2, .bool a0_3, .bool a0_4, .int .i64 a0_5, .int .i64 a0_6, (.slice A0_7 l0_7.length c0_7), (.slice A0_8 l0_8.length c0_8)] 84 (0, 0))) ∧ Aside0 (w'.heap[gb119]? = some (.cells #[.string a1_0, .string a1_1, .bool a1_2, .bool a1_3, .bool a1_4, .int .i64 a1_5, .int .i64 a1_6, (.slice A1_7 l1_7.length c1_7), (.slice A1_8 l1_8.length c1_8)] 84 (0, 0))) ∧ Aside0 (Below w.heap.size w w'))
              case atStart => exact ⟨(0), (by first | rfl | (simp; done) | (simp [*]; done)), H', ⟨Nat.le_refl _⟩, ⟨by (with_reducible repeat (first | refine Zkn ?_ _ | refine Zkd ?_ | refine Zka ?_ _)); exact BK118.out⟩, ⟨by (with_reducible repeat (first | refine Zkn ?_ _ | refine Zkd ?_ | refine Zka ?_ _)); exact BK119.out⟩, ⟨by repeat (first | (with_reducible first | exact HB.out | apply Zba | apply Zbn | apply Zbd | refine Zbs ?_ GE118.out | refine Zbs ?_ GE119.out) | exact HB.out)⟩⟩
              case round =>
                clear H'
                (try clear c1); (try clear p1); (try clear q1); (try clear hx1); (try clear c2); (try clear p2); (try clear c3); (try clear c4); (try clear c5); (try clear c6); (try clear c6b0); (try clear c6b1); (try clear p6); (try clear c7); (try clear c7b0); (try clear c7b1); (try clear c8); (try clear c8b0); (try clear c8b1); (try clear c8b2); (try clear c9); (try clear c12); (try clear c12b0); (try clear c12b1); (try clear c12b2); (try clear p12); (try clear q12); (try clear hx12); (try clear c13); (try clear c16); (try clear c16b0); (try clear c16b1); (try clear c16b2); (try clear c17); (try clear c20); (try clear c20b0); (try clear c20b1); (try clear c21); (try clear c21b0); (try clear c21b1); (try clear c22); (try clear c22b0); (try clear c22b1); (try clear c22b2); (try clear c23); (try clear c26); (try clear c29); (try clear c32); (try clear c35); (try clear c38); (try clear c41); (try clear c42); (try clear c42b0); (try clear c43); (try clear c43b0); (try clear c44); (try clear c44b0); (try clear c45); (try clear c45b0); (try clear c46); (try clear c49); (try clear c52); (try clear hcz10_0); (try clear hcz10_1); (try clear hcz10_2); (try clear hcz10_3); (try clear hcz10_4); (try clear hcz10_5); (try clear hcz10_6); (try clear hcz10_7); (try clear hcz10_8); (try clear hcz11_0); (try clear hcz11_1); (try clear hcz11_2); (try clear hcz11_3); (try clear hcz11_4); (try clear hcz11_5); (try clear hcz11_6); (try clear hcz11_7); (try clear hcz11_8); (try clear hcz14_0); (try clear hcz14_1); (try clear hcz14_2); (try clear hcz14_3); (try clear hcz14_4); (try clear hcz14_5); (try clear hcz14_6); (try clear hcz14_7); (try clear hcz14_8); (try clear hcz15_0); (try clear hcz15_1); (try clear hcz15_2); (try clear hcz15_3); (try clear hcz15_4); (try clear hcz15_5); (try clear hcz15_6); (try clear hcz15_7); (try clear hcz15_8); (try clear hcz18_0); (try clear hcz18_1); (try clear hcz18_2); (try clear hcz18_3); (try clear hcz18_4); (try clear hcz18_5); (try clear hcz18_6); (try clear hcz18_7); (try clear hcz18_8); (try clear hcz19_0); (try clear hcz19_1); (try clear hcz19_2); (try clear hcz19_3); (try clear hcz19_4); (try clear hcz19_5); (try clear hcz19_6); (try clear hcz19_7); (try clear hcz19_8); (try clear hcz24_0); (try clear hcz24_1); (try clear hcz24_2); (try clear hcz24_3); (try clear hcz24_4); (try clear hcz24_5); (try clear hcz24_6); (try clear hcz24_7); (try clear hcz24_8); (try clear hcz25_0); (try clear hcz25_1); (try clear hcz25_2); (try clear hcz25_3); (try clear hcz25_4); (try clear hcz25_5); (try clear hcz25_6); (try clear hcz25_7); (try clear hcz25_8); (try clear hcz27_0); (try clear hcz27_1); (try clear hcz27_2); (try clear hcz27_3); (try clear hcz27_4); (try clear hcz27_5); (try clear hcz27_6); (try clear hcz27_7); (try clear hcz27_8); (try clear hcz28_0); (try clear hcz28_1); (try clear hcz28_2); (try clear hcz28_3); (try clear hcz28_4); (try clear hcz28_5); (try clear hcz28_6); (try clear hcz28_7); (try clear hcz28_8); (try clear hcz30_0); (try clear hcz30_1); (try clear hcz30_2); (try clear hcz30_3); (try clear hcz30_4); (try clear hcz30_5); (try clear hcz30_6); (try clear hcz30_7); (try clear hcz30_8); (try clear hcz31_0); (try clear hcz31_1); (try clear hcz31_2); (try clear hcz31_3); (try clear hcz31_4); (try clear hcz31_5); (try clear hcz31_6); (try clear hcz31_7); (try clear hcz31_8); (try clear hcz33_0); (try clear hcz33_1); (try clear hcz33_2); (try clear hcz33_3); (try clear hcz33_4); (try clear hcz33_5); (try clear hcz33_6); (try clear hcz33_7); (try clear hcz33_8); (try clear hcz34_0); (try clear hcz34_1); (try clear hcz34_2); (try clear hcz34_3); (try clear hcz34_4); (try clear hcz34_5); (try clear hcz34_6); (try clear hcz34_7); (try clear hcz34_8); (try clear hcz36_0); (try clear hcz36_1); (try clear hcz36_2); (try clear hcz36_3); (try clear hcz36_4); (try clear hcz36_5); (try clear hcz36_6); (try clear hcz36_7); (try clear hcz36_8); (try clear hcz37_0); (try clear hcz37_1); (try clear hcz37_2); (try clear hcz37_3); (try clear hcz37_4); (try clear hcz37_5); (try clear hcz37_6); (try clear hcz37_7); (try clear hcz37_8); (try clear hcz39_0); (try clear hcz39_1); (try clear hcz39_2); (try clear hcz39_3); (try clear hcz39_4); (try clear hcz39_5); (try clear hcz39_6); (try clear hcz39_7); (try clear hcz39_8); (try clear hcz40_0); (try clear hcz40_1); (try clear hcz40_2); (try clear hcz40_3); (try clear hcz40_4); (try clear hcz40_5); (try clear hcz40_6); (try clear hcz40_7); (try clear hcz40_8); (try clear hcz47_0); (try clear hcz47_1); (try clear hcz47_2); (try clear hcz47_3); (try clear hcz47_4); (try clear hcz47_5); (try clear hcz47_6); (try clear hcz47_7); (try clear hcz47_8); (try clear hcz48_0); (try clear hcz48_1); (try clear hcz48_2); (try clear hcz48_3); (try clear hcz48_4); (try clear hcz48_5); (try clear hcz48_6); (try clear hcz48_7); (try clear hcz48_8); (try clear hcz50_0); (try clear hcz50_1); (try clear hcz50_2); (try clear hcz50_3); (try clear hcz50_4); (try clear hcz50_5); (try clear hcz50_6); (try clear hcz50_7); (try clear hcz50_8); (try clear hcz51_0); (try clear hcz51_1); (try clear hcz51_2); (try clear hcz51_3); (try clear hcz51_4); (try clear hcz51_5); (try clear hcz51_6); (try clear hcz51_7); (try clear hcz51_8); (try clear hcz53_0); (try clear hcz53_1); (try clear hcz53_2); (try clear hcz53_3); (try clear hcz53_4); (try clear hcz53_5); (try clear hcz53_6); (try clear hcz53_7); (try clear hcz53_8); (try clear hx120_0); (try clear hx120_1); (try clear hx120_2); (try clear hx120_3); (try clear hx120_4); (try clear hx121_0); (try clear hx121_1); (try clear hx121_2); (try clear hx121_3); (try clear hx121_4); (try clear p120); (try clear p121); (try clear p2); (try clear q120); (try clear q121)
                obtain ⟨x6_3, rfl, HA, HK3, BK118, BK119, HB⟩ := hrel
                cases gk with
                | zero => exact absurd HA.out (by simp [spec_l03SameMethod.l1])
                | succ k3 =>
                  have H := HA.out
                  clear HA
                  simp only [spec_l03SameMethod.l1] at H
                  by_cases c54 : x6_3 < (l0_8.length : Int)
                  rotate_left
                  · rw [if_neg c54] at H
                    have c54b0 : decide (x6_3 < (l0_8.length : Int)) = false := decide_eq_false c54
                    clear c54
                    obtain rfl := Option.some.inj H
                    have hnb64 := NB118_119.out
                    have hnc64 := NB119_118.out
                    have hcz65_0 : wr.cell? ⟨gb118, 0, none⟩ = some (.string a0_0) := (Zkc BK118.out 0).trans rfl
                    have hcz65_1 : wr.cell? ⟨gb118, 1, none⟩ = some (.string a0_1) := (Zkc BK118.out 1).trans rfl
                    have hcz65_2 : wr.cell? ⟨gb118, 2, none⟩ = some (.bool a0_2) := (Zkc BK118.out 2).trans rfl
                    have hcz65_3 : wr.cell? ⟨gb118, 3, none⟩ = some (.bool a0_3) := (Zkc BK118.out 3).trans rfl
                    have hcz65_4 : wr.cell? ⟨gb118, 4, none⟩ = some (.bool a0_4) := (Zkc BK118.out 4).trans rfl
                    have hcz65_5 : wr.cell? ⟨gb118, 5, none⟩ = some (.int .i64 a0_5) := (Zkc BK118.out 5).trans rfl
                    have hcz65_6 : wr.cell? ⟨gb118, 6, none⟩ = some (.int .i64 a0_6) := (Zkc BK118.out 6).trans rfl
                    have hcz65_7 : wr.cell? ⟨gb118, 7, none⟩ = some (.slice A0_7 l0_7.length c0_7) := (Zkc BK118.out 7).trans rfl
                    have hcz65_8 : wr.cell? ⟨gb118, 8, none⟩ = some (.slice A0_8 l0_8.length c0_8) := (Zkc BK118.out 8).trans rfl
                    go_wp2
                    repeat (go_quiet (fail); try go_wp2)
                    go_ret
                    exact ⟨by first | rfl | (simp [errW_none, errW_some] <;> rfl) | (simp [*, errW_none, errW_some] <;> rfl), by repeat (first | (with_reducible first | exact HB.out | apply Zba | apply Zbn | apply Zbd | refine Zbs ?_ GE118.out | refine Zbs ?_ GE119.out) | exact HB.out)⟩

                  rw [if_pos c54] at H
                  have c54b0 : decide (x6_3 < (l0_8.length : Int)) = true := decide_eq_true c54
                  clear c54
                  by_cases c55 : 0 ≤ x6_3
                  rotate_left
                  · rw [if_neg c55] at H
                    exact absurd H (by simp)
                  rw [if_pos c55] at H
                  have c55b0 : decide (0 ≤ x6_3) = true := decide_eq_true c55
                  clear c55
                  by_cases c56 : x6_3 < (l1_8.length : Int)
                  rotate_left
                  · rw [if_neg c56] at H
                    exact absurd H (by simp)
                  rw [if_pos c56] at H
                  have c56b0 : decide (x6_3 < (l1_8.length : Int)) = true := decide_eq_true c56
                  clear c56
                  by_cases c57 : (!(((rd_T160 l0_8 x6_3).f0) == ((rd_T160 l1_8 x6_3).f0)) || (!(((rd_T160 l0_8 x6_3).f1) == ((rd_T160 l1_8 x6_3).f1)) || (!(((rd_T160 l0_8 x6_3).f2) == ((rd_T160 l1_8 x6_3).f2)) || (!((((rd_T160 l0_8 x6_3).f3).toList) == (((rd_T160 l1_8 x6_3).f3).toList)))))) = true
                  rotate_left
                  · rw [if_neg c57] at H
                    have c57b0 : (!(((rd_T160 l0_8 x6_3).f0) == ((rd_T160 l1_8 x6_3).f0)) || (!(((rd_T160 l0_8 x6_3).f1) == ((rd_T160 l1_8 x6_3).f1)) || (!(((rd_T160 l0_8 x6_3).f2) == ((rd_T160 l1_8 x6_3).f2)) || (!((((rd_T160 l0_8 x6_3).f3).toList) == (((rd_T160 l1_8 x6_3).f3).toList)))))) = false := by simpa using c57
                    clear c57
                    have H' := Zm H
                    clear H
                    have hnb61 := NB118_119.out
                    have hnc61 := NB119_118.out
                    have hcz62_0 : wr.cell? ⟨gb118, 0, none⟩ = some (.string a0_0) := (Zkc BK118.out 0).trans rfl
                    have hcz62_1 : wr.cell? ⟨gb118, 1, none⟩ = some (.string a0_1) := (Zkc BK118.out 1).trans rfl
                    have hcz62_2 : wr.cell? ⟨gb118, 2, none⟩ = some (.bool a0_2) := (Zkc BK118.out 2).trans rfl
                    have hcz62_3 : wr.cell? ⟨gb118, 3, none⟩ = some (.bool a0_3) := (Zkc BK118.out 3).trans rfl
                    have hcz62_4 : wr.cell? ⟨gb118, 4, none⟩ = some (.bool a0_4) := (Zkc BK118.out 4).trans rfl
                    have hcz62_5 : wr.cell? ⟨gb118, 5, none⟩ = some (.int .i64 a0_5) := (Zkc BK118.out 5).trans rfl
                    have hcz62_6 : wr.cell? ⟨gb118, 6, none⟩ = some (.int .i64 a0_6) := (Zkc BK118.out 6).trans rfl
                    have hcz62_7 : wr.cell? ⟨gb118, 7, none⟩ = some (.slice A0_7 l0_7.length c0_7) := (Zkc BK118.out 7).trans rfl
                    have hcz62_8 : wr.cell? ⟨gb118, 8, none⟩ = some (.slice A0_8 l0_8.length c0_8) := (Zkc BK118.out 8).trans rfl
                    have p122 : 0 ≤ (x6_3 : Int) := of_decide_eq_true (by first | (with_reducible assumption) | assumption)
                    have q122 : x6_3 < (l0_8.length : Int) := of_decide_eq_true (by first | (with_reducible assumption) | assumption)
                    obtain ⟨ad122, e122, hx122_0, hx122_1, hx122_2, hx122_3⟩ := at_T160 HR0_8.out x6_3 p122 q122
                    cases e122
                    replace hx122_0 := (HB.out.cell (Zlt _ _ hx122_0)).trans hx122_0
                    replace hx122_1 := (HB.out.cell (Zlt _ _ hx122_1)).trans hx122_1
                    replace hx122_2 := (HB.out.cell (Zlt _ _ hx122_2)).trans hx122_2
                    replace hx122_3 := (HB.out.cell (Zlt _ _ hx122_3)).trans hx122_3
                    replace p122 := eq_true p122
                    replace q122 := eq_true q122
                    have hcz63_0 : wr.cell? ⟨gb119, 0, none⟩ = some (.string a1_0) := (Zkc BK119.out 0).trans rfl
                    have hcz63_1 : wr.cell? ⟨gb119, 1, none⟩ = some (.string a1_1) := (Zkc BK119.out 1).trans rfl
                    have hcz63_2 : wr.cell? ⟨gb119, 2, none⟩ = some (.bool a1_2) := (Zkc BK119.out 2).trans rfl
                    have hcz63_3 : wr.cell? ⟨gb119, 3, none⟩ = some (.bool a1_3) := (Zkc BK119.out 3).trans rfl
                    have hcz63_4 : wr.cell? ⟨gb119, 4, none⟩ = some (.bool a1_4) := (Zkc BK119.out 4).trans rfl
                    have hcz63_5 : wr.cell? ⟨gb119, 5, none⟩ = some (.int .i64 a1_5) := (Zkc BK119.out 5).trans rfl
                    have hcz63_6 : wr.cell? ⟨gb119, 6, none⟩ = some (.int .i64 a1_6) := (Zkc BK119.out 6).trans rfl
                    have hcz63_7 : wr.cell? ⟨gb119, 7, none⟩ = some (.slice A1_7 l1_7.length c1_7) := (Zkc BK119.out 7).trans rfl
                    have hcz63_8 : wr.cell? ⟨gb119, 8, none⟩ = some (.slice A1_8 l1_8.length c1_8) := (Zkc BK119.out 8).trans rfl
                    have p123 : 0 ≤ (x6_3 : Int) := of_decide_eq_true (by first | (with_reducible assumption) | assumption)
                    have q123 : x6_3 < (l1_8.length : Int) := of_decide_eq_true (by first | (with_reducible assumption) | assumption)
                    obtain ⟨ad123, e123, hx123_0, hx123_1, hx123_2, hx123_3⟩ := at_T160 HR1_8.out x6_3 p123 q123
                    cases e123
                    replace hx123_0 := (HB.out.cell (Zlt _ _ hx123_0)).trans hx123_0
                    replace hx123_1 := (HB.out.cell (Zlt _ _ hx123_1)).trans hx123_1
                    replace hx123_2 := (HB.out.cell (Zlt _ _ hx123_2)).trans hx123_2
                    replace hx123_3 := (HB.out.cell (Zlt _ _ hx123_3)).trans hx123_3
                    replace p123 := eq_true p123
                    replace q123 := eq_true q123
                    go_wp2
                    repeat (go_quiet (fail); try go_wp2)
                    go_roundg k3
                    case measure => have := HJ2.out; have := HK2.out; have := HK3.out; omega
                    case rel => exact ⟨(wrap64 (x6_3 + 1)), (by first | rfl | (simp; done) | (simp [*]; done)), H', ⟨by have := HJ2.out; have := HK2.out; have := HK3.out; omega⟩, ⟨by (with_reducible repeat (first | refine Zkn ?_ _ | refine Zkd ?_ | refine Zka ?_ _)); exact BK118.out⟩, ⟨by (with_reducible repeat (first | refine Zkn ?_ _ | refine Zkd ?_ | refine Zka ?_ _)); exact BK119.out⟩, ⟨by repeat (first | (with_reducible first | exact HB.out | apply Zba | apply Zbn | apply Zbd | refine Zbs ?_ GE118.out | refine Zbs ?_ GE119.out) | exact HB.out)⟩⟩
                  rw [if_pos c57] at H
                  have c57b0 : (!(((rd_T160 l0_8 x6_3).f0) == ((rd_T160 l1_8 x6_3).f0)) || (!(((rd_T160 l0_8 x6_3).f1) == ((rd_T160 l1_8 x6_3).f1)) || (!(((rd_T160 l0_8 x6_3).f2) == ((rd_T160 l1_8 x6_3).f2)) || (!((((rd_T160 l0_8 x6_3).f3).toList) == (((rd_T160 l1_8 x6_3).f3).toList)))))) = true := c57
                  clear c57
                  obtain rfl := Option.some.inj H
                  have hnb58 := NB118_119.out
                  have hnc58 := NB119_118.out
                  have hcz59_0 : wr.cell? ⟨gb118, 0, none⟩ = some (.string a0_0) := (Zkc BK118.out 0).trans rfl
                  have hcz59_1 : wr.cell? ⟨gb118, 1, none⟩ = some (.string a0_1) := (Zkc BK118.out 1).trans rfl
                  have hcz59_2 : wr.cell? ⟨gb118, 2, none⟩ = some (.bool a0_2) := (Zkc BK118.out 2).trans rfl
                  have hcz59_3 : wr.cell? ⟨gb118, 3, none⟩ = some (.bool a0_3) := (Zkc BK118.out 3).trans rfl
                  have hcz59_4 : wr.cell? ⟨gb118, 4, none⟩ = some (.bool a0_4) := (Zkc BK118.out 4).trans rfl
                  have hcz59_5 : wr.cell? ⟨gb118, 5, none⟩ = some (.int .i64 a0_5) := (Zkc BK118.out 5).trans rfl
                  have hcz59_6 : wr.cell? ⟨gb118, 6, none⟩ = some (.int .i64 a0_6) := (Zkc BK118.out 6).trans rfl
                  have hcz59_7 : wr.cell? ⟨gb118, 7, none⟩ = some (.slice A0_7 l0_7.length c0_7) := (Zkc BK118.out 7).trans rfl
                  have hcz59_8 : wr.cell? ⟨gb118, 8, none⟩ = some (.slice A0_8 l0_8.length c0_8) := (Zkc BK118.out 8).trans rfl
                  have p122 : 0 ≤ (x6_3 : Int) := of_decide_eq_true (by first | (with_reducible assumption) | assumption)
                  have q122 : x6_3 < (l0_8.length : Int) := of_decide_eq_true (by first | (with_reducible assumption) | assumption)
                  obtain ⟨ad122, e122, hx122_0, hx122_1, hx122_2, hx122_3⟩ := at_T160 HR0_8.out x6_3 p122 q122
                  cases e122
                  replace hx122_0 := (HB.out.cell (Zlt _ _ hx122_0)).trans hx122_0
                  replace hx122_1 := (HB.out.cell (Zlt _ _ hx122_1)).trans hx122_1
                  replace hx122_2 := (HB.out.cell (Zlt _ _ hx122_2)).trans hx122_2
                  replace hx122_3 := (HB.out.cell (Zlt _ _ hx122_3)).trans hx122_3
                  replace p122 := eq_true p122
                  replace q122 := eq_true q122
                  have hcz60_0 : wr.cell? ⟨gb119, 0, none⟩ = some (.string a1_0) := (Zkc BK119.out 0).trans rfl
                  have hcz60_1 : wr.cell? ⟨gb119, 1, none⟩ = some (.string a1_1) := (Zkc BK119.out 1).trans rfl
                  have hcz60_2 : wr.cell? ⟨gb119, 2, none⟩ = some (.bool a1_2) := (Zkc BK119.out 2).trans rfl
                  have hcz60_3 : wr.cell? ⟨gb119, 3, none⟩ = some (.bool a1_3) := (Zkc BK119.out 3).trans rfl
                  have hcz60_4 : wr.cell? ⟨gb119, 4, none⟩ = some (.bool a1_4) := (Zkc BK119.out 4).trans rfl
                  have hcz60_5 : wr.cell? ⟨gb119, 5, none⟩ = some (.int .i64 a1_5) := (Zkc BK119.out 5).trans rfl
                  have hcz60_6 : wr.cell? ⟨gb119, 6, none⟩ = some (.int .i64 a1_6) := (Zkc BK119.out 6).trans rfl
                  have hcz60_7 : wr.cell? ⟨gb119, 7, none⟩ = some (.slice A1_7 l1_7.length c1_7) := (Zkc BK119.out 7).trans rfl
                  have hcz60_8 : wr.cell? ⟨gb119, 8, none⟩ = some (.slice A1_8 l1_8.length c1_8) := (Zkc BK119.out 8).trans rfl
                  have p123 : 0 ≤ (x6_3 : Int) := of_decide_eq_true (by first | (with_reducible assumption) | assumption)
                  have q123 : x6_3 < (l1_8.length : Int) := of_decide_eq_true (by first | (with_reducible assumption) | assumption)
                  obtain ⟨ad123, e123, hx123_0, hx123_1, hx123_2, hx123_3⟩ := at_T160 HR1_8.out x6_3 p123 q123
                  cases e123
                  replace hx123_0 := (HB.out.cell (Zlt _ _ hx123_0)).trans hx123_0
                  replace hx123_1 := (HB.out.cell (Zlt _ _ hx123_1)).trans hx123_1
                  replace hx123_2 := (HB.out.cell (Zlt _ _ hx123_2)).trans hx123_2
                  replace hx123_3 := (HB.out.cell (Zlt _ _ hx123_3)).trans hx123_3
                  replace p123 := eq_true p123
                  replace q123 := eq_true q123
                  go_wp2
                  repeat (go_quiet (fail); try go_wp2)
                  go_ret
                  exact ⟨by first | rfl | (simp [errW_none, errW_some] <;> rfl) | (simp [*, errW_none, errW_some] <;> rfl), by repeat (first | (with_reducible first | exact HB.out | apply Zba | apply Zbn | apply Zbd | refine Zbs ?_ GE118.out | refine Zbs ?_ GE119.out) | exact HB.out)⟩
            rw [if_pos c42] at H
            have c42b0 : decide (x5_2 < (l0_7.length : Int)) = true := decide_eq_true c42
            clear c42
            by_cases c43 : 0 ≤ x5_2
            rotate_left
            · rw [if_neg c43] at H
              exact absurd H (by simp)
            rw [if_pos c43] at H
            have c43b0 : decide (0 ≤ x5_2) = true := decide_eq_true c43
            clear c43
            by_cases c44 : x5_2 < (l1_7.length : Int)
            rotate_left
            · rw [if_neg c44] at H
              exact absurd H (by simp)
            rw [if_pos c44] at H
            have c44b0 : decide (x5_2 < (l1_7.length : Int)) = true := decide_eq_true c44
            clear c44
            by_cases c45 : (!(((rd_T156 l0_7 x5_2).f0) == ((rd_T156 l1_7 x5_2).f0)) || (!(((rd_T156 l0_7 x5_2).f1) == ((rd_T156 l1_7 x5_2).f1)) || (!((((rd_T156 l0_7 x5_2).f2).toList) == (((rd_T156 l1_7 x5_2).f2).toList)) || (!((((rd_T156 l0_7 x5_2).f3).toList) == (((rd_T156 l1_7 x5_2).f3).toList)) || (!((((rd_T156 l0_7 x5_2).f4).toList) == (((rd_T156 l1_7 x5_2).f4).toList))))))) = true
            rotate_left
            · rw [if_neg c45] at H
              have c45b0 : (!(((rd_T156 l0_7 x5_2).f0) == ((rd_T156 l1_7 x5_2).f0)) || (!(((rd_T156 l0_7 x5_2).f1) == ((rd_T156 l1_7 x5_2).f1)) || (!((((rd_T156 l0_7 x5_2).f2).toList) == (((rd_T156 l1_7 x5_2).f2).toList)) || (!((((rd_T156 l0_7 x5_2).f3).toList) == (((rd_T156 l1_7 x5_2).f3).toList)) || (!((((rd_T156 l0_7 x5_2).f4).toList) == (((rd_T156 l1_7 x5_2).f4).toList))))))) = false := by simpa using c45
              clear c45
              have H' := Zm H
              clear H
              have hnb49 := NB118_119.out
              have hnc49 := NB119_118.out
              have hcz50_0 : wr.cell? ⟨gb118, 0, none⟩ = some (.string a0_0) := (Zkc BK118.out 0).trans rfl
              have hcz50_1 : wr.cell? ⟨gb118, 1, none⟩ = some (.string a0_1) := (Zkc BK118.out 1).trans rfl
              have hcz50_2 : wr.cell? ⟨gb118, 2, none⟩ = some (.bool a0_2) := (Zkc BK118.out 2).trans rfl
              have hcz50_3 : wr.cell? ⟨gb118, 3, none⟩ = some (.bool a0_3) := (Zkc BK118.out 3).trans rfl
              have hcz50_4 : wr.cell? ⟨gb118, 4, none⟩ = some (.bool a0_4) := (Zkc BK118.out 4).trans rfl
              have hcz50_5 : wr.cell? ⟨gb118, 5, none⟩ = some (.int .i64 a0_5) := (Zkc BK118.out 5).trans rfl
              have hcz50_6 : wr.cell? ⟨gb118, 6, none⟩ = some (.int .i64 a0_6) := (Zkc BK118.out 6).trans rfl
              have hcz50_7 : wr.cell? ⟨gb118, 7, none⟩ = some (.slice A0_7 l0_7.length c0_7) := (Zkc BK118.out 7).trans rfl
              have hcz50_8 : wr.cell? ⟨gb118, 8, none⟩ = some (.slice A0_8 l0_8.length c0_8) := (Zkc BK118.out 8).trans rfl
              have p120 : 0 ≤ (x5_2 : Int) := of_decide_eq_true (by first | (with_reducible assumption) | assumption)
              have q120 : x5_2 < (l0_7.length : Int) := of_decide_eq_true (by first | (with_reducible assumption) | assumption)
              obtain ⟨ad120, e120, hx120_0, hx120_1, hx120_2, hx120_3, hx120_4⟩ := at_T156 HR0_7.out x5_2 p120 q120
              cases e120
              replace hx120_0 := (HB.out.cell (Zlt _ _ hx120_0)).trans hx120_0
              replace hx120_1 := (HB.out.cell (Zlt _ _ hx120_1)).trans hx120_1
              replace hx120_2 := (HB.out.cell (Zlt _ _ hx120_2)).trans hx120_2
              replace hx120_3 := (HB.out.cell (Zlt _ _ hx120_3)).trans hx120_3
              replace hx120_4 := (HB.out.cell (Zlt _ _ hx120_4)).trans hx120_4
              replace p120 := eq_true p120
              replace q120 := eq_true q120
              have hcz51_0 : wr.cell? ⟨gb119, 0, none⟩ = some (.string a1_0) := (Zkc BK119.out 0).trans rfl
              have hcz51_1 : wr.cell? ⟨gb119, 1, none⟩ = some (.string a1_1) := (Zkc BK119.out 1).trans rfl
              have hcz51_2 : wr.cell? ⟨gb119, 2, none⟩ = some (.bool a1_2) := (Zkc BK119.out 2).trans rfl
              have hcz51_3 : wr.cell? ⟨gb119, 3, none⟩ = some (.bool a1_3) := (Zkc BK119.out 3).trans rfl
              have hcz51_4 : wr.cell? ⟨gb119, 4, none⟩ = some (.bool a1_4) := (Zkc BK119.out 4).trans rfl
              have hcz51_5 : wr.cell? ⟨gb119, 5, none⟩ = some (.int .i64 a1_5) := (Zkc BK119.out 5).trans rfl
              have hcz51_6 : wr.cell? ⟨gb119, 6, none⟩ = some (.int .i64 a1_6) := (Zkc BK119.out 6).trans rfl
              have hcz51_7 : wr.cell? ⟨gb119, 7, none⟩ = some (.slice A1_7 l1_7.length c1_7) := (Zkc BK119.out 7).trans rfl
              have hcz51_8 : wr.cell? ⟨gb119, 8, none⟩ = some (.slice A1_8 l1_8.length c1_8) := (Zkc BK119.out 8).trans rfl
              have p121 : 0 ≤ (x5_2 : Int) := of_decide_eq_true (by first | (with_reducible assumption) | assumption)
              have q121 : x5_2 < (l1_7.length : Int) := of_decide_eq_true (by first | (with_reducible assumption) | assumption)
              obtain ⟨ad121, e121, hx121_0, hx121_1, hx121_2, hx121_3, hx121_4⟩ := at_T156 HR1_7.out x5_2 p121 q121
              cases e121
              replace hx121_0 := (HB.out.cell (Zlt _ _ hx121_0)).trans hx121_0
              replace hx121_1 := (HB.out.cell (Zlt _ _ hx121_1)).trans hx121_1
              replace hx121_2 := (HB.out.cell (Zlt _ _ hx121_2)).trans hx121_2
              replace hx121_3 := (HB.out.cell (Zlt _ _ hx121_3)).trans hx121_3
              replace hx121_4 := (HB.out.cell (Zlt _ _ hx121_4)).trans hx121_4
              replace p121 := eq_true p121
              replace q121 := eq_true q121
              go_wp2
              repeat (go_quiet (fail); try go_wp2)
              go_roundg k2
              case measure => have := HJ2.out; have := HK2.out; omega
              case rel => exact ⟨(wrap64 (x5_2 + 1)), (by first | rfl | (simp; done) | (simp [*]; done)), H', ⟨by have := HJ2.out; have := HK2.out; omega⟩, ⟨by (with_reducible repeat (first | refine Zkn ?_ _ | refine Zkd ?_ | refine Zka ?_ _)); exact BK118.out⟩, ⟨by (with_reducible repeat (first | refine Zkn ?_ _ | refine Zkd ?_ | refine Zka ?_ _)); exact BK119.out⟩, ⟨by repeat (first | (with_reducible first | exact HB.out | apply Zba | apply Zbn | apply Zbd | refine Zbs ?_ GE118.out | refine Zbs ?_ GE119.out) | exact HB.out)⟩⟩
            rw [if_pos c45] at H
            have c45b0 : (!(((rd_T156 l0_7 x5_2).f0) == ((rd_T156 l1_7 x5_2).f0)) || (!(((rd_T156 l0_7 x5_2).f1) == ((rd_T156 l1_7 x5_2).f1)) || (!((((rd_T156 l0_7 x5_2).f2).toList) == (((rd_T156 l1_7 x5_2).f2).toList)) || (!((((rd_T156 l0_7 x5_2).f3).toList) == (((rd_T156 l1_7 x5_2).f3).toList)) || (!((((rd_T156 l0_7 x5_2).f4).toList) == (((rd_T156 l1_7 x5_2).f4).toList))))))) = true := c45
            clear c45
            obtain rfl := Option.some.inj H
            have hnb46 := NB118_119.out
            have hnc46 := NB119_118.out
            have hcz47_0 : wr.cell? ⟨gb118, 0, none⟩ = some (.string a0_0) := (Zkc BK118.out 0).trans rfl
            have hcz47_1 : wr.cell? ⟨gb118, 1, none⟩ = some (.string a0_1) := (Zkc BK118.out 1).trans rfl
            have hcz47_2 : wr.cell? ⟨gb118, 2, none⟩ = some (.bool a0_2) := (Zkc BK118.out 2).trans rfl
            have hcz47_3 : wr.cell? ⟨gb118, 3, none⟩ = some (.bool a0_3) := (Zkc BK118.out 3).trans rfl
            have hcz47_4 : wr.cell? ⟨gb118, 4, none⟩ = some (.bool a0_4) := (Zkc BK118.out 4).trans rfl
            have hcz47_5 : wr.cell? ⟨gb118, 5, none⟩ = some (.int .i64 a0_5) := (Zkc BK118.out 5).trans rfl
            have hcz47_6 : wr.cell? ⟨gb118, 6, none⟩ = some (.int .i64 a0_6) := (Zkc BK118.out 6).trans rfl
            have hcz47_7 : wr.cell? ⟨gb118, 7, none⟩ = some (.slice A0_7 l0_7.length c0_7) := (Zkc BK118.out 7).trans rfl
            have hcz47_8 : wr.cell? ⟨gb118, 8, none⟩ = some (.slice A0_8 l0_8.length c0_8) := (Zkc BK118.out 8).trans rfl
            have p120 : 0 ≤ (x5_2 : Int) := of_decide_eq_true (by first | (with_reducible assumption) | assumption)
            have q120 : x5_2 < (l0_7.length : Int) := of_decide_eq_true (by first | (with_reducible assumption) | assumption)
            obtain ⟨ad120, e120, hx120_0, hx120_1, hx120_2, hx120_3, hx120_4⟩ := at_T156 HR0_7.out x5_2 p120 q120
            cases e120
            replace hx120_0 := (HB.out.cell (Zlt _ _ hx120_0)).trans hx120_0
            replace hx120_1 := (HB.out.cell (Zlt _ _ hx120_1)).trans hx120_1
            replace hx120_2 := (HB.out.cell (Zlt _ _ hx120_2)).trans hx120_2
            replace hx120_3 := (HB.out.cell (Zlt _ _ hx120_3)).trans hx120_3
            replace hx120_4 := (HB.out.cell (Zlt _ _ hx120_4)).trans hx120_4
            replace p120 := eq_true p120
            replace q120 := eq_true q120
            have hcz48_0 : wr.cell? ⟨gb119, 0, none⟩ = some (.string a1_0) := (Zkc BK119.out 0).trans rfl
            have hcz48_1 : wr.cell? ⟨gb119, 1, none⟩ = some (.string a1_1) := (Zkc BK119.out 1).trans rfl
            have hcz48_2 : wr.cell? ⟨gb119, 2, none⟩ = some (.bool a1_2) := (Zkc BK119.out 2).trans rfl
            have hcz48_3 : wr.cell? ⟨gb119, 3, none⟩ = some (.bool a1_3) := (Zkc BK119.out 3).trans rfl
            have hcz48_4 : wr.cell? ⟨gb119, 4, none⟩ = some (.bool a1_4) := (Zkc BK119.out 4).trans rfl
            have hcz48_5 : wr.cell? ⟨gb119, 5, none⟩ = some (.int .i64 a1_5) := (Zkc BK119.out 5).trans rfl
            have hcz48_6 : wr.cell? ⟨gb119, 6, none⟩ = some (.int .i64 a1_6) := (Zkc BK119.out 6).trans rfl
            have hcz48_7 : wr.cell? ⟨gb119, 7, none⟩ = some (.slice A1_7 l1_7.length c1_7) := (Zkc BK119.out 7).trans rfl
            have hcz48_8 : wr.cell? ⟨gb119, 8, none⟩ = some (.slice A1_8 l1_8.length c1_8) := (Zkc BK119.out 8).trans rfl
            have p121 : 0 ≤ (x5_2 : Int) := of_decide_eq_true (by first | (with_reducible assumption) | assumption)
            have q121 : x5_2 < (l1_7.length : Int) := of_decide_eq_true (by first | (with_reducible assumption) | assumption)
            obtain ⟨ad121, e121, hx121_0, hx121_1, hx121_2, hx121_3, hx121_4⟩ := at_T156 HR1_7.out x5_2 p121 q121
            cases e121
            replace hx121_0 := (HB.out.cell (Zlt _ _ hx121_0)).trans hx121_0
            replace hx121_1 := (HB.out.cell (Zlt _ _ hx121_1)).trans hx121_1
            replace hx121_2 := (HB.out.cell (Zlt _ _ hx121_2)).trans hx121_2
            replace hx121_3 := (HB.out.cell (Zlt _ _ hx121_3)).trans hx121_3
            replace hx121_4 := (HB.out.cell (Zlt _ _ hx121_4)).trans hx121_4
            replace p121 := eq_true p121
            replace q121 := eq_true q121
            go_wp2
            repeat (go_quiet (fail); try go_wp2)
            go_ret
            exact ⟨by first | rfl | (simp [errW_none, errW_some] <;> rfl) | (simp [*, errW_none, errW_some] <;> rfl), by repeat (first | (with_reducible first | exact HB.out | apply Zba | apply Zbn | apply Zbd | refine Zbs ?_ GE118.out | refine Zbs ?_ GE119.out) | exact HB.out)⟩
      subst c41
      have H1 : (some false) = some r := by rw [if_pos rfl] at H; exact H
      clear H
      have H := H1
      clear H1
      obtain rfl := Option.some.inj H
      go_wp2
      repeat (go_quiet (fail); try go_wp2)
      go_ret
      exact ⟨by first | rfl | (simp [errW_none, errW_some] <;> rfl) | (simp [*, errW_none, errW_some] <;> rfl), by repeat (first | (with_reducible first | exact HB.out | apply Zba | apply Zbn | apply Zbd | refine Zbs ?_ GE118.out | refine Zbs ?_ GE119.out) | exact HB.out)⟩
end Go.Proofs.Ytlflbmbcjjegaaa.PFnExactClassSame
