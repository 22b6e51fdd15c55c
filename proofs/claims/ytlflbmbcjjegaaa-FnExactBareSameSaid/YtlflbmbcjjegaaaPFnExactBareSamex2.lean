/- Functions of the program as plain Lean functions, each with a proof that the program's call comes to the same; no condition. Written by a program of this session. -/
import Derived.Test.YtlflbmbcjjegaaaPFnExactBareSamex0
import Derived.Test.YtlflbmbcjjegaaaPFnExactBareSamex1
namespace Go.Proofs.Ytlflbmbcjjegaaa.PFnExactBareSame
open Go.RowKit Go.Proofs.YtlflbmbcjjegaaaW.PrintWords Go.Proofs.YtlflbmbcjjegaaaW.PrintLast Go.Proofs.YtlflbmbcjjegaaaW.PrintMore
open Go.Proofs.YtlflbmbcjjegaaaW.PrintWords renaming below_alloc → Zba, pw_below_drewN → Zbn, below_drew1 → Zbd, below_set → Zbs, below_size → Zbz, below_step → Zbt, blk_drewN → Zkn, blk_drew → Zkd, blk_alloc → Zka, blk_cell → Zkc, blk_frozen → Zkf, blk_far → Zkr, blk_put → Zkp, blk_below → Zkb, add_block → Zab
open Go.World renaming block_lt_of_cell? → Zlt
open Go.Proofs.YtlflbmbcjjegaaaW.PrintWords.Aside0 renaming mk → Zm
attribute [local go_sem] max2_int min2_int max_two min_two max_three min_three max_four min_four   -- for this text's walks alone
set_option linter.unusedVariables false
set_option linter.unusedSimpArgs false

/-! ### spec_BareSame: function 16 -/
mutual
def spec_BareSame.j0 : Nat → Bool → List (S108) → Int → List Int → List (S110) → Bool → Int → ByteArray → Int → List (S108) → Int → List Int → List (S110) → Bool → Int → ByteArray → Int → Option (Bool)
  | 0, _, _, _, _, _, _, _, _, _, _, _, _, _, _, _, _, _ => none
  | k + 1, x67, x117000, x117001, x117002, x117003, x117004, x117005, x117006, x117007, x118000, x118001, x118002, x118003, x118004, x118005, x118006, x118007 => if x67 = true then (some false) else (spec_BareSame.l0 k 0 x117000 x117001 x117002 x117003 x117004 x117005 x117006 x117007 x118000 x118001 x118002 x118003 x118004 x118005 x118006 x118007)
def spec_BareSame.l0 : Nat → Int → List (S108) → Int → List Int → List (S110) → Bool → Int → ByteArray → Int → List (S108) → Int → List Int → List (S110) → Bool → Int → ByteArray → Int → Option (Bool)
  | 0, _, _, _, _, _, _, _, _, _, _, _, _, _, _, _, _, _ => none
  | k + 1, x5, x117000, x117001, x117002, x117003, x117004, x117005, x117006, x117007, x118000, x118001, x118002, x118003, x118004, x118005, x118006, x118007 => if x5 < (x117000.length : Int) then (if 0 ≤ x5 then (if x5 < (x118000.length : Int) then (if ((rd_T108 x117000 x5).f0).toList = ((rd_T108 x118000 x5).f0).toList then (if ((rd_T108 x117000 x5).f1) = ((rd_T108 x118000 x5).f1) then ((spec_l12Nums.f k ((rd_T108 x117000 x5).f2) ((rd_T108 x118000 x5).f2)).bind fun t125 => (spec_BareSame.j2 k x5 (!t125) x117000 x117001 x117002 x117003 x117004 x117005 x117006 x117007 x118000 x118001 x118002 x118003 x118004 x118005 x118006 x118007)) else (spec_BareSame.j2 k x5 true x117000 x117001 x117002 x117003 x117004 x117005 x117006 x117007 x118000 x118001 x118002 x118003 x118004 x118005 x118006 x118007)) else (spec_BareSame.j2 k x5 true x117000 x117001 x117002 x117003 x117004 x117005 x117006 x117007 x118000 x118001 x118002 x118003 x118004 x118005 x118006 x118007)) else (none)) else (none)) else (spec_BareSame.l1 k 0 x117000 x117001 x117002 x117003 x117004 x117005 x117006 x117007 x118000 x118001 x118002 x118003 x118004 x118005 x118006 x118007)
def spec_BareSame.j2 : Nat → Int → Bool → List (S108) → Int → List Int → List (S110) → Bool → Int → ByteArray → Int → List (S108) → Int → List Int → List (S110) → Bool → Int → ByteArray → Int → Option (Bool)
  | 0, _, _, _, _, _, _, _, _, _, _, _, _, _, _, _, _, _, _ => none
  | k + 1, x5, x118, x117000, x117001, x117002, x117003, x117004, x117005, x117006, x117007, x118000, x118001, x118002, x118003, x118004, x118005, x118006, x118007 => if x118 = true then (some false) else (spec_BareSame.l0 k (wrap64 (x5 + 1)) x117000 x117001 x117002 x117003 x117004 x117005 x117006 x117007 x118000 x118001 x118002 x118003 x118004 x118005 x118006 x118007)
def spec_BareSame.l1 : Nat → Int → List (S108) → Int → List Int → List (S110) → Bool → Int → ByteArray → Int → List (S108) → Int → List Int → List (S110) → Bool → Int → ByteArray → Int → Option (Bool)
  | 0, _, _, _, _, _, _, _, _, _, _, _, _, _, _, _, _, _ => none
  | k + 1, x6, x117000, x117001, x117002, x117003, x117004, x117005, x117006, x117007, x118000, x118001, x118002, x118003, x118004, x118005, x118006, x118007 => if x6 < (x117003.length : Int) then (if 0 ≤ x6 then (if x6 < (x118003.length : Int) then (if ((rd_T110 x117003 x6).f0) = ((rd_T110 x118003 x6).f0) then (if ((rd_T110 x117003 x6).f1) = ((rd_T110 x118003 x6).f1) then (if ((rd_T110 x117003 x6).f2) = ((rd_T110 x118003 x6).f2) then ((spec_l12Nums.f k ((rd_T110 x117003 x6).f3) ((rd_T110 x118003 x6).f3)).bind fun t130 => (if t130 = true then ((spec_l12Nums.f k ((rd_T110 x117003 x6).f4) ((rd_T110 x118003 x6).f4)).bind fun t131 => (spec_BareSame.j4 k x6 (!t131) x117000 x117001 x117002 x117003 x117004 x117005 x117006 x117007 x118000 x118001 x118002 x118003 x118004 x118005 x118006 x118007)) else (spec_BareSame.j4 k x6 true x117000 x117001 x117002 x117003 x117004 x117005 x117006 x117007 x118000 x118001 x118002 x118003 x118004 x118005 x118006 x118007))) else (spec_BareSame.j4 k x6 true x117000 x117001 x117002 x117003 x117004 x117005 x117006 x117007 x118000 x118001 x118002 x118003 x118004 x118005 x118006 x118007)) else (spec_BareSame.j4 k x6 true x117000 x117001 x117002 x117003 x117004 x117005 x117006 x117007 x118000 x118001 x118002 x118003 x118004 x118005 x118006 x118007)) else (spec_BareSame.j4 k x6 true x117000 x117001 x117002 x117003 x117004 x117005 x117006 x117007 x118000 x118001 x118002 x118003 x118004 x118005 x118006 x118007)) else (none)) else (none)) else (some true)
def spec_BareSame.j4 : Nat → Int → Bool → List (S108) → Int → List Int → List (S110) → Bool → Int → ByteArray → Int → List (S108) → Int → List Int → List (S110) → Bool → Int → ByteArray → Int → Option (Bool)
  | 0, _, _, _, _, _, _, _, _, _, _, _, _, _, _, _, _, _, _ => none
  | k + 1, x6, x170, x117000, x117001, x117002, x117003, x117004, x117005, x117006, x117007, x118000, x118001, x118002, x118003, x118004, x118005, x118006, x118007 => if x170 = true then (some false) else (spec_BareSame.l1 k (wrap64 (x6 + 1)) x117000 x117001 x117002 x117003 x117004 x117005 x117006 x117007 x118000 x118001 x118002 x118003 x118004 x118005 x118006 x118007)
end
def spec_BareSame.f (k : Nat) (l0_0 : List (S108)) (a0_1 : Int) (l0_2 : List Int) (l0_3 : List (S110)) (a0_4 : Bool) (a0_5 : Int) (a0_6 : ByteArray) (a0_7 : Int) (l1_0 : List (S108)) (a1_1 : Int) (l1_2 : List Int) (l1_3 : List (S110)) (a1_4 : Bool) (a1_5 : Int) (a1_6 : ByteArray) (a1_7 : Int) : Option (Bool) := if a0_1 = a1_1 then (if (a0_4 != a1_4) = true then (spec_BareSame.j0 k true l0_0 a0_1 l0_2 l0_3 a0_4 a0_5 a0_6 a0_7 l1_0 a1_1 l1_2 l1_3 a1_4 a1_5 a1_6 a1_7) else (if a0_5 = a1_5 then (if a0_6.toList = a1_6.toList then (if a0_7 = a1_7 then ((spec_l12Nums.f k l0_2 l1_2).bind fun t118 => (if t118 = true then (if (l0_0.length : Int) = (l1_0.length : Int) then (spec_BareSame.j0 k ((l0_3.length : Int) != (l1_3.length : Int)) l0_0 a0_1 l0_2 l0_3 a0_4 a0_5 a0_6 a0_7 l1_0 a1_1 l1_2 l1_3 a1_4 a1_5 a1_6 a1_7) else (spec_BareSame.j0 k true l0_0 a0_1 l0_2 l0_3 a0_4 a0_5 a0_6 a0_7 l1_0 a1_1 l1_2 l1_3 a1_4 a1_5 a1_6 a1_7)) else (spec_BareSame.j0 k true l0_0 a0_1 l0_2 l0_3 a0_4 a0_5 a0_6 a0_7 l1_0 a1_1 l1_2 l1_3 a1_4 a1_5 a1_6 a1_7))) else (spec_BareSame.j0 k true l0_0 a0_1 l0_2 l0_3 a0_4 a0_5 a0_6 a0_7 l1_0 a1_1 l1_2 l1_3 a1_4 a1_5 a1_6 a1_7)) else (spec_BareSame.j0 k true l0_0 a0_1 l0_2 l0_3 a0_4 a0_5 a0_6 a0_7 l1_0 a1_1 l1_2 l1_3 a1_4 a1_5 a1_6 a1_7)) else (spec_BareSame.j0 k true l0_0 a0_1 l0_2 l0_3 a0_4 a0_5 a0_6 a0_7 l1_0 a1_1 l1_2 l1_3 a1_4 a1_5 a1_6 a1_7))) else (spec_BareSame.j0 k true l0_0 a0_1 l0_2 l0_3 a0_4 a0_5 a0_6 a0_7 l1_0 a1_1 l1_2 l1_3 a1_4 a1_5 a1_6 a1_7)
theorem spec_BareSame.mono_l : ∀ k, (∀ y0 y1 y2 y3 y4 y5 y6 y7 y8 y9 y10 y11 y12 y13 y14 y15 y16, LeO (spec_BareSame.j0 k y0 y1 y2 y3 y4 y5 y6 y7 y8 y9 y10 y11 y12 y13 y14 y15 y16) (spec_BareSame.j0 (k + 1) y0 y1 y2 y3 y4 y5 y6 y7 y8 y9 y10 y11 y12 y13 y14 y15 y16)) ∧ (∀ y0 y1 y2 y3 y4 y5 y6 y7 y8 y9 y10 y11 y12 y13 y14 y15 y16, LeO (spec_BareSame.l0 k y0 y1 y2 y3 y4 y5 y6 y7 y8 y9 y10 y11 y12 y13 y14 y15 y16) (spec_BareSame.l0 (k + 1) y0 y1 y2 y3 y4 y5 y6 y7 y8 y9 y10 y11 y12 y13 y14 y15 y16)) ∧ (∀ y0 y1 y2 y3 y4 y5 y6 y7 y8 y9 y10 y11 y12 y13 y14 y15 y16 y17, LeO (spec_BareSame.j2 k y0 y1 y2 y3 y4 y5 y6 y7 y8 y9 y10 y11 y12 y13 y14 y15 y16 y17) (spec_BareSame.j2 (k + 1) y0 y1 y2 y3 y4 y5 y6 y7 y8 y9 y10 y11 y12 y13 y14 y15 y16 y17)) ∧ (∀ y0 y1 y2 y3 y4 y5 y6 y7 y8 y9 y10 y11 y12 y13 y14 y15 y16, LeO (spec_BareSame.l1 k y0 y1 y2 y3 y4 y5 y6 y7 y8 y9 y10 y11 y12 y13 y14 y15 y16) (spec_BareSame.l1 (k + 1) y0 y1 y2 y3 y4 y5 y6 y7 y8 y9 y10 y11 y12 y13 y14 y15 y16)) ∧ (∀ y0 y1 y2 y3 y4 y5 y6 y7 y8 y9 y10 y11 y12 y13 y14 y15 y16 y17, LeO (spec_BareSame.j4 k y0 y1 y2 y3 y4 y5 y6 y7 y8 y9 y10 y11 y12 y13 y14 y15 y16 y17) (spec_BareSame.j4 (k + 1) y0 y1 y2 y3 y4 y5 y6 y7 y8 y9 y10 y11 y12 y13 y14 y15 y16 y17))
  | 0 => ⟨fun _ _ _ _ _ _ _ _ _ _ _ _ _ _ _ _ _ r h => by simp [spec_BareSame.j0] at h, fun _ _ _ _ _ _ _ _ _ _ _ _ _ _ _ _ _ r h => by simp [spec_BareSame.l0] at h, fun _ _ _ _ _ _ _ _ _ _ _ _ _ _ _ _ _ _ r h => by simp [spec_BareSame.j2] at h, fun _ _ _ _ _ _ _ _ _ _ _ _ _ _ _ _ _ r h => by simp [spec_BareSame.l1] at h, fun _ _ _ _ _ _ _ _ _ _ _ _ _ _ _ _ _ _ r h => by simp [spec_BareSame.j4] at h⟩
  | k + 1 => by
    obtain ⟨ih0, ih1, ih2, ih3, ih4⟩ := spec_BareSame.mono_l k
    refine ⟨?_, ?_, ?_, ?_, ?_⟩
    · intro y0 y1 y2 y3 y4 y5 y6 y7 y8 y9 y10 y11 y12 y13 y14 y15 y16
      unfold spec_BareSame.j0
      repeat' first
      | (with_reducible exact ih0 _ _ _ _ _ _ _ _ _ _ _ _ _ _ _ _ _)
      | (with_reducible exact ih1 _ _ _ _ _ _ _ _ _ _ _ _ _ _ _ _ _)
      | (with_reducible exact ih2 _ _ _ _ _ _ _ _ _ _ _ _ _ _ _ _ _ _)
      | (with_reducible exact ih3 _ _ _ _ _ _ _ _ _ _ _ _ _ _ _ _ _)
      | (with_reducible exact ih4 _ _ _ _ _ _ _ _ _ _ _ _ _ _ _ _ _ _)
      | (with_reducible exact spec_l12Nums.mono _ _ _)
      | (with_reducible exact LeO.refl _)
      | (with_reducible exact LeO.none _)
      | (with_reducible refine LeO.ite ?_ ?_)
      | (with_reducible refine LeO.bind ?_ (fun _ => ?_))
      | exact ih0 _ _ _ _ _ _ _ _ _ _ _ _ _ _ _ _ _
      | exact ih1 _ _ _ _ _ _ _ _ _ _ _ _ _ _ _ _ _
      | exact ih2 _ _ _ _ _ _ _ _ _ _ _ _ _ _ _ _ _ _
      | exact ih3 _ _ _ _ _ _ _ _ _ _ _ _ _ _ _ _ _
      | exact ih4 _ _ _ _ _ _ _ _ _ _ _ _ _ _ _ _ _ _
      | exact spec_l12Nums.mono _ _ _
      | exact LeO.none _
      | refine LeO.ite ?_ ?_
      | refine LeO.bind ?_ (fun _ => ?_)
    · intro y0 y1 y2 y3 y4 y5 y6 y7 y8 y9 y10 y11 y12 y13 y14 y15 y16
      unfold spec_BareSame.l0
      repeat' first
      | (with_reducible exact ih0 _ _ _ _ _ _ _ _ _ _ _ _ _ _ _ _ _)
      | (with_reducible exact ih1 _ _ _ _ _ _ _ _ _ _ _ _ _ _ _ _ _)
      | (with_reducible exact ih2 _ _ _ _ _ _ _ _ _ _ _ _ _ _ _ _ _ _)
      | (with_reducible exact ih3 _ _ _ _ _ _ _ _ _ _ _ _ _ _ _ _ _)
      | (with_reducible exact ih4 _ _ _ _ _ _ _ _ _ _ _ _ _ _ _ _ _ _)
      | (with_reducible exact spec_l12Nums.mono _ _ _)
      | (with_reducible exact LeO.refl _)
      | (with_reducible exact LeO.none _)
      | (with_reducible refine LeO.ite ?_ ?_)
      | (with_reducible refine LeO.bind ?_ (fun _ => ?_))
      | exact ih0 _ _ _ _ _ _ _ _ _ _ _ _ _ _ _ _ _
      | exact ih1 _ _ _ _ _ _ _ _ _ _ _ _ _ _ _ _ _
      | exact ih2 _ _ _ _ _ _ _ _ _ _ _ _ _ _ _ _ _ _
      | exact ih3 _ _ _ _ _ _ _ _ _ _ _ _ _ _ _ _ _
      | exact ih4 _ _ _ _ _ _ _ _ _ _ _ _ _ _ _ _ _ _
      | exact spec_l12Nums.mono _ _ _
      | exact LeO.none _
      | refine LeO.ite ?_ ?_
      | refine LeO.bind ?_ (fun _ => ?_)
    · intro y0 y1 y2 y3 y4 y5 y6 y7 y8 y9 y10 y11 y12 y13 y14 y15 y16 y17
      unfold spec_BareSame.j2
      repeat' first
      | (with_reducible exact ih0 _ _ _ _ _ _ _ _ _ _ _ _ _ _ _ _ _)
      | (with_reducible exact ih1 _ _ _ _ _ _ _ _ _ _ _ _ _ _ _ _ _)
      | (with_reducible exact ih2 _ _ _ _ _ _ _ _ _ _ _ _ _ _ _ _ _ _)
      | (with_reducible exact ih3 _ _ _ _ _ _ _ _ _ _ _ _ _ _ _ _ _)
      | (with_reducible exact ih4 _ _ _ _ _ _ _ _ _ _ _ _ _ _ _ _ _ _)
      | (with_reducible exact spec_l12Nums.mono _ _ _)
      | (with_reducible exact LeO.refl _)
      | (with_reducible exact LeO.none _)
      | (with_reducible refine LeO.ite ?_ ?_)
      | (with_reducible refine LeO.bind ?_ (fun _ => ?_))
      | exact ih0 _ _ _ _ _ _ _ _ _ _ _ _ _ _ _ _ _
      | exact ih1 _ _ _ _ _ _ _ _ _ _ _ _ _ _ _ _ _
      | exact ih2 _ _ _ _ _ _ _ _ _ _ _ _ _ _ _ _ _ _
      | exact ih3 _ _ _ _ _ _ _ _ _ _ _ _ _ _ _ _ _
      | exact ih4 _ _ _ _ _ _ _ _ _ _ _ _ _ _ _ _ _ _
      | exact spec_l12Nums.mono _ _ _
      | exact LeO.none _
      | refine LeO.ite ?_ ?_
      | refine LeO.bind ?_ (fun _ => ?_)
    · intro y0 y1 y2 y3 y4 y5 y6 y7 y8 y9 y10 y11 y12 y13 y14 y15 y16
      unfold spec_BareSame.l1
      repeat' first
      | (with_reducible exact ih0 _ _ _ _ _ _ _ _ _ _ _ _ _ _ _ _ _)
      | (with_reducible exact ih1 _ _ _ _ _ _ _ _ _ _ _ _ _ _ _ _ _)
      | (with_reducible exact ih2 _ _ _ _ _ _ _ _ _ _ _ _ _ _ _ _ _ _)
      | (with_reducible exact ih3 _ _ _ _ _ _ _ _ _ _ _ _ _ _ _ _ _)
      | (with_reducible exact ih4 _ _ _ _ _ _ _ _ _ _ _ _ _ _ _ _ _ _)
      | (with_reducible exact spec_l12Nums.mono _ _ _)
      | (with_reducible exact LeO.refl _)
      | (with_reducible exact LeO.none _)
      | (with_reducible refine LeO.ite ?_ ?_)
      | (with_reducible refine LeO.bind ?_ (fun _ => ?_))
      | exact ih0 _ _ _ _ _ _ _ _ _ _ _ _ _ _ _ _ _
      | exact ih1 _ _ _ _ _ _ _ _ _ _ _ _ _ _ _ _ _
      | exact ih2 _ _ _ _ _ _ _ _ _ _ _ _ _ _ _ _ _ _
      | exact ih3 _ _ _ _ _ _ _ _ _ _ _ _ _ _ _ _ _
      | exact ih4 _ _ _ _ _ _ _ _ _ _ _ _ _ _ _ _ _ _
      | exact spec_l12Nums.mono _ _ _
      | exact LeO.none _
      | refine LeO.ite ?_ ?_
      | refine LeO.bind ?_ (fun _ => ?_)
    · intro y0 y1 y2 y3 y4 y5 y6 y7 y8 y9 y10 y11 y12 y13 y14 y15 y16 y17
      unfold spec_BareSame.j4
      repeat' first
      | (with_reducible exact ih0 _ _ _ _ _ _ _ _ _ _ _ _ _ _ _ _ _)
      | (with_reducible exact ih1 _ _ _ _ _ _ _ _ _ _ _ _ _ _ _ _ _)
      | (with_reducible exact ih2 _ _ _ _ _ _ _ _ _ _ _ _ _ _ _ _ _ _)
      | (with_reducible exact ih3 _ _ _ _ _ _ _ _ _ _ _ _ _ _ _ _ _)
      | (with_reducible exact ih4 _ _ _ _ _ _ _ _ _ _ _ _ _ _ _ _ _ _)
      | (with_reducible exact spec_l12Nums.mono _ _ _)
      | (with_reducible exact LeO.refl _)
      | (with_reducible exact LeO.none _)
      | (with_reducible refine LeO.ite ?_ ?_)
      | (with_reducible refine LeO.bind ?_ (fun _ => ?_))
      | exact ih0 _ _ _ _ _ _ _ _ _ _ _ _ _ _ _ _ _
      | exact ih1 _ _ _ _ _ _ _ _ _ _ _ _ _ _ _ _ _
      | exact ih2 _ _ _ _ _ _ _ _ _ _ _ _ _ _ _ _ _ _
      | exact ih3 _ _ _ _ _ _ _ _ _ _ _ _ _ _ _ _ _
      | exact ih4 _ _ _ _ _ _ _ _ _ _ _ _ _ _ _ _ _ _
      | exact spec_l12Nums.mono _ _ _
      | exact LeO.none _
      | refine LeO.ite ?_ ?_
      | refine LeO.bind ?_ (fun _ => ?_)
theorem spec_BareSame.mono : ∀ a0 a1 a2 a3 a4 a5 a6 a7 a8 a9 a10 a11 a12 a13 a14 a15 k, LeO (spec_BareSame.f k a0 a1 a2 a3 a4 a5 a6 a7 a8 a9 a10 a11 a12 a13 a14 a15) (spec_BareSame.f (k + 1) a0 a1 a2 a3 a4 a5 a6 a7 a8 a9 a10 a11 a12 a13 a14 a15) := by
  intro a0 a1 a2 a3 a4 a5 a6 a7 a8 a9 a10 a11 a12 a13 a14 a15 k
  obtain ⟨ih0, ih1, ih2, ih3, ih4⟩ := spec_BareSame.mono_l k
  unfold spec_BareSame.f
  repeat' first
      | (with_reducible exact ih0 _ _ _ _ _ _ _ _ _ _ _ _ _ _ _ _ _)
      | (with_reducible exact ih1 _ _ _ _ _ _ _ _ _ _ _ _ _ _ _ _ _)
      | (with_reducible exact ih2 _ _ _ _ _ _ _ _ _ _ _ _ _ _ _ _ _ _)
      | (with_reducible exact ih3 _ _ _ _ _ _ _ _ _ _ _ _ _ _ _ _ _)
      | (with_reducible exact ih4 _ _ _ _ _ _ _ _ _ _ _ _ _ _ _ _ _ _)
      | (with_reducible exact spec_l12Nums.mono _ _ _)
      | (with_reducible exact LeO.refl _)
      | (with_reducible exact LeO.none _)
      | (with_reducible refine LeO.ite ?_ ?_)
      | (with_reducible refine LeO.bind ?_ (fun _ => ?_))
      | exact ih0 _ _ _ _ _ _ _ _ _ _ _ _ _ _ _ _ _
      | exact ih1 _ _ _ _ _ _ _ _ _ _ _ _ _ _ _ _ _
      | exact ih2 _ _ _ _ _ _ _ _ _ _ _ _ _ _ _ _ _ _
      | exact ih3 _ _ _ _ _ _ _ _ _ _ _ _ _ _ _ _ _
      | exact ih4 _ _ _ _ _ _ _ _ _ _ _ _ _ _ _ _ _ _
      | exact spec_l12Nums.mono _ _ _
      | exact LeO.none _
      | refine LeO.ite ?_ ?_
      | refine LeO.bind ?_ (fun _ => ?_)
def spec_BareSame.T6 : Bool × List (List Nat × List Nat) := (true, [([], []), ([0], [0]), ([], []), ([1, 2], [1, 2]), ([3], [3]), ([4], [4]), ([], []), ([6], [6]), ([], []), ([7, 8], [7, 8]), ([9], [9]), ([10], [10]), ([5, 11], [5, 11]), ([12], [12]), ([13], [13]), ([14, 13], [13, 14]), ([13], [13]), ([15, 16, 13], [13, 15, 16]), ([17, 13], [13, 17]), ([18, 13], [13, 18]), ([13], [13]), ([20, 13], [13, 20]), ([13], [13]), ([21, 22, 13], [13, 21, 22]), ([23, 13], [13, 23]), ([24, 13], [13, 24]), ([19, 25, 13], [13, 19, 25]), ([13, 26], [13, 26]), ([27, 13], [27]), ([28], [28]), ([29, 28], [28, 29]), ([28], [28]), ([30, 31, 28], [28, 30, 31]), ([32, 28], [28, 32]), ([33, 28], [28, 33]), ([28], [28]), ([35, 28], [28, 35]), ([28], [28]), ([36, 37, 28], [28, 36, 37]), ([38, 28], [28, 38]), ([39, 28], [28, 39]), ([34, 40, 28, 28], [28, 34, 40]), ([41, 28], [28, 41]), ([28, 42], [28, 42])])
def spec_BareSame.B6 : List Nat := [0, 1, 0, 7, 15, 31, 0, 64, 0, 448, 960, 1984, 4095, 8191, 16383, 32767, 16383, 131071, 262143, 524287, 16383, 1064959, 16383, 7356415, 15745023, 32522239, 67108863, 134217727, 268435455, 536870911, 1073741823, 536870911, 4294967295, 8589934591, 17179869183, 536870911, 34896609279, 536870911, 241055039487, 515932946431, 1065688760319, 2199023255551, 4398046511103, 8796093022207]
theorem spec_BareSame.tab6 : rtab .any (opsOf Try.f16 6) = spec_BareSame.T6 := by kernel_rfl
theorem spec_BareSame.bits6 : waitsOk spec_BareSame.T6.2 spec_BareSame.B6 = true := by kernel_rfl
set_option maxHeartbeats 8000000 in
set_option maxRecDepth 100000 in
theorem spec_BareSame.calls (k : Nat) (A0_0 : Option Addr) (c0_0 : Nat) (l0_0 : List (S108)) (a0_1 : Int) (A0_2 : Option Addr) (c0_2 : Nat) (l0_2 : List Int) (A0_3 : Option Addr) (c0_3 : Nat) (l0_3 : List (S110)) (a0_4 : Bool) (a0_5 : Int) (a0_6 : ByteArray) (a0_7 : Int) (A1_0 : Option Addr) (c1_0 : Nat) (l1_0 : List (S108)) (a1_1 : Int) (A1_2 : Option Addr) (c1_2 : Nat) (l1_2 : List Int) (A1_3 : Option Addr) (c1_3 : Nat) (l1_3 : List (S110)) (a1_4 : Bool) (a1_5 : Int) (a1_6 : ByteArray) (a1_7 : Int) (r : Bool) (w : World) (hr0_0 : Kd.C k108 w A0_0 l0_0.length l0_0) (hc0_0 : l0_0.length ≤ c0_0) (hr0_2 : Kd.C (Kd.int .i64) w A0_2 l0_2.length l0_2) (hc0_2 : l0_2.length ≤ c0_2) (hr0_3 : Kd.C k110 w A0_3 l0_3.length l0_3) (hc0_3 : l0_3.length ≤ c0_3) (hr1_0 : Kd.C k108 w A1_0 l1_0.length l1_0) (hc1_0 : l1_0.length ≤ c1_0) (hr1_2 : Kd.C (Kd.int .i64) w A1_2 l1_2.length l1_2) (hc1_2 : l1_2.length ≤ c1_2) (hr1_3 : Kd.C k110 w A1_3 l1_3.length l1_3) (hc1_3 : l1_3.length ≤ c1_3) (h : spec_BareSame.f k l0_0 a0_1 l0_2 l0_3 a0_4 a0_5 a0_6 a0_7 l1_0 a1_1 l1_2 l1_3 a1_4 a1_5 a1_6 a1_7 = some r) :
    Calls Try.prog 16 #[.agg #[.slice A0_0 l0_0.length c0_0, .int .i64 a0_1, .slice A0_2 l0_2.length c0_2, .slice A0_3 l0_3.length c0_3, .bool a0_4, .int .i64 a0_5, .string a0_6, .int .i64 a0_7], .agg #[.slice A1_0 l1_0.length c1_0, .int .i64 a1_1, .slice A1_2 l1_2.length c1_2, .slice A1_3 l1_3.length c1_3, .bool a1_4, .int .i64 a1_5, .string a1_6, .int .i64 a1_7]] w fun e w' => e = .returned (.bool r) ∧ Below w.heap.size w w' := by
  have hu39 := Try.underlying39
  have hu110 := Try.underlying110
  have HR0_0 := Zm hr0_0
  have HC0_0 := Zm hc0_0
  clear hr0_0 hc0_0
  have HR0_2 := Zm hr0_2
  have HC0_2 := Zm hc0_2
  clear hr0_2 hc0_2
  have HR0_3 := Zm hr0_3
  have HC0_3 := Zm hc0_3
  clear hr0_3 hc0_3
  have HR1_0 := Zm hr1_0
  have HC1_0 := Zm hc1_0
  clear hr1_0 hc1_0
  have HR1_2 := Zm hr1_2
  have HC1_2 := Zm hc1_2
  clear hr1_2 hc1_2
  have HR1_3 := Zm hr1_3
  have HC1_3 := Zm hc1_3
  clear hr1_3 hc1_3
  have HB := Zm (Below.refl w.heap.size w)
  have H : (if a0_1 = a1_1 then (if (a0_4 != a1_4) = true then (spec_BareSame.j0 k true l0_0 a0_1 l0_2 l0_3 a0_4 a0_5 a0_6 a0_7 l1_0 a1_1 l1_2 l1_3 a1_4 a1_5 a1_6 a1_7) else (if a0_5 = a1_5 then (if a0_6.toList = a1_6.toList then (if a0_7 = a1_7 then ((spec_l12Nums.f k l0_2 l1_2).bind fun t118 => (if t118 = true then (if (l0_0.length : Int) = (l1_0.length : Int) then (spec_BareSame.j0 k ((l0_3.length : Int) != (l1_3.length : Int)) l0_0 a0_1 l0_2 l0_3 a0_4 a0_5 a0_6 a0_7 l1_0 a1_1 l1_2 l1_3 a1_4 a1_5 a1_6 a1_7) else (spec_BareSame.j0 k true l0_0 a0_1 l0_2 l0_3 a0_4 a0_5 a0_6 a0_7 l1_0 a1_1 l1_2 l1_3 a1_4 a1_5 a1_6 a1_7)) else (spec_BareSame.j0 k true l0_0 a0_1 l0_2 l0_3 a0_4 a0_5 a0_6 a0_7 l1_0 a1_1 l1_2 l1_3 a1_4 a1_5 a1_6 a1_7))) else (spec_BareSame.j0 k true l0_0 a0_1 l0_2 l0_3 a0_4 a0_5 a0_6 a0_7 l1_0 a1_1 l1_2 l1_3 a1_4 a1_5 a1_6 a1_7)) else (spec_BareSame.j0 k true l0_0 a0_1 l0_2 l0_3 a0_4 a0_5 a0_6 a0_7 l1_0 a1_1 l1_2 l1_3 a1_4 a1_5 a1_6 a1_7)) else (spec_BareSame.j0 k true l0_0 a0_1 l0_2 l0_3 a0_4 a0_5 a0_6 a0_7 l1_0 a1_1 l1_2 l1_3 a1_4 a1_5 a1_6 a1_7))) else (spec_BareSame.j0 k true l0_0 a0_1 l0_2 l0_3 a0_4 a0_5 a0_6 a0_7 l1_0 a1_1 l1_2 l1_3 a1_4 a1_5 a1_6 a1_7)) = some r := h
  clear h
  have HC3 := Zm H
  clear H
  go_enter Try.func16, Try.ntmps16
  go_upto_region 1 with (first | ((with_reducible refine gate_dst (N := 2) rfl ?_); (try (refine gate_guard (by rfl) ?_; dsimp only)); refine box_event ?hg (N := 2) ?hd (cs := #[.slice A0_0 l0_0.length c0_0, .int .i64 a0_1, .slice A0_2 l0_2.length c0_2, .slice A0_3 l0_3.length c0_3, .bool a0_4, .int .i64 a0_5, .string a0_6, .int .i64 a0_7]) (t := 39) ?hr ?_; (case hd => rfl); (case hg => rfl); (case hr => first | (go_simp; done) | (go_simp; rfl)); intro gb116 hg w4 hbox hb; have n0_ := Zm (Zbt (by repeat (first | (with_reducible first | exact HB.out | apply Zba | apply Zbn | apply Zbd) | exact HB.out)) hb); have n1_ := Zm (hbox); have n2_ := Zm ((by rw [hg]; exact (Zbz (by repeat (first | (with_reducible first | exact HB.out | apply Zba | apply Zbn | apply Zbd) | exact HB.out))) : w.heap.size ≤ gb116)); have n3_ := Zm ((by rw [hg]; exact (Zbz (by repeat (first | (with_reducible first | exact HB.out | apply Zba | apply Zbn | apply Zbd) | exact HB.out))) : w.heap.size ≤ gb116)); clear HB; have HB := n0_; have BK116 := n1_; have GW116 := n2_; have GE116 := n3_; clear n0_ n1_ n2_ n3_; clear hb hbox hg) | ((with_reducible refine gate_dst (N := 3) rfl ?_); (try (refine gate_guard (by rfl) ?_; dsimp only)); refine box_event ?hg (N := 3) ?hd (cs := #[.slice A1_0 l1_0.length c1_0, .int .i64 a1_1, .slice A1_2 l1_2.length c1_2, .slice A1_3 l1_3.length c1_3, .bool a1_4, .int .i64 a1_5, .string a1_6, .int .i64 a1_7]) (t := 39) ?hr ?_; (case hd => rfl); (case hg => rfl); (case hr => first | (go_simp; done) | (go_simp; rfl)); intro gb117 hg w5 hbox hb; have n0_ := Zm (Zkb (g := gb116) (o := .cells #[.slice A0_0 l0_0.length c0_0, .int .i64 a0_1, .slice A0_2 l0_2.length c0_2, .slice A0_3 l0_3.length c0_3, .bool a0_4, .int .i64 a0_5, .string a0_6, .int .i64 a0_7] 39 (0, 0)) (by (with_reducible repeat (first | refine Zkn ?_ _ | refine Zkd ?_ | refine Zka ?_ _)); exact BK116.out) hb); have n1_ := Zm (Zbt (by repeat (first | (with_reducible first | exact HB.out | apply Zba | apply Zbn | apply Zbd | refine Zbs ?_ GE116.out) | exact HB.out)) hb); have n2_ := Zm (hbox); have n3_ := Zm ((by rw [hg]; exact (Zbz (by repeat (first | (with_reducible first | exact HB.out | apply Zba | apply Zbn | apply Zbd | refine Zbs ?_ GE116.out) | exact HB.out))) : w.heap.size ≤ gb117)); have n4_ := Zm ((by rw [hg]; exact (Zbz (by repeat (first | (with_reducible first | exact HB.out | apply Zba | apply Zbn | apply Zbd | refine Zbs ?_ GE116.out) | exact HB.out))) : w.heap.size ≤ gb117)); have n5_ := Zm ((by rw [hg]; exact Nat.ne_of_lt (blk_lt (g := gb116) (o := .cells #[.slice A0_0 l0_0.length c0_0, .int .i64 a0_1, .slice A0_2 l0_2.length c0_2, .slice A0_3 l0_3.length c0_3, .bool a0_4, .int .i64 a0_5, .string a0_6, .int .i64 a0_7] 39 (0, 0)) (by (with_reducible repeat (first | refine Zkn ?_ _ | refine Zkd ?_ | refine Zka ?_ _)); exact BK116.out)) : gb116 ≠ gb117)); have n6_ := Zm ((by rw [hg]; exact Nat.ne_of_gt (blk_lt (g := gb116) (o := .cells #[.slice A0_0 l0_0.length c0_0, .int .i64 a0_1, .slice A0_2 l0_2.length c0_2, .slice A0_3 l0_3.length c0_3, .bool a0_4, .int .i64 a0_5, .string a0_6, .int .i64 a0_7] 39 (0, 0)) (by (with_reducible repeat (first | refine Zkn ?_ _ | refine Zkd ?_ | refine Zka ?_ _)); exact BK116.out)) : gb117 ≠ gb116)); clear BK116; clear HB; have BK116 := n0_; have HB := n1_; have BK117 := n2_; have GW117 := n3_; have GE117 := n4_; have NB116_117 := n5_; have NB117_116 := n6_; clear n0_ n1_ n2_ n3_ n4_ n5_ n6_; clear hb hbox hg))
  (try simp only [Act.put, List.setIfInBounds_toArray, List.set_cons_zero, List.set_cons_succ])
  go_cut [67] (fun v67 wc => ∃ (kq : Nat) (x67_2 : Bool), v67 = .bool x67_2 ∧ Aside0 (spec_BareSame.j0 kq x67_2 l0_0 a0_1 l0_2 l0_3 a0_4 a0_5 a0_6 a0_7 l1_0 a1_1 l1_2 l1_3 a1_4 a1_5 a1_6 a1_7 = some r) ∧ Aside0 (kq ≤ k) ∧ Aside0 (wc.heap[gb116]? = some (.cells #[(.slice A0_0 l0_0.length c0_0), .int .i64 a0_1, (.slice A0_2 l0_2.length c0_2), (.slice A0_3 l0_3.length c0_3), .bool a0_4, .int .i64 a0_5, .string a0_6, .int .i64 a0_7] 39 (0, 0))) ∧ Aside0 (wc.heap[gb117]? = some (.cells #[(.slice A1_0 l1_0.length c1_0), .int .i64 a1_1, (.slice A1_2 l1_2.length c1_2), (.slice A1_3 l1_3.length c1_3), .bool a1_4, .int .i64 a1_5, .string a1_6, .int .i64 a1_7] 39 (0, 0))) ∧ Aside0 (Below w.heap.size w wc))
  case first =>
    have H := HC3.out
    clear HC3
    by_cases c6 : a0_1 = a1_1
    rotate_left
    · rw [if_neg c6] at H
      have c6b0 : (a0_1 == a1_1) = false := beq_eq_false_iff_ne.mpr c6
      have c6b1 : (a0_1 != a1_1) = true := bne_iff_ne.mpr c6
      (first | rw [c6b0] | (simp only [i64_w, i32_w]; rw [c6b0]) | skip)
      have H' := Zm H
      clear H
      have hnb35 := NB116_117.out
      have hnc35 := NB117_116.out
      have hcz36_0 : w5.cell? ⟨gb116, 0, none⟩ = some (.slice A0_0 l0_0.length c0_0) := (Zkc BK116.out 0).trans rfl
      have hcz36_1 : w5.cell? ⟨gb116, 1, none⟩ = some (.int .i64 a0_1) := (Zkc BK116.out 1).trans rfl
      have hcz36_2 : w5.cell? ⟨gb116, 2, none⟩ = some (.slice A0_2 l0_2.length c0_2) := (Zkc BK116.out 2).trans rfl
      have hcz36_3 : w5.cell? ⟨gb116, 3, none⟩ = some (.slice A0_3 l0_3.length c0_3) := (Zkc BK116.out 3).trans rfl
      have hcz36_4 : w5.cell? ⟨gb116, 4, none⟩ = some (.bool a0_4) := (Zkc BK116.out 4).trans rfl
      have hcz36_5 : w5.cell? ⟨gb116, 5, none⟩ = some (.int .i64 a0_5) := (Zkc BK116.out 5).trans rfl
      have hcz36_6 : w5.cell? ⟨gb116, 6, none⟩ = some (.string a0_6) := (Zkc BK116.out 6).trans rfl
      have hcz36_7 : w5.cell? ⟨gb116, 7, none⟩ = some (.int .i64 a0_7) := (Zkc BK116.out 7).trans rfl
      have hcz37_0 : w5.cell? ⟨gb117, 0, none⟩ = some (.slice A1_0 l1_0.length c1_0) := (Zkc BK117.out 0).trans rfl
      have hcz37_1 : w5.cell? ⟨gb117, 1, none⟩ = some (.int .i64 a1_1) := (Zkc BK117.out 1).trans rfl
      have hcz37_2 : w5.cell? ⟨gb117, 2, none⟩ = some (.slice A1_2 l1_2.length c1_2) := (Zkc BK117.out 2).trans rfl
      have hcz37_3 : w5.cell? ⟨gb117, 3, none⟩ = some (.slice A1_3 l1_3.length c1_3) := (Zkc BK117.out 3).trans rfl
      have hcz37_4 : w5.cell? ⟨gb117, 4, none⟩ = some (.bool a1_4) := (Zkc BK117.out 4).trans rfl
      have hcz37_5 : w5.cell? ⟨gb117, 5, none⟩ = some (.int .i64 a1_5) := (Zkc BK117.out 5).trans rfl
      have hcz37_6 : w5.cell? ⟨gb117, 6, none⟩ = some (.string a1_6) := (Zkc BK117.out 6).trans rfl
      have hcz37_7 : w5.cell? ⟨gb117, 7, none⟩ = some (.int .i64 a1_7) := (Zkc BK117.out 7).trans rfl
      go_wp2
      go_meet
      case rel => exact ⟨_, (true), (by first | rfl | (simp; done) | (simp [*]; done)), H', ⟨by first | omega | exact Nat.le_refl _⟩, ⟨by (with_reducible repeat (first | refine Zkn ?_ _ | refine Zkd ?_ | refine Zka ?_ _)); exact BK116.out⟩, ⟨by (with_reducible repeat (first | refine Zkn ?_ _ | refine Zkd ?_ | refine Zka ?_ _)); exact BK117.out⟩, ⟨by repeat (first | (with_reducible first | exact HB.out | apply Zba | apply Zbn | apply Zbd | refine Zbs ?_ GE116.out | refine Zbs ?_ GE117.out) | exact HB.out)⟩⟩
    rw [if_pos c6] at H
    have c6b0 : (a0_1 == a1_1) = true := beq_iff_eq.mpr c6
    have c6b1 : (a0_1 != a1_1) = false := bne_eq_false_iff_eq.mpr c6
    clear c6
    (first | rw [c6b0] | (simp only [i64_w, i32_w]; rw [c6b0]) | skip)
    by_cases c7 : (a0_4 != a1_4) = true
    rotate_left
    · rw [if_neg c7] at H
      have c7b0 : (a0_4 != a1_4) = false := by simpa using c7
      (try (have c7b1 : decide (a0_4 = a1_4) = true := by simpa using c7))
      (try (have c7b2 : (a0_4 == a1_4) = true := by simpa using c7))
      clear c7
      by_cases c11 : a0_5 = a1_5
      rotate_left
      · rw [if_neg c11] at H
        have c11b0 : (a0_5 == a1_5) = false := beq_eq_false_iff_ne.mpr c11
        have c11b1 : (a0_5 != a1_5) = true := bne_iff_ne.mpr c11
        have H' := Zm H
        clear H
        have hnb32 := NB116_117.out
        have hnc32 := NB117_116.out
        have hcz33_0 : w5.cell? ⟨gb116, 0, none⟩ = some (.slice A0_0 l0_0.length c0_0) := (Zkc BK116.out 0).trans rfl
        have hcz33_1 : w5.cell? ⟨gb116, 1, none⟩ = some (.int .i64 a0_1) := (Zkc BK116.out 1).trans rfl
        have hcz33_2 : w5.cell? ⟨gb116, 2, none⟩ = some (.slice A0_2 l0_2.length c0_2) := (Zkc BK116.out 2).trans rfl
        have hcz33_3 : w5.cell? ⟨gb116, 3, none⟩ = some (.slice A0_3 l0_3.length c0_3) := (Zkc BK116.out 3).trans rfl
        have hcz33_4 : w5.cell? ⟨gb116, 4, none⟩ = some (.bool a0_4) := (Zkc BK116.out 4).trans rfl
        have hcz33_5 : w5.cell? ⟨gb116, 5, none⟩ = some (.int .i64 a0_5) := (Zkc BK116.out 5).trans rfl
        have hcz33_6 : w5.cell? ⟨gb116, 6, none⟩ = some (.string a0_6) := (Zkc BK116.out 6).trans rfl
        have hcz33_7 : w5.cell? ⟨gb116, 7, none⟩ = some (.int .i64 a0_7) := (Zkc BK116.out 7).trans rfl
        have hcz34_0 : w5.cell? ⟨gb117, 0, none⟩ = some (.slice A1_0 l1_0.length c1_0) := (Zkc BK117.out 0).trans rfl
        have hcz34_1 : w5.cell? ⟨gb117, 1, none⟩ = some (.int .i64 a1_1) := (Zkc BK117.out 1).trans rfl
        have hcz34_2 : w5.cell? ⟨gb117, 2, none⟩ = some (.slice A1_2 l1_2.length c1_2) := (Zkc BK117.out 2).trans rfl
        have hcz34_3 : w5.cell? ⟨gb117, 3, none⟩ = some (.slice A1_3 l1_3.length c1_3) := (Zkc BK117.out 3).trans rfl
        have hcz34_4 : w5.cell? ⟨gb117, 4, none⟩ = some (.bool a1_4) := (Zkc BK117.out 4).trans rfl
        have hcz34_5 : w5.cell? ⟨gb117, 5, none⟩ = some (.int .i64 a1_5) := (Zkc BK117.out 5).trans rfl
        have hcz34_6 : w5.cell? ⟨gb117, 6, none⟩ = some (.string a1_6) := (Zkc BK117.out 6).trans rfl
        have hcz34_7 : w5.cell? ⟨gb117, 7, none⟩ = some (.int .i64 a1_7) := (Zkc BK117.out 7).trans rfl
        go_wp2
        go_meet
        case rel => exact ⟨_, (true), (by first | rfl | (simp; done) | (simp [*]; done)), H', ⟨by first | omega | exact Nat.le_refl _⟩, ⟨by (with_reducible repeat (first | refine Zkn ?_ _ | refine Zkd ?_ | refine Zka ?_ _)); exact BK116.out⟩, ⟨by (with_reducible repeat (first | refine Zkn ?_ _ | refine Zkd ?_ | refine Zka ?_ _)); exact BK117.out⟩, ⟨by repeat (first | (with_reducible first | exact HB.out | apply Zba | apply Zbn | apply Zbd | refine Zbs ?_ GE116.out | refine Zbs ?_ GE117.out) | exact HB.out)⟩⟩
      rw [if_pos c11] at H
      have c11b0 : (a0_5 == a1_5) = true := beq_iff_eq.mpr c11
      have c11b1 : (a0_5 != a1_5) = false := bne_eq_false_iff_eq.mpr c11
      clear c11
      by_cases c12 : a0_6.toList = a1_6.toList
      rotate_left
      · rw [if_neg c12] at H
        have c12b0 : (a0_6.toList == a1_6.toList) = false := beq_eq_false_iff_ne.mpr c12
        have c12b1 : (a0_6.toList != a1_6.toList) = true := bne_iff_ne.mpr c12
        have H' := Zm H
        clear H
        have hnb29 := NB116_117.out
        have hnc29 := NB117_116.out
        have hcz30_0 : w5.cell? ⟨gb116, 0, none⟩ = some (.slice A0_0 l0_0.length c0_0) := (Zkc BK116.out 0).trans rfl
        have hcz30_1 : w5.cell? ⟨gb116, 1, none⟩ = some (.int .i64 a0_1) := (Zkc BK116.out 1).trans rfl
        have hcz30_2 : w5.cell? ⟨gb116, 2, none⟩ = some (.slice A0_2 l0_2.length c0_2) := (Zkc BK116.out 2).trans rfl
        have hcz30_3 : w5.cell? ⟨gb116, 3, none⟩ = some (.slice A0_3 l0_3.length c0_3) := (Zkc BK116.out 3).trans rfl
        have hcz30_4 : w5.cell? ⟨gb116, 4, none⟩ = some (.bool a0_4) := (Zkc BK116.out 4).trans rfl
        have hcz30_5 : w5.cell? ⟨gb116, 5, none⟩ = some (.int .i64 a0_5) := (Zkc BK116.out 5).trans rfl
        have hcz30_6 : w5.cell? ⟨gb116, 6, none⟩ = some (.string a0_6) := (Zkc BK116.out 6).trans rfl
        have hcz30_7 : w5.cell? ⟨gb116, 7, none⟩ = some (.int .i64 a0_7) := (Zkc BK116.out 7).trans rfl
        have hcz31_0 : w5.cell? ⟨gb117, 0, none⟩ = some (.slice A1_0 l1_0.length c1_0) := (Zkc BK117.out 0).trans rfl
        have hcz31_1 : w5.cell? ⟨gb117, 1, none⟩ = some (.int .i64 a1_1) := (Zkc BK117.out 1).trans rfl
        have hcz31_2 : w5.cell? ⟨gb117, 2, none⟩ = some (.slice A1_2 l1_2.length c1_2) := (Zkc BK117.out 2).trans rfl
        have hcz31_3 : w5.cell? ⟨gb117, 3, none⟩ = some (.slice A1_3 l1_3.length c1_3) := (Zkc BK117.out 3).trans rfl
        have hcz31_4 : w5.cell? ⟨gb117, 4, none⟩ = some (.bool a1_4) := (Zkc BK117.out 4).trans rfl
        have hcz31_5 : w5.cell? ⟨gb117, 5, none⟩ = some (.int .i64 a1_5) := (Zkc BK117.out 5).trans rfl
        have hcz31_6 : w5.cell? ⟨gb117, 6, none⟩ = some (.string a1_6) := (Zkc BK117.out 6).trans rfl
        have hcz31_7 : w5.cell? ⟨gb117, 7, none⟩ = some (.int .i64 a1_7) := (Zkc BK117.out 7).trans rfl
        go_wp2
        go_meet
        case rel => exact ⟨_, (true), (by first | rfl | (simp; done) | (simp [*]; done)), H', ⟨by first | omega | exact Nat.le_refl _⟩, ⟨by (with_reducible repeat (first | refine Zkn ?_ _ | refine Zkd ?_ | refine Zka ?_ _)); exact BK116.out⟩, ⟨by (with_reducible repeat (first | refine Zkn ?_ _ | refine Zkd ?_ | refine Zka ?_ _)); exact BK117.out⟩, ⟨by repeat (first | (with_reducible first | exact HB.out | apply Zba | apply Zbn | apply Zbd | refine Zbs ?_ GE116.out | refine Zbs ?_ GE117.out) | exact HB.out)⟩⟩
      rw [if_pos c12] at H
      have c12b0 : (a0_6.toList == a1_6.toList) = true := beq_iff_eq.mpr c12
      have c12b1 : (a0_6.toList != a1_6.toList) = false := bne_eq_false_iff_eq.mpr c12
      clear c12
      by_cases c13 : a0_7 = a1_7
      rotate_left
      · rw [if_neg c13] at H
        have c13b0 : (a0_7 == a1_7) = false := beq_eq_false_iff_ne.mpr c13
        have c13b1 : (a0_7 != a1_7) = true := bne_iff_ne.mpr c13
        have H' := Zm H
        clear H
        have hnb26 := NB116_117.out
        have hnc26 := NB117_116.out
        have hcz27_0 : w5.cell? ⟨gb116, 0, none⟩ = some (.slice A0_0 l0_0.length c0_0) := (Zkc BK116.out 0).trans rfl
        have hcz27_1 : w5.cell? ⟨gb116, 1, none⟩ = some (.int .i64 a0_1) := (Zkc BK116.out 1).trans rfl
        have hcz27_2 : w5.cell? ⟨gb116, 2, none⟩ = some (.slice A0_2 l0_2.length c0_2) := (Zkc BK116.out 2).trans rfl
        have hcz27_3 : w5.cell? ⟨gb116, 3, none⟩ = some (.slice A0_3 l0_3.length c0_3) := (Zkc BK116.out 3).trans rfl
        have hcz27_4 : w5.cell? ⟨gb116, 4, none⟩ = some (.bool a0_4) := (Zkc BK116.out 4).trans rfl
        have hcz27_5 : w5.cell? ⟨gb116, 5, none⟩ = some (.int .i64 a0_5) := (Zkc BK116.out 5).trans rfl
        have hcz27_6 : w5.cell? ⟨gb116, 6, none⟩ = some (.string a0_6) := (Zkc BK116.out 6).trans rfl
        have hcz27_7 : w5.cell? ⟨gb116, 7, none⟩ = some (.int .i64 a0_7) := (Zkc BK116.out 7).trans rfl
        have hcz28_0 : w5.cell? ⟨gb117, 0, none⟩ = some (.slice A1_0 l1_0.length c1_0) := (Zkc BK117.out 0).trans rfl
        have hcz28_1 : w5.cell? ⟨gb117, 1, none⟩ = some (.int .i64 a1_1) := (Zkc BK117.out 1).trans rfl
        have hcz28_2 : w5.cell? ⟨gb117, 2, none⟩ = some (.slice A1_2 l1_2.length c1_2) := (Zkc BK117.out 2).trans rfl
        have hcz28_3 : w5.cell? ⟨gb117, 3, none⟩ = some (.slice A1_3 l1_3.length c1_3) := (Zkc BK117.out 3).trans rfl
        have hcz28_4 : w5.cell? ⟨gb117, 4, none⟩ = some (.bool a1_4) := (Zkc BK117.out 4).trans rfl
        have hcz28_5 : w5.cell? ⟨gb117, 5, none⟩ = some (.int .i64 a1_5) := (Zkc BK117.out 5).trans rfl
        have hcz28_6 : w5.cell? ⟨gb117, 6, none⟩ = some (.string a1_6) := (Zkc BK117.out 6).trans rfl
        have hcz28_7 : w5.cell? ⟨gb117, 7, none⟩ = some (.int .i64 a1_7) := (Zkc BK117.out 7).trans rfl
        go_wp2
        go_meet
        case rel => exact ⟨_, (true), (by first | rfl | (simp; done) | (simp [*]; done)), H', ⟨by first | omega | exact Nat.le_refl _⟩, ⟨by (with_reducible repeat (first | refine Zkn ?_ _ | refine Zkd ?_ | refine Zka ?_ _)); exact BK116.out⟩, ⟨by (with_reducible repeat (first | refine Zkn ?_ _ | refine Zkd ?_ | refine Zka ?_ _)); exact BK117.out⟩, ⟨by repeat (first | (with_reducible first | exact HB.out | apply Zba | apply Zbn | apply Zbd | refine Zbs ?_ GE116.out | refine Zbs ?_ GE117.out) | exact HB.out)⟩⟩
      rw [if_pos c13] at H
      have c13b0 : (a0_7 == a1_7) = true := beq_iff_eq.mpr c13
      have c13b1 : (a0_7 != a1_7) = false := bne_eq_false_iff_eq.mpr c13
      clear c13
      replace H := Option.bind_eq_some_iff.mp H
      obtain ⟨t118, A140, H⟩ := H
      replace H : (if t118 = true then (if (l0_0.length : Int) = (l1_0.length : Int) then (spec_BareSame.j0 k ((l0_3.length : Int) != (l1_3.length : Int)) l0_0 a0_1 l0_2 l0_3 a0_4 a0_5 a0_6 a0_7 l1_0 a1_1 l1_2 l1_3 a1_4 a1_5 a1_6 a1_7) else (spec_BareSame.j0 k true l0_0 a0_1 l0_2 l0_3 a0_4 a0_5 a0_6 a0_7 l1_0 a1_1 l1_2 l1_3 a1_4 a1_5 a1_6 a1_7)) else (spec_BareSame.j0 k true l0_0 a0_1 l0_2 l0_3 a0_4 a0_5 a0_6 a0_7 l1_0 a1_1 l1_2 l1_3 a1_4 a1_5 a1_6 a1_7)) = some r := H
      have A14 := Zm A140
      clear A140
      by_cases c15 : t118 = true
      rotate_left
      · replace c15 := Bool.eq_false_iff.mpr c15
        subst c15
        have H1 : (spec_BareSame.j0 k true l0_0 a0_1 l0_2 l0_3 a0_4 a0_5 a0_6 a0_7 l1_0 a1_1 l1_2 l1_3 a1_4 a1_5 a1_6 a1_7) = some r := by rw [if_neg (show ¬ (false = true) by decide)] at H; exact H
        clear H
        have H := H1
        clear H1
        have H' := Zm H
        clear H
        have hnb23 := NB116_117.out
        have hnc23 := NB117_116.out
        have hcz24_0 : w5.cell? ⟨gb116, 0, none⟩ = some (.slice A0_0 l0_0.length c0_0) := (Zkc BK116.out 0).trans rfl
        have hcz24_1 : w5.cell? ⟨gb116, 1, none⟩ = some (.int .i64 a0_1) := (Zkc BK116.out 1).trans rfl
        have hcz24_2 : w5.cell? ⟨gb116, 2, none⟩ = some (.slice A0_2 l0_2.length c0_2) := (Zkc BK116.out 2).trans rfl
        have hcz24_3 : w5.cell? ⟨gb116, 3, none⟩ = some (.slice A0_3 l0_3.length c0_3) := (Zkc BK116.out 3).trans rfl
        have hcz24_4 : w5.cell? ⟨gb116, 4, none⟩ = some (.bool a0_4) := (Zkc BK116.out 4).trans rfl
        have hcz24_5 : w5.cell? ⟨gb116, 5, none⟩ = some (.int .i64 a0_5) := (Zkc BK116.out 5).trans rfl
        have hcz24_6 : w5.cell? ⟨gb116, 6, none⟩ = some (.string a0_6) := (Zkc BK116.out 6).trans rfl
        have hcz24_7 : w5.cell? ⟨gb116, 7, none⟩ = some (.int .i64 a0_7) := (Zkc BK116.out 7).trans rfl
        have hcz25_0 : w5.cell? ⟨gb117, 0, none⟩ = some (.slice A1_0 l1_0.length c1_0) := (Zkc BK117.out 0).trans rfl
        have hcz25_1 : w5.cell? ⟨gb117, 1, none⟩ = some (.int .i64 a1_1) := (Zkc BK117.out 1).trans rfl
        have hcz25_2 : w5.cell? ⟨gb117, 2, none⟩ = some (.slice A1_2 l1_2.length c1_2) := (Zkc BK117.out 2).trans rfl
        have hcz25_3 : w5.cell? ⟨gb117, 3, none⟩ = some (.slice A1_3 l1_3.length c1_3) := (Zkc BK117.out 3).trans rfl
        have hcz25_4 : w5.cell? ⟨gb117, 4, none⟩ = some (.bool a1_4) := (Zkc BK117.out 4).trans rfl
        have hcz25_5 : w5.cell? ⟨gb117, 5, none⟩ = some (.int .i64 a1_5) := (Zkc BK117.out 5).trans rfl
        have hcz25_6 : w5.cell? ⟨gb117, 6, none⟩ = some (.string a1_6) := (Zkc BK117.out 6).trans rfl
        have hcz25_7 : w5.cell? ⟨gb117, 7, none⟩ = some (.int .i64 a1_7) := (Zkc BK117.out 7).trans rfl
        go_wp2_with (first | (go_at_call 52; (first | (with_reducible refine (spec_l12Nums.calls k _ _ l0_2 _ _ l1_2 false _ ?side1 ?side2 ?side3 ?side4 A14.out).mono ?_) | (with_reducible refine (calls_of_args ?_ (spec_l12Nums.calls k _ _ l0_2 _ _ l1_2 false _ ?side1 ?side2 ?side3 ?side4 A14.out)).mono ?_; focus (simp [*]; done))); (case side1 => repeat (first | exact (Kd.C_below HR0_2.out HB.out) | (with_reducible refine Kd.C_alloc ?_ _) | (with_reducible refine Kd.C_drewN ?_ _) | (with_reducible refine Kd.C_drew ?_))); (case side2 => exact HC0_2.out); (case side3 => repeat (first | exact (Kd.C_below HR1_2.out HB.out) | (with_reducible refine Kd.C_alloc ?_ _) | (with_reducible refine Kd.C_drewN ?_ _) | (with_reducible refine Kd.C_drew ?_))); (case side4 => exact HC1_2.out); rintro e w' ⟨rfl, ⟨nd, rfl⟩⟩))
        go_meet
        case rel => exact ⟨_, (true), (by first | rfl | (simp; done) | (simp [*]; done)), H', ⟨by first | omega | exact Nat.le_refl _⟩, ⟨by (with_reducible repeat (first | refine Zkn ?_ _ | refine Zkd ?_ | refine Zka ?_ _)); exact BK116.out⟩, ⟨by (with_reducible repeat (first | refine Zkn ?_ _ | refine Zkd ?_ | refine Zka ?_ _)); exact BK117.out⟩, ⟨by repeat (first | (with_reducible first | exact HB.out | apply Zba | apply Zbn | apply Zbd | refine Zbs ?_ GE116.out | refine Zbs ?_ GE117.out) | exact HB.out)⟩⟩
      subst c15
      have H1 : (if (l0_0.length : Int) = (l1_0.length : Int) then (spec_BareSame.j0 k ((l0_3.length : Int) != (l1_3.length : Int)) l0_0 a0_1 l0_2 l0_3 a0_4 a0_5 a0_6 a0_7 l1_0 a1_1 l1_2 l1_3 a1_4 a1_5 a1_6 a1_7) else (spec_BareSame.j0 k true l0_0 a0_1 l0_2 l0_3 a0_4 a0_5 a0_6 a0_7 l1_0 a1_1 l1_2 l1_3 a1_4 a1_5 a1_6 a1_7)) = some r := by rw [if_pos rfl] at H; exact H
      clear H
      have H := H1
      clear H1
      by_cases c16 : (l0_0.length : Int) = (l1_0.length : Int)
      rotate_left
      · rw [if_neg c16] at H
        have c16b0 : ((l0_0.length : Int) == (l1_0.length : Int)) = false := beq_eq_false_iff_ne.mpr c16
        have c16b1 : ((l0_0.length : Int) != (l1_0.length : Int)) = true := bne_iff_ne.mpr c16
        have c16b2 : (l0_0.length == l1_0.length) = false := by first | simpa using c16 | (simp at c16 ⊢; omega)
        have H' := Zm H
        clear H
        have hnb20 := NB116_117.out
        have hnc20 := NB117_116.out
        have hcz21_0 : w5.cell? ⟨gb116, 0, none⟩ = some (.slice A0_0 l0_0.length c0_0) := (Zkc BK116.out 0).trans rfl
        have hcz21_1 : w5.cell? ⟨gb116, 1, none⟩ = some (.int .i64 a0_1) := (Zkc BK116.out 1).trans rfl
        have hcz21_2 : w5.cell? ⟨gb116, 2, none⟩ = some (.slice A0_2 l0_2.length c0_2) := (Zkc BK116.out 2).trans rfl
        have hcz21_3 : w5.cell? ⟨gb116, 3, none⟩ = some (.slice A0_3 l0_3.length c0_3) := (Zkc BK116.out 3).trans rfl
        have hcz21_4 : w5.cell? ⟨gb116, 4, none⟩ = some (.bool a0_4) := (Zkc BK116.out 4).trans rfl
        have hcz21_5 : w5.cell? ⟨gb116, 5, none⟩ = some (.int .i64 a0_5) := (Zkc BK116.out 5).trans rfl
        have hcz21_6 : w5.cell? ⟨gb116, 6, none⟩ = some (.string a0_6) := (Zkc BK116.out 6).trans rfl
        have hcz21_7 : w5.cell? ⟨gb116, 7, none⟩ = some (.int .i64 a0_7) := (Zkc BK116.out 7).trans rfl
        have hcz22_0 : w5.cell? ⟨gb117, 0, none⟩ = some (.slice A1_0 l1_0.length c1_0) := (Zkc BK117.out 0).trans rfl
        have hcz22_1 : w5.cell? ⟨gb117, 1, none⟩ = some (.int .i64 a1_1) := (Zkc BK117.out 1).trans rfl
        have hcz22_2 : w5.cell? ⟨gb117, 2, none⟩ = some (.slice A1_2 l1_2.length c1_2) := (Zkc BK117.out 2).trans rfl
        have hcz22_3 : w5.cell? ⟨gb117, 3, none⟩ = some (.slice A1_3 l1_3.length c1_3) := (Zkc BK117.out 3).trans rfl
        have hcz22_4 : w5.cell? ⟨gb117, 4, none⟩ = some (.bool a1_4) := (Zkc BK117.out 4).trans rfl
        have hcz22_5 : w5.cell? ⟨gb117, 5, none⟩ = some (.int .i64 a1_5) := (Zkc BK117.out 5).trans rfl
        have hcz22_6 : w5.cell? ⟨gb117, 6, none⟩ = some (.string a1_6) := (Zkc BK117.out 6).trans rfl
        have hcz22_7 : w5.cell? ⟨gb117, 7, none⟩ = some (.int .i64 a1_7) := (Zkc BK117.out 7).trans rfl
        go_wp2_with (first | (go_at_call 52; (first | (with_reducible refine (spec_l12Nums.calls k _ _ l0_2 _ _ l1_2 true _ ?side1 ?side2 ?side3 ?side4 A14.out).mono ?_) | (with_reducible refine (calls_of_args ?_ (spec_l12Nums.calls k _ _ l0_2 _ _ l1_2 true _ ?side1 ?side2 ?side3 ?side4 A14.out)).mono ?_; focus (simp [*]; done))); (case side1 => repeat (first | exact (Kd.C_below HR0_2.out HB.out) | (with_reducible refine Kd.C_alloc ?_ _) | (with_reducible refine Kd.C_drewN ?_ _) | (with_reducible refine Kd.C_drew ?_))); (case side2 => exact HC0_2.out); (case side3 => repeat (first | exact (Kd.C_below HR1_2.out HB.out) | (with_reducible refine Kd.C_alloc ?_ _) | (with_reducible refine Kd.C_drewN ?_ _) | (with_reducible refine Kd.C_drew ?_))); (case side4 => exact HC1_2.out); rintro e w' ⟨rfl, ⟨nd, rfl⟩⟩))
        go_meet
        case rel => exact ⟨_, (true), (by first | rfl | (simp; done) | (simp [*]; done)), H', ⟨by first | omega | exact Nat.le_refl _⟩, ⟨by (with_reducible repeat (first | refine Zkn ?_ _ | refine Zkd ?_ | refine Zka ?_ _)); exact BK116.out⟩, ⟨by (with_reducible repeat (first | refine Zkn ?_ _ | refine Zkd ?_ | refine Zka ?_ _)); exact BK117.out⟩, ⟨by repeat (first | (with_reducible first | exact HB.out | apply Zba | apply Zbn | apply Zbd | refine Zbs ?_ GE116.out | refine Zbs ?_ GE117.out) | exact HB.out)⟩⟩
      rw [if_pos c16] at H
      have c16b0 : ((l0_0.length : Int) == (l1_0.length : Int)) = true := beq_iff_eq.mpr c16
      have c16b1 : ((l0_0.length : Int) != (l1_0.length : Int)) = false := bne_eq_false_iff_eq.mpr c16
      have c16b2 : (l0_0.length == l1_0.length) = true := by first | simpa using c16 | (simp at c16 ⊢; omega)
      clear c16
      have H' := Zm H
      clear H
      have hnb17 := NB116_117.out
      have hnc17 := NB117_116.out
      have hcz18_0 : w5.cell? ⟨gb116, 0, none⟩ = some (.slice A0_0 l0_0.length c0_0) := (Zkc BK116.out 0).trans rfl
      have hcz18_1 : w5.cell? ⟨gb116, 1, none⟩ = some (.int .i64 a0_1) := (Zkc BK116.out 1).trans rfl
      have hcz18_2 : w5.cell? ⟨gb116, 2, none⟩ = some (.slice A0_2 l0_2.length c0_2) := (Zkc BK116.out 2).trans rfl
      have hcz18_3 : w5.cell? ⟨gb116, 3, none⟩ = some (.slice A0_3 l0_3.length c0_3) := (Zkc BK116.out 3).trans rfl
      have hcz18_4 : w5.cell? ⟨gb116, 4, none⟩ = some (.bool a0_4) := (Zkc BK116.out 4).trans rfl
      have hcz18_5 : w5.cell? ⟨gb116, 5, none⟩ = some (.int .i64 a0_5) := (Zkc BK116.out 5).trans rfl
      have hcz18_6 : w5.cell? ⟨gb116, 6, none⟩ = some (.string a0_6) := (Zkc BK116.out 6).trans rfl
      have hcz18_7 : w5.cell? ⟨gb116, 7, none⟩ = some (.int .i64 a0_7) := (Zkc BK116.out 7).trans rfl
      have hcz19_0 : w5.cell? ⟨gb117, 0, none⟩ = some (.slice A1_0 l1_0.length c1_0) := (Zkc BK117.out 0).trans rfl
      have hcz19_1 : w5.cell? ⟨gb117, 1, none⟩ = some (.int .i64 a1_1) := (Zkc BK117.out 1).trans rfl
      have hcz19_2 : w5.cell? ⟨gb117, 2, none⟩ = some (.slice A1_2 l1_2.length c1_2) := (Zkc BK117.out 2).trans rfl
      have hcz19_3 : w5.cell? ⟨gb117, 3, none⟩ = some (.slice A1_3 l1_3.length c1_3) := (Zkc BK117.out 3).trans rfl
      have hcz19_4 : w5.cell? ⟨gb117, 4, none⟩ = some (.bool a1_4) := (Zkc BK117.out 4).trans rfl
      have hcz19_5 : w5.cell? ⟨gb117, 5, none⟩ = some (.int .i64 a1_5) := (Zkc BK117.out 5).trans rfl
      have hcz19_6 : w5.cell? ⟨gb117, 6, none⟩ = some (.string a1_6) := (Zkc BK117.out 6).trans rfl
      have hcz19_7 : w5.cell? ⟨gb117, 7, none⟩ = some (.int .i64 a1_7) := (Zkc BK117.out 7).trans rfl
      go_wp2_with (first | (go_at_call 52; (first | (with_reducible refine (spec_l12Nums.calls k _ _ l0_2 _ _ l1_2 true _ ?side1 ?side2 ?side3 ?side4 A14.out).mono ?_) | (with_reducible refine (calls_of_args ?_ (spec_l12Nums.calls k _ _ l0_2 _ _ l1_2 true _ ?side1 ?side2 ?side3 ?side4 A14.out)).mono ?_; focus (simp [*]; done))); (case side1 => repeat (first | exact (Kd.C_below HR0_2.out HB.out) | (with_reducible refine Kd.C_alloc ?_ _) | (with_reducible refine Kd.C_drewN ?_ _) | (with_reducible refine Kd.C_drew ?_))); (case side2 => exact HC0_2.out); (case side3 => repeat (first | exact (Kd.C_below HR1_2.out HB.out) | (with_reducible refine Kd.C_alloc ?_ _) | (with_reducible refine Kd.C_drewN ?_ _) | (with_reducible refine Kd.C_drew ?_))); (case side4 => exact HC1_2.out); rintro e w' ⟨rfl, ⟨nd, rfl⟩⟩))
      go_meet
      case rel => exact ⟨_, (((l0_3.length : Int) != (l1_3.length : Int))), (by first | rfl | (simp; done) | (simp [*]; done)), H', ⟨by first | omega | exact Nat.le_refl _⟩, ⟨by (with_reducible repeat (first | refine Zkn ?_ _ | refine Zkd ?_ | refine Zka ?_ _)); exact BK116.out⟩, ⟨by (with_reducible repeat (first | refine Zkn ?_ _ | refine Zkd ?_ | refine Zka ?_ _)); exact BK117.out⟩, ⟨by repeat (first | (with_reducible first | exact HB.out | apply Zba | apply Zbn | apply Zbd | refine Zbs ?_ GE116.out | refine Zbs ?_ GE117.out) | exact HB.out)⟩⟩
    rw [if_pos c7] at H
    have c7b0 : (a0_4 != a1_4) = true := c7
    (try (have c7b1 : decide (a0_4 = a1_4) = false := by simpa using c7))
    (try (have c7b2 : (a0_4 == a1_4) = false := by simpa using c7))
    (try (have c7b3 : ¬ (a0_4 = a1_4) := by simpa using c7))
    clear c7
    have H' := Zm H
    clear H
    have hnb8 := NB116_117.out
    have hnc8 := NB117_116.out
    have hcz9_0 : w5.cell? ⟨gb116, 0, none⟩ = some (.slice A0_0 l0_0.length c0_0) := (Zkc BK116.out 0).trans rfl
    have hcz9_1 : w5.cell? ⟨gb116, 1, none⟩ = some (.int .i64 a0_1) := (Zkc BK116.out 1).trans rfl
    have hcz9_2 : w5.cell? ⟨gb116, 2, none⟩ = some (.slice A0_2 l0_2.length c0_2) := (Zkc BK116.out 2).trans rfl
    have hcz9_3 : w5.cell? ⟨gb116, 3, none⟩ = some (.slice A0_3 l0_3.length c0_3) := (Zkc BK116.out 3).trans rfl
    have hcz9_4 : w5.cell? ⟨gb116, 4, none⟩ = some (.bool a0_4) := (Zkc BK116.out 4).trans rfl
    have hcz9_5 : w5.cell? ⟨gb116, 5, none⟩ = some (.int .i64 a0_5) := (Zkc BK116.out 5).trans rfl
    have hcz9_6 : w5.cell? ⟨gb116, 6, none⟩ = some (.string a0_6) := (Zkc BK116.out 6).trans rfl
    have hcz9_7 : w5.cell? ⟨gb116, 7, none⟩ = some (.int .i64 a0_7) := (Zkc BK116.out 7).trans rfl
    have hcz10_0 : w5.cell? ⟨gb117, 0, none⟩ = some (.slice A1_0 l1_0.length c1_0) := (Zkc BK117.out 0).trans rfl
    have hcz10_1 : w5.cell? ⟨gb117, 1, none⟩ = some (.int .i64 a1_1) := (Zkc BK117.out 1).trans rfl
    have hcz10_2 : w5.cell? ⟨gb117, 2, none⟩ = some (.slice A1_2 l1_2.length c1_2) := (Zkc BK117.out 2).trans rfl
    have hcz10_3 : w5.cell? ⟨gb117, 3, none⟩ = some (.slice A1_3 l1_3.length c1_3) := (Zkc BK117.out 3).trans rfl
    have hcz10_4 : w5.cell? ⟨gb117, 4, none⟩ = some (.bool a1_4) := (Zkc BK117.out 4).trans rfl
    have hcz10_5 : w5.cell? ⟨gb117, 5, none⟩ = some (.int .i64 a1_5) := (Zkc BK117.out 5).trans rfl
    have hcz10_6 : w5.cell? ⟨gb117, 6, none⟩ = some (.string a1_6) := (Zkc BK117.out 6).trans rfl
    have hcz10_7 : w5.cell? ⟨gb117, 7, none⟩ = some (.int .i64 a1_7) := (Zkc BK117.out 7).trans rfl
    go_wp2
    go_meet
    case rel => exact ⟨_, (true), (by first | rfl | (simp; done) | (simp [*]; done)), H', ⟨by first | omega | exact Nat.le_refl _⟩, ⟨by (with_reducible repeat (first | refine Zkn ?_ _ | refine Zkd ?_ | refine Zka ?_ _)); exact BK116.out⟩, ⟨by (with_reducible repeat (first | refine Zkn ?_ _ | refine Zkd ?_ | refine Zka ?_ _)); exact BK117.out⟩, ⟨by repeat (first | (with_reducible first | exact HB.out | apply Zba | apply Zbn | apply Zbd | refine Zbs ?_ GE116.out | refine Zbs ?_ GE117.out) | exact HB.out)⟩⟩
  case rest =>
    clear HC3
    (try clear c1); (try clear c2); (try clear p2); (try clear c3); (try clear c6); (try clear c6b0); (try clear c6b1); (try clear c7); (try clear c7b0); (try clear c7b1); (try clear c7b2); (try clear c8); (try clear c11); (try clear c11b0); (try clear c11b1); (try clear c12); (try clear c12b0); (try clear c12b1); (try clear c13); (try clear c13b0); (try clear c13b1); (try clear c15); (try clear c16); (try clear c16b0); (try clear c16b1); (try clear c16b2); (try clear c17); (try clear c20); (try clear c23); (try clear c26); (try clear c29); (try clear c32); (try clear c35); (try clear hcz10_0); (try clear hcz10_1); (try clear hcz10_2); (try clear hcz10_3); (try clear hcz10_4); (try clear hcz10_5); (try clear hcz10_6); (try clear hcz10_7); (try clear hcz18_0); (try clear hcz18_1); (try clear hcz18_2); (try clear hcz18_3); (try clear hcz18_4); (try clear hcz18_5); (try clear hcz18_6); (try clear hcz18_7); (try clear hcz19_0); (try clear hcz19_1); (try clear hcz19_2); (try clear hcz19_3); (try clear hcz19_4); (try clear hcz19_5); (try clear hcz19_6); (try clear hcz19_7); (try clear hcz21_0); (try clear hcz21_1); (try clear hcz21_2); (try clear hcz21_3); (try clear hcz21_4); (try clear hcz21_5); (try clear hcz21_6); (try clear hcz21_7); (try clear hcz22_0); (try clear hcz22_1); (try clear hcz22_2); (try clear hcz22_3); (try clear hcz22_4); (try clear hcz22_5); (try clear hcz22_6); (try clear hcz22_7); (try clear hcz24_0); (try clear hcz24_1); (try clear hcz24_2); (try clear hcz24_3); (try clear hcz24_4); (try clear hcz24_5); (try clear hcz24_6); (try clear hcz24_7); (try clear hcz25_0); (try clear hcz25_1); (try clear hcz25_2); (try clear hcz25_3); (try clear hcz25_4); (try clear hcz25_5); (try clear hcz25_6); (try clear hcz25_7); (try clear hcz27_0); (try clear hcz27_1); (try clear hcz27_2); (try clear hcz27_3); (try clear hcz27_4); (try clear hcz27_5); (try clear hcz27_6); (try clear hcz27_7); (try clear hcz28_0); (try clear hcz28_1); (try clear hcz28_2); (try clear hcz28_3); (try clear hcz28_4); (try clear hcz28_5); (try clear hcz28_6); (try clear hcz28_7); (try clear hcz30_0); (try clear hcz30_1); (try clear hcz30_2); (try clear hcz30_3); (try clear hcz30_4); (try clear hcz30_5); (try clear hcz30_6); (try clear hcz30_7); (try clear hcz31_0); (try clear hcz31_1); (try clear hcz31_2); (try clear hcz31_3); (try clear hcz31_4); (try clear hcz31_5); (try clear hcz31_6); (try clear hcz31_7); (try clear hcz33_0); (try clear hcz33_1); (try clear hcz33_2); (try clear hcz33_3); (try clear hcz33_4); (try clear hcz33_5); (try clear hcz33_6); (try clear hcz33_7); (try clear hcz34_0); (try clear hcz34_1); (try clear hcz34_2); (try clear hcz34_3); (try clear hcz34_4); (try clear hcz34_5); (try clear hcz34_6); (try clear hcz34_7); (try clear hcz36_0); (try clear hcz36_1); (try clear hcz36_2); (try clear hcz36_3); (try clear hcz36_4); (try clear hcz36_5); (try clear hcz36_6); (try clear hcz36_7); (try clear hcz37_0); (try clear hcz37_1); (try clear hcz37_2); (try clear hcz37_3); (try clear hcz37_4); (try clear hcz37_5); (try clear hcz37_6); (try clear hcz37_7); (try clear hcz9_0); (try clear hcz9_1); (try clear hcz9_2); (try clear hcz9_3); (try clear hcz9_4); (try clear hcz9_5); (try clear hcz9_6); (try clear hcz9_7)
    obtain ⟨kq, x67_2, rfl, HA, HJ2, BK116, BK117, HB⟩ := hcut
    cases kq with
    | zero => exact absurd HA.out (by simp [spec_BareSame.j0])
    | succ kj2 =>
      have H := HA.out
      clear HA
      simp only [spec_BareSame.j0] at H
      by_cases c38 : x67_2 = true
      rotate_left
      · replace c38 := Bool.eq_false_iff.mpr c38
        subst c38
        have H1 : (spec_BareSame.l0 kj2 0 l0_0 a0_1 l0_2 l0_3 a0_4 a0_5 a0_6 a0_7 l1_0 a1_1 l1_2 l1_3 a1_4 a1_5 a1_6 a1_7) = some r := by rw [if_neg (show ¬ (false = true) by decide)] at H; exact H
        clear H
        have H := H1
        clear H1
        have H' := Zm H
        clear H
        go_wp2
        go_loopg [5] kj2 (fun kq v5 w' => ∃ (x5_2 : Int), v5 = .int .i64 x5_2 ∧ Aside0 (spec_BareSame.l0 kq x5_2 l0_0 a0_1 l0_2 l0_3 a0_4 a0_5 a0_6 a0_7 l1_0 a1_1 l1_2 l1_3 a1_4 a1_5 a1_6 a1_7 = some r) ∧ Aside0 (kq ≤ kj2) ∧ Aside0 (w'.heap[gb116]? = some (.cells #[(.slice A0_0 l0_0.length c0_0), .int .i64 a0_1, (.slice A0_2 l0_2.length c0_2), (.slice A0_3 l0_3.length c0_3), .bool a0_4, .int .i64 a0_5, .string a0_6, .int .i64 a0_7] 39 (0, 0))) ∧ Aside0 (w'.heap[gb117]? = some (.cells #[(.slice A1_0 l1_0.length c1_0), .int .i64 a1_1, (.slice A1_2 l1_2.length c1_2), (.slice A1_3 l1_3.length c1_3), .bool a1_4, .int .i64 a1_5, .string a1_6, .int .i64 a1_7] 39 (0, 0))) ∧ Aside0 (Below w.heap.size w w'))
        case atStart => exact ⟨(0), (by first | rfl | (simp; done) | (simp [*]; done)), H', ⟨Nat.le_refl _⟩, ⟨by (with_reducible repeat (first | refine Zkn ?_ _ | refine Zkd ?_ | refine Zka ?_ _)); exact BK116.out⟩, ⟨by (with_reducible repeat (first | refine Zkn ?_ _ | refine Zkd ?_ | refine Zka ?_ _)); exact BK117.out⟩, ⟨by repeat (first | (with_reducible first | exact HB.out | apply Zba | apply Zbn | apply Zbd | refine Zbs ?_ GE116.out | refine Zbs ?_ GE117.out) | exact HB.out)⟩⟩
        case round =>
          clear H'
          (try clear c1); (try clear c2); (try clear p2); (try clear c3); (try clear c6); (try clear c6b0); (try clear c6b1); (try clear c7); (try clear c7b0); (try clear c7b1); (try clear c7b2); (try clear c8); (try clear c11); (try clear c11b0); (try clear c11b1); (try clear c12); (try clear c12b0); (try clear c12b1); (try clear c13); (try clear c13b0); (try clear c13b1); (try clear c15); (try clear c16); (try clear c16b0); (try clear c16b1); (try clear c16b2); (try clear c17); (try clear c20); (try clear c23); (try clear c26); (try clear c29); (try clear c32); (try clear c35); (try clear c38); (try clear hcz10_0); (try clear hcz10_1); (try clear hcz10_2); (try clear hcz10_3); (try clear hcz10_4); (try clear hcz10_5); (try clear hcz10_6); (try clear hcz10_7); (try clear hcz18_0); (try clear hcz18_1); (try clear hcz18_2); (try clear hcz18_3); (try clear hcz18_4); (try clear hcz18_5); (try clear hcz18_6); (try clear hcz18_7); (try clear hcz19_0); (try clear hcz19_1); (try clear hcz19_2); (try clear hcz19_3); (try clear hcz19_4); (try clear hcz19_5); (try clear hcz19_6); (try clear hcz19_7); (try clear hcz21_0); (try clear hcz21_1); (try clear hcz21_2); (try clear hcz21_3); (try clear hcz21_4); (try clear hcz21_5); (try clear hcz21_6); (try clear hcz21_7); (try clear hcz22_0); (try clear hcz22_1); (try clear hcz22_2); (try clear hcz22_3); (try clear hcz22_4); (try clear hcz22_5); (try clear hcz22_6); (try clear hcz22_7); (try clear hcz24_0); (try clear hcz24_1); (try clear hcz24_2); (try clear hcz24_3); (try clear hcz24_4); (try clear hcz24_5); (try clear hcz24_6); (try clear hcz24_7); (try clear hcz25_0); (try clear hcz25_1); (try clear hcz25_2); (try clear hcz25_3); (try clear hcz25_4); (try clear hcz25_5); (try clear hcz25_6); (try clear hcz25_7); (try clear hcz27_0); (try clear hcz27_1); (try clear hcz27_2); (try clear hcz27_3); (try clear hcz27_4); (try clear hcz27_5); (try clear hcz27_6); (try clear hcz27_7); (try clear hcz28_0); (try clear hcz28_1); (try clear hcz28_2); (try clear hcz28_3); (try clear hcz28_4); (try clear hcz28_5); (try clear hcz28_6); (try clear hcz28_7); (try clear hcz30_0); (try clear hcz30_1); (try clear hcz30_2); (try clear hcz30_3); (try clear hcz30_4); (try clear hcz30_5); (try clear hcz30_6); (try clear hcz30_7); (try clear hcz31_0); (try clear hcz31_1); (try clear hcz31_2); (try clear hcz31_3); (try clear hcz31_4); (try clear hcz31_5); (try clear hcz31_6); (try clear hcz31_7); (try clear hcz33_0); (try clear hcz33_1); (try clear hcz33_2); (try clear hcz33_3); (try clear hcz33_4); (try clear hcz33_5); (try clear hcz33_6); (try clear hcz33_7); (try clear hcz34_0); (try clear hcz34_1); (try clear hcz34_2); (try clear hcz34_3); (try clear hcz34_4); (try clear hcz34_5); (try clear hcz34_6); (try clear hcz34_7); (try clear hcz36_0); (try clear hcz36_1); (try clear hcz36_2); (try clear hcz36_3); (try clear hcz36_4); (try clear hcz36_5); (try clear hcz36_6); (try clear hcz36_7); (try clear hcz37_0); (try clear hcz37_1); (try clear hcz37_2); (try clear hcz37_3); (try clear hcz37_4); (try clear hcz37_5); (try clear hcz37_6); (try clear hcz37_7); (try clear hcz9_0); (try clear hcz9_1); (try clear hcz9_2); (try clear hcz9_3); (try clear hcz9_4); (try clear hcz9_5); (try clear hcz9_6); (try clear hcz9_7); (try clear p2)
          obtain ⟨x5_2, rfl, HA, HK2, BK116, BK117, HB⟩ := hrel
          cases gk with
          | zero => exact absurd HA.out (by simp [spec_BareSame.l0])
          | succ k2 =>
            have H := HA.out
            clear HA
            simp only [spec_BareSame.l0] at H
            by_cases c39 : x5_2 < (l0_0.length : Int)
            rotate_left
            · rw [if_neg c39] at H
              have c39b0 : decide (x5_2 < (l0_0.length : Int)) = false := decide_eq_false c39
              clear c39
              have H' := Zm H
              clear H
              have hnb52 := NB116_117.out
              have hnc52 := NB117_116.out
              have hcz53_0 : wr.cell? ⟨gb116, 0, none⟩ = some (.slice A0_0 l0_0.length c0_0) := (Zkc BK116.out 0).trans rfl
              have hcz53_1 : wr.cell? ⟨gb116, 1, none⟩ = some (.int .i64 a0_1) := (Zkc BK116.out 1).trans rfl
              have hcz53_2 : wr.cell? ⟨gb116, 2, none⟩ = some (.slice A0_2 l0_2.length c0_2) := (Zkc BK116.out 2).trans rfl
              have hcz53_3 : wr.cell? ⟨gb116, 3, none⟩ = some (.slice A0_3 l0_3.length c0_3) := (Zkc BK116.out 3).trans rfl
              have hcz53_4 : wr.cell? ⟨gb116, 4, none⟩ = some (.bool a0_4) := (Zkc BK116.out 4).trans rfl
              have hcz53_5 : wr.cell? ⟨gb116, 5, none⟩ = some (.int .i64 a0_5) := (Zkc BK116.out 5).trans rfl
              have hcz53_6 : wr.cell? ⟨gb116, 6, none⟩ = some (.string a0_6) := (Zkc BK116.out 6).trans rfl
              have hcz53_7 : wr.cell? ⟨gb116, 7, none⟩ = some (.int .i64 a0_7) := (Zkc BK116.out 7).trans rfl
              go_wp2
              go_loopg [6] k2 (fun kq v6 w' => ∃ (x6_3 : Int), v6 = .int .i64 x6_3 ∧ Aside0 (spec_BareSame.l1 kq x6_3 l0_0 a0_1 l0_2 l0_3 a0_4 a0_5 a0_6 a0_7 l1_0 a1_1 l1_2 l1_3 a1_4 a1_5 a1_6 a1_7 = some r) ∧ Aside0 (kq ≤ k2) ∧ Aside0 (w'.heap[gb116]? = some (.cells #[(.slice A0_0 l0_0.length c0_0), .int .i64 a0_1, (.slice A0_2 l0_2.length c0_2), (.slice A0_3 l0_3.length c0_3), .bool a0_4, .int .i64 a0_5, .string a0_6, .int .i64 a0_7] 39 (0, 0))) ∧ Aside0 (w'.heap[gb117]? = some (.cells #[(.slice A1_0 l1_0.length c1_0), .int .i64 a1_1, (.slice A1_2 l1_2.length c1_2), (.slice A1_3 l1_3.length c1_3), .bool a1_4, .int .i64 a1_5, .string a1_6, .int .i64 a1_7] 39 (0, 0))) ∧ Aside0 (Below w.heap.size w w'))
              case atStart => exact ⟨(0), (by first | rfl | (simp; done) | (simp [*]; done)), H', ⟨Nat.le_refl _⟩, ⟨by (with_reducible repeat (first | refine Zkn ?_ _ | refine Zkd ?_ | refine Zka ?_ _)); exact BK116.out⟩, ⟨by (with_reducible repeat (first | refine Zkn ?_ _ | refine Zkd ?_ | refine Zka ?_ _)); exact BK117.out⟩, ⟨by repeat (first | (with_reducible first | exact HB.out | apply Zba | apply Zbn | apply Zbd | refine Zbs ?_ GE116.out | refine Zbs ?_ GE117.out) | exact HB.out)⟩⟩
              case round =>
                clear H'
                (try clear c1); (try clear p1); (try clear q1); (try clear hx1); (try clear p2); (try clear c3); (try clear c4); (try clear c5); (try clear p6); (try clear c11); (try clear p11); (try clear q11); (try clear hx11); (try clear c12); (try clear p12); (try clear q12); (try clear hx12); (try clear c39); (try clear c39b0); (try clear c43); (try clear c44); (try clear c45); (try clear c45b0); (try clear c45b1); (try clear c51); (try clear c52); (try clear hcz53_0); (try clear hcz53_1); (try clear hcz53_2); (try clear hcz53_3); (try clear hcz53_4); (try clear hcz53_5); (try clear hcz53_6); (try clear hcz53_7); (try clear hx119_0); (try clear hx119_1); (try clear hx119_2); (try clear hx120_0); (try clear hx120_1); (try clear hx120_2); (try clear p1); (try clear p11); (try clear p119); (try clear p12); (try clear p120); (try clear p2); (try clear q1); (try clear q11); (try clear q119); (try clear q12); (try clear q120)
                obtain ⟨x6_3, rfl, HA, HK3, BK116, BK117, HB⟩ := hrel
                cases gk with
                | zero => exact absurd HA.out (by simp [spec_BareSame.l1])
                | succ k3 =>
                  have H := HA.out
                  clear HA
                  simp only [spec_BareSame.l1] at H
                  by_cases c54 : x6_3 < (l0_3.length : Int)
                  rotate_left
                  · rw [if_neg c54] at H
                    have c54b0 : decide (x6_3 < (l0_3.length : Int)) = false := decide_eq_false c54
                    clear c54
                    obtain rfl := Option.some.inj H
                    have hnb112 := NB116_117.out
                    have hnc112 := NB117_116.out
                    have hcz113_0 : wr.cell? ⟨gb116, 0, none⟩ = some (.slice A0_0 l0_0.length c0_0) := (Zkc BK116.out 0).trans rfl
                    have hcz113_1 : wr.cell? ⟨gb116, 1, none⟩ = some (.int .i64 a0_1) := (Zkc BK116.out 1).trans rfl
                    have hcz113_2 : wr.cell? ⟨gb116, 2, none⟩ = some (.slice A0_2 l0_2.length c0_2) := (Zkc BK116.out 2).trans rfl
                    have hcz113_3 : wr.cell? ⟨gb116, 3, none⟩ = some (.slice A0_3 l0_3.length c0_3) := (Zkc BK116.out 3).trans rfl
                    have hcz113_4 : wr.cell? ⟨gb116, 4, none⟩ = some (.bool a0_4) := (Zkc BK116.out 4).trans rfl
                    have hcz113_5 : wr.cell? ⟨gb116, 5, none⟩ = some (.int .i64 a0_5) := (Zkc BK116.out 5).trans rfl
                    have hcz113_6 : wr.cell? ⟨gb116, 6, none⟩ = some (.string a0_6) := (Zkc BK116.out 6).trans rfl
                    have hcz113_7 : wr.cell? ⟨gb116, 7, none⟩ = some (.int .i64 a0_7) := (Zkc BK116.out 7).trans rfl
                    go_wp2
                    go_ret
                    exact ⟨by first | rfl | (simp [errW_none, errW_some] <;> rfl) | (simp [*, errW_none, errW_some] <;> rfl), by repeat (first | (with_reducible first | exact HB.out | apply Zba | apply Zbn | apply Zbd | refine Zbs ?_ GE116.out | refine Zbs ?_ GE117.out) | exact HB.out)⟩

                  rw [if_pos c54] at H
                  have c54b0 : decide (x6_3 < (l0_3.length : Int)) = true := decide_eq_true c54
                  clear c54
                  by_cases c55 : 0 ≤ x6_3
                  rotate_left
                  · rw [if_neg c55] at H
                    exact absurd H (by simp)
                  rw [if_pos c55] at H
                  have c55b0 : decide (0 ≤ x6_3) = true := decide_eq_true c55
                  clear c55
                  by_cases c56 : x6_3 < (l1_3.length : Int)
                  rotate_left
                  · rw [if_neg c56] at H
                    exact absurd H (by simp)
                  rw [if_pos c56] at H
                  have c56b0 : decide (x6_3 < (l1_3.length : Int)) = true := decide_eq_true c56
                  clear c56
                  have HC57 := Zm H
                  clear H
                  have hnb58 := NB116_117.out
                  have hnc58 := NB117_116.out
                  have hcz59_0 : wr.cell? ⟨gb116, 0, none⟩ = some (.slice A0_0 l0_0.length c0_0) := (Zkc BK116.out 0).trans rfl
                  have hcz59_1 : wr.cell? ⟨gb116, 1, none⟩ = some (.int .i64 a0_1) := (Zkc BK116.out 1).trans rfl
                  have hcz59_2 : wr.cell? ⟨gb116, 2, none⟩ = some (.slice A0_2 l0_2.length c0_2) := (Zkc BK116.out 2).trans rfl
                  have hcz59_3 : wr.cell? ⟨gb116, 3, none⟩ = some (.slice A0_3 l0_3.length c0_3) := (Zkc BK116.out 3).trans rfl
                  have hcz59_4 : wr.cell? ⟨gb116, 4, none⟩ = some (.bool a0_4) := (Zkc BK116.out 4).trans rfl
                  have hcz59_5 : wr.cell? ⟨gb116, 5, none⟩ = some (.int .i64 a0_5) := (Zkc BK116.out 5).trans rfl
                  have hcz59_6 : wr.cell? ⟨gb116, 6, none⟩ = some (.string a0_6) := (Zkc BK116.out 6).trans rfl
                  have hcz59_7 : wr.cell? ⟨gb116, 7, none⟩ = some (.int .i64 a0_7) := (Zkc BK116.out 7).trans rfl
                  have p126 : 0 ≤ (x6_3 : Int) := of_decide_eq_true (by first | (with_reducible assumption) | assumption)
                  have q126 : x6_3 < (l0_3.length : Int) := of_decide_eq_true (by first | (with_reducible assumption) | assumption)
                  obtain ⟨ad126, A126_3, c126_3, A126_4, c126_4, e126, hx126_0, hx126_1, hx126_2, hx126_3, hx126_4, hl126_3, hi126_3, hl126_4, hi126_4⟩ := at_T110 HR0_3.out x6_3 p126 q126
                  cases e126
                  replace hx126_0 := (HB.out.cell (Zlt _ _ hx126_0)).trans hx126_0
                  replace hx126_1 := (HB.out.cell (Zlt _ _ hx126_1)).trans hx126_1
                  replace hx126_2 := (HB.out.cell (Zlt _ _ hx126_2)).trans hx126_2
                  replace hx126_3 := (HB.out.cell (Zlt _ _ hx126_3)).trans hx126_3
                  replace hx126_4 := (HB.out.cell (Zlt _ _ hx126_4)).trans hx126_4
                  have HR126_3 := Zm hi126_3
                  have HC126_3 := Zm hl126_3
                  clear hi126_3 hl126_3
                  have HR126_4 := Zm hi126_4
                  have HC126_4 := Zm hl126_4
                  clear hi126_4 hl126_4
                  replace p126 := eq_true p126
                  replace q126 := eq_true q126
                  go_upto_region 13 with (first | ((with_reducible refine gate_dst (N := 7) rfl ?_); (try (refine gate_guard (by rfl) ?_; dsimp only)); refine box_event ?hg (N := 7) ?hd (cs := #[.int .i64 0, .int .i64 0, .int .i64 0, .slice none 0 0, .slice none 0 0]) (t := 110) ?hr ?_; (case hd => rfl); (case hg => rfl); (case hr => first | (go_simp; done) | (go_simp; rfl)); intro gb127 hg w60 hbox hb; have n0_ := Zm (Zkb (g := gb116) (o := .cells #[.slice A0_0 l0_0.length c0_0, .int .i64 a0_1, .slice A0_2 l0_2.length c0_2, .slice (some ad126) l0_3.length c0_3, .bool a0_4, .int .i64 a0_5, .string a0_6, .int .i64 a0_7] 39 (0, 0)) (by (with_reducible repeat (first | refine Zkn ?_ _ | refine Zkd ?_ | refine Zka ?_ _)); exact BK116.out) hb); have n1_ := Zm (Zkb (g := gb117) (o := .cells #[.slice A1_0 l1_0.length c1_0, .int .i64 a1_1, .slice A1_2 l1_2.length c1_2, .slice A1_3 l1_3.length c1_3, .bool a1_4, .int .i64 a1_5, .string a1_6, .int .i64 a1_7] 39 (0, 0)) (by (with_reducible repeat (first | refine Zkn ?_ _ | refine Zkd ?_ | refine Zka ?_ _)); exact BK117.out) hb); have n2_ := Zm (Zbt (by repeat (first | (with_reducible first | exact HB.out | apply Zba | apply Zbn | apply Zbd | refine Zbs ?_ GE116.out | refine Zbs ?_ GE117.out) | exact HB.out)) hb); have n3_ := Zm (hbox); have n4_ := Zm ((by rw [hg]; exact (Zbz (by repeat (first | (with_reducible first | exact HB.out | apply Zba | apply Zbn | apply Zbd | refine Zbs ?_ GE116.out | refine Zbs ?_ GE117.out) | exact HB.out))) : w.heap.size ≤ gb127)); have n5_ := Zm ((by rw [hg]; exact (Zbz (by repeat (first | (with_reducible first | exact HB.out | apply Zba | apply Zbn | apply Zbd | refine Zbs ?_ GE116.out | refine Zbs ?_ GE117.out) | exact HB.out))) : w.heap.size ≤ gb127)); have n6_ := Zm ((by rw [hg]; exact Nat.ne_of_lt (blk_lt (g := gb116) (o := .cells #[.slice A0_0 l0_0.length c0_0, .int .i64 a0_1, .slice A0_2 l0_2.length c0_2, .slice (some ad126) l0_3.length c0_3, .bool a0_4, .int .i64 a0_5, .string a0_6, .int .i64 a0_7] 39 (0, 0)) (by (with_reducible repeat (first | refine Zkn ?_ _ | refine Zkd ?_ | refine Zka ?_ _)); exact BK116.out)) : gb116 ≠ gb127)); have n7_ := Zm ((by rw [hg]; exact Nat.ne_of_gt (blk_lt (g := gb116) (o := .cells #[.slice A0_0 l0_0.length c0_0, .int .i64 a0_1, .slice A0_2 l0_2.length c0_2, .slice (some ad126) l0_3.length c0_3, .bool a0_4, .int .i64 a0_5, .string a0_6, .int .i64 a0_7] 39 (0, 0)) (by (with_reducible repeat (first | refine Zkn ?_ _ | refine Zkd ?_ | refine Zka ?_ _)); exact BK116.out)) : gb127 ≠ gb116)); have n8_ := Zm ((by rw [hg]; exact Nat.ne_of_lt (blk_lt (g := gb117) (o := .cells #[.slice A1_0 l1_0.length c1_0, .int .i64 a1_1, .slice A1_2 l1_2.length c1_2, .slice A1_3 l1_3.length c1_3, .bool a1_4, .int .i64 a1_5, .string a1_6, .int .i64 a1_7] 39 (0, 0)) (by (with_reducible repeat (first | refine Zkn ?_ _ | refine Zkd ?_ | refine Zka ?_ _)); exact BK117.out)) : gb117 ≠ gb127)); have n9_ := Zm ((by rw [hg]; exact Nat.ne_of_gt (blk_lt (g := gb117) (o := .cells #[.slice A1_0 l1_0.length c1_0, .int .i64 a1_1, .slice A1_2 l1_2.length c1_2, .slice A1_3 l1_3.length c1_3, .bool a1_4, .int .i64 a1_5, .string a1_6, .int .i64 a1_7] 39 (0, 0)) (by (with_reducible repeat (first | refine Zkn ?_ _ | refine Zkd ?_ | refine Zka ?_ _)); exact BK117.out)) : gb127 ≠ gb117)); clear BK116; clear BK117; clear HB; have BK116 := n0_; have BK117 := n1_; have HB := n2_; have BK127 := n3_; have GW127 := n4_; have GE127 := n5_; have NB116_127 := n6_; have NB127_116 := n7_; have NB117_127 := n8_; have NB127_117 := n9_; clear n0_ n1_ n2_ n3_ n4_ n5_ n6_ n7_ n8_ n9_; clear hb hbox hg; have hnb61 := NB127_116.out; have hnc61 := NB116_127.out; have hnb62 := NB127_117.out; have hnc62 := NB117_127.out; have hcz63_0 : w60.cell? ⟨gb127, 0, none⟩ = some (.int .i64 0) := (Zkc BK127.out 0).trans rfl; have hcz63_1 : w60.cell? ⟨gb127, 1, none⟩ = some (.int .i64 0) := (Zkc BK127.out 1).trans rfl; have hcz63_2 : w60.cell? ⟨gb127, 2, none⟩ = some (.int .i64 0) := (Zkc BK127.out 2).trans rfl; have hcz63_3 : w60.cell? ⟨gb127, 3, none⟩ = some (.slice none 0 0) := (Zkc BK127.out 3).trans rfl; have hcz63_4 : w60.cell? ⟨gb127, 4, none⟩ = some (.slice none 0 0) := (Zkc BK127.out 4).trans rfl; have hfz63_0 := Zkf BK127.out 0; have hfz63_1 := Zkf BK127.out 1; have hfz63_2 := Zkf BK127.out 2; have hfz63_3 := Zkf BK127.out 3; have hfz63_4 := Zkf BK127.out 4; have hcz64_0 : w60.cell? ⟨gb117, 0, none⟩ = some (.slice A1_0 l1_0.length c1_0) := (Zkc BK117.out 0).trans rfl; have hcz64_1 : w60.cell? ⟨gb117, 1, none⟩ = some (.int .i64 a1_1) := (Zkc BK117.out 1).trans rfl; have hcz64_2 : w60.cell? ⟨gb117, 2, none⟩ = some (.slice A1_2 l1_2.length c1_2) := (Zkc BK117.out 2).trans rfl; have hcz64_3 : w60.cell? ⟨gb117, 3, none⟩ = some (.slice A1_3 l1_3.length c1_3) := (Zkc BK117.out 3).trans rfl; have hcz64_4 : w60.cell? ⟨gb117, 4, none⟩ = some (.bool a1_4) := (Zkc BK117.out 4).trans rfl; have hcz64_5 : w60.cell? ⟨gb117, 5, none⟩ = some (.int .i64 a1_5) := (Zkc BK117.out 5).trans rfl; have hcz64_6 : w60.cell? ⟨gb117, 6, none⟩ = some (.string a1_6) := (Zkc BK117.out 6).trans rfl; have hcz64_7 : w60.cell? ⟨gb117, 7, none⟩ = some (.int .i64 a1_7) := (Zkc BK117.out 7).trans rfl; have p128 : 0 ≤ (x6_3 : Int) := of_decide_eq_true (by first | (with_reducible assumption) | assumption); have q128 : x6_3 < (l1_3.length : Int) := of_decide_eq_true (by first | (with_reducible assumption) | assumption); obtain ⟨ad128, A128_3, c128_3, A128_4, c128_4, e128, hx128_0, hx128_1, hx128_2, hx128_3, hx128_4, hl128_3, hi128_3, hl128_4, hi128_4⟩ := at_T110 HR1_3.out x6_3 p128 q128; cases e128; have hn128_0 : ad128.block ≠ gb127 := Nat.ne_of_lt (Nat.lt_of_lt_of_le (by have := Zlt _ _ hx128_0; first | rwa [Zab] at this | exact this) GW127.out); have hn128_1 : ad128.block ≠ gb127 := Nat.ne_of_lt (Nat.lt_of_lt_of_le (by have := Zlt _ _ hx128_0; first | rwa [Zab] at this | exact this) GW127.out); have hn128_2 : ad128.block ≠ gb127 := Nat.ne_of_lt (Nat.lt_of_lt_of_le (by have := Zlt _ _ hx128_0; first | rwa [Zab] at this | exact this) GW127.out); have hn128_3 : ad128.block ≠ gb127 := Nat.ne_of_lt (Nat.lt_of_lt_of_le (by have := Zlt _ _ hx128_0; first | rwa [Zab] at this | exact this) GW127.out); have hn128_4 : ad128.block ≠ gb127 := Nat.ne_of_lt (Nat.lt_of_lt_of_le (by have := Zlt _ _ hx128_0; first | rwa [Zab] at this | exact this) GW127.out); replace hx128_0 := (HB.out.cell (Zlt _ _ hx128_0)).trans hx128_0; replace hx128_1 := (HB.out.cell (Zlt _ _ hx128_1)).trans hx128_1; replace hx128_2 := (HB.out.cell (Zlt _ _ hx128_2)).trans hx128_2; replace hx128_3 := (HB.out.cell (Zlt _ _ hx128_3)).trans hx128_3; replace hx128_4 := (HB.out.cell (Zlt _ _ hx128_4)).trans hx128_4; have HR128_3 := Zm hi128_3; have HC128_3 := Zm hl128_3; clear hi128_3 hl128_3; have HR128_4 := Zm hi128_4; have HC128_4 := Zm hl128_4; clear hi128_4 hl128_4; replace hx128_0 := (cell_far (p := ⟨gb127, 0, none⟩) (by first | (rw [Zab]; exact hn128_0) | (show (Addr.add _ _).block ≠ _; rw [Zab]; exact hn128_0) | exact hn128_0) (.int .i64 ((rd_T110 l0_3 x6_3).f0))).trans hx128_0; replace hx128_1 := (cell_far (p := ⟨gb127, 0, none⟩) (by first | (rw [Zab]; exact hn128_0) | (show (Addr.add _ _).block ≠ _; rw [Zab]; exact hn128_0) | exact hn128_0) (.int .i64 ((rd_T110 l0_3 x6_3).f0))).trans hx128_1; replace hx128_2 := (cell_far (p := ⟨gb127, 0, none⟩) (by first | (rw [Zab]; exact hn128_0) | (show (Addr.add _ _).block ≠ _; rw [Zab]; exact hn128_0) | exact hn128_0) (.int .i64 ((rd_T110 l0_3 x6_3).f0))).trans hx128_2; replace hx128_3 := (cell_far (p := ⟨gb127, 0, none⟩) (by first | (rw [Zab]; exact hn128_0) | (show (Addr.add _ _).block ≠ _; rw [Zab]; exact hn128_0) | exact hn128_0) (.int .i64 ((rd_T110 l0_3 x6_3).f0))).trans hx128_3; replace hx128_4 := (cell_far (p := ⟨gb127, 0, none⟩) (by first | (rw [Zab]; exact hn128_0) | (show (Addr.add _ _).block ≠ _; rw [Zab]; exact hn128_0) | exact hn128_0) (.int .i64 ((rd_T110 l0_3 x6_3).f0))).trans hx128_4; replace hx128_0 := (cell_far (p := ⟨gb127, 1, none⟩) (by first | (rw [Zab]; exact hn128_1) | (show (Addr.add _ _).block ≠ _; rw [Zab]; exact hn128_1) | exact hn128_1) (.int .i64 ((rd_T110 l0_3 x6_3).f1))).trans hx128_0; replace hx128_1 := (cell_far (p := ⟨gb127, 1, none⟩) (by first | (rw [Zab]; exact hn128_1) | (show (Addr.add _ _).block ≠ _; rw [Zab]; exact hn128_1) | exact hn128_1) (.int .i64 ((rd_T110 l0_3 x6_3).f1))).trans hx128_1; replace hx128_2 := (cell_far (p := ⟨gb127, 1, none⟩) (by first | (rw [Zab]; exact hn128_1) | (show (Addr.add _ _).block ≠ _; rw [Zab]; exact hn128_1) | exact hn128_1) (.int .i64 ((rd_T110 l0_3 x6_3).f1))).trans hx128_2; replace hx128_3 := (cell_far (p := ⟨gb127, 1, none⟩) (by first | (rw [Zab]; exact hn128_1) | (show (Addr.add _ _).block ≠ _; rw [Zab]; exact hn128_1) | exact hn128_1) (.int .i64 ((rd_T110 l0_3 x6_3).f1))).trans hx128_3; replace hx128_4 := (cell_far (p := ⟨gb127, 1, none⟩) (by first | (rw [Zab]; exact hn128_1) | (show (Addr.add _ _).block ≠ _; rw [Zab]; exact hn128_1) | exact hn128_1) (.int .i64 ((rd_T110 l0_3 x6_3).f1))).trans hx128_4; replace hx128_0 := (cell_far (p := ⟨gb127, 2, none⟩) (by first | (rw [Zab]; exact hn128_2) | (show (Addr.add _ _).block ≠ _; rw [Zab]; exact hn128_2) | exact hn128_2) (.int .i64 ((rd_T110 l0_3 x6_3).f2))).trans hx128_0; replace hx128_1 := (cell_far (p := ⟨gb127, 2, none⟩) (by first | (rw [Zab]; exact hn128_2) | (show (Addr.add _ _).block ≠ _; rw [Zab]; exact hn128_2) | exact hn128_2) (.int .i64 ((rd_T110 l0_3 x6_3).f2))).trans hx128_1; replace hx128_2 := (cell_far (p := ⟨gb127, 2, none⟩) (by first | (rw [Zab]; exact hn128_2) | (show (Addr.add _ _).block ≠ _; rw [Zab]; exact hn128_2) | exact hn128_2) (.int .i64 ((rd_T110 l0_3 x6_3).f2))).trans hx128_2; replace hx128_3 := (cell_far (p := ⟨gb127, 2, none⟩) (by first | (rw [Zab]; exact hn128_2) | (show (Addr.add _ _).block ≠ _; rw [Zab]; exact hn128_2) | exact hn128_2) (.int .i64 ((rd_T110 l0_3 x6_3).f2))).trans hx128_3; replace hx128_4 := (cell_far (p := ⟨gb127, 2, none⟩) (by first | (rw [Zab]; exact hn128_2) | (show (Addr.add _ _).block ≠ _; rw [Zab]; exact hn128_2) | exact hn128_2) (.int .i64 ((rd_T110 l0_3 x6_3).f2))).trans hx128_4; replace hx128_0 := (cell_far (p := ⟨gb127, 3, none⟩) (by first | (rw [Zab]; exact hn128_3) | (show (Addr.add _ _).block ≠ _; rw [Zab]; exact hn128_3) | exact hn128_3) (.slice A126_3 ((rd_T110 l0_3 x6_3).f3).length c126_3)).trans hx128_0; replace hx128_1 := (cell_far (p := ⟨gb127, 3, none⟩) (by first | (rw [Zab]; exact hn128_3) | (show (Addr.add _ _).block ≠ _; rw [Zab]; exact hn128_3) | exact hn128_3) (.slice A126_3 ((rd_T110 l0_3 x6_3).f3).length c126_3)).trans hx128_1; replace hx128_2 := (cell_far (p := ⟨gb127, 3, none⟩) (by first | (rw [Zab]; exact hn128_3) | (show (Addr.add _ _).block ≠ _; rw [Zab]; exact hn128_3) | exact hn128_3) (.slice A126_3 ((rd_T110 l0_3 x6_3).f3).length c126_3)).trans hx128_2; replace hx128_3 := (cell_far (p := ⟨gb127, 3, none⟩) (by first | (rw [Zab]; exact hn128_3) | (show (Addr.add _ _).block ≠ _; rw [Zab]; exact hn128_3) | exact hn128_3) (.slice A126_3 ((rd_T110 l0_3 x6_3).f3).length c126_3)).trans hx128_3; replace hx128_4 := (cell_far (p := ⟨gb127, 3, none⟩) (by first | (rw [Zab]; exact hn128_3) | (show (Addr.add _ _).block ≠ _; rw [Zab]; exact hn128_3) | exact hn128_3) (.slice A126_3 ((rd_T110 l0_3 x6_3).f3).length c126_3)).trans hx128_4; replace hx128_0 := (cell_far (p := ⟨gb127, 4, none⟩) (by first | (rw [Zab]; exact hn128_4) | (show (Addr.add _ _).block ≠ _; rw [Zab]; exact hn128_4) | exact hn128_4) (.slice A126_4 ((rd_T110 l0_3 x6_3).f4).length c126_4)).trans hx128_0; replace hx128_1 := (cell_far (p := ⟨gb127, 4, none⟩) (by first | (rw [Zab]; exact hn128_4) | (show (Addr.add _ _).block ≠ _; rw [Zab]; exact hn128_4) | exact hn128_4) (.slice A126_4 ((rd_T110 l0_3 x6_3).f4).length c126_4)).trans hx128_1; replace hx128_2 := (cell_far (p := ⟨gb127, 4, none⟩) (by first | (rw [Zab]; exact hn128_4) | (show (Addr.add _ _).block ≠ _; rw [Zab]; exact hn128_4) | exact hn128_4) (.slice A126_4 ((rd_T110 l0_3 x6_3).f4).length c126_4)).trans hx128_2; replace hx128_3 := (cell_far (p := ⟨gb127, 4, none⟩) (by first | (rw [Zab]; exact hn128_4) | (show (Addr.add _ _).block ≠ _; rw [Zab]; exact hn128_4) | exact hn128_4) (.slice A126_4 ((rd_T110 l0_3 x6_3).f4).length c126_4)).trans hx128_3; replace hx128_4 := (cell_far (p := ⟨gb127, 4, none⟩) (by first | (rw [Zab]; exact hn128_4) | (show (Addr.add _ _).block ≠ _; rw [Zab]; exact hn128_4) | exact hn128_4) (.slice A126_4 ((rd_T110 l0_3 x6_3).f4).length c126_4)).trans hx128_4; clear hn128_0; clear hn128_1; clear hn128_2; clear hn128_3; clear hn128_4; replace p128 := eq_true p128; replace q128 := eq_true q128) | ((with_reducible refine gate_dst (N := 8) rfl ?_); (try (refine gate_guard (by rfl) ?_; dsimp only)); refine box_event ?hg (N := 8) ?hd (cs := #[.int .i64 0, .int .i64 0, .int .i64 0, .slice none 0 0, .slice none 0 0]) (t := 110) ?hr ?_; (case hd => rfl); (case hg => rfl); (case hr => first | (go_simp; done) | (go_simp; rfl)); intro gb129 hg w65 hbox hb; have n0_ := Zm (Zkb (g := gb116) (o := .cells #[.slice A0_0 l0_0.length c0_0, .int .i64 a0_1, .slice A0_2 l0_2.length c0_2, .slice (some ad126) l0_3.length c0_3, .bool a0_4, .int .i64 a0_5, .string a0_6, .int .i64 a0_7] 39 (0, 0)) (by (with_reducible repeat (first | refine Zkn ?_ _ | refine Zkd ?_ | refine Zka ?_ _)); refine Zkr ?_ NB116_127.out _; (with_reducible repeat (first | refine Zkn ?_ _ | refine Zkd ?_ | refine Zka ?_ _)); refine Zkr ?_ NB116_127.out _; (with_reducible repeat (first | refine Zkn ?_ _ | refine Zkd ?_ | refine Zka ?_ _)); refine Zkr ?_ NB116_127.out _; (with_reducible repeat (first | refine Zkn ?_ _ | refine Zkd ?_ | refine Zka ?_ _)); refine Zkr ?_ NB116_127.out _; (with_reducible repeat (first | refine Zkn ?_ _ | refine Zkd ?_ | refine Zka ?_ _)); refine Zkr ?_ NB116_127.out _; (with_reducible repeat (first | refine Zkn ?_ _ | refine Zkd ?_ | refine Zka ?_ _)); exact BK116.out) hb); have n1_ := Zm (Zkb (g := gb117) (o := .cells #[.slice A1_0 l1_0.length c1_0, .int .i64 a1_1, .slice A1_2 l1_2.length c1_2, .slice (some ad128) l1_3.length c1_3, .bool a1_4, .int .i64 a1_5, .string a1_6, .int .i64 a1_7] 39 (0, 0)) (by (with_reducible repeat (first | refine Zkn ?_ _ | refine Zkd ?_ | refine Zka ?_ _)); refine Zkr ?_ NB117_127.out _; (with_reducible repeat (first | refine Zkn ?_ _ | refine Zkd ?_ | refine Zka ?_ _)); refine Zkr ?_ NB117_127.out _; (with_reducible repeat (first | refine Zkn ?_ _ | refine Zkd ?_ | refine Zka ?_ _)); refine Zkr ?_ NB117_127.out _; (with_reducible repeat (first | refine Zkn ?_ _ | refine Zkd ?_ | refine Zka ?_ _)); refine Zkr ?_ NB117_127.out _; (with_reducible repeat (first | refine Zkn ?_ _ | refine Zkd ?_ | refine Zka ?_ _)); refine Zkr ?_ NB117_127.out _; (with_reducible repeat (first | refine Zkn ?_ _ | refine Zkd ?_ | refine Zka ?_ _)); exact BK117.out) hb); have n2_ := Zm (Zkb (g := gb127) (o := .cells #[.int .i64 ((rd_T110 l0_3 x6_3).f0), .int .i64 ((rd_T110 l0_3 x6_3).f1), .int .i64 ((rd_T110 l0_3 x6_3).f2), .slice A126_3 ((rd_T110 l0_3 x6_3).f3).length c126_3, .slice A126_4 ((rd_T110 l0_3 x6_3).f4).length c126_4] 110 (0, 0)) (by (with_reducible repeat (first | refine Zkn ?_ _ | refine Zkd ?_ | refine Zka ?_ _)); refine Zkp (cs := #[.int .i64 ((rd_T110 l0_3 x6_3).f0), .int .i64 ((rd_T110 l0_3 x6_3).f1), .int .i64 ((rd_T110 l0_3 x6_3).f2), .slice A126_3 ((rd_T110 l0_3 x6_3).f3).length c126_3, .slice none 0 0]) ?_ 4 _ rfl; (with_reducible repeat (first | refine Zkn ?_ _ | refine Zkd ?_ | refine Zka ?_ _)); refine Zkp (cs := #[.int .i64 ((rd_T110 l0_3 x6_3).f0), .int .i64 ((rd_T110 l0_3 x6_3).f1), .int .i64 ((rd_T110 l0_3 x6_3).f2), .slice none 0 0, .slice none 0 0]) ?_ 3 _ rfl; (with_reducible repeat (first | refine Zkn ?_ _ | refine Zkd ?_ | refine Zka ?_ _)); refine Zkp (cs := #[.int .i64 ((rd_T110 l0_3 x6_3).f0), .int .i64 ((rd_T110 l0_3 x6_3).f1), .int .i64 0, .slice none 0 0, .slice none 0 0]) ?_ 2 _ rfl; (with_reducible repeat (first | refine Zkn ?_ _ | refine Zkd ?_ | refine Zka ?_ _)); refine Zkp (cs := #[.int .i64 ((rd_T110 l0_3 x6_3).f0), .int .i64 0, .int .i64 0, .slice none 0 0, .slice none 0 0]) ?_ 1 _ rfl; (with_reducible repeat (first | refine Zkn ?_ _ | refine Zkd ?_ | refine Zka ?_ _)); refine Zkp (cs := #[.int .i64 0, .int .i64 0, .int .i64 0, .slice none 0 0, .slice none 0 0]) ?_ 0 _ rfl; (with_reducible repeat (first | refine Zkn ?_ _ | refine Zkd ?_ | refine Zka ?_ _)); exact BK127.out) hb); have n3_ := Zm (Zbt (by repeat (first | (with_reducible first | exact HB.out | apply Zba | apply Zbn | apply Zbd | refine Zbs ?_ GE116.out | refine Zbs ?_ GE117.out | refine Zbs ?_ GE127.out) | exact HB.out)) hb); have n4_ := Zm (hbox); have n5_ := Zm ((by rw [hg]; exact (Zbz (by repeat (first | (with_reducible first | exact HB.out | apply Zba | apply Zbn | apply Zbd | refine Zbs ?_ GE116.out | refine Zbs ?_ GE117.out | refine Zbs ?_ GE127.out) | exact HB.out))) : w.heap.size ≤ gb129)); have n6_ := Zm ((by rw [hg]; exact (Zbz (by repeat (first | (with_reducible first | exact HB.out | apply Zba | apply Zbn | apply Zbd | refine Zbs ?_ GE116.out | refine Zbs ?_ GE117.out | refine Zbs ?_ GE127.out) | exact HB.out))) : w.heap.size ≤ gb129)); have n7_ := Zm ((by rw [hg]; exact Nat.ne_of_lt (blk_lt (g := gb116) (o := .cells #[.slice A0_0 l0_0.length c0_0, .int .i64 a0_1, .slice A0_2 l0_2.length c0_2, .slice (some ad126) l0_3.length c0_3, .bool a0_4, .int .i64 a0_5, .string a0_6, .int .i64 a0_7] 39 (0, 0)) (by (with_reducible repeat (first | refine Zkn ?_ _ | refine Zkd ?_ | refine Zka ?_ _)); refine Zkr ?_ NB116_127.out _; (with_reducible repeat (first | refine Zkn ?_ _ | refine Zkd ?_ | refine Zka ?_ _)); refine Zkr ?_ NB116_127.out _; (with_reducible repeat (first | refine Zkn ?_ _ | refine Zkd ?_ | refine Zka ?_ _)); refine Zkr ?_ NB116_127.out _; (with_reducible repeat (first | refine Zkn ?_ _ | refine Zkd ?_ | refine Zka ?_ _)); refine Zkr ?_ NB116_127.out _; (with_reducible repeat (first | refine Zkn ?_ _ | refine Zkd ?_ | refine Zka ?_ _)); refine Zkr ?_ NB116_127.out _; (with_reducible repeat (first | refine Zkn ?_ _ | refine Zkd ?_ | refine Zka ?_ _)); exact BK116.out)) : gb116 ≠ gb129)); have n8_ := Zm ((by rw [hg]; exact Nat.ne_of_gt (blk_lt (g := gb116) (o := .cells #[.slice A0_0 l0_0.length c0_0, .int .i64 a0_1, .slice A0_2 l0_2.length c0_2, .slice (some ad126) l0_3.length c0_3, .bool a0_4, .int .i64 a0_5, .string a0_6, .int .i64 a0_7] 39 (0, 0)) (by (with_reducible repeat (first | refine Zkn ?_ _ | refine Zkd ?_ | refine Zka ?_ _)); refine Zkr ?_ NB116_127.out _; (with_reducible repeat (first | refine Zkn ?_ _ | refine Zkd ?_ | refine Zka ?_ _)); refine Zkr ?_ NB116_127.out _; (with_reducible repeat (first | refine Zkn ?_ _ | refine Zkd ?_ | refine Zka ?_ _)); refine Zkr ?_ NB116_127.out _; (with_reducible repeat (first | refine Zkn ?_ _ | refine Zkd ?_ | refine Zka ?_ _)); refine Zkr ?_ NB116_127.out _; (with_reducible repeat (first | refine Zkn ?_ _ | refine Zkd ?_ | refine Zka ?_ _)); refine Zkr ?_ NB116_127.out _; (with_reducible repeat (first | refine Zkn ?_ _ | refine Zkd ?_ | refine Zka ?_ _)); exact BK116.out)) : gb129 ≠ gb116)); have n9_ := Zm ((by rw [hg]; exact Nat.ne_of_lt (blk_lt (g := gb117) (o := .cells #[.slice A1_0 l1_0.length c1_0, .int .i64 a1_1, .slice A1_2 l1_2.length c1_2, .slice (some ad128) l1_3.length c1_3, .bool a1_4, .int .i64 a1_5, .string a1_6, .int .i64 a1_7] 39 (0, 0)) (by (with_reducible repeat (first | refine Zkn ?_ _ | refine Zkd ?_ | refine Zka ?_ _)); refine Zkr ?_ NB117_127.out _; (with_reducible repeat (first | refine Zkn ?_ _ | refine Zkd ?_ | refine Zka ?_ _)); refine Zkr ?_ NB117_127.out _; (with_reducible repeat (first | refine Zkn ?_ _ | refine Zkd ?_ | refine Zka ?_ _)); refine Zkr ?_ NB117_127.out _; (with_reducible repeat (first | refine Zkn ?_ _ | refine Zkd ?_ | refine Zka ?_ _)); refine Zkr ?_ NB117_127.out _; (with_reducible repeat (first | refine Zkn ?_ _ | refine Zkd ?_ | refine Zka ?_ _)); refine Zkr ?_ NB117_127.out _; (with_reducible repeat (first | refine Zkn ?_ _ | refine Zkd ?_ | refine Zka ?_ _)); exact BK117.out)) : gb117 ≠ gb129)); have n10_ := Zm ((by rw [hg]; exact Nat.ne_of_gt (blk_lt (g := gb117) (o := .cells #[.slice A1_0 l1_0.length c1_0, .int .i64 a1_1, .slice A1_2 l1_2.length c1_2, .slice (some ad128) l1_3.length c1_3, .bool a1_4, .int .i64 a1_5, .string a1_6, .int .i64 a1_7] 39 (0, 0)) (by (with_reducible repeat (first | refine Zkn ?_ _ | refine Zkd ?_ | refine Zka ?_ _)); refine Zkr ?_ NB117_127.out _; (with_reducible repeat (first | refine Zkn ?_ _ | refine Zkd ?_ | refine Zka ?_ _)); refine Zkr ?_ NB117_127.out _; (with_reducible repeat (first | refine Zkn ?_ _ | refine Zkd ?_ | refine Zka ?_ _)); refine Zkr ?_ NB117_127.out _; (with_reducible repeat (first | refine Zkn ?_ _ | refine Zkd ?_ | refine Zka ?_ _)); refine Zkr ?_ NB117_127.out _; (with_reducible repeat (first | refine Zkn ?_ _ | refine Zkd ?_ | refine Zka ?_ _)); refine Zkr ?_ NB117_127.out _; (with_reducible repeat (first | refine Zkn ?_ _ | refine Zkd ?_ | refine Zka ?_ _)); exact BK117.out)) : gb129 ≠ gb117)); have n11_ := Zm ((by rw [hg]; exact Nat.ne_of_lt (blk_lt (g := gb127) (o := .cells #[.int .i64 ((rd_T110 l0_3 x6_3).f0), .int .i64 ((rd_T110 l0_3 x6_3).f1), .int .i64 ((rd_T110 l0_3 x6_3).f2), .slice A126_3 ((rd_T110 l0_3 x6_3).f3).length c126_3, .slice A126_4 ((rd_T110 l0_3 x6_3).f4).length c126_4] 110 (0, 0)) (by (with_reducible repeat (first | refine Zkn ?_ _ | refine Zkd ?_ | refine Zka ?_ _)); refine Zkp (cs := #[.int .i64 ((rd_T110 l0_3 x6_3).f0), .int .i64 ((rd_T110 l0_3 x6_3).f1), .int .i64 ((rd_T110 l0_3 x6_3).f2), .slice A126_3 ((rd_T110 l0_3 x6_3).f3).length c126_3, .slice none 0 0]) ?_ 4 _ rfl; (with_reducible repeat (first | refine Zkn ?_ _ | refine Zkd ?_ | refine Zka ?_ _)); refine Zkp (cs := #[.int .i64 ((rd_T110 l0_3 x6_3).f0), .int .i64 ((rd_T110 l0_3 x6_3).f1), .int .i64 ((rd_T110 l0_3 x6_3).f2), .slice none 0 0, .slice none 0 0]) ?_ 3 _ rfl; (with_reducible repeat (first | refine Zkn ?_ _ | refine Zkd ?_ | refine Zka ?_ _)); refine Zkp (cs := #[.int .i64 ((rd_T110 l0_3 x6_3).f0), .int .i64 ((rd_T110 l0_3 x6_3).f1), .int .i64 0, .slice none 0 0, .slice none 0 0]) ?_ 2 _ rfl; (with_reducible repeat (first | refine Zkn ?_ _ | refine Zkd ?_ | refine Zka ?_ _)); refine Zkp (cs := #[.int .i64 ((rd_T110 l0_3 x6_3).f0), .int .i64 0, .int .i64 0, .slice none 0 0, .slice none 0 0]) ?_ 1 _ rfl; (with_reducible repeat (first | refine Zkn ?_ _ | refine Zkd ?_ | refine Zka ?_ _)); refine Zkp (cs := #[.int .i64 0, .int .i64 0, .int .i64 0, .slice none 0 0, .slice none 0 0]) ?_ 0 _ rfl; (with_reducible repeat (first | refine Zkn ?_ _ | refine Zkd ?_ | refine Zka ?_ _)); exact BK127.out)) : gb127 ≠ gb129)); have n12_ := Zm ((by rw [hg]; exact Nat.ne_of_gt (blk_lt (g := gb127) (o := .cells #[.int .i64 ((rd_T110 l0_3 x6_3).f0), .int .i64 ((rd_T110 l0_3 x6_3).f1), .int .i64 ((rd_T110 l0_3 x6_3).f2), .slice A126_3 ((rd_T110 l0_3 x6_3).f3).length c126_3, .slice A126_4 ((rd_T110 l0_3 x6_3).f4).length c126_4] 110 (0, 0)) (by (with_reducible repeat (first | refine Zkn ?_ _ | refine Zkd ?_ | refine Zka ?_ _)); refine Zkp (cs := #[.int .i64 ((rd_T110 l0_3 x6_3).f0), .int .i64 ((rd_T110 l0_3 x6_3).f1), .int .i64 ((rd_T110 l0_3 x6_3).f2), .slice A126_3 ((rd_T110 l0_3 x6_3).f3).length c126_3, .slice none 0 0]) ?_ 4 _ rfl; (with_reducible repeat (first | refine Zkn ?_ _ | refine Zkd ?_ | refine Zka ?_ _)); refine Zkp (cs := #[.int .i64 ((rd_T110 l0_3 x6_3).f0), .int .i64 ((rd_T110 l0_3 x6_3).f1), .int .i64 ((rd_T110 l0_3 x6_3).f2), .slice none 0 0, .slice none 0 0]) ?_ 3 _ rfl; (with_reducible repeat (first | refine Zkn ?_ _ | refine Zkd ?_ | refine Zka ?_ _)); refine Zkp (cs := #[.int .i64 ((rd_T110 l0_3 x6_3).f0), .int .i64 ((rd_T110 l0_3 x6_3).f1), .int .i64 0, .slice none 0 0, .slice none 0 0]) ?_ 2 _ rfl; (with_reducible repeat (first | refine Zkn ?_ _ | refine Zkd ?_ | refine Zka ?_ _)); refine Zkp (cs := #[.int .i64 ((rd_T110 l0_3 x6_3).f0), .int .i64 0, .int .i64 0, .slice none 0 0, .slice none 0 0]) ?_ 1 _ rfl; (with_reducible repeat (first | refine Zkn ?_ _ | refine Zkd ?_ | refine Zka ?_ _)); refine Zkp (cs := #[.int .i64 0, .int .i64 0, .int .i64 0, .slice none 0 0, .slice none 0 0]) ?_ 0 _ rfl; (with_reducible repeat (first | refine Zkn ?_ _ | refine Zkd ?_ | refine Zka ?_ _)); exact BK127.out)) : gb129 ≠ gb127)); clear BK116; clear BK117; clear BK127; clear HB; have BK116 := n0_; have BK117 := n1_; have BK127 := n2_; have HB := n3_; have BK129 := n4_; have GW129 := n5_; have GE129 := n6_; have NB116_129 := n7_; have NB129_116 := n8_; have NB117_129 := n9_; have NB129_117 := n10_; have NB127_129 := n11_; have NB129_127 := n12_; clear n0_ n1_ n2_ n3_ n4_ n5_ n6_ n7_ n8_ n9_ n10_ n11_ n12_; clear hb hbox hg; have hnb66 := NB129_116.out; have hnc66 := NB116_129.out; have hnb67 := NB129_117.out; have hnc67 := NB117_129.out; have hnb68 := NB129_127.out; have hnc68 := NB127_129.out; have hcz69_0 : w65.cell? ⟨gb129, 0, none⟩ = some (.int .i64 0) := (Zkc BK129.out 0).trans rfl; have hcz69_1 : w65.cell? ⟨gb129, 1, none⟩ = some (.int .i64 0) := (Zkc BK129.out 1).trans rfl; have hcz69_2 : w65.cell? ⟨gb129, 2, none⟩ = some (.int .i64 0) := (Zkc BK129.out 2).trans rfl; have hcz69_3 : w65.cell? ⟨gb129, 3, none⟩ = some (.slice none 0 0) := (Zkc BK129.out 3).trans rfl; have hcz69_4 : w65.cell? ⟨gb129, 4, none⟩ = some (.slice none 0 0) := (Zkc BK129.out 4).trans rfl; have hfz69_0 := Zkf BK129.out 0; have hfz69_1 := Zkf BK129.out 1; have hfz69_2 := Zkf BK129.out 2; have hfz69_3 := Zkf BK129.out 3; have hfz69_4 := Zkf BK129.out 4))
                  (try simp only [Act.put, List.setIfInBounds_toArray, List.set_cons_zero, List.set_cons_succ])
                  go_cut [170] (fun v170 wc => ∃ (kq : Nat) (x170_56 : Bool), v170 = .bool x170_56 ∧ Aside0 (spec_BareSame.j4 kq x6_3 x170_56 l0_0 a0_1 l0_2 l0_3 a0_4 a0_5 a0_6 a0_7 l1_0 a1_1 l1_2 l1_3 a1_4 a1_5 a1_6 a1_7 = some r) ∧ Aside0 (kq ≤ k3) ∧ Aside0 (wc.heap[gb116]? = some (.cells #[(.slice A0_0 l0_0.length c0_0), .int .i64 a0_1, (.slice A0_2 l0_2.length c0_2), (.slice (some ad126) l0_3.length c0_3), .bool a0_4, .int .i64 a0_5, .string a0_6, .int .i64 a0_7] 39 (0, 0))) ∧ Aside0 (wc.heap[gb117]? = some (.cells #[(.slice A1_0 l1_0.length c1_0), .int .i64 a1_1, (.slice A1_2 l1_2.length c1_2), (.slice (some ad128) l1_3.length c1_3), .bool a1_4, .int .i64 a1_5, .string a1_6, .int .i64 a1_7] 39 (0, 0))) ∧ Aside0 (wc.heap[gb127]? = some (.cells #[.int .i64 ((rd_T110 l0_3 x6_3).f0), .int .i64 ((rd_T110 l0_3 x6_3).f1), .int .i64 ((rd_T110 l0_3 x6_3).f2), (.slice A126_3 ((rd_T110 l0_3 x6_3).f3).length c126_3), (.slice A126_4 ((rd_T110 l0_3 x6_3).f4).length c126_4)] 110 (0, 0))) ∧ Aside0 (wc.heap[gb129]? = some (.cells #[.int .i64 ((rd_T110 l1_3 x6_3).f0), .int .i64 ((rd_T110 l1_3 x6_3).f1), .int .i64 ((rd_T110 l1_3 x6_3).f2), (.slice A128_3 ((rd_T110 l1_3 x6_3).f3).length c128_3), (.slice A128_4 ((rd_T110 l1_3 x6_3).f4).length c128_4)] 110 (0, 0))) ∧ Aside0 (Below w.heap.size w wc))
                  case first =>
                    have H := HC57.out
                    clear HC57
                    by_cases c70 : ((rd_T110 l0_3 x6_3).f0) = ((rd_T110 l1_3 x6_3).f0)
                    rotate_left
                    · rw [if_neg c70] at H
                      have c70b0 : (((rd_T110 l0_3 x6_3).f0) == ((rd_T110 l1_3 x6_3).f0)) = false := beq_eq_false_iff_ne.mpr c70
                      have c70b1 : (((rd_T110 l0_3 x6_3).f0) != ((rd_T110 l1_3 x6_3).f0)) = true := bne_iff_ne.mpr c70
                      (first | rw [c70b0] | (simp only [i64_w, i32_w]; rw [c70b0]) | skip)
                      have H' := Zm H
                      clear H
                      have hnb104 := NB127_116.out
                      have hnc104 := NB116_127.out
                      have hnb105 := NB127_117.out
                      have hnc105 := NB117_127.out
                      have hnb106 := NB127_129.out
                      have hnc106 := NB129_127.out
                      have hcz107_0 : w65.cell? ⟨gb127, 0, none⟩ = some (.int .i64 ((rd_T110 l0_3 x6_3).f0)) := (Zkc BK127.out 0).trans rfl
                      have hcz107_1 : w65.cell? ⟨gb127, 1, none⟩ = some (.int .i64 ((rd_T110 l0_3 x6_3).f1)) := (Zkc BK127.out 1).trans rfl
                      have hcz107_2 : w65.cell? ⟨gb127, 2, none⟩ = some (.int .i64 ((rd_T110 l0_3 x6_3).f2)) := (Zkc BK127.out 2).trans rfl
                      have hcz107_3 : w65.cell? ⟨gb127, 3, none⟩ = some (.slice A126_3 ((rd_T110 l0_3 x6_3).f3).length c126_3) := (Zkc BK127.out 3).trans rfl
                      have hcz107_4 : w65.cell? ⟨gb127, 4, none⟩ = some (.slice A126_4 ((rd_T110 l0_3 x6_3).f4).length c126_4) := (Zkc BK127.out 4).trans rfl
                      have hfz107_0 := Zkf BK127.out 0
                      have hfz107_1 := Zkf BK127.out 1
                      have hfz107_2 := Zkf BK127.out 2
                      have hfz107_3 := Zkf BK127.out 3
                      have hfz107_4 := Zkf BK127.out 4
                      have hnb108 := NB129_116.out
                      have hnc108 := NB116_129.out
                      have hnb109 := NB129_117.out
                      have hnc109 := NB117_129.out
                      have hcz110_0 : w65.cell? ⟨gb129, 0, none⟩ = some (.int .i64 0) := (Zkc BK129.out 0).trans rfl
                      have hcz110_1 : w65.cell? ⟨gb129, 1, none⟩ = some (.int .i64 0) := (Zkc BK129.out 1).trans rfl
                      have hcz110_2 : w65.cell? ⟨gb129, 2, none⟩ = some (.int .i64 0) := (Zkc BK129.out 2).trans rfl
                      have hcz110_3 : w65.cell? ⟨gb129, 3, none⟩ = some (.slice none 0 0) := (Zkc BK129.out 3).trans rfl
                      have hcz110_4 : w65.cell? ⟨gb129, 4, none⟩ = some (.slice none 0 0) := (Zkc BK129.out 4).trans rfl
                      have hfz110_0 := Zkf BK129.out 0
                      have hfz110_1 := Zkf BK129.out 1
                      have hfz110_2 := Zkf BK129.out 2
                      have hfz110_3 := Zkf BK129.out 3
                      have hfz110_4 := Zkf BK129.out 4
                      go_wp2
                      go_meet
                      case rel => exact ⟨_, (true), (by first | rfl | (simp; done) | (simp [*]; done)), H', ⟨by have := HJ2.out; have := HK2.out; have := HK3.out; first | omega | exact Nat.le_refl _⟩, ⟨by (with_reducible repeat (first | refine Zkn ?_ _ | refine Zkd ?_ | refine Zka ?_ _)); refine Zkr ?_ NB116_129.out _; (with_reducible repeat (first | refine Zkn ?_ _ | refine Zkd ?_ | refine Zka ?_ _)); refine Zkr ?_ NB116_129.out _; (with_reducible repeat (first | refine Zkn ?_ _ | refine Zkd ?_ | refine Zka ?_ _)); refine Zkr ?_ NB116_129.out _; (with_reducible repeat (first | refine Zkn ?_ _ | refine Zkd ?_ | refine Zka ?_ _)); refine Zkr ?_ NB116_129.out _; (with_reducible repeat (first | refine Zkn ?_ _ | refine Zkd ?_ | refine Zka ?_ _)); refine Zkr ?_ NB116_129.out _; (with_reducible repeat (first | refine Zkn ?_ _ | refine Zkd ?_ | refine Zka ?_ _)); exact BK116.out⟩, ⟨by (with_reducible repeat (first | refine Zkn ?_ _ | refine Zkd ?_ | refine Zka ?_ _)); refine Zkr ?_ NB117_129.out _; (with_reducible repeat (first | refine Zkn ?_ _ | refine Zkd ?_ | refine Zka ?_ _)); refine Zkr ?_ NB117_129.out _; (with_reducible repeat (first | refine Zkn ?_ _ | refine Zkd ?_ | refine Zka ?_ _)); refine Zkr ?_ NB117_129.out _; (with_reducible repeat (first | refine Zkn ?_ _ | refine Zkd ?_ | refine Zka ?_ _)); refine Zkr ?_ NB117_129.out _; (with_reducible repeat (first | refine Zkn ?_ _ | refine Zkd ?_ | refine Zka ?_ _)); refine Zkr ?_ NB117_129.out _; (with_reducible repeat (first | refine Zkn ?_ _ | refine Zkd ?_ | refine Zka ?_ _)); exact BK117.out⟩, ⟨by (with_reducible repeat (first | refine Zkn ?_ _ | refine Zkd ?_ | refine Zka ?_ _)); refine Zkr ?_ NB127_129.out _; (with_reducible repeat (first | refine Zkn ?_ _ | refine Zkd ?_ | refine Zka ?_ _)); refine Zkr ?_ NB127_129.out _; (with_reducible repeat (first | refine Zkn ?_ _ | refine Zkd ?_ | refine Zka ?_ _)); refine Zkr ?_ NB127_129.out _; (with_reducible repeat (first | refine Zkn ?_ _ | refine Zkd ?_ | refine Zka ?_ _)); refine Zkr ?_ NB127_129.out _; (with_reducible repeat (first | refine Zkn ?_ _ | refine Zkd ?_ | refine Zka ?_ _)); refine Zkr ?_ NB127_129.out _; (with_reducible repeat (first | refine Zkn ?_ _ | refine Zkd ?_ | refine Zka ?_ _)); exact BK127.out⟩, ⟨by (with_reducible repeat (first | refine Zkn ?_ _ | refine Zkd ?_ | refine Zka ?_ _)); refine Zkp (cs := #[.int .i64 ((rd_T110 l1_3 x6_3).f0), .int .i64 ((rd_T110 l1_3 x6_3).f1), .int .i64 ((rd_T110 l1_3 x6_3).f2), .slice A128_3 ((rd_T110 l1_3 x6_3).f3).length c128_3, .slice none 0 0]) ?_ 4 _ rfl; (with_reducible repeat (first | refine Zkn ?_ _ | refine Zkd ?_ | refine Zka ?_ _)); refine Zkp (cs := #[.int .i64 ((rd_T110 l1_3 x6_3).f0), .int .i64 ((rd_T110 l1_3 x6_3).f1), .int .i64 ((rd_T110 l1_3 x6_3).f2), .slice none 0 0, .slice none 0 0]) ?_ 3 _ rfl; (with_reducible repeat (first | refine Zkn ?_ _ | refine Zkd ?_ | refine Zka ?_ _)); refine Zkp (cs := #[.int .i64 ((rd_T110 l1_3 x6_3).f0), .int .i64 ((rd_T110 l1_3 x6_3).f1), .int .i64 0, .slice none 0 0, .slice none 0 0]) ?_ 2 _ rfl; (with_reducible repeat (first | refine Zkn ?_ _ | refine Zkd ?_ | refine Zka ?_ _)); refine Zkp (cs := #[.int .i64 ((rd_T110 l1_3 x6_3).f0), .int .i64 0, .int .i64 0, .slice none 0 0, .slice none 0 0]) ?_ 1 _ rfl; (with_reducible repeat (first | refine Zkn ?_ _ | refine Zkd ?_ | refine Zka ?_ _)); refine Zkp (cs := #[.int .i64 0, .int .i64 0, .int .i64 0, .slice none 0 0, .slice none 0 0]) ?_ 0 _ rfl; (with_reducible repeat (first | refine Zkn ?_ _ | refine Zkd ?_ | refine Zka ?_ _)); exact BK129.out⟩, ⟨by repeat (first | (with_reducible first | exact HB.out | apply Zba | apply Zbn | apply Zbd | refine Zbs ?_ GE116.out | refine Zbs ?_ GE117.out | refine Zbs ?_ GE127.out | refine Zbs ?_ GE129.out) | exact HB.out)⟩⟩
                    rw [if_pos c70] at H
                    have c70b0 : (((rd_T110 l0_3 x6_3).f0) == ((rd_T110 l1_3 x6_3).f0)) = true := beq_iff_eq.mpr c70
                    have c70b1 : (((rd_T110 l0_3 x6_3).f0) != ((rd_T110 l1_3 x6_3).f0)) = false := bne_eq_false_iff_eq.mpr c70
                    clear c70
                    (first | rw [c70b0] | (simp only [i64_w, i32_w]; rw [c70b0]) | skip)
                    by_cases c71 : ((rd_T110 l0_3 x6_3).f1) = ((rd_T110 l1_3 x6_3).f1)
                    rotate_left
                    · rw [if_neg c71] at H
                      have c71b0 : (((rd_T110 l0_3 x6_3).f1) == ((rd_T110 l1_3 x6_3).f1)) = false := beq_eq_false_iff_ne.mpr c71
                      have c71b1 : (((rd_T110 l0_3 x6_3).f1) != ((rd_T110 l1_3 x6_3).f1)) = true := bne_iff_ne.mpr c71
                      have H' := Zm H
                      clear H
                      have hnb97 := NB127_116.out
                      have hnc97 := NB116_127.out
                      have hnb98 := NB127_117.out
                      have hnc98 := NB117_127.out
                      have hnb99 := NB127_129.out
                      have hnc99 := NB129_127.out
                      have hcz100_0 : w65.cell? ⟨gb127, 0, none⟩ = some (.int .i64 ((rd_T110 l0_3 x6_3).f0)) := (Zkc BK127.out 0).trans rfl
                      have hcz100_1 : w65.cell? ⟨gb127, 1, none⟩ = some (.int .i64 ((rd_T110 l0_3 x6_3).f1)) := (Zkc BK127.out 1).trans rfl
                      have hcz100_2 : w65.cell? ⟨gb127, 2, none⟩ = some (.int .i64 ((rd_T110 l0_3 x6_3).f2)) := (Zkc BK127.out 2).trans rfl
                      have hcz100_3 : w65.cell? ⟨gb127, 3, none⟩ = some (.slice A126_3 ((rd_T110 l0_3 x6_3).f3).length c126_3) := (Zkc BK127.out 3).trans rfl
                      have hcz100_4 : w65.cell? ⟨gb127, 4, none⟩ = some (.slice A126_4 ((rd_T110 l0_3 x6_3).f4).length c126_4) := (Zkc BK127.out 4).trans rfl
                      have hfz100_0 := Zkf BK127.out 0
                      have hfz100_1 := Zkf BK127.out 1
                      have hfz100_2 := Zkf BK127.out 2
                      have hfz100_3 := Zkf BK127.out 3
                      have hfz100_4 := Zkf BK127.out 4
                      have hnb101 := NB129_116.out
                      have hnc101 := NB116_129.out
                      have hnb102 := NB129_117.out
                      have hnc102 := NB117_129.out
                      have hcz103_0 : w65.cell? ⟨gb129, 0, none⟩ = some (.int .i64 0) := (Zkc BK129.out 0).trans rfl
                      have hcz103_1 : w65.cell? ⟨gb129, 1, none⟩ = some (.int .i64 0) := (Zkc BK129.out 1).trans rfl
                      have hcz103_2 : w65.cell? ⟨gb129, 2, none⟩ = some (.int .i64 0) := (Zkc BK129.out 2).trans rfl
                      have hcz103_3 : w65.cell? ⟨gb129, 3, none⟩ = some (.slice none 0 0) := (Zkc BK129.out 3).trans rfl
                      have hcz103_4 : w65.cell? ⟨gb129, 4, none⟩ = some (.slice none 0 0) := (Zkc BK129.out 4).trans rfl
                      have hfz103_0 := Zkf BK129.out 0
                      have hfz103_1 := Zkf BK129.out 1
                      have hfz103_2 := Zkf BK129.out 2
                      have hfz103_3 := Zkf BK129.out 3
                      have hfz103_4 := Zkf BK129.out 4
                      go_wp2
                      go_meet
                      case rel => exact ⟨_, (true), (by first | rfl | (simp; done) | (simp [*]; done)), H', ⟨by have := HJ2.out; have := HK2.out; have := HK3.out; first | omega | exact Nat.le_refl _⟩, ⟨by (with_reducible repeat (first | refine Zkn ?_ _ | refine Zkd ?_ | refine Zka ?_ _)); refine Zkr ?_ NB116_129.out _; (with_reducible repeat (first | refine Zkn ?_ _ | refine Zkd ?_ | refine Zka ?_ _)); refine Zkr ?_ NB116_129.out _; (with_reducible repeat (first | refine Zkn ?_ _ | refine Zkd ?_ | refine Zka ?_ _)); refine Zkr ?_ NB116_129.out _; (with_reducible repeat (first | refine Zkn ?_ _ | refine Zkd ?_ | refine Zka ?_ _)); refine Zkr ?_ NB116_129.out _; (with_reducible repeat (first | refine Zkn ?_ _ | refine Zkd ?_ | refine Zka ?_ _)); refine Zkr ?_ NB116_129.out _; (with_reducible repeat (first | refine Zkn ?_ _ | refine Zkd ?_ | refine Zka ?_ _)); exact BK116.out⟩, ⟨by (with_reducible repeat (first | refine Zkn ?_ _ | refine Zkd ?_ | refine Zka ?_ _)); refine Zkr ?_ NB117_129.out _; (with_reducible repeat (first | refine Zkn ?_ _ | refine Zkd ?_ | refine Zka ?_ _)); refine Zkr ?_ NB117_129.out _; (with_reducible repeat (first | refine Zkn ?_ _ | refine Zkd ?_ | refine Zka ?_ _)); refine Zkr ?_ NB117_129.out _; (with_reducible repeat (first | refine Zkn ?_ _ | refine Zkd ?_ | refine Zka ?_ _)); refine Zkr ?_ NB117_129.out _; (with_reducible repeat (first | refine Zkn ?_ _ | refine Zkd ?_ | refine Zka ?_ _)); refine Zkr ?_ NB117_129.out _; (with_reducible repeat (first | refine Zkn ?_ _ | refine Zkd ?_ | refine Zka ?_ _)); exact BK117.out⟩, ⟨by (with_reducible repeat (first | refine Zkn ?_ _ | refine Zkd ?_ | refine Zka ?_ _)); refine Zkr ?_ NB127_129.out _; (with_reducible repeat (first | refine Zkn ?_ _ | refine Zkd ?_ | refine Zka ?_ _)); refine Zkr ?_ NB127_129.out _; (with_reducible repeat (first | refine Zkn ?_ _ | refine Zkd ?_ | refine Zka ?_ _)); refine Zkr ?_ NB127_129.out _; (with_reducible repeat (first | refine Zkn ?_ _ | refine Zkd ?_ | refine Zka ?_ _)); refine Zkr ?_ NB127_129.out _; (with_reducible repeat (first | refine Zkn ?_ _ | refine Zkd ?_ | refine Zka ?_ _)); refine Zkr ?_ NB127_129.out _; (with_reducible repeat (first | refine Zkn ?_ _ | refine Zkd ?_ | refine Zka ?_ _)); exact BK127.out⟩, ⟨by (with_reducible repeat (first | refine Zkn ?_ _ | refine Zkd ?_ | refine Zka ?_ _)); refine Zkp (cs := #[.int .i64 ((rd_T110 l1_3 x6_3).f0), .int .i64 ((rd_T110 l1_3 x6_3).f1), .int .i64 ((rd_T110 l1_3 x6_3).f2), .slice A128_3 ((rd_T110 l1_3 x6_3).f3).length c128_3, .slice none 0 0]) ?_ 4 _ rfl; (with_reducible repeat (first | refine Zkn ?_ _ | refine Zkd ?_ | refine Zka ?_ _)); refine Zkp (cs := #[.int .i64 ((rd_T110 l1_3 x6_3).f0), .int .i64 ((rd_T110 l1_3 x6_3).f1), .int .i64 ((rd_T110 l1_3 x6_3).f2), .slice none 0 0, .slice none 0 0]) ?_ 3 _ rfl; (with_reducible repeat (first | refine Zkn ?_ _ | refine Zkd ?_ | refine Zka ?_ _)); refine Zkp (cs := #[.int .i64 ((rd_T110 l1_3 x6_3).f0), .int .i64 ((rd_T110 l1_3 x6_3).f1), .int .i64 0, .slice none 0 0, .slice none 0 0]) ?_ 2 _ rfl; (with_reducible repeat (first | refine Zkn ?_ _ | refine Zkd ?_ | refine Zka ?_ _)); refine Zkp (cs := #[.int .i64 ((rd_T110 l1_3 x6_3).f0), .int .i64 0, .int .i64 0, .slice none 0 0, .slice none 0 0]) ?_ 1 _ rfl; (with_reducible repeat (first | refine Zkn ?_ _ | refine Zkd ?_ | refine Zka ?_ _)); refine Zkp (cs := #[.int .i64 0, .int .i64 0, .int .i64 0, .slice none 0 0, .slice none 0 0]) ?_ 0 _ rfl; (with_reducible repeat (first | refine Zkn ?_ _ | refine Zkd ?_ | refine Zka ?_ _)); exact BK129.out⟩, ⟨by repeat (first | (with_reducible first | exact HB.out | apply Zba | apply Zbn | apply Zbd | refine Zbs ?_ GE116.out | refine Zbs ?_ GE117.out | refine Zbs ?_ GE127.out | refine Zbs ?_ GE129.out) | exact HB.out)⟩⟩
                    rw [if_pos c71] at H
                    have c71b0 : (((rd_T110 l0_3 x6_3).f1) == ((rd_T110 l1_3 x6_3).f1)) = true := beq_iff_eq.mpr c71
                    have c71b1 : (((rd_T110 l0_3 x6_3).f1) != ((rd_T110 l1_3 x6_3).f1)) = false := bne_eq_false_iff_eq.mpr c71
                    clear c71
                    by_cases c72 : ((rd_T110 l0_3 x6_3).f2) = ((rd_T110 l1_3 x6_3).f2)
                    rotate_left
                    · rw [if_neg c72] at H
                      have c72b0 : (((rd_T110 l0_3 x6_3).f2) == ((rd_T110 l1_3 x6_3).f2)) = false := beq_eq_false_iff_ne.mpr c72
                      have c72b1 : (((rd_T110 l0_3 x6_3).f2) != ((rd_T110 l1_3 x6_3).f2)) = true := bne_iff_ne.mpr c72
                      have H' := Zm H
                      clear H
                      have hnb90 := NB127_116.out
                      have hnc90 := NB116_127.out
                      have hnb91 := NB127_117.out
                      have hnc91 := NB117_127.out
                      have hnb92 := NB127_129.out
                      have hnc92 := NB129_127.out
                      have hcz93_0 : w65.cell? ⟨gb127, 0, none⟩ = some (.int .i64 ((rd_T110 l0_3 x6_3).f0)) := (Zkc BK127.out 0).trans rfl
                      have hcz93_1 : w65.cell? ⟨gb127, 1, none⟩ = some (.int .i64 ((rd_T110 l0_3 x6_3).f1)) := (Zkc BK127.out 1).trans rfl
                      have hcz93_2 : w65.cell? ⟨gb127, 2, none⟩ = some (.int .i64 ((rd_T110 l0_3 x6_3).f2)) := (Zkc BK127.out 2).trans rfl
                      have hcz93_3 : w65.cell? ⟨gb127, 3, none⟩ = some (.slice A126_3 ((rd_T110 l0_3 x6_3).f3).length c126_3) := (Zkc BK127.out 3).trans rfl
                      have hcz93_4 : w65.cell? ⟨gb127, 4, none⟩ = some (.slice A126_4 ((rd_T110 l0_3 x6_3).f4).length c126_4) := (Zkc BK127.out 4).trans rfl
                      have hfz93_0 := Zkf BK127.out 0
                      have hfz93_1 := Zkf BK127.out 1
                      have hfz93_2 := Zkf BK127.out 2
                      have hfz93_3 := Zkf BK127.out 3
                      have hfz93_4 := Zkf BK127.out 4
                      have hnb94 := NB129_116.out
                      have hnc94 := NB116_129.out
                      have hnb95 := NB129_117.out
                      have hnc95 := NB117_129.out
                      have hcz96_0 : w65.cell? ⟨gb129, 0, none⟩ = some (.int .i64 0) := (Zkc BK129.out 0).trans rfl
                      have hcz96_1 : w65.cell? ⟨gb129, 1, none⟩ = some (.int .i64 0) := (Zkc BK129.out 1).trans rfl
                      have hcz96_2 : w65.cell? ⟨gb129, 2, none⟩ = some (.int .i64 0) := (Zkc BK129.out 2).trans rfl
                      have hcz96_3 : w65.cell? ⟨gb129, 3, none⟩ = some (.slice none 0 0) := (Zkc BK129.out 3).trans rfl
                      have hcz96_4 : w65.cell? ⟨gb129, 4, none⟩ = some (.slice none 0 0) := (Zkc BK129.out 4).trans rfl
                      have hfz96_0 := Zkf BK129.out 0
                      have hfz96_1 := Zkf BK129.out 1
                      have hfz96_2 := Zkf BK129.out 2
                      have hfz96_3 := Zkf BK129.out 3
                      have hfz96_4 := Zkf BK129.out 4
                      go_wp2
                      go_meet
                      case rel => exact ⟨_, (true), (by first | rfl | (simp; done) | (simp [*]; done)), H', ⟨by have := HJ2.out; have := HK2.out; have := HK3.out; first | omega | exact Nat.le_refl _⟩, ⟨by (with_reducible repeat (first | refine Zkn ?_ _ | refine Zkd ?_ | refine Zka ?_ _)); refine Zkr ?_ NB116_129.out _; (with_reducible repeat (first | refine Zkn ?_ _ | refine Zkd ?_ | refine Zka ?_ _)); refine Zkr ?_ NB116_129.out _; (with_reducible repeat (first | refine Zkn ?_ _ | refine Zkd ?_ | refine Zka ?_ _)); refine Zkr ?_ NB116_129.out _; (with_reducible repeat (first | refine Zkn ?_ _ | refine Zkd ?_ | refine Zka ?_ _)); refine Zkr ?_ NB116_129.out _; (with_reducible repeat (first | refine Zkn ?_ _ | refine Zkd ?_ | refine Zka ?_ _)); refine Zkr ?_ NB116_129.out _; (with_reducible repeat (first | refine Zkn ?_ _ | refine Zkd ?_ | refine Zka ?_ _)); exact BK116.out⟩, ⟨by (with_reducible repeat (first | refine Zkn ?_ _ | refine Zkd ?_ | refine Zka ?_ _)); refine Zkr ?_ NB117_129.out _; (with_reducible repeat (first | refine Zkn ?_ _ | refine Zkd ?_ | refine Zka ?_ _)); refine Zkr ?_ NB117_129.out _; (with_reducible repeat (first | refine Zkn ?_ _ | refine Zkd ?_ | refine Zka ?_ _)); refine Zkr ?_ NB117_129.out _; (with_reducible repeat (first | refine Zkn ?_ _ | refine Zkd ?_ | refine Zka ?_ _)); refine Zkr ?_ NB117_129.out _; (with_reducible repeat (first | refine Zkn ?_ _ | refine Zkd ?_ | refine Zka ?_ _)); refine Zkr ?_ NB117_129.out _; (with_reducible repeat (first | refine Zkn ?_ _ | refine Zkd ?_ | refine Zka ?_ _)); exact BK117.out⟩, ⟨by (with_reducible repeat (first | refine Zkn ?_ _ | refine Zkd ?_ | refine Zka ?_ _)); refine Zkr ?_ NB127_129.out _; (with_reducible repeat (first | refine Zkn ?_ _ | refine Zkd ?_ | refine Zka ?_ _)); refine Zkr ?_ NB127_129.out _; (with_reducible repeat (first | refine Zkn ?_ _ | refine Zkd ?_ | refine Zka ?_ _)); refine Zkr ?_ NB127_129.out _; (with_reducible repeat (first | refine Zkn ?_ _ | refine Zkd ?_ | refine Zka ?_ _)); refine Zkr ?_ NB127_129.out _; (with_reducible repeat (first | refine Zkn ?_ _ | refine Zkd ?_ | refine Zka ?_ _)); refine Zkr ?_ NB127_129.out _; (with_reducible repeat (first | refine Zkn ?_ _ | refine Zkd ?_ | refine Zka ?_ _)); exact BK127.out⟩, ⟨by (with_reducible repeat (first | refine Zkn ?_ _ | refine Zkd ?_ | refine Zka ?_ _)); refine Zkp (cs := #[.int .i64 ((rd_T110 l1_3 x6_3).f0), .int .i64 ((rd_T110 l1_3 x6_3).f1), .int .i64 ((rd_T110 l1_3 x6_3).f2), .slice A128_3 ((rd_T110 l1_3 x6_3).f3).length c128_3, .slice none 0 0]) ?_ 4 _ rfl; (with_reducible repeat (first | refine Zkn ?_ _ | refine Zkd ?_ | refine Zka ?_ _)); refine Zkp (cs := #[.int .i64 ((rd_T110 l1_3 x6_3).f0), .int .i64 ((rd_T110 l1_3 x6_3).f1), .int .i64 ((rd_T110 l1_3 x6_3).f2), .slice none 0 0, .slice none 0 0]) ?_ 3 _ rfl; (with_reducible repeat (first | refine Zkn ?_ _ | refine Zkd ?_ | refine Zka ?_ _)); refine Zkp (cs := #[.int .i64 ((rd_T110 l1_3 x6_3).f0), .int .i64 ((rd_T110 l1_3 x6_3).f1), .int .i64 0, .slice none 0 0, .slice none 0 0]) ?_ 2 _ rfl; (with_reducible repeat (first | refine Zkn ?_ _ | refine Zkd ?_ | refine Zka ?_ _)); refine Zkp (cs := #[.int .i64 ((rd_T110 l1_3 x6_3).f0), .int .i64 0, .int .i64 0, .slice none 0 0, .slice none 0 0]) ?_ 1 _ rfl; (with_reducible repeat (first | refine Zkn ?_ _ | refine Zkd ?_ | refine Zka ?_ _)); refine Zkp (cs := #[.int .i64 0, .int .i64 0, .int .i64 0, .slice none 0 0, .slice none 0 0]) ?_ 0 _ rfl; (with_reducible repeat (first | refine Zkn ?_ _ | refine Zkd ?_ | refine Zka ?_ _)); exact BK129.out⟩, ⟨by repeat (first | (with_reducible first | exact HB.out | apply Zba | apply Zbn | apply Zbd | refine Zbs ?_ GE116.out | refine Zbs ?_ GE117.out | refine Zbs ?_ GE127.out | refine Zbs ?_ GE129.out) | exact HB.out)⟩⟩
                    rw [if_pos c72] at H
                    have c72b0 : (((rd_T110 l0_3 x6_3).f2) == ((rd_T110 l1_3 x6_3).f2)) = true := beq_iff_eq.mpr c72
                    have c72b1 : (((rd_T110 l0_3 x6_3).f2) != ((rd_T110 l1_3 x6_3).f2)) = false := bne_eq_false_iff_eq.mpr c72
                    clear c72
                    replace H := Option.bind_eq_some_iff.mp H
                    obtain ⟨t130, A730, H⟩ := H
                    replace H : (if t130 = true then ((spec_l12Nums.f k3 ((rd_T110 l0_3 x6_3).f4) ((rd_T110 l1_3 x6_3).f4)).bind fun t131 => (spec_BareSame.j4 k3 x6_3 (!t131) l0_0 a0_1 l0_2 l0_3 a0_4 a0_5 a0_6 a0_7 l1_0 a1_1 l1_2 l1_3 a1_4 a1_5 a1_6 a1_7)) else (spec_BareSame.j4 k3 x6_3 true l0_0 a0_1 l0_2 l0_3 a0_4 a0_5 a0_6 a0_7 l1_0 a1_1 l1_2 l1_3 a1_4 a1_5 a1_6 a1_7)) = some r := H
                    have A73 := Zm A730
                    clear A730
                    by_cases c74 : t130 = true
                    rotate_left
                    · replace c74 := Bool.eq_false_iff.mpr c74
                      subst c74
                      have H1 : (spec_BareSame.j4 k3 x6_3 true l0_0 a0_1 l0_2 l0_3 a0_4 a0_5 a0_6 a0_7 l1_0 a1_1 l1_2 l1_3 a1_4 a1_5 a1_6 a1_7) = some r := by rw [if_neg (show ¬ (false = true) by decide)] at H; exact H
                      clear H
                      have H := H1
                      clear H1
                      have H' := Zm H
                      clear H
                      have hnb83 := NB127_116.out
                      have hnc83 := NB116_127.out
                      have hnb84 := NB127_117.out
                      have hnc84 := NB117_127.out
                      have hnb85 := NB127_129.out
                      have hnc85 := NB129_127.out
                      have hcz86_0 : w65.cell? ⟨gb127, 0, none⟩ = some (.int .i64 ((rd_T110 l0_3 x6_3).f0)) := (Zkc BK127.out 0).trans rfl
                      have hcz86_1 : w65.cell? ⟨gb127, 1, none⟩ = some (.int .i64 ((rd_T110 l0_3 x6_3).f1)) := (Zkc BK127.out 1).trans rfl
                      have hcz86_2 : w65.cell? ⟨gb127, 2, none⟩ = some (.int .i64 ((rd_T110 l0_3 x6_3).f2)) := (Zkc BK127.out 2).trans rfl
                      have hcz86_3 : w65.cell? ⟨gb127, 3, none⟩ = some (.slice A126_3 ((rd_T110 l0_3 x6_3).f3).length c126_3) := (Zkc BK127.out 3).trans rfl
                      have hcz86_4 : w65.cell? ⟨gb127, 4, none⟩ = some (.slice A126_4 ((rd_T110 l0_3 x6_3).f4).length c126_4) := (Zkc BK127.out 4).trans rfl
                      have hfz86_0 := Zkf BK127.out 0
                      have hfz86_1 := Zkf BK127.out 1
                      have hfz86_2 := Zkf BK127.out 2
                      have hfz86_3 := Zkf BK127.out 3
                      have hfz86_4 := Zkf BK127.out 4
                      have hnb87 := NB129_116.out
                      have hnc87 := NB116_129.out
                      have hnb88 := NB129_117.out
                      have hnc88 := NB117_129.out
                      have hcz89_0 : w65.cell? ⟨gb129, 0, none⟩ = some (.int .i64 0) := (Zkc BK129.out 0).trans rfl
                      have hcz89_1 : w65.cell? ⟨gb129, 1, none⟩ = some (.int .i64 0) := (Zkc BK129.out 1).trans rfl
                      have hcz89_2 : w65.cell? ⟨gb129, 2, none⟩ = some (.int .i64 0) := (Zkc BK129.out 2).trans rfl
                      have hcz89_3 : w65.cell? ⟨gb129, 3, none⟩ = some (.slice none 0 0) := (Zkc BK129.out 3).trans rfl
                      have hcz89_4 : w65.cell? ⟨gb129, 4, none⟩ = some (.slice none 0 0) := (Zkc BK129.out 4).trans rfl
                      have hfz89_0 := Zkf BK129.out 0
                      have hfz89_1 := Zkf BK129.out 1
                      have hfz89_2 := Zkf BK129.out 2
                      have hfz89_3 := Zkf BK129.out 3
                      have hfz89_4 := Zkf BK129.out 4
                      go_wp2_with (first | (go_at_call 52; (first | (with_reducible refine (spec_l12Nums.calls k3 _ _ ((rd_T110 l0_3 x6_3).f3) _ _ ((rd_T110 l1_3 x6_3).f3) false _ ?side1 ?side2 ?side3 ?side4 A73.out).mono ?_) | (with_reducible refine (calls_of_args ?_ (spec_l12Nums.calls k3 _ _ ((rd_T110 l0_3 x6_3).f3) _ _ ((rd_T110 l1_3 x6_3).f3) false _ ?side1 ?side2 ?side3 ?side4 A73.out)).mono ?_; focus (simp [*]; done))); (case side1 => exact Kd.C_below HR126_3.out (by repeat (first | (with_reducible first | exact HB.out | apply Zba | apply Zbn | apply Zbd | refine Zbs ?_ GE116.out | refine Zbs ?_ GE117.out | refine Zbs ?_ GE127.out | refine Zbs ?_ GE129.out) | exact HB.out))); (case side2 => exact HC126_3.out); (case side3 => exact Kd.C_below HR128_3.out (by repeat (first | (with_reducible first | exact HB.out | apply Zba | apply Zbn | apply Zbd | refine Zbs ?_ GE116.out | refine Zbs ?_ GE117.out | refine Zbs ?_ GE127.out | refine Zbs ?_ GE129.out) | exact HB.out))); (case side4 => exact HC128_3.out); rintro e w' ⟨rfl, ⟨nd, rfl⟩⟩))
                      go_meet
                      case rel => exact ⟨_, (true), (by first | rfl | (simp; done) | (simp [*]; done)), H', ⟨by have := HJ2.out; have := HK2.out; have := HK3.out; first | omega | exact Nat.le_refl _⟩, ⟨by (with_reducible repeat (first | refine Zkn ?_ _ | refine Zkd ?_ | refine Zka ?_ _)); refine Zkr ?_ NB116_129.out _; (with_reducible repeat (first | refine Zkn ?_ _ | refine Zkd ?_ | refine Zka ?_ _)); refine Zkr ?_ NB116_129.out _; (with_reducible repeat (first | refine Zkn ?_ _ | refine Zkd ?_ | refine Zka ?_ _)); refine Zkr ?_ NB116_129.out _; (with_reducible repeat (first | refine Zkn ?_ _ | refine Zkd ?_ | refine Zka ?_ _)); refine Zkr ?_ NB116_129.out _; (with_reducible repeat (first | refine Zkn ?_ _ | refine Zkd ?_ | refine Zka ?_ _)); refine Zkr ?_ NB116_129.out _; (with_reducible repeat (first | refine Zkn ?_ _ | refine Zkd ?_ | refine Zka ?_ _)); exact BK116.out⟩, ⟨by (with_reducible repeat (first | refine Zkn ?_ _ | refine Zkd ?_ | refine Zka ?_ _)); refine Zkr ?_ NB117_129.out _; (with_reducible repeat (first | refine Zkn ?_ _ | refine Zkd ?_ | refine Zka ?_ _)); refine Zkr ?_ NB117_129.out _; (with_reducible repeat (first | refine Zkn ?_ _ | refine Zkd ?_ | refine Zka ?_ _)); refine Zkr ?_ NB117_129.out _; (with_reducible repeat (first | refine Zkn ?_ _ | refine Zkd ?_ | refine Zka ?_ _)); refine Zkr ?_ NB117_129.out _; (with_reducible repeat (first | refine Zkn ?_ _ | refine Zkd ?_ | refine Zka ?_ _)); refine Zkr ?_ NB117_129.out _; (with_reducible repeat (first | refine Zkn ?_ _ | refine Zkd ?_ | refine Zka ?_ _)); exact BK117.out⟩, ⟨by (with_reducible repeat (first | refine Zkn ?_ _ | refine Zkd ?_ | refine Zka ?_ _)); refine Zkr ?_ NB127_129.out _; (with_reducible repeat (first | refine Zkn ?_ _ | refine Zkd ?_ | refine Zka ?_ _)); refine Zkr ?_ NB127_129.out _; (with_reducible repeat (first | refine Zkn ?_ _ | refine Zkd ?_ | refine Zka ?_ _)); refine Zkr ?_ NB127_129.out _; (with_reducible repeat (first | refine Zkn ?_ _ | refine Zkd ?_ | refine Zka ?_ _)); refine Zkr ?_ NB127_129.out _; (with_reducible repeat (first | refine Zkn ?_ _ | refine Zkd ?_ | refine Zka ?_ _)); refine Zkr ?_ NB127_129.out _; (with_reducible repeat (first | refine Zkn ?_ _ | refine Zkd ?_ | refine Zka ?_ _)); exact BK127.out⟩, ⟨by (with_reducible repeat (first | refine Zkn ?_ _ | refine Zkd ?_ | refine Zka ?_ _)); refine Zkp (cs := #[.int .i64 ((rd_T110 l1_3 x6_3).f0), .int .i64 ((rd_T110 l1_3 x6_3).f1), .int .i64 ((rd_T110 l1_3 x6_3).f2), .slice A128_3 ((rd_T110 l1_3 x6_3).f3).length c128_3, .slice none 0 0]) ?_ 4 _ rfl; (with_reducible repeat (first | refine Zkn ?_ _ | refine Zkd ?_ | refine Zka ?_ _)); refine Zkp (cs := #[.int .i64 ((rd_T110 l1_3 x6_3).f0), .int .i64 ((rd_T110 l1_3 x6_3).f1), .int .i64 ((rd_T110 l1_3 x6_3).f2), .slice none 0 0, .slice none 0 0]) ?_ 3 _ rfl; (with_reducible repeat (first | refine Zkn ?_ _ | refine Zkd ?_ | refine Zka ?_ _)); refine Zkp (cs := #[.int .i64 ((rd_T110 l1_3 x6_3).f0), .int .i64 ((rd_T110 l1_3 x6_3).f1), .int .i64 0, .slice none 0 0, .slice none 0 0]) ?_ 2 _ rfl; (with_reducible repeat (first | refine Zkn ?_ _ | refine Zkd ?_ | refine Zka ?_ _)); refine Zkp (cs := #[.int .i64 ((rd_T110 l1_3 x6_3).f0), .int .i64 0, .int .i64 0, .slice none 0 0, .slice none 0 0]) ?_ 1 _ rfl; (with_reducible repeat (first | refine Zkn ?_ _ | refine Zkd ?_ | refine Zka ?_ _)); refine Zkp (cs := #[.int .i64 0, .int .i64 0, .int .i64 0, .slice none 0 0, .slice none 0 0]) ?_ 0 _ rfl; (with_reducible repeat (first | refine Zkn ?_ _ | refine Zkd ?_ | refine Zka ?_ _)); exact BK129.out⟩, ⟨by repeat (first | (with_reducible first | exact HB.out | apply Zba | apply Zbn | apply Zbd | refine Zbs ?_ GE116.out | refine Zbs ?_ GE117.out | refine Zbs ?_ GE127.out | refine Zbs ?_ GE129.out) | exact HB.out)⟩⟩
                    subst c74
                    have H1 : ((spec_l12Nums.f k3 ((rd_T110 l0_3 x6_3).f4) ((rd_T110 l1_3 x6_3).f4)).bind fun t131 => (spec_BareSame.j4 k3 x6_3 (!t131) l0_0 a0_1 l0_2 l0_3 a0_4 a0_5 a0_6 a0_7 l1_0 a1_1 l1_2 l1_3 a1_4 a1_5 a1_6 a1_7)) = some r := by rw [if_pos rfl] at H; exact H
                    clear H
                    have H := H1
                    clear H1
                    replace H := Option.bind_eq_some_iff.mp H
                    obtain ⟨t131, A750, H⟩ := H
                    replace H : (spec_BareSame.j4 k3 x6_3 (!t131) l0_0 a0_1 l0_2 l0_3 a0_4 a0_5 a0_6 a0_7 l1_0 a1_1 l1_2 l1_3 a1_4 a1_5 a1_6 a1_7) = some r := H
                    have A75 := Zm A750
                    clear A750
                    have H' := Zm H
                    clear H
                    have hnb76 := NB127_116.out
                    have hnc76 := NB116_127.out
                    have hnb77 := NB127_117.out
                    have hnc77 := NB117_127.out
                    have hnb78 := NB127_129.out
                    have hnc78 := NB129_127.out
                    have hcz79_0 : w65.cell? ⟨gb127, 0, none⟩ = some (.int .i64 ((rd_T110 l0_3 x6_3).f0)) := (Zkc BK127.out 0).trans rfl
                    have hcz79_1 : w65.cell? ⟨gb127, 1, none⟩ = some (.int .i64 ((rd_T110 l0_3 x6_3).f1)) := (Zkc BK127.out 1).trans rfl
                    have hcz79_2 : w65.cell? ⟨gb127, 2, none⟩ = some (.int .i64 ((rd_T110 l0_3 x6_3).f2)) := (Zkc BK127.out 2).trans rfl
                    have hcz79_3 : w65.cell? ⟨gb127, 3, none⟩ = some (.slice A126_3 ((rd_T110 l0_3 x6_3).f3).length c126_3) := (Zkc BK127.out 3).trans rfl
                    have hcz79_4 : w65.cell? ⟨gb127, 4, none⟩ = some (.slice A126_4 ((rd_T110 l0_3 x6_3).f4).length c126_4) := (Zkc BK127.out 4).trans rfl
                    have hfz79_0 := Zkf BK127.out 0
                    have hfz79_1 := Zkf BK127.out 1
                    have hfz79_2 := Zkf BK127.out 2
                    have hfz79_3 := Zkf BK127.out 3
                    have hfz79_4 := Zkf BK127.out 4
                    have hnb80 := NB129_116.out
                    have hnc80 := NB116_129.out
                    have hnb81 := NB129_117.out
                    have hnc81 := NB117_129.out
                    have hcz82_0 : w65.cell? ⟨gb129, 0, none⟩ = some (.int .i64 0) := (Zkc BK129.out 0).trans rfl
                    have hcz82_1 : w65.cell? ⟨gb129, 1, none⟩ = some (.int .i64 0) := (Zkc BK129.out 1).trans rfl
                    have hcz82_2 : w65.cell? ⟨gb129, 2, none⟩ = some (.int .i64 0) := (Zkc BK129.out 2).trans rfl
                    have hcz82_3 : w65.cell? ⟨gb129, 3, none⟩ = some (.slice none 0 0) := (Zkc BK129.out 3).trans rfl
                    have hcz82_4 : w65.cell? ⟨gb129, 4, none⟩ = some (.slice none 0 0) := (Zkc BK129.out 4).trans rfl
                    have hfz82_0 := Zkf BK129.out 0
                    have hfz82_1 := Zkf BK129.out 1
                    have hfz82_2 := Zkf BK129.out 2
                    have hfz82_3 := Zkf BK129.out 3
                    have hfz82_4 := Zkf BK129.out 4
                    go_wp2_with (first | (go_at_call 52; (first | (with_reducible refine (spec_l12Nums.calls k3 _ _ ((rd_T110 l0_3 x6_3).f3) _ _ ((rd_T110 l1_3 x6_3).f3) true _ ?side1 ?side2 ?side3 ?side4 A73.out).mono ?_) | (with_reducible refine (calls_of_args ?_ (spec_l12Nums.calls k3 _ _ ((rd_T110 l0_3 x6_3).f3) _ _ ((rd_T110 l1_3 x6_3).f3) true _ ?side1 ?side2 ?side3 ?side4 A73.out)).mono ?_; focus (simp [*]; done))); (case side1 => exact Kd.C_below HR126_3.out (by repeat (first | (with_reducible first | exact HB.out | apply Zba | apply Zbn | apply Zbd | refine Zbs ?_ GE116.out | refine Zbs ?_ GE117.out | refine Zbs ?_ GE127.out | refine Zbs ?_ GE129.out) | exact HB.out))); (case side2 => exact HC126_3.out); (case side3 => exact Kd.C_below HR128_3.out (by repeat (first | (with_reducible first | exact HB.out | apply Zba | apply Zbn | apply Zbd | refine Zbs ?_ GE116.out | refine Zbs ?_ GE117.out | refine Zbs ?_ GE127.out | refine Zbs ?_ GE129.out) | exact HB.out))); (case side4 => exact HC128_3.out); rintro e w' ⟨rfl, ⟨nd, rfl⟩⟩) | (go_at_call 52; (first | (with_reducible refine (spec_l12Nums.calls k3 _ _ ((rd_T110 l0_3 x6_3).f4) _ _ ((rd_T110 l1_3 x6_3).f4) t131 _ ?side1 ?side2 ?side3 ?side4 A75.out).mono ?_) | (with_reducible refine (calls_of_args ?_ (spec_l12Nums.calls k3 _ _ ((rd_T110 l0_3 x6_3).f4) _ _ ((rd_T110 l1_3 x6_3).f4) t131 _ ?side1 ?side2 ?side3 ?side4 A75.out)).mono ?_; focus (simp [*]; done))); (case side1 => exact Kd.C_below HR126_4.out (by repeat (first | (with_reducible first | exact HB.out | apply Zba | apply Zbn | apply Zbd | refine Zbs ?_ GE116.out | refine Zbs ?_ GE117.out | refine Zbs ?_ GE127.out | refine Zbs ?_ GE129.out) | exact HB.out))); (case side2 => exact HC126_4.out); (case side3 => exact Kd.C_below HR128_4.out (by repeat (first | (with_reducible first | exact HB.out | apply Zba | apply Zbn | apply Zbd | refine Zbs ?_ GE116.out | refine Zbs ?_ GE117.out | refine Zbs ?_ GE127.out | refine Zbs ?_ GE129.out) | exact HB.out))); (case side4 => exact HC128_4.out); rintro e w' ⟨rfl, ⟨nd, rfl⟩⟩))
                    go_meet
                    case rel => exact ⟨_, (!t131), (by first | rfl | (simp; done) | (simp [*]; done)), H', ⟨by have := HJ2.out; have := HK2.out; have := HK3.out; first | omega | exact Nat.le_refl _⟩, ⟨by (with_reducible repeat (first | refine Zkn ?_ _ | refine Zkd ?_ | refine Zka ?_ _)); refine Zkr ?_ NB116_129.out _; (with_reducible repeat (first | refine Zkn ?_ _ | refine Zkd ?_ | refine Zka ?_ _)); refine Zkr ?_ NB116_129.out _; (with_reducible repeat (first | refine Zkn ?_ _ | refine Zkd ?_ | refine Zka ?_ _)); refine Zkr ?_ NB116_129.out _; (with_reducible repeat (first | refine Zkn ?_ _ | refine Zkd ?_ | refine Zka ?_ _)); refine Zkr ?_ NB116_129.out _; (with_reducible repeat (first | refine Zkn ?_ _ | refine Zkd ?_ | refine Zka ?_ _)); refine Zkr ?_ NB116_129.out _; (with_reducible repeat (first | refine Zkn ?_ _ | refine Zkd ?_ | refine Zka ?_ _)); exact BK116.out⟩, ⟨by (with_reducible repeat (first | refine Zkn ?_ _ | refine Zkd ?_ | refine Zka ?_ _)); refine Zkr ?_ NB117_129.out _; (with_reducible repeat (first | refine Zkn ?_ _ | refine Zkd ?_ | refine Zka ?_ _)); refine Zkr ?_ NB117_129.out _; (with_reducible repeat (first | refine Zkn ?_ _ | refine Zkd ?_ | refine Zka ?_ _)); refine Zkr ?_ NB117_129.out _; (with_reducible repeat (first | refine Zkn ?_ _ | refine Zkd ?_ | refine Zka ?_ _)); refine Zkr ?_ NB117_129.out _; (with_reducible repeat (first | refine Zkn ?_ _ | refine Zkd ?_ | refine Zka ?_ _)); refine Zkr ?_ NB117_129.out _; (with_reducible repeat (first | refine Zkn ?_ _ | refine Zkd ?_ | refine Zka ?_ _)); exact BK117.out⟩, ⟨by (with_reducible repeat (first | refine Zkn ?_ _ | refine Zkd ?_ | refine Zka ?_ _)); refine Zkr ?_ NB127_129.out _; (with_reducible repeat (first | refine Zkn ?_ _ | refine Zkd ?_ | refine Zka ?_ _)); refine Zkr ?_ NB127_129.out _; (with_reducible repeat (first | refine Zkn ?_ _ | refine Zkd ?_ | refine Zka ?_ _)); refine Zkr ?_ NB127_129.out _; (with_reducible repeat (first | refine Zkn ?_ _ | refine Zkd ?_ | refine Zka ?_ _)); refine Zkr ?_ NB127_129.out _; (with_reducible repeat (first | refine Zkn ?_ _ | refine Zkd ?_ | refine Zka ?_ _)); refine Zkr ?_ NB127_129.out _; (with_reducible repeat (first | refine Zkn ?_ _ | refine Zkd ?_ | refine Zka ?_ _)); exact BK127.out⟩, ⟨by (with_reducible repeat (first | refine Zkn ?_ _ | refine Zkd ?_ | refine Zka ?_ _)); refine Zkp (cs := #[.int .i64 ((rd_T110 l1_3 x6_3).f0), .int .i64 ((rd_T110 l1_3 x6_3).f1), .int .i64 ((rd_T110 l1_3 x6_3).f2), .slice A128_3 ((rd_T110 l1_3 x6_3).f3).length c128_3, .slice none 0 0]) ?_ 4 _ rfl; (with_reducible repeat (first | refine Zkn ?_ _ | refine Zkd ?_ | refine Zka ?_ _)); refine Zkp (cs := #[.int .i64 ((rd_T110 l1_3 x6_3).f0), .int .i64 ((rd_T110 l1_3 x6_3).f1), .int .i64 ((rd_T110 l1_3 x6_3).f2), .slice none 0 0, .slice none 0 0]) ?_ 3 _ rfl; (with_reducible repeat (first | refine Zkn ?_ _ | refine Zkd ?_ | refine Zka ?_ _)); refine Zkp (cs := #[.int .i64 ((rd_T110 l1_3 x6_3).f0), .int .i64 ((rd_T110 l1_3 x6_3).f1), .int .i64 0, .slice none 0 0, .slice none 0 0]) ?_ 2 _ rfl; (with_reducible repeat (first | refine Zkn ?_ _ | refine Zkd ?_ | refine Zka ?_ _)); refine Zkp (cs := #[.int .i64 ((rd_T110 l1_3 x6_3).f0), .int .i64 0, .int .i64 0, .slice none 0 0, .slice none 0 0]) ?_ 1 _ rfl; (with_reducible repeat (first | refine Zkn ?_ _ | refine Zkd ?_ | refine Zka ?_ _)); refine Zkp (cs := #[.int .i64 0, .int .i64 0, .int .i64 0, .slice none 0 0, .slice none 0 0]) ?_ 0 _ rfl; (with_reducible repeat (first | refine Zkn ?_ _ | refine Zkd ?_ | refine Zka ?_ _)); exact BK129.out⟩, ⟨by repeat (first | (with_reducible first | exact HB.out | apply Zba | apply Zbn | apply Zbd | refine Zbs ?_ GE116.out | refine Zbs ?_ GE117.out | refine Zbs ?_ GE127.out | refine Zbs ?_ GE129.out) | exact HB.out)⟩⟩
                  case rest =>
                    clear HC57
                    (try clear c1); (try clear p1); (try clear q1); (try clear hx1); (try clear p2); (try clear c3); (try clear c4); (try clear c5); (try clear c6); (try clear p6); (try clear c7); (try clear c8); (try clear c9); (try clear c10); (try clear c11); (try clear p11); (try clear q11); (try clear hx11); (try clear c12); (try clear p12); (try clear q12); (try clear hx12); (try clear c39); (try clear c39b0); (try clear c43); (try clear c44); (try clear c45); (try clear c45b0); (try clear c45b1); (try clear c51); (try clear c52); (try clear c54); (try clear c54b0); (try clear c55); (try clear c55b0); (try clear c56); (try clear c56b0); (try clear c58); (try clear c61); (try clear c62); (try clear p64); (try clear c66); (try clear c67); (try clear c68); (try clear c70); (try clear c70b0); (try clear c70b1); (try clear c71); (try clear c71b0); (try clear c71b1); (try clear c72); (try clear c72b0); (try clear c72b1); (try clear c74); (try clear c76); (try clear c77); (try clear c78); (try clear c80); (try clear c81); (try clear c83); (try clear c84); (try clear c85); (try clear c87); (try clear c88); (try clear c90); (try clear c91); (try clear c92); (try clear c94); (try clear c95); (try clear c97); (try clear c98); (try clear c99); (try clear c101); (try clear c102); (try clear c104); (try clear c105); (try clear c106); (try clear c108); (try clear c109); (try clear hcz100_0); (try clear hcz100_1); (try clear hcz100_2); (try clear hcz100_3); (try clear hcz100_4); (try clear hcz103_0); (try clear hcz103_1); (try clear hcz103_2); (try clear hcz103_3); (try clear hcz103_4); (try clear hcz107_0); (try clear hcz107_1); (try clear hcz107_2); (try clear hcz107_3); (try clear hcz107_4); (try clear hcz110_0); (try clear hcz110_1); (try clear hcz110_2); (try clear hcz110_3); (try clear hcz110_4); (try clear hcz53_0); (try clear hcz53_1); (try clear hcz53_2); (try clear hcz53_3); (try clear hcz53_4); (try clear hcz53_5); (try clear hcz53_6); (try clear hcz53_7); (try clear hcz59_0); (try clear hcz59_1); (try clear hcz59_2); (try clear hcz59_3); (try clear hcz59_4); (try clear hcz59_5); (try clear hcz59_6); (try clear hcz59_7); (try clear hcz63_0); (try clear hcz63_1); (try clear hcz63_2); (try clear hcz63_3); (try clear hcz63_4); (try clear hcz64_0); (try clear hcz64_1); (try clear hcz64_2); (try clear hcz64_3); (try clear hcz64_4); (try clear hcz64_5); (try clear hcz64_6); (try clear hcz64_7); (try clear hcz69_0); (try clear hcz69_1); (try clear hcz69_2); (try clear hcz69_3); (try clear hcz69_4); (try clear hcz79_0); (try clear hcz79_1); (try clear hcz79_2); (try clear hcz79_3); (try clear hcz79_4); (try clear hcz82_0); (try clear hcz82_1); (try clear hcz82_2); (try clear hcz82_3); (try clear hcz82_4); (try clear hcz86_0); (try clear hcz86_1); (try clear hcz86_2); (try clear hcz86_3); (try clear hcz86_4); (try clear hcz89_0); (try clear hcz89_1); (try clear hcz89_2); (try clear hcz89_3); (try clear hcz89_4); (try clear hcz93_0); (try clear hcz93_1); (try clear hcz93_2); (try clear hcz93_3); (try clear hcz93_4); (try clear hcz96_0); (try clear hcz96_1); (try clear hcz96_2); (try clear hcz96_3); (try clear hcz96_4); (try clear hfz100_0); (try clear hfz100_1); (try clear hfz100_2); (try clear hfz100_3); (try clear hfz100_4); (try clear hfz103_0); (try clear hfz103_1); (try clear hfz103_2); (try clear hfz103_3); (try clear hfz103_4); (try clear hfz107_0); (try clear hfz107_1); (try clear hfz107_2); (try clear hfz107_3); (try clear hfz107_4); (try clear hfz110_0); (try clear hfz110_1); (try clear hfz110_2); (try clear hfz110_3); (try clear hfz110_4); (try clear hfz63_0); (try clear hfz63_1); (try clear hfz63_2); (try clear hfz63_3); (try clear hfz63_4); (try clear hfz69_0); (try clear hfz69_1); (try clear hfz69_2); (try clear hfz69_3); (try clear hfz69_4); (try clear hfz79_0); (try clear hfz79_1); (try clear hfz79_2); (try clear hfz79_3); (try clear hfz79_4); (try clear hfz82_0); (try clear hfz82_1); (try clear hfz82_2); (try clear hfz82_3); (try clear hfz82_4); (try clear hfz86_0); (try clear hfz86_1); (try clear hfz86_2); (try clear hfz86_3); (try clear hfz86_4); (try clear hfz89_0); (try clear hfz89_1); (try clear hfz89_2); (try clear hfz89_3); (try clear hfz89_4); (try clear hfz93_0); (try clear hfz93_1); (try clear hfz93_2); (try clear hfz93_3); (try clear hfz93_4); (try clear hfz96_0); (try clear hfz96_1); (try clear hfz96_2); (try clear hfz96_3); (try clear hfz96_4); (try clear hx119_0); (try clear hx119_1); (try clear hx119_2); (try clear hx120_0); (try clear hx120_1); (try clear hx120_2); (try clear hx126_0); (try clear hx126_1); (try clear hx126_2); (try clear hx126_3); (try clear hx126_4); (try clear hx128_0); (try clear hx128_1); (try clear hx128_2); (try clear hx128_3); (try clear hx128_4); (try clear p1); (try clear p11); (try clear p119); (try clear p12); (try clear p120); (try clear p126); (try clear p128); (try clear p2); (try clear p6); (try clear q1); (try clear q11); (try clear q119); (try clear q12); (try clear q120); (try clear q126); (try clear q128)
                    obtain ⟨kq, x170_56, rfl, HA, HJ56, BK116, BK117, BK127, BK129, HB⟩ := hcut
                    cases kq with
                    | zero => exact absurd HA.out (by simp [spec_BareSame.j4])
                    | succ kj56 =>
                      have H := HA.out
                      clear HA
                      simp only [spec_BareSame.j4] at H
                      by_cases c111 : x170_56 = true
                      rotate_left
                      · replace c111 := Bool.eq_false_iff.mpr c111
                        subst c111
                        have H1 : (spec_BareSame.l1 kj56 (wrap64 (x6_3 + 1)) l0_0 a0_1 l0_2 l0_3 a0_4 a0_5 a0_6 a0_7 l1_0 a1_1 l1_2 l1_3 a1_4 a1_5 a1_6 a1_7) = some r := by rw [if_neg (show ¬ (false = true) by decide)] at H; exact H
                        clear H
                        have H := H1
                        clear H1
                        have H' := Zm H
                        clear H
                        go_wp2
                        go_roundg kj56
                        case measure => have := HJ2.out; have := HK2.out; have := HK3.out; have := HJ56.out; omega
                        case rel => exact ⟨(wrap64 (x6_3 + 1)), (by first | rfl | (simp; done) | (simp [*]; done)), H', ⟨by have := HJ2.out; have := HK2.out; have := HK3.out; have := HJ56.out; omega⟩, ⟨by (with_reducible repeat (first | refine Zkn ?_ _ | refine Zkd ?_ | refine Zka ?_ _)); exact BK116.out⟩, ⟨by (with_reducible repeat (first | refine Zkn ?_ _ | refine Zkd ?_ | refine Zka ?_ _)); exact BK117.out⟩, ⟨by repeat (first | (with_reducible first | exact HB.out | apply Zba | apply Zbn | apply Zbd | refine Zbs ?_ GE116.out | refine Zbs ?_ GE117.out | refine Zbs ?_ GE127.out | refine Zbs ?_ GE129.out) | exact HB.out)⟩⟩
                      subst c111
                      have H1 : (some false) = some r := by rw [if_pos rfl] at H; exact H
                      clear H
                      have H := H1
                      clear H1
                      obtain rfl := Option.some.inj H
                      go_wp2
                      go_ret
                      exact ⟨by first | rfl | (simp [errW_none, errW_some] <;> rfl) | (simp [*, errW_none, errW_some] <;> rfl), by repeat (first | (with_reducible first | exact HB.out | apply Zba | apply Zbn | apply Zbd | refine Zbs ?_ GE116.out | refine Zbs ?_ GE117.out | refine Zbs ?_ GE127.out | refine Zbs ?_ GE129.out) | exact HB.out)⟩
            rw [if_pos c39] at H
            have c39b0 : decide (x5_2 < (l0_0.length : Int)) = true := decide_eq_true c39
            clear c39
            have HC40 := Zm H
            clear H
            have hnb41 := NB116_117.out
            have hnc41 := NB117_116.out
            have hcz42_0 : wr.cell? ⟨gb116, 0, none⟩ = some (.slice A0_0 l0_0.length c0_0) := (Zkc BK116.out 0).trans rfl
            have hcz42_1 : wr.cell? ⟨gb116, 1, none⟩ = some (.int .i64 a0_1) := (Zkc BK116.out 1).trans rfl
            have hcz42_2 : wr.cell? ⟨gb116, 2, none⟩ = some (.slice A0_2 l0_2.length c0_2) := (Zkc BK116.out 2).trans rfl
            have hcz42_3 : wr.cell? ⟨gb116, 3, none⟩ = some (.slice A0_3 l0_3.length c0_3) := (Zkc BK116.out 3).trans rfl
            have hcz42_4 : wr.cell? ⟨gb116, 4, none⟩ = some (.bool a0_4) := (Zkc BK116.out 4).trans rfl
            have hcz42_5 : wr.cell? ⟨gb116, 5, none⟩ = some (.int .i64 a0_5) := (Zkc BK116.out 5).trans rfl
            have hcz42_6 : wr.cell? ⟨gb116, 6, none⟩ = some (.string a0_6) := (Zkc BK116.out 6).trans rfl
            have hcz42_7 : wr.cell? ⟨gb116, 7, none⟩ = some (.int .i64 a0_7) := (Zkc BK116.out 7).trans rfl
            go_upto_region 6 with (fail)
            go_cut [118] (fun v118 wc => ∃ (kq : Nat) (x118_39 : Bool), v118 = .bool x118_39 ∧ Aside0 (spec_BareSame.j2 kq x5_2 x118_39 l0_0 a0_1 l0_2 l0_3 a0_4 a0_5 a0_6 a0_7 l1_0 a1_1 l1_2 l1_3 a1_4 a1_5 a1_6 a1_7 = some r) ∧ Aside0 (kq ≤ k2) ∧ Aside0 (wc.heap[gb116]? = some (.cells #[(.slice A0_0 l0_0.length c0_0), .int .i64 a0_1, (.slice A0_2 l0_2.length c0_2), (.slice A0_3 l0_3.length c0_3), .bool a0_4, .int .i64 a0_5, .string a0_6, .int .i64 a0_7] 39 (0, 0))) ∧ Aside0 (wc.heap[gb117]? = some (.cells #[(.slice A1_0 l1_0.length c1_0), .int .i64 a1_1, (.slice A1_2 l1_2.length c1_2), (.slice A1_3 l1_3.length c1_3), .bool a1_4, .int .i64 a1_5, .string a1_6, .int .i64 a1_7] 39 (0, 0))) ∧ Aside0 (Below w.heap.size w wc))
            case first =>
              have H := HC40.out
              clear HC40
              by_cases c43 : 0 ≤ x5_2
              rotate_left
              · rw [if_neg c43] at H
                exact absurd H (by simp)
              rw [if_pos c43] at H
              have c43b0 : decide (0 ≤ x5_2) = true := decide_eq_true c43
              clear c43
              (first | rw [c43b0] | (simp only [i64_w, i32_w]; rw [c43b0]) | skip)
              by_cases c44 : x5_2 < (l1_0.length : Int)
              rotate_left
              · rw [if_neg c44] at H
                exact absurd H (by simp)
              rw [if_pos c44] at H
              have c44b0 : decide (x5_2 < (l1_0.length : Int)) = true := decide_eq_true c44
              clear c44
              by_cases c45 : ((rd_T108 l0_0 x5_2).f0).toList = ((rd_T108 l1_0 x5_2).f0).toList
              rotate_left
              · rw [if_neg c45] at H
                have c45b0 : (((rd_T108 l0_0 x5_2).f0).toList == ((rd_T108 l1_0 x5_2).f0).toList) = false := beq_eq_false_iff_ne.mpr c45
                have c45b1 : (((rd_T108 l0_0 x5_2).f0).toList != ((rd_T108 l1_0 x5_2).f0).toList) = true := bne_iff_ne.mpr c45
                have H' := Zm H
                clear H
                try go_wp2
                have n0_ := Zm (Zkd BK116.out)
                have n1_ := Zm (Zkd BK117.out)
                have n2_ := Zm (Zbd HB.out)
                clear BK116
                clear BK117
                clear HB
                have BK116 := n0_
                have BK117 := n1_
                have HB := n2_
                clear n0_ n1_ n2_
                have p119 : 0 ≤ (x5_2 : Int) := of_decide_eq_true (by first | (with_reducible assumption) | assumption)
                have q119 : x5_2 < (l0_0.length : Int) := of_decide_eq_true (by first | (with_reducible assumption) | assumption)
                obtain ⟨ad119, A119_2, c119_2, e119, hx119_0, hx119_1, hx119_2, hl119_2, hi119_2⟩ := at_T108 HR0_0.out x5_2 p119 q119
                have hw119_2 := hx119_2
                have hw119_1 := hx119_1
                have hw119_0 := hx119_0
                cases e119
                replace hx119_0 := (HB.out.cell (Zlt _ _ hx119_0)).trans hx119_0
                replace hx119_1 := (HB.out.cell (Zlt _ _ hx119_1)).trans hx119_1
                replace hx119_2 := (HB.out.cell (Zlt _ _ hx119_2)).trans hx119_2
                have HR119_2 := Zm hi119_2
                have HC119_2 := Zm hl119_2
                clear hi119_2 hl119_2
                replace p119 := eq_true p119
                replace q119 := eq_true q119
                have p120 : 0 ≤ (x5_2 : Int) := of_decide_eq_true (by first | (with_reducible assumption) | assumption)
                have q120 : x5_2 < (l1_0.length : Int) := of_decide_eq_true (by first | (with_reducible assumption) | assumption)
                obtain ⟨ad120, A120_2, c120_2, e120, hx120_0, hx120_1, hx120_2, hl120_2, hi120_2⟩ := at_T108 HR1_0.out x5_2 p120 q120
                have hw120_2 := hx120_2
                have hw120_1 := hx120_1
                have hw120_0 := hx120_0
                cases e120
                replace hx120_0 := (HB.out.cell (Zlt _ _ hx120_0)).trans hx120_0
                replace hx120_1 := (HB.out.cell (Zlt _ _ hx120_1)).trans hx120_1
                replace hx120_2 := (HB.out.cell (Zlt _ _ hx120_2)).trans hx120_2
                have HR120_2 := Zm hi120_2
                have HC120_2 := Zm hl120_2
                clear hi120_2 hl120_2
                replace p120 := eq_true p120
                replace q120 := eq_true q120
                refine start_ (n := 44) (S := fun w' => w'.cell? ⟨gb116, 0, none⟩ = some (.slice (some ad119) l0_0.length c0_0) ∧ w'.cell? ⟨gb116, 1, none⟩ = some (.int .i64 a0_1) ∧ w'.cell? ⟨gb116, 2, none⟩ = some (.slice A0_2 l0_2.length c0_2) ∧ w'.cell? ⟨gb116, 3, none⟩ = some (.slice A0_3 l0_3.length c0_3) ∧ w'.cell? ⟨gb116, 4, none⟩ = some (.bool a0_4) ∧ w'.cell? ⟨gb116, 5, none⟩ = some (.int .i64 a0_5) ∧ w'.cell? ⟨gb116, 6, none⟩ = some (.string a0_6) ∧ w'.cell? ⟨gb116, 7, none⟩ = some (.int .i64 a0_7) ∧ w'.cell? ⟨gb117, 0, none⟩ = some (.slice (some ad120) l1_0.length c1_0) ∧ w'.cell? ⟨gb117, 1, none⟩ = some (.int .i64 a1_1) ∧ w'.cell? ⟨gb117, 2, none⟩ = some (.slice A1_2 l1_2.length c1_2) ∧ w'.cell? ⟨gb117, 3, none⟩ = some (.slice A1_3 l1_3.length c1_3) ∧ w'.cell? ⟨gb117, 4, none⟩ = some (.bool a1_4) ∧ w'.cell? ⟨gb117, 5, none⟩ = some (.int .i64 a1_5) ∧ w'.cell? ⟨gb117, 6, none⟩ = some (.string a1_6) ∧ w'.cell? ⟨gb117, 7, none⟩ = some (.int .i64 a1_7) ∧ w'.cell? (ad119.add ((x5_2).toNat * 3)) = some (.string ((rd_T108 l0_0 x5_2).f0)) ∧ w'.cell? ⟨(ad119.add ((x5_2).toNat * 3)).block, (ad119.add ((x5_2).toNat * 3)).off + 1, none⟩ = some (.int .i64 ((rd_T108 l0_0 x5_2).f1)) ∧ w'.cell? ⟨(ad119.add ((x5_2).toNat * 3)).block, (ad119.add ((x5_2).toNat * 3)).off + 2, none⟩ = some (.slice A119_2 ((rd_T108 l0_0 x5_2).f2).length c119_2) ∧ w'.cell? (ad120.add ((x5_2).toNat * 3)) = some (.string ((rd_T108 l1_0 x5_2).f0)) ∧ w'.cell? ⟨(ad120.add ((x5_2).toNat * 3)).block, (ad120.add ((x5_2).toNat * 3)).off + 1, none⟩ = some (.int .i64 ((rd_T108 l1_0 x5_2).f1)) ∧ w'.cell? ⟨(ad120.add ((x5_2).toNat * 3)).block, (ad120.add ((x5_2).toNat * 3)).off + 2, none⟩ = some (.slice A120_2 ((rd_T108 l1_0 x5_2).f2).length c120_2)) (ds := []) #[false, false, false, false, false, false, false, false, false, false, false, false, false, false, false, false, false, false, false, false, false, false, false, false, false, false, false, false, false, false, false, false, false, false, false, false, false, false, false, false, false, false, false, false] (by kernel_rfl) rfl rfl ⟨(Zkc BK116.out 0).trans rfl, (Zkc BK116.out 1).trans rfl, (Zkc BK116.out 2).trans rfl, (Zkc BK116.out 3).trans rfl, (Zkc BK116.out 4).trans rfl, (Zkc BK116.out 5).trans rfl, (Zkc BK116.out 6).trans rfl, (Zkc BK116.out 7).trans rfl, (Zkc BK117.out 0).trans rfl, (Zkc BK117.out 1).trans rfl, (Zkc BK117.out 2).trans rfl, (Zkc BK117.out 3).trans rfl, (Zkc BK117.out 4).trans rfl, (Zkc BK117.out 5).trans rfl, (Zkc BK117.out 6).trans rfl, (Zkc BK117.out 7).trans rfl, ((HB.out.cell (Zlt _ _ hw119_0)).trans hw119_0), ((HB.out.cell (Zlt _ _ hw119_1)).trans hw119_1), ((HB.out.cell (Zlt _ _ hw119_2)).trans hw119_2), ((HB.out.cell (Zlt _ _ hw120_0)).trans hw120_0), ((HB.out.cell (Zlt _ _ hw120_1)).trans hw120_1), ((HB.out.cell (Zlt _ _ hw120_2)).trans hw120_2)⟩ (fun hHeld => ?_); refine with_tabW spec_BareSame.tab6 spec_BareSame.bits6 (fun HT_ HW_ => ?_)
                generalize wr.drew = w50 at BK116 BK117 HB HR119_2 HR120_2 hx119_0 hx119_1 hx119_2 hx120_0 hx120_1 hx120_2 hHeld ⊢
                refine pure_ (i := 0) (N := some 75) (v := ?_) (a' := ?_) #[true, false, false, false, false, false, false, false, false, false, false, false, false, false, false, false, false, false, false, false, false, false, false, false, false, false, false, false, false, false, false, false, false, false, false, false, false, false, false, false, false, false, false, false] rfl rfl (any_of HT_.out (by kernel_rfl)) (fun _ _ _ h => h) (Or.inl ⟨by rfl, ?_⟩) ?_ ?_
                rotate_left
                · intro w'
                  go_simp
                  with_reducible rfl
                rotate_left
                · simp only [Act.put, List.setIfInBounds_toArray, List.set_cons_zero, List.set_cons_succ, i64_w, i32_w]
                  rfl
                refine pure_ (i := 2) (N := some 77) (v := ?_) (a' := ?_) #[true, false, true, false, false, false, false, false, false, false, false, false, false, false, false, false, false, false, false, false, false, false, false, false, false, false, false, false, false, false, false, false, false, false, false, false, false, false, false, false, false, false, false, false] rfl rfl (any_of HT_.out (by kernel_rfl)) (fun _ _ _ h => h) (Or.inl ⟨by rfl, ?_⟩) ?_ ?_
                rotate_left
                · intro w'
                  go_simp
                  with_reducible rfl
                rotate_left
                · simp only [Act.put, List.setIfInBounds_toArray, List.set_cons_zero, List.set_cons_succ, i64_w, i32_w]
                  rfl
                refine pure_ (i := 6) (N := some 81) (v := ?_) (a' := ?_) #[true, false, true, false, false, false, true, false, false, false, false, false, false, false, false, false, false, false, false, false, false, false, false, false, false, false, false, false, false, false, false, false, false, false, false, false, false, false, false, false, false, false, false, false] rfl rfl (any_of HT_.out (by kernel_rfl)) (fun _ _ _ h => h) (Or.inl ⟨by rfl, ?_⟩) ?_ ?_
                rotate_left
                · intro w'
                  go_simp
                  with_reducible rfl
                rotate_left
                · simp only [Act.put, List.setIfInBounds_toArray, List.set_cons_zero, List.set_cons_succ, i64_w, i32_w]
                  rfl
                refine pure_ (i := 8) (N := some 83) (v := ?_) (a' := ?_) #[true, false, true, false, false, false, true, false, true, false, false, false, false, false, false, false, false, false, false, false, false, false, false, false, false, false, false, false, false, false, false, false, false, false, false, false, false, false, false, false, false, false, false, false] rfl rfl (any_of HT_.out (by kernel_rfl)) (fun _ _ _ h => h) (Or.inl ⟨by rfl, ?_⟩) ?_ ?_
                rotate_left
                · intro w'
                  go_simp
                  with_reducible rfl
                rotate_left
                · simp only [Act.put, List.setIfInBounds_toArray, List.set_cons_zero, List.set_cons_succ, i64_w, i32_w]
                  rfl
                refine take_ (i := 1) (N := some 76) (v := ?_) (a' := ?_) #[true, true, true, false, false, false, true, false, true, false, false, false, false, false, false, false, false, false, false, false, false, false, false, false, false, false, false, false, false, false, false, false, false, false, false, false, false, false, false, false, false, false, false, false] rfl rfl (take_ofW HT_.out HW_.out (by kernel_rfl)) (fun _ _ _ h => h) (Or.inl ⟨by rfl, ?_⟩) hHeld ?_ ?_
                rotate_left
                · rintro w' ⟨s0, s1, s2, s3, s4, s5, s6, s7, s8, s9, s10, s11, s12, s13, s14, s15, s16, s17, s18, s19, s20, s21⟩
                  go_simp
                  with_reducible rfl
                rotate_left
                · simp only [Act.put, List.setIfInBounds_toArray, List.set_cons_zero, List.set_cons_succ, i64_w, i32_w]
                  rfl
                refine pure_ (i := 3) (N := some 78) (v := ?_) (a' := ?_) #[true, true, true, true, false, false, true, false, true, false, false, false, false, false, false, false, false, false, false, false, false, false, false, false, false, false, false, false, false, false, false, false, false, false, false, false, false, false, false, false, false, false, false, false] rfl rfl (any_of HT_.out (by kernel_rfl)) (fun _ _ _ h => h) (Or.inl ⟨by rfl, ?_⟩) ?_ ?_
                rotate_left
                · intro w'
                  go_simp
                  with_reducible rfl
                rotate_left
                · simp only [Act.put, List.setIfInBounds_toArray, List.set_cons_zero, List.set_cons_succ, i64_w, i32_w]
                  rfl
                refine pure_ (i := 4) (N := some 79) (v := ?_) (a' := ?_) #[true, true, true, true, true, false, true, false, true, false, false, false, false, false, false, false, false, false, false, false, false, false, false, false, false, false, false, false, false, false, false, false, false, false, false, false, false, false, false, false, false, false, false, false] rfl rfl (any_of HT_.out (by kernel_rfl)) (fun _ _ _ h => h) (Or.inl ⟨by rfl, ?_⟩) ?_ ?_
                rotate_left
                · intro w'
                  go_simp
                  with_reducible rfl
                rotate_left
                · simp only [Act.put, List.setIfInBounds_toArray, List.set_cons_zero, List.set_cons_succ, i64_w, i32_w]
                  rfl
                refine take_ (i := 5) (N := some 80) (v := ?_) (a' := ?_) #[true, true, true, true, true, true, true, false, true, false, false, false, false, false, false, false, false, false, false, false, false, false, false, false, false, false, false, false, false, false, false, false, false, false, false, false, false, false, false, false, false, false, false, false] rfl rfl (take_ofW HT_.out HW_.out (by kernel_rfl)) (fun _ _ _ h => h) (Or.inl ⟨by rfl, ?_⟩) hHeld ?_ ?_
                rotate_left
                · rintro w' ⟨s0, s1, s2, s3, s4, s5, s6, s7, s8, s9, s10, s11, s12, s13, s14, s15, s16, s17, s18, s19, s20, s21⟩
                  go_simp
                  with_reducible rfl
                rotate_left
                · simp only [Act.put, List.setIfInBounds_toArray, List.set_cons_zero, List.set_cons_succ, i64_w, i32_w]
                  rfl
                refine take_ (i := 7) (N := some 82) (v := ?_) (a' := ?_) #[true, true, true, true, true, true, true, true, true, false, false, false, false, false, false, false, false, false, false, false, false, false, false, false, false, false, false, false, false, false, false, false, false, false, false, false, false, false, false, false, false, false, false, false] rfl rfl (take_ofW HT_.out HW_.out (by kernel_rfl)) (fun _ _ _ h => h) (Or.inl ⟨by rfl, ?_⟩) hHeld ?_ ?_
                rotate_left
                · rintro w' ⟨s0, s1, s2, s3, s4, s5, s6, s7, s8, s9, s10, s11, s12, s13, s14, s15, s16, s17, s18, s19, s20, s21⟩
                  go_simp
                  with_reducible rfl
                rotate_left
                · simp only [Act.put, List.setIfInBounds_toArray, List.set_cons_zero, List.set_cons_succ, i64_w, i32_w]
                  rfl
                refine pure_ (i := 9) (N := some 84) (v := ?_) (a' := ?_) #[true, true, true, true, true, true, true, true, true, true, false, false, false, false, false, false, false, false, false, false, false, false, false, false, false, false, false, false, false, false, false, false, false, false, false, false, false, false, false, false, false, false, false, false] rfl rfl (any_of HT_.out (by kernel_rfl)) (fun _ _ _ h => h) (Or.inl ⟨by rfl, ?_⟩) ?_ ?_
                rotate_left
                · intro w'
                  go_simp
                  with_reducible rfl
                rotate_left
                · simp only [Act.put, List.setIfInBounds_toArray, List.set_cons_zero, List.set_cons_succ, i64_w, i32_w]
                  rfl
                refine pure_ (i := 10) (N := some 85) (v := ?_) (a' := ?_) #[true, true, true, true, true, true, true, true, true, true, true, false, false, false, false, false, false, false, false, false, false, false, false, false, false, false, false, false, false, false, false, false, false, false, false, false, false, false, false, false, false, false, false, false] rfl rfl (any_of HT_.out (by kernel_rfl)) (fun _ _ _ h => h) (Or.inl ⟨by rfl, ?_⟩) ?_ ?_
                rotate_left
                · intro w'
                  go_simp
                  with_reducible rfl
                rotate_left
                · simp only [Act.put, List.setIfInBounds_toArray, List.set_cons_zero, List.set_cons_succ, i64_w, i32_w]
                  rfl
                refine take_ (i := 11) (N := some 86) (v := ?_) (a' := ?_) #[true, true, true, true, true, true, true, true, true, true, true, true, false, false, false, false, false, false, false, false, false, false, false, false, false, false, false, false, false, false, false, false, false, false, false, false, false, false, false, false, false, false, false, false] rfl rfl (take_ofW HT_.out HW_.out (by kernel_rfl)) (fun _ _ _ h => h) (Or.inl ⟨by rfl, ?_⟩) hHeld ?_ ?_
                rotate_left
                · rintro w' ⟨s0, s1, s2, s3, s4, s5, s6, s7, s8, s9, s10, s11, s12, s13, s14, s15, s16, s17, s18, s19, s20, s21⟩
                  go_simp
                  with_reducible rfl
                rotate_left
                · simp only [Act.put, List.setIfInBounds_toArray, List.set_cons_zero, List.set_cons_succ, i64_w, i32_w]
                  rfl
                refine pure_ (i := 12) (N := some 87) (v := ?_) (a' := ?_) #[true, true, true, true, true, true, true, true, true, true, true, true, true, false, false, false, false, false, false, false, false, false, false, false, false, false, false, false, false, false, false, false, false, false, false, false, false, false, false, false, false, false, false, false] rfl rfl (any_of HT_.out (by kernel_rfl)) (fun _ _ _ h => h) (Or.inl ⟨by rfl, ?_⟩) ?_ ?_
                rotate_left
                · intro w'
                  go_simp
                  with_reducible rfl
                rotate_left
                · simp only [Act.put, List.setIfInBounds_toArray, List.set_cons_zero, List.set_cons_succ, i64_w, i32_w]
                  rfl
                refine pure_ (i := 13) (N := some 88) (v := ?_) (a' := ?_) #[true, true, true, true, true, true, true, true, true, true, true, true, true, true, false, false, false, false, false, false, false, false, false, false, false, false, false, false, false, false, false, false, false, false, false, false, false, false, false, false, false, false, false, false] rfl rfl (any_of HT_.out (by kernel_rfl)) (fun _ _ _ h => h) (Or.inl ⟨by rfl, ?_⟩) ?_ ?_
                rotate_left
                · intro w'
                  go_simp
                  with_reducible rfl
                rotate_left
                · simp only [Act.put, List.setIfInBounds_toArray, List.set_cons_zero, List.set_cons_succ, i64_w, i32_w]
                  rfl
                refine pure_ (i := 14) (N := some 89) (v := undef) (a' := ?_) #[true, true, true, true, true, true, true, true, true, true, true, true, true, true, true, false, false, false, false, false, false, false, false, false, false, false, false, false, false, false, false, false, false, false, false, false, false, false, false, false, false, false, false, false] rfl rfl (any_of HT_.out (by kernel_rfl)) (fun _ _ _ h => h) (Or.inr ⟨by rfl, rfl⟩) ?_ ?_
                rotate_left
                · simp only [Act.put, List.setIfInBounds_toArray, List.set_cons_zero, List.set_cons_succ, i64_w, i32_w]
                  rfl
                refine pure_ (i := 15) (N := some 90) (v := undef) (a' := ?_) #[true, true, true, true, true, true, true, true, true, true, true, true, true, true, true, true, false, false, false, false, false, false, false, false, false, false, false, false, false, false, false, false, false, false, false, false, false, false, false, false, false, false, false, false] rfl rfl (any_of HT_.out (by kernel_rfl)) (fun _ _ _ h => h) (Or.inr ⟨by rfl, rfl⟩) ?_ ?_
                rotate_left
                · simp only [Act.put, List.setIfInBounds_toArray, List.set_cons_zero, List.set_cons_succ, i64_w, i32_w]
                  rfl
                refine pure_ (i := 16) (N := some 91) (v := undef) (a' := ?_) #[true, true, true, true, true, true, true, true, true, true, true, true, true, true, true, true, true, false, false, false, false, false, false, false, false, false, false, false, false, false, false, false, false, false, false, false, false, false, false, false, false, false, false, false] rfl rfl (any_of HT_.out (by kernel_rfl)) (fun _ _ _ h => h) (Or.inr ⟨by rfl, rfl⟩) ?_ ?_
                rotate_left
                · simp only [Act.put, List.setIfInBounds_toArray, List.set_cons_zero, List.set_cons_succ, i64_w, i32_w]
                  rfl
                refine pure_ (i := 17) (N := some 92) (v := undef) (a' := ?_) #[true, true, true, true, true, true, true, true, true, true, true, true, true, true, true, true, true, true, false, false, false, false, false, false, false, false, false, false, false, false, false, false, false, false, false, false, false, false, false, false, false, false, false, false] rfl rfl (any_of HT_.out (by kernel_rfl)) (fun _ _ _ h => h) (Or.inr ⟨by rfl, rfl⟩) ?_ ?_
                rotate_left
                · simp only [Act.put, List.setIfInBounds_toArray, List.set_cons_zero, List.set_cons_succ, i64_w, i32_w]
                  rfl
                refine pure_ (i := 18) (N := some 93) (v := undef) (a' := ?_) #[true, true, true, true, true, true, true, true, true, true, true, true, true, true, true, true, true, true, true, false, false, false, false, false, false, false, false, false, false, false, false, false, false, false, false, false, false, false, false, false, false, false, false, false] rfl rfl (any_of HT_.out (by kernel_rfl)) (fun _ _ _ h => h) (Or.inr ⟨by rfl, rfl⟩) ?_ ?_
                rotate_left
                · simp only [Act.put, List.setIfInBounds_toArray, List.set_cons_zero, List.set_cons_succ, i64_w, i32_w]
                  rfl
                refine pure_ (i := 19) (N := some 94) (v := undef) (a' := ?_) #[true, true, true, true, true, true, true, true, true, true, true, true, true, true, true, true, true, true, true, true, false, false, false, false, false, false, false, false, false, false, false, false, false, false, false, false, false, false, false, false, false, false, false, false] rfl rfl (any_of HT_.out (by kernel_rfl)) (fun _ _ _ h => h) (Or.inr ⟨by rfl, rfl⟩) ?_ ?_
                rotate_left
                · simp only [Act.put, List.setIfInBounds_toArray, List.set_cons_zero, List.set_cons_succ, i64_w, i32_w]
                  rfl
                refine pure_ (i := 20) (N := some 95) (v := undef) (a' := ?_) #[true, true, true, true, true, true, true, true, true, true, true, true, true, true, true, true, true, true, true, true, true, false, false, false, false, false, false, false, false, false, false, false, false, false, false, false, false, false, false, false, false, false, false, false] rfl rfl (any_of HT_.out (by kernel_rfl)) (fun _ _ _ h => h) (Or.inr ⟨by rfl, rfl⟩) ?_ ?_
                rotate_left
                · simp only [Act.put, List.setIfInBounds_toArray, List.set_cons_zero, List.set_cons_succ, i64_w, i32_w]
                  rfl
                refine pure_ (i := 21) (N := some 96) (v := undef) (a' := ?_) #[true, true, true, true, true, true, true, true, true, true, true, true, true, true, true, true, true, true, true, true, true, true, false, false, false, false, false, false, false, false, false, false, false, false, false, false, false, false, false, false, false, false, false, false] rfl rfl (any_of HT_.out (by kernel_rfl)) (fun _ _ _ h => h) (Or.inr ⟨by rfl, rfl⟩) ?_ ?_
                rotate_left
                · simp only [Act.put, List.setIfInBounds_toArray, List.set_cons_zero, List.set_cons_succ, i64_w, i32_w]
                  rfl
                refine pure_ (i := 22) (N := some 97) (v := undef) (a' := ?_) #[true, true, true, true, true, true, true, true, true, true, true, true, true, true, true, true, true, true, true, true, true, true, true, false, false, false, false, false, false, false, false, false, false, false, false, false, false, false, false, false, false, false, false, false] rfl rfl (any_of HT_.out (by kernel_rfl)) (fun _ _ _ h => h) (Or.inr ⟨by rfl, rfl⟩) ?_ ?_
                rotate_left
                · simp only [Act.put, List.setIfInBounds_toArray, List.set_cons_zero, List.set_cons_succ, i64_w, i32_w]
                  rfl
                refine pure_ (i := 23) (N := some 98) (v := undef) (a' := ?_) #[true, true, true, true, true, true, true, true, true, true, true, true, true, true, true, true, true, true, true, true, true, true, true, true, false, false, false, false, false, false, false, false, false, false, false, false, false, false, false, false, false, false, false, false] rfl rfl (any_of HT_.out (by kernel_rfl)) (fun _ _ _ h => h) (Or.inr ⟨by rfl, rfl⟩) ?_ ?_
                rotate_left
                · simp only [Act.put, List.setIfInBounds_toArray, List.set_cons_zero, List.set_cons_succ, i64_w, i32_w]
                  rfl
                refine pure_ (i := 24) (N := some 99) (v := undef) (a' := ?_) #[true, true, true, true, true, true, true, true, true, true, true, true, true, true, true, true, true, true, true, true, true, true, true, true, true, false, false, false, false, false, false, false, false, false, false, false, false, false, false, false, false, false, false, false] rfl rfl (any_of HT_.out (by kernel_rfl)) (fun _ _ _ h => h) (Or.inr ⟨by rfl, rfl⟩) ?_ ?_
                rotate_left
                · simp only [Act.put, List.setIfInBounds_toArray, List.set_cons_zero, List.set_cons_succ, i64_w, i32_w]
                  rfl
                refine pure_ (i := 25) (N := some 100) (v := undef) (a' := ?_) #[true, true, true, true, true, true, true, true, true, true, true, true, true, true, true, true, true, true, true, true, true, true, true, true, true, true, false, false, false, false, false, false, false, false, false, false, false, false, false, false, false, false, false, false] rfl rfl (any_of HT_.out (by kernel_rfl)) (fun _ _ _ h => h) (Or.inr ⟨by rfl, rfl⟩) ?_ ?_
                rotate_left
                · simp only [Act.put, List.setIfInBounds_toArray, List.set_cons_zero, List.set_cons_succ, i64_w, i32_w]
                  rfl
                refine pure_ (i := 26) (N := some 101) (v := undef) (a' := ?_) #[true, true, true, true, true, true, true, true, true, true, true, true, true, true, true, true, true, true, true, true, true, true, true, true, true, true, true, false, false, false, false, false, false, false, false, false, false, false, false, false, false, false, false, false] rfl rfl (any_of HT_.out (by kernel_rfl)) (fun _ _ _ h => h) (Or.inr ⟨by rfl, rfl⟩) ?_ ?_
                rotate_left
                · simp only [Act.put, List.setIfInBounds_toArray, List.set_cons_zero, List.set_cons_succ, i64_w, i32_w]
                  rfl
                refine pure_ (i := 27) (N := some 102) (v := ?_) (a' := ?_) #[true, true, true, true, true, true, true, true, true, true, true, true, true, true, true, true, true, true, true, true, true, true, true, true, true, true, true, true, false, false, false, false, false, false, false, false, false, false, false, false, false, false, false, false] rfl rfl (any_of HT_.out (by kernel_rfl)) (fun _ _ _ h => h) (Or.inl ⟨by rfl, ?_⟩) ?_ ?_
                rotate_left
                · intro w'
                  go_simp
                  with_reducible rfl
                rotate_left
                · simp only [Act.put, List.setIfInBounds_toArray, List.set_cons_zero, List.set_cons_succ, i64_w, i32_w]
                  rfl
                refine pure_ (i := 28) (N := some 103) (v := ?_) (a' := ?_) #[true, true, true, true, true, true, true, true, true, true, true, true, true, true, true, true, true, true, true, true, true, true, true, true, true, true, true, true, true, false, false, false, false, false, false, false, false, false, false, false, false, false, false, false] rfl rfl (any_of HT_.out (by kernel_rfl)) (fun _ _ _ h => h) (Or.inl ⟨by rfl, ?_⟩) ?_ ?_
                rotate_left
                · intro w'
                  go_simp
                  with_reducible rfl
                rotate_left
                · simp only [Act.put, List.setIfInBounds_toArray, List.set_cons_zero, List.set_cons_succ, i64_w, i32_w]
                  rfl
                refine pure_ (i := 29) (N := some 104) (v := undef) (a' := ?_) #[true, true, true, true, true, true, true, true, true, true, true, true, true, true, true, true, true, true, true, true, true, true, true, true, true, true, true, true, true, true, false, false, false, false, false, false, false, false, false, false, false, false, false, false] rfl rfl (any_of HT_.out (by kernel_rfl)) (fun _ _ _ h => h) (Or.inr ⟨by rfl, rfl⟩) ?_ ?_
                rotate_left
                · simp only [Act.put, List.setIfInBounds_toArray, List.set_cons_zero, List.set_cons_succ, i64_w, i32_w]
                  rfl
                refine pure_ (i := 30) (N := some 105) (v := undef) (a' := ?_) #[true, true, true, true, true, true, true, true, true, true, true, true, true, true, true, true, true, true, true, true, true, true, true, true, true, true, true, true, true, true, true, false, false, false, false, false, false, false, false, false, false, false, false, false] rfl rfl (any_of HT_.out (by kernel_rfl)) (fun _ _ _ h => h) (Or.inr ⟨by rfl, rfl⟩) ?_ ?_
                rotate_left
                · simp only [Act.put, List.setIfInBounds_toArray, List.set_cons_zero, List.set_cons_succ, i64_w, i32_w]
                  rfl
                refine pure_ (i := 31) (N := some 106) (v := undef) (a' := ?_) #[true, true, true, true, true, true, true, true, true, true, true, true, true, true, true, true, true, true, true, true, true, true, true, true, true, true, true, true, true, true, true, true, false, false, false, false, false, false, false, false, false, false, false, false] rfl rfl (any_of HT_.out (by kernel_rfl)) (fun _ _ _ h => h) (Or.inr ⟨by rfl, rfl⟩) ?_ ?_
                rotate_left
                · simp only [Act.put, List.setIfInBounds_toArray, List.set_cons_zero, List.set_cons_succ, i64_w, i32_w]
                  rfl
                refine pure_ (i := 32) (N := some 107) (v := undef) (a' := ?_) #[true, true, true, true, true, true, true, true, true, true, true, true, true, true, true, true, true, true, true, true, true, true, true, true, true, true, true, true, true, true, true, true, true, false, false, false, false, false, false, false, false, false, false, false] rfl rfl (any_of HT_.out (by kernel_rfl)) (fun _ _ _ h => h) (Or.inr ⟨by rfl, rfl⟩) ?_ ?_
                rotate_left
                · simp only [Act.put, List.setIfInBounds_toArray, List.set_cons_zero, List.set_cons_succ, i64_w, i32_w]
                  rfl
                refine pure_ (i := 33) (N := some 108) (v := undef) (a' := ?_) #[true, true, true, true, true, true, true, true, true, true, true, true, true, true, true, true, true, true, true, true, true, true, true, true, true, true, true, true, true, true, true, true, true, true, false, false, false, false, false, false, false, false, false, false] rfl rfl (any_of HT_.out (by kernel_rfl)) (fun _ _ _ h => h) (Or.inr ⟨by rfl, rfl⟩) ?_ ?_
                rotate_left
                · simp only [Act.put, List.setIfInBounds_toArray, List.set_cons_zero, List.set_cons_succ, i64_w, i32_w]
                  rfl
                refine pure_ (i := 34) (N := some 109) (v := undef) (a' := ?_) #[true, true, true, true, true, true, true, true, true, true, true, true, true, true, true, true, true, true, true, true, true, true, true, true, true, true, true, true, true, true, true, true, true, true, true, false, false, false, false, false, false, false, false, false] rfl rfl (any_of HT_.out (by kernel_rfl)) (fun _ _ _ h => h) (Or.inr ⟨by rfl, rfl⟩) ?_ ?_
                rotate_left
                · simp only [Act.put, List.setIfInBounds_toArray, List.set_cons_zero, List.set_cons_succ, i64_w, i32_w]
                  rfl
                refine pure_ (i := 35) (N := some 110) (v := undef) (a' := ?_) #[true, true, true, true, true, true, true, true, true, true, true, true, true, true, true, true, true, true, true, true, true, true, true, true, true, true, true, true, true, true, true, true, true, true, true, true, false, false, false, false, false, false, false, false] rfl rfl (any_of HT_.out (by kernel_rfl)) (fun _ _ _ h => h) (Or.inr ⟨by rfl, rfl⟩) ?_ ?_
                rotate_left
                · simp only [Act.put, List.setIfInBounds_toArray, List.set_cons_zero, List.set_cons_succ, i64_w, i32_w]
                  rfl
                refine pure_ (i := 36) (N := some 111) (v := undef) (a' := ?_) #[true, true, true, true, true, true, true, true, true, true, true, true, true, true, true, true, true, true, true, true, true, true, true, true, true, true, true, true, true, true, true, true, true, true, true, true, true, false, false, false, false, false, false, false] rfl rfl (any_of HT_.out (by kernel_rfl)) (fun _ _ _ h => h) (Or.inr ⟨by rfl, rfl⟩) ?_ ?_
                rotate_left
                · simp only [Act.put, List.setIfInBounds_toArray, List.set_cons_zero, List.set_cons_succ, i64_w, i32_w]
                  rfl
                refine pure_ (i := 37) (N := some 112) (v := undef) (a' := ?_) #[true, true, true, true, true, true, true, true, true, true, true, true, true, true, true, true, true, true, true, true, true, true, true, true, true, true, true, true, true, true, true, true, true, true, true, true, true, true, false, false, false, false, false, false] rfl rfl (any_of HT_.out (by kernel_rfl)) (fun _ _ _ h => h) (Or.inr ⟨by rfl, rfl⟩) ?_ ?_
                rotate_left
                · simp only [Act.put, List.setIfInBounds_toArray, List.set_cons_zero, List.set_cons_succ, i64_w, i32_w]
                  rfl
                refine pure_ (i := 38) (N := some 113) (v := undef) (a' := ?_) #[true, true, true, true, true, true, true, true, true, true, true, true, true, true, true, true, true, true, true, true, true, true, true, true, true, true, true, true, true, true, true, true, true, true, true, true, true, true, true, false, false, false, false, false] rfl rfl (any_of HT_.out (by kernel_rfl)) (fun _ _ _ h => h) (Or.inr ⟨by rfl, rfl⟩) ?_ ?_
                rotate_left
                · simp only [Act.put, List.setIfInBounds_toArray, List.set_cons_zero, List.set_cons_succ, i64_w, i32_w]
                  rfl
                refine pure_ (i := 39) (N := some 114) (v := undef) (a' := ?_) #[true, true, true, true, true, true, true, true, true, true, true, true, true, true, true, true, true, true, true, true, true, true, true, true, true, true, true, true, true, true, true, true, true, true, true, true, true, true, true, true, false, false, false, false] rfl rfl (any_of HT_.out (by kernel_rfl)) (fun _ _ _ h => h) (Or.inr ⟨by rfl, rfl⟩) ?_ ?_
                rotate_left
                · simp only [Act.put, List.setIfInBounds_toArray, List.set_cons_zero, List.set_cons_succ, i64_w, i32_w]
                  rfl
                refine pure_ (i := 40) (N := some 115) (v := undef) (a' := ?_) #[true, true, true, true, true, true, true, true, true, true, true, true, true, true, true, true, true, true, true, true, true, true, true, true, true, true, true, true, true, true, true, true, true, true, true, true, true, true, true, true, true, false, false, false] rfl rfl (any_of HT_.out (by kernel_rfl)) (fun _ _ _ h => h) (Or.inr ⟨by rfl, rfl⟩) ?_ ?_
                rotate_left
                · simp only [Act.put, List.setIfInBounds_toArray, List.set_cons_zero, List.set_cons_succ, i64_w, i32_w]
                  rfl
                refine pure_ (i := 41) (N := some 116) (v := undef) (a' := ?_) #[true, true, true, true, true, true, true, true, true, true, true, true, true, true, true, true, true, true, true, true, true, true, true, true, true, true, true, true, true, true, true, true, true, true, true, true, true, true, true, true, true, true, false, false] rfl rfl (any_of HT_.out (by kernel_rfl)) (fun _ _ _ h => h) (Or.inr ⟨by rfl, rfl⟩) ?_ ?_
                rotate_left
                · simp only [Act.put, List.setIfInBounds_toArray, List.set_cons_zero, List.set_cons_succ, i64_w, i32_w]
                  rfl
                refine pure_ (i := 42) (N := some 117) (v := undef) (a' := ?_) #[true, true, true, true, true, true, true, true, true, true, true, true, true, true, true, true, true, true, true, true, true, true, true, true, true, true, true, true, true, true, true, true, true, true, true, true, true, true, true, true, true, true, true, false] rfl rfl (any_of HT_.out (by kernel_rfl)) (fun _ _ _ h => h) (Or.inr ⟨by rfl, rfl⟩) ?_ ?_
                rotate_left
                · simp only [Act.put, List.setIfInBounds_toArray, List.set_cons_zero, List.set_cons_succ, i64_w, i32_w]
                  rfl
                refine pure_ (i := 43) (N := some 118) (v := ?_) (a' := ?_) #[true, true, true, true, true, true, true, true, true, true, true, true, true, true, true, true, true, true, true, true, true, true, true, true, true, true, true, true, true, true, true, true, true, true, true, true, true, true, true, true, true, true, true, true] rfl rfl (any_of HT_.out (by kernel_rfl)) (fun _ _ _ h => h) (Or.inl ⟨by rfl, ?_⟩) ?_ ?_
                rotate_left
                · intro w'
                  go_simp
                  with_reducible rfl
                rotate_left
                · simp only [Act.put, List.setIfInBounds_toArray, List.set_cons_zero, List.set_cons_succ, i64_w, i32_w]
                  rfl
                refine done_ (done_of HT_.out (by kernel_rfl)) ?_
                try go_wp2
                go_meet
                case rel => exact ⟨_, (true), (by first | rfl | (simp; done) | (simp [*]; done)), H', ⟨by have := HJ2.out; have := HK2.out; first | omega | exact Nat.le_refl _⟩, ⟨by (with_reducible repeat (first | refine Zkn ?_ _ | refine Zkd ?_ | refine Zka ?_ _)); exact BK116.out⟩, ⟨by (with_reducible repeat (first | refine Zkn ?_ _ | refine Zkd ?_ | refine Zka ?_ _)); exact BK117.out⟩, ⟨by repeat (first | (with_reducible first | exact HB.out | apply Zba | apply Zbn | apply Zbd | refine Zbs ?_ GE116.out | refine Zbs ?_ GE117.out) | exact HB.out)⟩⟩
              rw [if_pos c45] at H
              have c45b0 : (((rd_T108 l0_0 x5_2).f0).toList == ((rd_T108 l1_0 x5_2).f0).toList) = true := beq_iff_eq.mpr c45
              have c45b1 : (((rd_T108 l0_0 x5_2).f0).toList != ((rd_T108 l1_0 x5_2).f0).toList) = false := bne_eq_false_iff_eq.mpr c45
              clear c45
              by_cases c46 : ((rd_T108 l0_0 x5_2).f1) = ((rd_T108 l1_0 x5_2).f1)
              rotate_left
              · rw [if_neg c46] at H
                have c46b0 : (((rd_T108 l0_0 x5_2).f1) == ((rd_T108 l1_0 x5_2).f1)) = false := beq_eq_false_iff_ne.mpr c46
                have c46b1 : (((rd_T108 l0_0 x5_2).f1) != ((rd_T108 l1_0 x5_2).f1)) = true := bne_iff_ne.mpr c46
                have H' := Zm H
                clear H
                try go_wp2
                have n0_ := Zm (Zkd BK116.out)
                have n1_ := Zm (Zkd BK117.out)
                have n2_ := Zm (Zbd HB.out)
                clear BK116
                clear BK117
                clear HB
                have BK116 := n0_
                have BK117 := n1_
                have HB := n2_
                clear n0_ n1_ n2_
                have p119 : 0 ≤ (x5_2 : Int) := of_decide_eq_true (by first | (with_reducible assumption) | assumption)
                have q119 : x5_2 < (l0_0.length : Int) := of_decide_eq_true (by first | (with_reducible assumption) | assumption)
                obtain ⟨ad119, A119_2, c119_2, e119, hx119_0, hx119_1, hx119_2, hl119_2, hi119_2⟩ := at_T108 HR0_0.out x5_2 p119 q119
                have hw119_2 := hx119_2
                have hw119_1 := hx119_1
                have hw119_0 := hx119_0
                cases e119
                replace hx119_0 := (HB.out.cell (Zlt _ _ hx119_0)).trans hx119_0
                replace hx119_1 := (HB.out.cell (Zlt _ _ hx119_1)).trans hx119_1
                replace hx119_2 := (HB.out.cell (Zlt _ _ hx119_2)).trans hx119_2
                have HR119_2 := Zm hi119_2
                have HC119_2 := Zm hl119_2
                clear hi119_2 hl119_2
                replace p119 := eq_true p119
                replace q119 := eq_true q119
                have p120 : 0 ≤ (x5_2 : Int) := of_decide_eq_true (by first | (with_reducible assumption) | assumption)
                have q120 : x5_2 < (l1_0.length : Int) := of_decide_eq_true (by first | (with_reducible assumption) | assumption)
                obtain ⟨ad120, A120_2, c120_2, e120, hx120_0, hx120_1, hx120_2, hl120_2, hi120_2⟩ := at_T108 HR1_0.out x5_2 p120 q120
                have hw120_2 := hx120_2
                have hw120_1 := hx120_1
                have hw120_0 := hx120_0
                cases e120
                replace hx120_0 := (HB.out.cell (Zlt _ _ hx120_0)).trans hx120_0
                replace hx120_1 := (HB.out.cell (Zlt _ _ hx120_1)).trans hx120_1
                replace hx120_2 := (HB.out.cell (Zlt _ _ hx120_2)).trans hx120_2
                have HR120_2 := Zm hi120_2
                have HC120_2 := Zm hl120_2
                clear hi120_2 hl120_2
                replace p120 := eq_true p120
                replace q120 := eq_true q120
                have p121 : 0 ≤ (x5_2 : Int) := of_decide_eq_true (by first | (with_reducible assumption) | assumption)
                have q121 : x5_2 < (l0_0.length : Int) := of_decide_eq_true (by first | (with_reducible assumption) | assumption)
                obtain ⟨ad121, A121_2, c121_2, e121, hx121_0, hx121_1, hx121_2, hl121_2, hi121_2⟩ := at_T108 HR0_0.out x5_2 p121 q121
                have hw121_2 := hx121_2
                have hw121_1 := hx121_1
                have hw121_0 := hx121_0
                obtain rfl : ad119 = ad121 := (by injection e121)
                replace hx121_0 := (HB.out.cell (Zlt _ _ hx121_0)).trans hx121_0
                replace hx121_1 := (HB.out.cell (Zlt _ _ hx121_1)).trans hx121_1
                replace hx121_2 := (HB.out.cell (Zlt _ _ hx121_2)).trans hx121_2
                have HR121_2 := Zm hi121_2
                have HC121_2 := Zm hl121_2
                clear hi121_2 hl121_2
                replace p121 := eq_true p121
                replace q121 := eq_true q121
                have ea_ := Option.some.inj (hx119_2.symm.trans hx121_2)
                injection ea_ with ea_ en_ ec_
                subst ea_
                subst ec_
                clear en_
                have p122 : 0 ≤ (x5_2 : Int) := of_decide_eq_true (by first | (with_reducible assumption) | assumption)
                have q122 : x5_2 < (l1_0.length : Int) := of_decide_eq_true (by first | (with_reducible assumption) | assumption)
                obtain ⟨ad122, A122_2, c122_2, e122, hx122_0, hx122_1, hx122_2, hl122_2, hi122_2⟩ := at_T108 HR1_0.out x5_2 p122 q122
                have hw122_2 := hx122_2
                have hw122_1 := hx122_1
                have hw122_0 := hx122_0
                obtain rfl : ad120 = ad122 := (by injection e122)
                replace hx122_0 := (HB.out.cell (Zlt _ _ hx122_0)).trans hx122_0
                replace hx122_1 := (HB.out.cell (Zlt _ _ hx122_1)).trans hx122_1
                replace hx122_2 := (HB.out.cell (Zlt _ _ hx122_2)).trans hx122_2
                have HR122_2 := Zm hi122_2
                have HC122_2 := Zm hl122_2
                clear hi122_2 hl122_2
                replace p122 := eq_true p122
                replace q122 := eq_true q122
                have ea_ := Option.some.inj (hx120_2.symm.trans hx122_2)
                injection ea_ with ea_ en_ ec_
                subst ea_
                subst ec_
                clear en_
                refine start_ (n := 44) (S := fun w' => w'.cell? ⟨gb116, 0, none⟩ = some (.slice (some ad119) l0_0.length c0_0) ∧ w'.cell? ⟨gb116, 1, none⟩ = some (.int .i64 a0_1) ∧ w'.cell? ⟨gb116, 2, none⟩ = some (.slice A0_2 l0_2.length c0_2) ∧ w'.cell? ⟨gb116, 3, none⟩ = some (.slice A0_3 l0_3.length c0_3) ∧ w'.cell? ⟨gb116, 4, none⟩ = some (.bool a0_4) ∧ w'.cell? ⟨gb116, 5, none⟩ = some (.int .i64 a0_5) ∧ w'.cell? ⟨gb116, 6, none⟩ = some (.string a0_6) ∧ w'.cell? ⟨gb116, 7, none⟩ = some (.int .i64 a0_7) ∧ w'.cell? ⟨gb117, 0, none⟩ = some (.slice (some ad120) l1_0.length c1_0) ∧ w'.cell? ⟨gb117, 1, none⟩ = some (.int .i64 a1_1) ∧ w'.cell? ⟨gb117, 2, none⟩ = some (.slice A1_2 l1_2.length c1_2) ∧ w'.cell? ⟨gb117, 3, none⟩ = some (.slice A1_3 l1_3.length c1_3) ∧ w'.cell? ⟨gb117, 4, none⟩ = some (.bool a1_4) ∧ w'.cell? ⟨gb117, 5, none⟩ = some (.int .i64 a1_5) ∧ w'.cell? ⟨gb117, 6, none⟩ = some (.string a1_6) ∧ w'.cell? ⟨gb117, 7, none⟩ = some (.int .i64 a1_7) ∧ w'.cell? (ad119.add ((x5_2).toNat * 3)) = some (.string ((rd_T108 l0_0 x5_2).f0)) ∧ w'.cell? ⟨(ad119.add ((x5_2).toNat * 3)).block, (ad119.add ((x5_2).toNat * 3)).off + 1, none⟩ = some (.int .i64 ((rd_T108 l0_0 x5_2).f1)) ∧ w'.cell? ⟨(ad119.add ((x5_2).toNat * 3)).block, (ad119.add ((x5_2).toNat * 3)).off + 2, none⟩ = some (.slice A119_2 ((rd_T108 l0_0 x5_2).f2).length c119_2) ∧ w'.cell? (ad120.add ((x5_2).toNat * 3)) = some (.string ((rd_T108 l1_0 x5_2).f0)) ∧ w'.cell? ⟨(ad120.add ((x5_2).toNat * 3)).block, (ad120.add ((x5_2).toNat * 3)).off + 1, none⟩ = some (.int .i64 ((rd_T108 l1_0 x5_2).f1)) ∧ w'.cell? ⟨(ad120.add ((x5_2).toNat * 3)).block, (ad120.add ((x5_2).toNat * 3)).off + 2, none⟩ = some (.slice A120_2 ((rd_T108 l1_0 x5_2).f2).length c120_2) ∧ w'.cell? (ad119.add ((x5_2).toNat * 3)) = some (.string ((rd_T108 l0_0 x5_2).f0)) ∧ w'.cell? ⟨(ad119.add ((x5_2).toNat * 3)).block, (ad119.add ((x5_2).toNat * 3)).off + 1, none⟩ = some (.int .i64 ((rd_T108 l0_0 x5_2).f1)) ∧ w'.cell? ⟨(ad119.add ((x5_2).toNat * 3)).block, (ad119.add ((x5_2).toNat * 3)).off + 2, none⟩ = some (.slice A119_2 ((rd_T108 l0_0 x5_2).f2).length c119_2) ∧ w'.cell? (ad120.add ((x5_2).toNat * 3)) = some (.string ((rd_T108 l1_0 x5_2).f0)) ∧ w'.cell? ⟨(ad120.add ((x5_2).toNat * 3)).block, (ad120.add ((x5_2).toNat * 3)).off + 1, none⟩ = some (.int .i64 ((rd_T108 l1_0 x5_2).f1)) ∧ w'.cell? ⟨(ad120.add ((x5_2).toNat * 3)).block, (ad120.add ((x5_2).toNat * 3)).off + 2, none⟩ = some (.slice A120_2 ((rd_T108 l1_0 x5_2).f2).length c120_2)) (ds := []) #[false, false, false, false, false, false, false, false, false, false, false, false, false, false, false, false, false, false, false, false, false, false, false, false, false, false, false, false, false, false, false, false, false, false, false, false, false, false, false, false, false, false, false, false] (by kernel_rfl) rfl rfl ⟨(Zkc BK116.out 0).trans rfl, (Zkc BK116.out 1).trans rfl, (Zkc BK116.out 2).trans rfl, (Zkc BK116.out 3).trans rfl, (Zkc BK116.out 4).trans rfl, (Zkc BK116.out 5).trans rfl, (Zkc BK116.out 6).trans rfl, (Zkc BK116.out 7).trans rfl, (Zkc BK117.out 0).trans rfl, (Zkc BK117.out 1).trans rfl, (Zkc BK117.out 2).trans rfl, (Zkc BK117.out 3).trans rfl, (Zkc BK117.out 4).trans rfl, (Zkc BK117.out 5).trans rfl, (Zkc BK117.out 6).trans rfl, (Zkc BK117.out 7).trans rfl, ((HB.out.cell (Zlt _ _ hw119_0)).trans hw119_0), ((HB.out.cell (Zlt _ _ hw119_1)).trans hw119_1), ((HB.out.cell (Zlt _ _ hw119_2)).trans hw119_2), ((HB.out.cell (Zlt _ _ hw120_0)).trans hw120_0), ((HB.out.cell (Zlt _ _ hw120_1)).trans hw120_1), ((HB.out.cell (Zlt _ _ hw120_2)).trans hw120_2), ((HB.out.cell (Zlt _ _ hw121_0)).trans hw121_0), ((HB.out.cell (Zlt _ _ hw121_1)).trans hw121_1), ((HB.out.cell (Zlt _ _ hw121_2)).trans hw121_2), ((HB.out.cell (Zlt _ _ hw122_0)).trans hw122_0), ((HB.out.cell (Zlt _ _ hw122_1)).trans hw122_1), ((HB.out.cell (Zlt _ _ hw122_2)).trans hw122_2)⟩ (fun hHeld => ?_); refine with_tabW spec_BareSame.tab6 spec_BareSame.bits6 (fun HT_ HW_ => ?_)
                generalize wr.drew = w49 at BK116 BK117 HB HR119_2 HR120_2 HR121_2 HR122_2 hx119_0 hx119_1 hx119_2 hx120_0 hx120_1 hx120_2 hx121_0 hx121_1 hx121_2 hx122_0 hx122_1 hx122_2 hHeld ⊢
                refine pure_ (i := 0) (N := some 75) (v := ?_) (a' := ?_) #[true, false, false, false, false, false, false, false, false, false, false, false, false, false, false, false, false, false, false, false, false, false, false, false, false, false, false, false, false, false, false, false, false, false, false, false, false, false, false, false, false, false, false, false] rfl rfl (any_of HT_.out (by kernel_rfl)) (fun _ _ _ h => h) (Or.inl ⟨by rfl, ?_⟩) ?_ ?_
                rotate_left
                · intro w'
                  go_simp
                  with_reducible rfl
                rotate_left
                · simp only [Act.put, List.setIfInBounds_toArray, List.set_cons_zero, List.set_cons_succ, i64_w, i32_w]
                  rfl
                refine pure_ (i := 2) (N := some 77) (v := ?_) (a' := ?_) #[true, false, true, false, false, false, false, false, false, false, false, false, false, false, false, false, false, false, false, false, false, false, false, false, false, false, false, false, false, false, false, false, false, false, false, false, false, false, false, false, false, false, false, false] rfl rfl (any_of HT_.out (by kernel_rfl)) (fun _ _ _ h => h) (Or.inl ⟨by rfl, ?_⟩) ?_ ?_
                rotate_left
                · intro w'
                  go_simp
                  with_reducible rfl
                rotate_left
                · simp only [Act.put, List.setIfInBounds_toArray, List.set_cons_zero, List.set_cons_succ, i64_w, i32_w]
                  rfl
                refine pure_ (i := 6) (N := some 81) (v := ?_) (a' := ?_) #[true, false, true, false, false, false, true, false, false, false, false, false, false, false, false, false, false, false, false, false, false, false, false, false, false, false, false, false, false, false, false, false, false, false, false, false, false, false, false, false, false, false, false, false] rfl rfl (any_of HT_.out (by kernel_rfl)) (fun _ _ _ h => h) (Or.inl ⟨by rfl, ?_⟩) ?_ ?_
                rotate_left
                · intro w'
                  go_simp
                  with_reducible rfl
                rotate_left
                · simp only [Act.put, List.setIfInBounds_toArray, List.set_cons_zero, List.set_cons_succ, i64_w, i32_w]
                  rfl
                refine pure_ (i := 8) (N := some 83) (v := ?_) (a' := ?_) #[true, false, true, false, false, false, true, false, true, false, false, false, false, false, false, false, false, false, false, false, false, false, false, false, false, false, false, false, false, false, false, false, false, false, false, false, false, false, false, false, false, false, false, false] rfl rfl (any_of HT_.out (by kernel_rfl)) (fun _ _ _ h => h) (Or.inl ⟨by rfl, ?_⟩) ?_ ?_
                rotate_left
                · intro w'
                  go_simp
                  with_reducible rfl
                rotate_left
                · simp only [Act.put, List.setIfInBounds_toArray, List.set_cons_zero, List.set_cons_succ, i64_w, i32_w]
                  rfl
                refine take_ (i := 1) (N := some 76) (v := ?_) (a' := ?_) #[true, true, true, false, false, false, true, false, true, false, false, false, false, false, false, false, false, false, false, false, false, false, false, false, false, false, false, false, false, false, false, false, false, false, false, false, false, false, false, false, false, false, false, false] rfl rfl (take_ofW HT_.out HW_.out (by kernel_rfl)) (fun _ _ _ h => h) (Or.inl ⟨by rfl, ?_⟩) hHeld ?_ ?_
                rotate_left
                · rintro w' ⟨s0, s1, s2, s3, s4, s5, s6, s7, s8, s9, s10, s11, s12, s13, s14, s15, s16, s17, s18, s19, s20, s21, s22, s23, s24, s25, s26, s27⟩
                  go_simp
                  with_reducible rfl
                rotate_left
                · simp only [Act.put, List.setIfInBounds_toArray, List.set_cons_zero, List.set_cons_succ, i64_w, i32_w]
                  rfl
                refine pure_ (i := 3) (N := some 78) (v := ?_) (a' := ?_) #[true, true, true, true, false, false, true, false, true, false, false, false, false, false, false, false, false, false, false, false, false, false, false, false, false, false, false, false, false, false, false, false, false, false, false, false, false, false, false, false, false, false, false, false] rfl rfl (any_of HT_.out (by kernel_rfl)) (fun _ _ _ h => h) (Or.inl ⟨by rfl, ?_⟩) ?_ ?_
                rotate_left
                · intro w'
                  go_simp
                  with_reducible rfl
                rotate_left
                · simp only [Act.put, List.setIfInBounds_toArray, List.set_cons_zero, List.set_cons_succ, i64_w, i32_w]
                  rfl
                refine pure_ (i := 4) (N := some 79) (v := ?_) (a' := ?_) #[true, true, true, true, true, false, true, false, true, false, false, false, false, false, false, false, false, false, false, false, false, false, false, false, false, false, false, false, false, false, false, false, false, false, false, false, false, false, false, false, false, false, false, false] rfl rfl (any_of HT_.out (by kernel_rfl)) (fun _ _ _ h => h) (Or.inl ⟨by rfl, ?_⟩) ?_ ?_
                rotate_left
                · intro w'
                  go_simp
                  with_reducible rfl
                rotate_left
                · simp only [Act.put, List.setIfInBounds_toArray, List.set_cons_zero, List.set_cons_succ, i64_w, i32_w]
                  rfl
                refine take_ (i := 5) (N := some 80) (v := ?_) (a' := ?_) #[true, true, true, true, true, true, true, false, true, false, false, false, false, false, false, false, false, false, false, false, false, false, false, false, false, false, false, false, false, false, false, false, false, false, false, false, false, false, false, false, false, false, false, false] rfl rfl (take_ofW HT_.out HW_.out (by kernel_rfl)) (fun _ _ _ h => h) (Or.inl ⟨by rfl, ?_⟩) hHeld ?_ ?_
                rotate_left
                · rintro w' ⟨s0, s1, s2, s3, s4, s5, s6, s7, s8, s9, s10, s11, s12, s13, s14, s15, s16, s17, s18, s19, s20, s21, s22, s23, s24, s25, s26, s27⟩
                  go_simp
                  with_reducible rfl
                rotate_left
                · simp only [Act.put, List.setIfInBounds_toArray, List.set_cons_zero, List.set_cons_succ, i64_w, i32_w]
                  rfl
                refine take_ (i := 7) (N := some 82) (v := ?_) (a' := ?_) #[true, true, true, true, true, true, true, true, true, false, false, false, false, false, false, false, false, false, false, false, false, false, false, false, false, false, false, false, false, false, false, false, false, false, false, false, false, false, false, false, false, false, false, false] rfl rfl (take_ofW HT_.out HW_.out (by kernel_rfl)) (fun _ _ _ h => h) (Or.inl ⟨by rfl, ?_⟩) hHeld ?_ ?_
                rotate_left
                · rintro w' ⟨s0, s1, s2, s3, s4, s5, s6, s7, s8, s9, s10, s11, s12, s13, s14, s15, s16, s17, s18, s19, s20, s21, s22, s23, s24, s25, s26, s27⟩
                  go_simp
                  with_reducible rfl
                rotate_left
                · simp only [Act.put, List.setIfInBounds_toArray, List.set_cons_zero, List.set_cons_succ, i64_w, i32_w]
                  rfl
                refine pure_ (i := 9) (N := some 84) (v := ?_) (a' := ?_) #[true, true, true, true, true, true, true, true, true, true, false, false, false, false, false, false, false, false, false, false, false, false, false, false, false, false, false, false, false, false, false, false, false, false, false, false, false, false, false, false, false, false, false, false] rfl rfl (any_of HT_.out (by kernel_rfl)) (fun _ _ _ h => h) (Or.inl ⟨by rfl, ?_⟩) ?_ ?_
                rotate_left
                · intro w'
                  go_simp
                  with_reducible rfl
                rotate_left
                · simp only [Act.put, List.setIfInBounds_toArray, List.set_cons_zero, List.set_cons_succ, i64_w, i32_w]
                  rfl
                refine pure_ (i := 10) (N := some 85) (v := ?_) (a' := ?_) #[true, true, true, true, true, true, true, true, true, true, true, false, false, false, false, false, false, false, false, false, false, false, false, false, false, false, false, false, false, false, false, false, false, false, false, false, false, false, false, false, false, false, false, false] rfl rfl (any_of HT_.out (by kernel_rfl)) (fun _ _ _ h => h) (Or.inl ⟨by rfl, ?_⟩) ?_ ?_
                rotate_left
                · intro w'
                  go_simp
                  with_reducible rfl
                rotate_left
                · simp only [Act.put, List.setIfInBounds_toArray, List.set_cons_zero, List.set_cons_succ, i64_w, i32_w]
                  rfl
                refine take_ (i := 11) (N := some 86) (v := ?_) (a' := ?_) #[true, true, true, true, true, true, true, true, true, true, true, true, false, false, false, false, false, false, false, false, false, false, false, false, false, false, false, false, false, false, false, false, false, false, false, false, false, false, false, false, false, false, false, false] rfl rfl (take_ofW HT_.out HW_.out (by kernel_rfl)) (fun _ _ _ h => h) (Or.inl ⟨by rfl, ?_⟩) hHeld ?_ ?_
                rotate_left
                · rintro w' ⟨s0, s1, s2, s3, s4, s5, s6, s7, s8, s9, s10, s11, s12, s13, s14, s15, s16, s17, s18, s19, s20, s21, s22, s23, s24, s25, s26, s27⟩
                  go_simp
                  with_reducible rfl
                rotate_left
                · simp only [Act.put, List.setIfInBounds_toArray, List.set_cons_zero, List.set_cons_succ, i64_w, i32_w]
                  rfl
                refine pure_ (i := 12) (N := some 87) (v := ?_) (a' := ?_) #[true, true, true, true, true, true, true, true, true, true, true, true, true, false, false, false, false, false, false, false, false, false, false, false, false, false, false, false, false, false, false, false, false, false, false, false, false, false, false, false, false, false, false, false] rfl rfl (any_of HT_.out (by kernel_rfl)) (fun _ _ _ h => h) (Or.inl ⟨by rfl, ?_⟩) ?_ ?_
                rotate_left
                · intro w'
                  go_simp
                  with_reducible rfl
                rotate_left
                · simp only [Act.put, List.setIfInBounds_toArray, List.set_cons_zero, List.set_cons_succ, i64_w, i32_w]
                  rfl
                refine pure_ (i := 13) (N := some 88) (v := ?_) (a' := ?_) #[true, true, true, true, true, true, true, true, true, true, true, true, true, true, false, false, false, false, false, false, false, false, false, false, false, false, false, false, false, false, false, false, false, false, false, false, false, false, false, false, false, false, false, false] rfl rfl (any_of HT_.out (by kernel_rfl)) (fun _ _ _ h => h) (Or.inl ⟨by rfl, ?_⟩) ?_ ?_
                rotate_left
                · intro w'
                  go_simp
                  with_reducible rfl
                rotate_left
                · simp only [Act.put, List.setIfInBounds_toArray, List.set_cons_zero, List.set_cons_succ, i64_w, i32_w]
                  rfl
                refine pure_ (i := 14) (N := some 89) (v := ?_) (a' := ?_) #[true, true, true, true, true, true, true, true, true, true, true, true, true, true, true, false, false, false, false, false, false, false, false, false, false, false, false, false, false, false, false, false, false, false, false, false, false, false, false, false, false, false, false, false] rfl rfl (any_of HT_.out (by kernel_rfl)) (fun _ _ _ h => h) (Or.inl ⟨by rfl, ?_⟩) ?_ ?_
                rotate_left
                · intro w'
                  go_simp
                  with_reducible rfl
                rotate_left
                · simp only [Act.put, List.setIfInBounds_toArray, List.set_cons_zero, List.set_cons_succ, i64_w, i32_w]
                  rfl
                refine pure_ (i := 16) (N := some 91) (v := ?_) (a' := ?_) #[true, true, true, true, true, true, true, true, true, true, true, true, true, true, true, false, true, false, false, false, false, false, false, false, false, false, false, false, false, false, false, false, false, false, false, false, false, false, false, false, false, false, false, false] rfl rfl (any_of HT_.out (by kernel_rfl)) (fun _ _ _ h => h) (Or.inl ⟨by rfl, ?_⟩) ?_ ?_
                rotate_left
                · intro w'
                  go_simp
                  with_reducible rfl
                rotate_left
                · simp only [Act.put, List.setIfInBounds_toArray, List.set_cons_zero, List.set_cons_succ, i64_w, i32_w]
                  rfl
                refine pure_ (i := 20) (N := some 95) (v := ?_) (a' := ?_) #[true, true, true, true, true, true, true, true, true, true, true, true, true, true, true, false, true, false, false, false, true, false, false, false, false, false, false, false, false, false, false, false, false, false, false, false, false, false, false, false, false, false, false, false] rfl rfl (any_of HT_.out (by kernel_rfl)) (fun _ _ _ h => h) (Or.inl ⟨by rfl, ?_⟩) ?_ ?_
                rotate_left
                · intro w'
                  go_simp
                  with_reducible rfl
                rotate_left
                · simp only [Act.put, List.setIfInBounds_toArray, List.set_cons_zero, List.set_cons_succ, i64_w, i32_w]
                  rfl
                refine pure_ (i := 22) (N := some 97) (v := ?_) (a' := ?_) #[true, true, true, true, true, true, true, true, true, true, true, true, true, true, true, false, true, false, false, false, true, false, true, false, false, false, false, false, false, false, false, false, false, false, false, false, false, false, false, false, false, false, false, false] rfl rfl (any_of HT_.out (by kernel_rfl)) (fun _ _ _ h => h) (Or.inl ⟨by rfl, ?_⟩) ?_ ?_
                rotate_left
                · intro w'
                  go_simp
                  with_reducible rfl
                rotate_left
                · simp only [Act.put, List.setIfInBounds_toArray, List.set_cons_zero, List.set_cons_succ, i64_w, i32_w]
                  rfl
                refine take_ (i := 15) (N := some 90) (v := ?_) (a' := ?_) #[true, true, true, true, true, true, true, true, true, true, true, true, true, true, true, true, true, false, false, false, true, false, true, false, false, false, false, false, false, false, false, false, false, false, false, false, false, false, false, false, false, false, false, false] rfl rfl (take_ofW HT_.out HW_.out (by kernel_rfl)) (fun _ _ _ h => h) (Or.inl ⟨by rfl, ?_⟩) hHeld ?_ ?_
                rotate_left
                · rintro w' ⟨s0, s1, s2, s3, s4, s5, s6, s7, s8, s9, s10, s11, s12, s13, s14, s15, s16, s17, s18, s19, s20, s21, s22, s23, s24, s25, s26, s27⟩
                  go_simp
                  with_reducible rfl
                rotate_left
                · simp only [Act.put, List.setIfInBounds_toArray, List.set_cons_zero, List.set_cons_succ, i64_w, i32_w]
                  rfl
                refine pure_ (i := 17) (N := some 92) (v := ?_) (a' := ?_) #[true, true, true, true, true, true, true, true, true, true, true, true, true, true, true, true, true, true, false, false, true, false, true, false, false, false, false, false, false, false, false, false, false, false, false, false, false, false, false, false, false, false, false, false] rfl rfl (any_of HT_.out (by kernel_rfl)) (fun _ _ _ h => h) (Or.inl ⟨by rfl, ?_⟩) ?_ ?_
                rotate_left
                · intro w'
                  go_simp
                  with_reducible rfl
                rotate_left
                · simp only [Act.put, List.setIfInBounds_toArray, List.set_cons_zero, List.set_cons_succ, i64_w, i32_w]
                  rfl
                refine pure_ (i := 18) (N := some 93) (v := ?_) (a' := ?_) #[true, true, true, true, true, true, true, true, true, true, true, true, true, true, true, true, true, true, true, false, true, false, true, false, false, false, false, false, false, false, false, false, false, false, false, false, false, false, false, false, false, false, false, false] rfl rfl (any_of HT_.out (by kernel_rfl)) (fun _ _ _ h => h) (Or.inl ⟨by rfl, ?_⟩) ?_ ?_
                rotate_left
                · intro w'
                  go_simp
                  with_reducible rfl
                rotate_left
                · simp only [Act.put, List.setIfInBounds_toArray, List.set_cons_zero, List.set_cons_succ, i64_w, i32_w]
                  rfl
                refine take_ (i := 19) (N := some 94) (v := ?_) (a' := ?_) #[true, true, true, true, true, true, true, true, true, true, true, true, true, true, true, true, true, true, true, true, true, false, true, false, false, false, false, false, false, false, false, false, false, false, false, false, false, false, false, false, false, false, false, false] rfl rfl (take_ofW HT_.out HW_.out (by kernel_rfl)) (fun _ _ _ h => h) (Or.inl ⟨by rfl, ?_⟩) hHeld ?_ ?_
                rotate_left
                · rintro w' ⟨s0, s1, s2, s3, s4, s5, s6, s7, s8, s9, s10, s11, s12, s13, s14, s15, s16, s17, s18, s19, s20, s21, s22, s23, s24, s25, s26, s27⟩
                  go_simp
                  with_reducible rfl
                rotate_left
                · simp only [Act.put, List.setIfInBounds_toArray, List.set_cons_zero, List.set_cons_succ, i64_w, i32_w]
                  rfl
                refine take_ (i := 21) (N := some 96) (v := ?_) (a' := ?_) #[true, true, true, true, true, true, true, true, true, true, true, true, true, true, true, true, true, true, true, true, true, true, true, false, false, false, false, false, false, false, false, false, false, false, false, false, false, false, false, false, false, false, false, false] rfl rfl (take_ofW HT_.out HW_.out (by kernel_rfl)) (fun _ _ _ h => h) (Or.inl ⟨by rfl, ?_⟩) hHeld ?_ ?_
                rotate_left
                · rintro w' ⟨s0, s1, s2, s3, s4, s5, s6, s7, s8, s9, s10, s11, s12, s13, s14, s15, s16, s17, s18, s19, s20, s21, s22, s23, s24, s25, s26, s27⟩
                  go_simp
                  with_reducible rfl
                rotate_left
                · simp only [Act.put, List.setIfInBounds_toArray, List.set_cons_zero, List.set_cons_succ, i64_w, i32_w]
                  rfl
                refine pure_ (i := 23) (N := some 98) (v := ?_) (a' := ?_) #[true, true, true, true, true, true, true, true, true, true, true, true, true, true, true, true, true, true, true, true, true, true, true, true, false, false, false, false, false, false, false, false, false, false, false, false, false, false, false, false, false, false, false, false] rfl rfl (any_of HT_.out (by kernel_rfl)) (fun _ _ _ h => h) (Or.inl ⟨by rfl, ?_⟩) ?_ ?_
                rotate_left
                · intro w'
                  go_simp
                  with_reducible rfl
                rotate_left
                · simp only [Act.put, List.setIfInBounds_toArray, List.set_cons_zero, List.set_cons_succ, i64_w, i32_w]
                  rfl
                refine pure_ (i := 24) (N := some 99) (v := ?_) (a' := ?_) #[true, true, true, true, true, true, true, true, true, true, true, true, true, true, true, true, true, true, true, true, true, true, true, true, true, false, false, false, false, false, false, false, false, false, false, false, false, false, false, false, false, false, false, false] rfl rfl (any_of HT_.out (by kernel_rfl)) (fun _ _ _ h => h) (Or.inl ⟨by rfl, ?_⟩) ?_ ?_
                rotate_left
                · intro w'
                  go_simp
                  with_reducible rfl
                rotate_left
                · simp only [Act.put, List.setIfInBounds_toArray, List.set_cons_zero, List.set_cons_succ, i64_w, i32_w]
                  rfl
                refine take_ (i := 25) (N := some 100) (v := ?_) (a' := ?_) #[true, true, true, true, true, true, true, true, true, true, true, true, true, true, true, true, true, true, true, true, true, true, true, true, true, true, false, false, false, false, false, false, false, false, false, false, false, false, false, false, false, false, false, false] rfl rfl (take_ofW HT_.out HW_.out (by kernel_rfl)) (fun _ _ _ h => h) (Or.inl ⟨by rfl, ?_⟩) hHeld ?_ ?_
                rotate_left
                · rintro w' ⟨s0, s1, s2, s3, s4, s5, s6, s7, s8, s9, s10, s11, s12, s13, s14, s15, s16, s17, s18, s19, s20, s21, s22, s23, s24, s25, s26, s27⟩
                  go_simp
                  with_reducible rfl
                rotate_left
                · simp only [Act.put, List.setIfInBounds_toArray, List.set_cons_zero, List.set_cons_succ, i64_w, i32_w]
                  rfl
                refine pure_ (i := 26) (N := some 101) (v := ?_) (a' := ?_) #[true, true, true, true, true, true, true, true, true, true, true, true, true, true, true, true, true, true, true, true, true, true, true, true, true, true, true, false, false, false, false, false, false, false, false, false, false, false, false, false, false, false, false, false] rfl rfl (any_of HT_.out (by kernel_rfl)) (fun _ _ _ h => h) (Or.inl ⟨by rfl, ?_⟩) ?_ ?_
                rotate_left
                · intro w'
                  go_simp
                  with_reducible rfl
                rotate_left
                · simp only [Act.put, List.setIfInBounds_toArray, List.set_cons_zero, List.set_cons_succ, i64_w, i32_w]
                  rfl
                refine pure_ (i := 27) (N := some 102) (v := ?_) (a' := ?_) #[true, true, true, true, true, true, true, true, true, true, true, true, true, true, true, true, true, true, true, true, true, true, true, true, true, true, true, true, false, false, false, false, false, false, false, false, false, false, false, false, false, false, false, false] rfl rfl (any_of HT_.out (by kernel_rfl)) (fun _ _ _ h => h) (Or.inl ⟨by rfl, ?_⟩) ?_ ?_
                rotate_left
                · intro w'
                  go_simp
                  with_reducible rfl
                rotate_left
                · simp only [Act.put, List.setIfInBounds_toArray, List.set_cons_zero, List.set_cons_succ, i64_w, i32_w]
                  rfl
                refine pure_ (i := 28) (N := some 103) (v := ?_) (a' := ?_) #[true, true, true, true, true, true, true, true, true, true, true, true, true, true, true, true, true, true, true, true, true, true, true, true, true, true, true, true, true, false, false, false, false, false, false, false, false, false, false, false, false, false, false, false] rfl rfl (any_of HT_.out (by kernel_rfl)) (fun _ _ _ h => h) (Or.inl ⟨by rfl, ?_⟩) ?_ ?_
                rotate_left
                · intro w'
                  go_simp
                  with_reducible rfl
                rotate_left
                · simp only [Act.put, List.setIfInBounds_toArray, List.set_cons_zero, List.set_cons_succ, i64_w, i32_w]
                  rfl
                refine pure_ (i := 29) (N := some 104) (v := undef) (a' := ?_) #[true, true, true, true, true, true, true, true, true, true, true, true, true, true, true, true, true, true, true, true, true, true, true, true, true, true, true, true, true, true, false, false, false, false, false, false, false, false, false, false, false, false, false, false] rfl rfl (any_of HT_.out (by kernel_rfl)) (fun _ _ _ h => h) (Or.inr ⟨by rfl, rfl⟩) ?_ ?_
                rotate_left
                · simp only [Act.put, List.setIfInBounds_toArray, List.set_cons_zero, List.set_cons_succ, i64_w, i32_w]
                  rfl
                refine pure_ (i := 30) (N := some 105) (v := undef) (a' := ?_) #[true, true, true, true, true, true, true, true, true, true, true, true, true, true, true, true, true, true, true, true, true, true, true, true, true, true, true, true, true, true, true, false, false, false, false, false, false, false, false, false, false, false, false, false] rfl rfl (any_of HT_.out (by kernel_rfl)) (fun _ _ _ h => h) (Or.inr ⟨by rfl, rfl⟩) ?_ ?_
                rotate_left
                · simp only [Act.put, List.setIfInBounds_toArray, List.set_cons_zero, List.set_cons_succ, i64_w, i32_w]
                  rfl
                refine pure_ (i := 31) (N := some 106) (v := undef) (a' := ?_) #[true, true, true, true, true, true, true, true, true, true, true, true, true, true, true, true, true, true, true, true, true, true, true, true, true, true, true, true, true, true, true, true, false, false, false, false, false, false, false, false, false, false, false, false] rfl rfl (any_of HT_.out (by kernel_rfl)) (fun _ _ _ h => h) (Or.inr ⟨by rfl, rfl⟩) ?_ ?_
                rotate_left
                · simp only [Act.put, List.setIfInBounds_toArray, List.set_cons_zero, List.set_cons_succ, i64_w, i32_w]
                  rfl
                refine pure_ (i := 32) (N := some 107) (v := undef) (a' := ?_) #[true, true, true, true, true, true, true, true, true, true, true, true, true, true, true, true, true, true, true, true, true, true, true, true, true, true, true, true, true, true, true, true, true, false, false, false, false, false, false, false, false, false, false, false] rfl rfl (any_of HT_.out (by kernel_rfl)) (fun _ _ _ h => h) (Or.inr ⟨by rfl, rfl⟩) ?_ ?_
                rotate_left
                · simp only [Act.put, List.setIfInBounds_toArray, List.set_cons_zero, List.set_cons_succ, i64_w, i32_w]
                  rfl
                refine pure_ (i := 33) (N := some 108) (v := undef) (a' := ?_) #[true, true, true, true, true, true, true, true, true, true, true, true, true, true, true, true, true, true, true, true, true, true, true, true, true, true, true, true, true, true, true, true, true, true, false, false, false, false, false, false, false, false, false, false] rfl rfl (any_of HT_.out (by kernel_rfl)) (fun _ _ _ h => h) (Or.inr ⟨by rfl, rfl⟩) ?_ ?_
                rotate_left
                · simp only [Act.put, List.setIfInBounds_toArray, List.set_cons_zero, List.set_cons_succ, i64_w, i32_w]
                  rfl
                refine pure_ (i := 34) (N := some 109) (v := undef) (a' := ?_) #[true, true, true, true, true, true, true, true, true, true, true, true, true, true, true, true, true, true, true, true, true, true, true, true, true, true, true, true, true, true, true, true, true, true, true, false, false, false, false, false, false, false, false, false] rfl rfl (any_of HT_.out (by kernel_rfl)) (fun _ _ _ h => h) (Or.inr ⟨by rfl, rfl⟩) ?_ ?_
                rotate_left
                · simp only [Act.put, List.setIfInBounds_toArray, List.set_cons_zero, List.set_cons_succ, i64_w, i32_w]
                  rfl
                refine pure_ (i := 35) (N := some 110) (v := undef) (a' := ?_) #[true, true, true, true, true, true, true, true, true, true, true, true, true, true, true, true, true, true, true, true, true, true, true, true, true, true, true, true, true, true, true, true, true, true, true, true, false, false, false, false, false, false, false, false] rfl rfl (any_of HT_.out (by kernel_rfl)) (fun _ _ _ h => h) (Or.inr ⟨by rfl, rfl⟩) ?_ ?_
                rotate_left
                · simp only [Act.put, List.setIfInBounds_toArray, List.set_cons_zero, List.set_cons_succ, i64_w, i32_w]
                  rfl
                refine pure_ (i := 36) (N := some 111) (v := undef) (a' := ?_) #[true, true, true, true, true, true, true, true, true, true, true, true, true, true, true, true, true, true, true, true, true, true, true, true, true, true, true, true, true, true, true, true, true, true, true, true, true, false, false, false, false, false, false, false] rfl rfl (any_of HT_.out (by kernel_rfl)) (fun _ _ _ h => h) (Or.inr ⟨by rfl, rfl⟩) ?_ ?_
                rotate_left
                · simp only [Act.put, List.setIfInBounds_toArray, List.set_cons_zero, List.set_cons_succ, i64_w, i32_w]
                  rfl
                refine pure_ (i := 37) (N := some 112) (v := undef) (a' := ?_) #[true, true, true, true, true, true, true, true, true, true, true, true, true, true, true, true, true, true, true, true, true, true, true, true, true, true, true, true, true, true, true, true, true, true, true, true, true, true, false, false, false, false, false, false] rfl rfl (any_of HT_.out (by kernel_rfl)) (fun _ _ _ h => h) (Or.inr ⟨by rfl, rfl⟩) ?_ ?_
                rotate_left
                · simp only [Act.put, List.setIfInBounds_toArray, List.set_cons_zero, List.set_cons_succ, i64_w, i32_w]
                  rfl
                refine pure_ (i := 38) (N := some 113) (v := undef) (a' := ?_) #[true, true, true, true, true, true, true, true, true, true, true, true, true, true, true, true, true, true, true, true, true, true, true, true, true, true, true, true, true, true, true, true, true, true, true, true, true, true, true, false, false, false, false, false] rfl rfl (any_of HT_.out (by kernel_rfl)) (fun _ _ _ h => h) (Or.inr ⟨by rfl, rfl⟩) ?_ ?_
                rotate_left
                · simp only [Act.put, List.setIfInBounds_toArray, List.set_cons_zero, List.set_cons_succ, i64_w, i32_w]
                  rfl
                refine pure_ (i := 39) (N := some 114) (v := undef) (a' := ?_) #[true, true, true, true, true, true, true, true, true, true, true, true, true, true, true, true, true, true, true, true, true, true, true, true, true, true, true, true, true, true, true, true, true, true, true, true, true, true, true, true, false, false, false, false] rfl rfl (any_of HT_.out (by kernel_rfl)) (fun _ _ _ h => h) (Or.inr ⟨by rfl, rfl⟩) ?_ ?_
                rotate_left
                · simp only [Act.put, List.setIfInBounds_toArray, List.set_cons_zero, List.set_cons_succ, i64_w, i32_w]
                  rfl
                refine pure_ (i := 40) (N := some 115) (v := undef) (a' := ?_) #[true, true, true, true, true, true, true, true, true, true, true, true, true, true, true, true, true, true, true, true, true, true, true, true, true, true, true, true, true, true, true, true, true, true, true, true, true, true, true, true, true, false, false, false] rfl rfl (any_of HT_.out (by kernel_rfl)) (fun _ _ _ h => h) (Or.inr ⟨by rfl, rfl⟩) ?_ ?_
                rotate_left
                · simp only [Act.put, List.setIfInBounds_toArray, List.set_cons_zero, List.set_cons_succ, i64_w, i32_w]
                  rfl
                refine pure_ (i := 41) (N := some 116) (v := undef) (a' := ?_) #[true, true, true, true, true, true, true, true, true, true, true, true, true, true, true, true, true, true, true, true, true, true, true, true, true, true, true, true, true, true, true, true, true, true, true, true, true, true, true, true, true, true, false, false] rfl rfl (any_of HT_.out (by kernel_rfl)) (fun _ _ _ h => h) (Or.inr ⟨by rfl, rfl⟩) ?_ ?_
                rotate_left
                · simp only [Act.put, List.setIfInBounds_toArray, List.set_cons_zero, List.set_cons_succ, i64_w, i32_w]
                  rfl
                refine pure_ (i := 42) (N := some 117) (v := undef) (a' := ?_) #[true, true, true, true, true, true, true, true, true, true, true, true, true, true, true, true, true, true, true, true, true, true, true, true, true, true, true, true, true, true, true, true, true, true, true, true, true, true, true, true, true, true, true, false] rfl rfl (any_of HT_.out (by kernel_rfl)) (fun _ _ _ h => h) (Or.inr ⟨by rfl, rfl⟩) ?_ ?_
                rotate_left
                · simp only [Act.put, List.setIfInBounds_toArray, List.set_cons_zero, List.set_cons_succ, i64_w, i32_w]
                  rfl
                refine pure_ (i := 43) (N := some 118) (v := ?_) (a' := ?_) #[true, true, true, true, true, true, true, true, true, true, true, true, true, true, true, true, true, true, true, true, true, true, true, true, true, true, true, true, true, true, true, true, true, true, true, true, true, true, true, true, true, true, true, true] rfl rfl (any_of HT_.out (by kernel_rfl)) (fun _ _ _ h => h) (Or.inl ⟨by rfl, ?_⟩) ?_ ?_
                rotate_left
                · intro w'
                  go_simp
                  with_reducible rfl
                rotate_left
                · simp only [Act.put, List.setIfInBounds_toArray, List.set_cons_zero, List.set_cons_succ, i64_w, i32_w]
                  rfl
                refine done_ (done_of HT_.out (by kernel_rfl)) ?_
                try go_wp2
                go_meet
                case rel => exact ⟨_, (true), (by first | rfl | (simp; done) | (simp [*]; done)), H', ⟨by have := HJ2.out; have := HK2.out; first | omega | exact Nat.le_refl _⟩, ⟨by (with_reducible repeat (first | refine Zkn ?_ _ | refine Zkd ?_ | refine Zka ?_ _)); exact BK116.out⟩, ⟨by (with_reducible repeat (first | refine Zkn ?_ _ | refine Zkd ?_ | refine Zka ?_ _)); exact BK117.out⟩, ⟨by repeat (first | (with_reducible first | exact HB.out | apply Zba | apply Zbn | apply Zbd | refine Zbs ?_ GE116.out | refine Zbs ?_ GE117.out) | exact HB.out)⟩⟩
              rw [if_pos c46] at H
              have c46b0 : (((rd_T108 l0_0 x5_2).f1) == ((rd_T108 l1_0 x5_2).f1)) = true := beq_iff_eq.mpr c46
              have c46b1 : (((rd_T108 l0_0 x5_2).f1) != ((rd_T108 l1_0 x5_2).f1)) = false := bne_eq_false_iff_eq.mpr c46
              clear c46
              replace H := Option.bind_eq_some_iff.mp H
              obtain ⟨t125, A470, H⟩ := H
              replace H : (spec_BareSame.j2 k2 x5_2 (!t125) l0_0 a0_1 l0_2 l0_3 a0_4 a0_5 a0_6 a0_7 l1_0 a1_1 l1_2 l1_3 a1_4 a1_5 a1_6 a1_7) = some r := H
              have A47 := Zm A470
              clear A470
              have H' := Zm H
              clear H
              try go_wp2
              have n0_ := Zm (Zkd BK116.out)
              have n1_ := Zm (Zkd BK117.out)
              have n2_ := Zm (Zbd HB.out)
              clear BK116
              clear BK117
              clear HB
              have BK116 := n0_
              have BK117 := n1_
              have HB := n2_
              clear n0_ n1_ n2_
              have p119 : 0 ≤ (x5_2 : Int) := of_decide_eq_true (by first | (with_reducible assumption) | assumption)
              have q119 : x5_2 < (l0_0.length : Int) := of_decide_eq_true (by first | (with_reducible assumption) | assumption)
              obtain ⟨ad119, A119_2, c119_2, e119, hx119_0, hx119_1, hx119_2, hl119_2, hi119_2⟩ := at_T108 HR0_0.out x5_2 p119 q119
              have hw119_2 := hx119_2
              have hw119_1 := hx119_1
              have hw119_0 := hx119_0
              cases e119
              replace hx119_0 := (HB.out.cell (Zlt _ _ hx119_0)).trans hx119_0
              replace hx119_1 := (HB.out.cell (Zlt _ _ hx119_1)).trans hx119_1
              replace hx119_2 := (HB.out.cell (Zlt _ _ hx119_2)).trans hx119_2
              have HR119_2 := Zm hi119_2
              have HC119_2 := Zm hl119_2
              clear hi119_2 hl119_2
              replace p119 := eq_true p119
              replace q119 := eq_true q119
              have p120 : 0 ≤ (x5_2 : Int) := of_decide_eq_true (by first | (with_reducible assumption) | assumption)
              have q120 : x5_2 < (l1_0.length : Int) := of_decide_eq_true (by first | (with_reducible assumption) | assumption)
              obtain ⟨ad120, A120_2, c120_2, e120, hx120_0, hx120_1, hx120_2, hl120_2, hi120_2⟩ := at_T108 HR1_0.out x5_2 p120 q120
              have hw120_2 := hx120_2
              have hw120_1 := hx120_1
              have hw120_0 := hx120_0
              cases e120
              replace hx120_0 := (HB.out.cell (Zlt _ _ hx120_0)).trans hx120_0
              replace hx120_1 := (HB.out.cell (Zlt _ _ hx120_1)).trans hx120_1
              replace hx120_2 := (HB.out.cell (Zlt _ _ hx120_2)).trans hx120_2
              have HR120_2 := Zm hi120_2
              have HC120_2 := Zm hl120_2
              clear hi120_2 hl120_2
              replace p120 := eq_true p120
              replace q120 := eq_true q120
              have p121 : 0 ≤ (x5_2 : Int) := of_decide_eq_true (by first | (with_reducible assumption) | assumption)
              have q121 : x5_2 < (l0_0.length : Int) := of_decide_eq_true (by first | (with_reducible assumption) | assumption)
              obtain ⟨ad121, A121_2, c121_2, e121, hx121_0, hx121_1, hx121_2, hl121_2, hi121_2⟩ := at_T108 HR0_0.out x5_2 p121 q121
              have hw121_2 := hx121_2
              have hw121_1 := hx121_1
              have hw121_0 := hx121_0
              obtain rfl : ad119 = ad121 := (by injection e121)
              replace hx121_0 := (HB.out.cell (Zlt _ _ hx121_0)).trans hx121_0
              replace hx121_1 := (HB.out.cell (Zlt _ _ hx121_1)).trans hx121_1
              replace hx121_2 := (HB.out.cell (Zlt _ _ hx121_2)).trans hx121_2
              have HR121_2 := Zm hi121_2
              have HC121_2 := Zm hl121_2
              clear hi121_2 hl121_2
              replace p121 := eq_true p121
              replace q121 := eq_true q121
              have ea_ := Option.some.inj (hx119_2.symm.trans hx121_2)
              injection ea_ with ea_ en_ ec_
              subst ea_
              subst ec_
              clear en_
              have p122 : 0 ≤ (x5_2 : Int) := of_decide_eq_true (by first | (with_reducible assumption) | assumption)
              have q122 : x5_2 < (l1_0.length : Int) := of_decide_eq_true (by first | (with_reducible assumption) | assumption)
              obtain ⟨ad122, A122_2, c122_2, e122, hx122_0, hx122_1, hx122_2, hl122_2, hi122_2⟩ := at_T108 HR1_0.out x5_2 p122 q122
              have hw122_2 := hx122_2
              have hw122_1 := hx122_1
              have hw122_0 := hx122_0
              obtain rfl : ad120 = ad122 := (by injection e122)
              replace hx122_0 := (HB.out.cell (Zlt _ _ hx122_0)).trans hx122_0
              replace hx122_1 := (HB.out.cell (Zlt _ _ hx122_1)).trans hx122_1
              replace hx122_2 := (HB.out.cell (Zlt _ _ hx122_2)).trans hx122_2
              have HR122_2 := Zm hi122_2
              have HC122_2 := Zm hl122_2
              clear hi122_2 hl122_2
              replace p122 := eq_true p122
              replace q122 := eq_true q122
              have ea_ := Option.some.inj (hx120_2.symm.trans hx122_2)
              injection ea_ with ea_ en_ ec_
              subst ea_
              subst ec_
              clear en_
              have p123 : 0 ≤ (x5_2 : Int) := of_decide_eq_true (by first | (with_reducible assumption) | assumption)
              have q123 : x5_2 < (l0_0.length : Int) := of_decide_eq_true (by first | (with_reducible assumption) | assumption)
              obtain ⟨ad123, A123_2, c123_2, e123, hx123_0, hx123_1, hx123_2, hl123_2, hi123_2⟩ := at_T108 HR0_0.out x5_2 p123 q123
              have hw123_2 := hx123_2
              have hw123_1 := hx123_1
              have hw123_0 := hx123_0
              obtain rfl : ad119 = ad123 := (by injection e123)
              replace hx123_0 := (HB.out.cell (Zlt _ _ hx123_0)).trans hx123_0
              replace hx123_1 := (HB.out.cell (Zlt _ _ hx123_1)).trans hx123_1
              replace hx123_2 := (HB.out.cell (Zlt _ _ hx123_2)).trans hx123_2
              have HR123_2 := Zm hi123_2
              have HC123_2 := Zm hl123_2
              clear hi123_2 hl123_2
              replace p123 := eq_true p123
              replace q123 := eq_true q123
              have ea_ := Option.some.inj (hx119_2.symm.trans hx123_2)
              injection ea_ with ea_ en_ ec_
              subst ea_
              subst ec_
              clear en_
              have p124 : 0 ≤ (x5_2 : Int) := of_decide_eq_true (by first | (with_reducible assumption) | assumption)
              have q124 : x5_2 < (l1_0.length : Int) := of_decide_eq_true (by first | (with_reducible assumption) | assumption)
              obtain ⟨ad124, A124_2, c124_2, e124, hx124_0, hx124_1, hx124_2, hl124_2, hi124_2⟩ := at_T108 HR1_0.out x5_2 p124 q124
              have hw124_2 := hx124_2
              have hw124_1 := hx124_1
              have hw124_0 := hx124_0
              obtain rfl : ad120 = ad124 := (by injection e124)
              replace hx124_0 := (HB.out.cell (Zlt _ _ hx124_0)).trans hx124_0
              replace hx124_1 := (HB.out.cell (Zlt _ _ hx124_1)).trans hx124_1
              replace hx124_2 := (HB.out.cell (Zlt _ _ hx124_2)).trans hx124_2
              have HR124_2 := Zm hi124_2
              have HC124_2 := Zm hl124_2
              clear hi124_2 hl124_2
              replace p124 := eq_true p124
              replace q124 := eq_true q124
              have ea_ := Option.some.inj (hx120_2.symm.trans hx124_2)
              injection ea_ with ea_ en_ ec_
              subst ea_
              subst ec_
              clear en_
              refine start_ (n := 44) (S := fun w' => w'.cell? ⟨gb116, 0, none⟩ = some (.slice (some ad119) l0_0.length c0_0) ∧ w'.cell? ⟨gb116, 1, none⟩ = some (.int .i64 a0_1) ∧ w'.cell? ⟨gb116, 2, none⟩ = some (.slice A0_2 l0_2.length c0_2) ∧ w'.cell? ⟨gb116, 3, none⟩ = some (.slice A0_3 l0_3.length c0_3) ∧ w'.cell? ⟨gb116, 4, none⟩ = some (.bool a0_4) ∧ w'.cell? ⟨gb116, 5, none⟩ = some (.int .i64 a0_5) ∧ w'.cell? ⟨gb116, 6, none⟩ = some (.string a0_6) ∧ w'.cell? ⟨gb116, 7, none⟩ = some (.int .i64 a0_7) ∧ w'.cell? ⟨gb117, 0, none⟩ = some (.slice (some ad120) l1_0.length c1_0) ∧ w'.cell? ⟨gb117, 1, none⟩ = some (.int .i64 a1_1) ∧ w'.cell? ⟨gb117, 2, none⟩ = some (.slice A1_2 l1_2.length c1_2) ∧ w'.cell? ⟨gb117, 3, none⟩ = some (.slice A1_3 l1_3.length c1_3) ∧ w'.cell? ⟨gb117, 4, none⟩ = some (.bool a1_4) ∧ w'.cell? ⟨gb117, 5, none⟩ = some (.int .i64 a1_5) ∧ w'.cell? ⟨gb117, 6, none⟩ = some (.string a1_6) ∧ w'.cell? ⟨gb117, 7, none⟩ = some (.int .i64 a1_7) ∧ w'.cell? (ad119.add ((x5_2).toNat * 3)) = some (.string ((rd_T108 l0_0 x5_2).f0)) ∧ w'.cell? ⟨(ad119.add ((x5_2).toNat * 3)).block, (ad119.add ((x5_2).toNat * 3)).off + 1, none⟩ = some (.int .i64 ((rd_T108 l0_0 x5_2).f1)) ∧ w'.cell? ⟨(ad119.add ((x5_2).toNat * 3)).block, (ad119.add ((x5_2).toNat * 3)).off + 2, none⟩ = some (.slice A119_2 ((rd_T108 l0_0 x5_2).f2).length c119_2) ∧ w'.cell? (ad120.add ((x5_2).toNat * 3)) = some (.string ((rd_T108 l1_0 x5_2).f0)) ∧ w'.cell? ⟨(ad120.add ((x5_2).toNat * 3)).block, (ad120.add ((x5_2).toNat * 3)).off + 1, none⟩ = some (.int .i64 ((rd_T108 l1_0 x5_2).f1)) ∧ w'.cell? ⟨(ad120.add ((x5_2).toNat * 3)).block, (ad120.add ((x5_2).toNat * 3)).off + 2, none⟩ = some (.slice A120_2 ((rd_T108 l1_0 x5_2).f2).length c120_2) ∧ w'.cell? (ad119.add ((x5_2).toNat * 3)) = some (.string ((rd_T108 l0_0 x5_2).f0)) ∧ w'.cell? ⟨(ad119.add ((x5_2).toNat * 3)).block, (ad119.add ((x5_2).toNat * 3)).off + 1, none⟩ = some (.int .i64 ((rd_T108 l0_0 x5_2).f1)) ∧ w'.cell? ⟨(ad119.add ((x5_2).toNat * 3)).block, (ad119.add ((x5_2).toNat * 3)).off + 2, none⟩ = some (.slice A119_2 ((rd_T108 l0_0 x5_2).f2).length c119_2) ∧ w'.cell? (ad120.add ((x5_2).toNat * 3)) = some (.string ((rd_T108 l1_0 x5_2).f0)) ∧ w'.cell? ⟨(ad120.add ((x5_2).toNat * 3)).block, (ad120.add ((x5_2).toNat * 3)).off + 1, none⟩ = some (.int .i64 ((rd_T108 l1_0 x5_2).f1)) ∧ w'.cell? ⟨(ad120.add ((x5_2).toNat * 3)).block, (ad120.add ((x5_2).toNat * 3)).off + 2, none⟩ = some (.slice A120_2 ((rd_T108 l1_0 x5_2).f2).length c120_2) ∧ w'.cell? (ad119.add ((x5_2).toNat * 3)) = some (.string ((rd_T108 l0_0 x5_2).f0)) ∧ w'.cell? ⟨(ad119.add ((x5_2).toNat * 3)).block, (ad119.add ((x5_2).toNat * 3)).off + 1, none⟩ = some (.int .i64 ((rd_T108 l0_0 x5_2).f1)) ∧ w'.cell? ⟨(ad119.add ((x5_2).toNat * 3)).block, (ad119.add ((x5_2).toNat * 3)).off + 2, none⟩ = some (.slice A119_2 ((rd_T108 l0_0 x5_2).f2).length c119_2) ∧ w'.cell? (ad120.add ((x5_2).toNat * 3)) = some (.string ((rd_T108 l1_0 x5_2).f0)) ∧ w'.cell? ⟨(ad120.add ((x5_2).toNat * 3)).block, (ad120.add ((x5_2).toNat * 3)).off + 1, none⟩ = some (.int .i64 ((rd_T108 l1_0 x5_2).f1)) ∧ w'.cell? ⟨(ad120.add ((x5_2).toNat * 3)).block, (ad120.add ((x5_2).toNat * 3)).off + 2, none⟩ = some (.slice A120_2 ((rd_T108 l1_0 x5_2).f2).length c120_2)) (ds := []) #[false, false, false, false, false, false, false, false, false, false, false, false, false, false, false, false, false, false, false, false, false, false, false, false, false, false, false, false, false, false, false, false, false, false, false, false, false, false, false, false, false, false, false, false] (by kernel_rfl) rfl rfl ⟨(Zkc BK116.out 0).trans rfl, (Zkc BK116.out 1).trans rfl, (Zkc BK116.out 2).trans rfl, (Zkc BK116.out 3).trans rfl, (Zkc BK116.out 4).trans rfl, (Zkc BK116.out 5).trans rfl, (Zkc BK116.out 6).trans rfl, (Zkc BK116.out 7).trans rfl, (Zkc BK117.out 0).trans rfl, (Zkc BK117.out 1).trans rfl, (Zkc BK117.out 2).trans rfl, (Zkc BK117.out 3).trans rfl, (Zkc BK117.out 4).trans rfl, (Zkc BK117.out 5).trans rfl, (Zkc BK117.out 6).trans rfl, (Zkc BK117.out 7).trans rfl, ((HB.out.cell (Zlt _ _ hw119_0)).trans hw119_0), ((HB.out.cell (Zlt _ _ hw119_1)).trans hw119_1), ((HB.out.cell (Zlt _ _ hw119_2)).trans hw119_2), ((HB.out.cell (Zlt _ _ hw120_0)).trans hw120_0), ((HB.out.cell (Zlt _ _ hw120_1)).trans hw120_1), ((HB.out.cell (Zlt _ _ hw120_2)).trans hw120_2), ((HB.out.cell (Zlt _ _ hw121_0)).trans hw121_0), ((HB.out.cell (Zlt _ _ hw121_1)).trans hw121_1), ((HB.out.cell (Zlt _ _ hw121_2)).trans hw121_2), ((HB.out.cell (Zlt _ _ hw122_0)).trans hw122_0), ((HB.out.cell (Zlt _ _ hw122_1)).trans hw122_1), ((HB.out.cell (Zlt _ _ hw122_2)).trans hw122_2), ((HB.out.cell (Zlt _ _ hw123_0)).trans hw123_0), ((HB.out.cell (Zlt _ _ hw123_1)).trans hw123_1), ((HB.out.cell (Zlt _ _ hw123_2)).trans hw123_2), ((HB.out.cell (Zlt _ _ hw124_0)).trans hw124_0), ((HB.out.cell (Zlt _ _ hw124_1)).trans hw124_1), ((HB.out.cell (Zlt _ _ hw124_2)).trans hw124_2)⟩ (fun hHeld => ?_); refine with_tabW spec_BareSame.tab6 spec_BareSame.bits6 (fun HT_ HW_ => ?_)
              generalize wr.drew = w48 at BK116 BK117 HB HR119_2 HR120_2 HR121_2 HR122_2 HR123_2 HR124_2 hx119_0 hx119_1 hx119_2 hx120_0 hx120_1 hx120_2 hx121_0 hx121_1 hx121_2 hx122_0 hx122_1 hx122_2 hx123_0 hx123_1 hx123_2 hx124_0 hx124_1 hx124_2 hHeld ⊢
              refine pure_ (i := 0) (N := some 75) (v := ?_) (a' := ?_) #[true, false, false, false, false, false, false, false, false, false, false, false, false, false, false, false, false, false, false, false, false, false, false, false, false, false, false, false, false, false, false, false, false, false, false, false, false, false, false, false, false, false, false, false] rfl rfl (any_of HT_.out (by kernel_rfl)) (fun _ _ _ h => h) (Or.inl ⟨by rfl, ?_⟩) ?_ ?_
              rotate_left
              · intro w'
                go_simp
                with_reducible rfl
              rotate_left
              · simp only [Act.put, List.setIfInBounds_toArray, List.set_cons_zero, List.set_cons_succ, i64_w, i32_w]
                rfl
              refine pure_ (i := 2) (N := some 77) (v := ?_) (a' := ?_) #[true, false, true, false, false, false, false, false, false, false, false, false, false, false, false, false, false, false, false, false, false, false, false, false, false, false, false, false, false, false, false, false, false, false, false, false, false, false, false, false, false, false, false, false] rfl rfl (any_of HT_.out (by kernel_rfl)) (fun _ _ _ h => h) (Or.inl ⟨by rfl, ?_⟩) ?_ ?_
              rotate_left
              · intro w'
                go_simp
                with_reducible rfl
              rotate_left
              · simp only [Act.put, List.setIfInBounds_toArray, List.set_cons_zero, List.set_cons_succ, i64_w, i32_w]
                rfl
              refine pure_ (i := 6) (N := some 81) (v := ?_) (a' := ?_) #[true, false, true, false, false, false, true, false, false, false, false, false, false, false, false, false, false, false, false, false, false, false, false, false, false, false, false, false, false, false, false, false, false, false, false, false, false, false, false, false, false, false, false, false] rfl rfl (any_of HT_.out (by kernel_rfl)) (fun _ _ _ h => h) (Or.inl ⟨by rfl, ?_⟩) ?_ ?_
              rotate_left
              · intro w'
                go_simp
                with_reducible rfl
              rotate_left
              · simp only [Act.put, List.setIfInBounds_toArray, List.set_cons_zero, List.set_cons_succ, i64_w, i32_w]
                rfl
              refine pure_ (i := 8) (N := some 83) (v := ?_) (a' := ?_) #[true, false, true, false, false, false, true, false, true, false, false, false, false, false, false, false, false, false, false, false, false, false, false, false, false, false, false, false, false, false, false, false, false, false, false, false, false, false, false, false, false, false, false, false] rfl rfl (any_of HT_.out (by kernel_rfl)) (fun _ _ _ h => h) (Or.inl ⟨by rfl, ?_⟩) ?_ ?_
              rotate_left
              · intro w'
                go_simp
                with_reducible rfl
              rotate_left
              · simp only [Act.put, List.setIfInBounds_toArray, List.set_cons_zero, List.set_cons_succ, i64_w, i32_w]
                rfl
              refine take_ (i := 1) (N := some 76) (v := ?_) (a' := ?_) #[true, true, true, false, false, false, true, false, true, false, false, false, false, false, false, false, false, false, false, false, false, false, false, false, false, false, false, false, false, false, false, false, false, false, false, false, false, false, false, false, false, false, false, false] rfl rfl (take_ofW HT_.out HW_.out (by kernel_rfl)) (fun _ _ _ h => h) (Or.inl ⟨by rfl, ?_⟩) hHeld ?_ ?_
              rotate_left
              · rintro w' ⟨s0, s1, s2, s3, s4, s5, s6, s7, s8, s9, s10, s11, s12, s13, s14, s15, s16, s17, s18, s19, s20, s21, s22, s23, s24, s25, s26, s27, s28, s29, s30, s31, s32, s33⟩
                go_simp
                with_reducible rfl
              rotate_left
              · simp only [Act.put, List.setIfInBounds_toArray, List.set_cons_zero, List.set_cons_succ, i64_w, i32_w]
                rfl
              refine pure_ (i := 3) (N := some 78) (v := ?_) (a' := ?_) #[true, true, true, true, false, false, true, false, true, false, false, false, false, false, false, false, false, false, false, false, false, false, false, false, false, false, false, false, false, false, false, false, false, false, false, false, false, false, false, false, false, false, false, false] rfl rfl (any_of HT_.out (by kernel_rfl)) (fun _ _ _ h => h) (Or.inl ⟨by rfl, ?_⟩) ?_ ?_
              rotate_left
              · intro w'
                go_simp
                with_reducible rfl
              rotate_left
              · simp only [Act.put, List.setIfInBounds_toArray, List.set_cons_zero, List.set_cons_succ, i64_w, i32_w]
                rfl
              refine pure_ (i := 4) (N := some 79) (v := ?_) (a' := ?_) #[true, true, true, true, true, false, true, false, true, false, false, false, false, false, false, false, false, false, false, false, false, false, false, false, false, false, false, false, false, false, false, false, false, false, false, false, false, false, false, false, false, false, false, false] rfl rfl (any_of HT_.out (by kernel_rfl)) (fun _ _ _ h => h) (Or.inl ⟨by rfl, ?_⟩) ?_ ?_
              rotate_left
              · intro w'
                go_simp
                with_reducible rfl
              rotate_left
              · simp only [Act.put, List.setIfInBounds_toArray, List.set_cons_zero, List.set_cons_succ, i64_w, i32_w]
                rfl
              refine take_ (i := 5) (N := some 80) (v := ?_) (a' := ?_) #[true, true, true, true, true, true, true, false, true, false, false, false, false, false, false, false, false, false, false, false, false, false, false, false, false, false, false, false, false, false, false, false, false, false, false, false, false, false, false, false, false, false, false, false] rfl rfl (take_ofW HT_.out HW_.out (by kernel_rfl)) (fun _ _ _ h => h) (Or.inl ⟨by rfl, ?_⟩) hHeld ?_ ?_
              rotate_left
              · rintro w' ⟨s0, s1, s2, s3, s4, s5, s6, s7, s8, s9, s10, s11, s12, s13, s14, s15, s16, s17, s18, s19, s20, s21, s22, s23, s24, s25, s26, s27, s28, s29, s30, s31, s32, s33⟩
                go_simp
                with_reducible rfl
              rotate_left
              · simp only [Act.put, List.setIfInBounds_toArray, List.set_cons_zero, List.set_cons_succ, i64_w, i32_w]
                rfl
              refine take_ (i := 7) (N := some 82) (v := ?_) (a' := ?_) #[true, true, true, true, true, true, true, true, true, false, false, false, false, false, false, false, false, false, false, false, false, false, false, false, false, false, false, false, false, false, false, false, false, false, false, false, false, false, false, false, false, false, false, false] rfl rfl (take_ofW HT_.out HW_.out (by kernel_rfl)) (fun _ _ _ h => h) (Or.inl ⟨by rfl, ?_⟩) hHeld ?_ ?_
              rotate_left
              · rintro w' ⟨s0, s1, s2, s3, s4, s5, s6, s7, s8, s9, s10, s11, s12, s13, s14, s15, s16, s17, s18, s19, s20, s21, s22, s23, s24, s25, s26, s27, s28, s29, s30, s31, s32, s33⟩
                go_simp
                with_reducible rfl
              rotate_left
              · simp only [Act.put, List.setIfInBounds_toArray, List.set_cons_zero, List.set_cons_succ, i64_w, i32_w]
                rfl
              refine pure_ (i := 9) (N := some 84) (v := ?_) (a' := ?_) #[true, true, true, true, true, true, true, true, true, true, false, false, false, false, false, false, false, false, false, false, false, false, false, false, false, false, false, false, false, false, false, false, false, false, false, false, false, false, false, false, false, false, false, false] rfl rfl (any_of HT_.out (by kernel_rfl)) (fun _ _ _ h => h) (Or.inl ⟨by rfl, ?_⟩) ?_ ?_
              rotate_left
              · intro w'
                go_simp
                with_reducible rfl
              rotate_left
              · simp only [Act.put, List.setIfInBounds_toArray, List.set_cons_zero, List.set_cons_succ, i64_w, i32_w]
                rfl
              refine pure_ (i := 10) (N := some 85) (v := ?_) (a' := ?_) #[true, true, true, true, true, true, true, true, true, true, true, false, false, false, false, false, false, false, false, false, false, false, false, false, false, false, false, false, false, false, false, false, false, false, false, false, false, false, false, false, false, false, false, false] rfl rfl (any_of HT_.out (by kernel_rfl)) (fun _ _ _ h => h) (Or.inl ⟨by rfl, ?_⟩) ?_ ?_
              rotate_left
              · intro w'
                go_simp
                with_reducible rfl
              rotate_left
              · simp only [Act.put, List.setIfInBounds_toArray, List.set_cons_zero, List.set_cons_succ, i64_w, i32_w]
                rfl
              refine take_ (i := 11) (N := some 86) (v := ?_) (a' := ?_) #[true, true, true, true, true, true, true, true, true, true, true, true, false, false, false, false, false, false, false, false, false, false, false, false, false, false, false, false, false, false, false, false, false, false, false, false, false, false, false, false, false, false, false, false] rfl rfl (take_ofW HT_.out HW_.out (by kernel_rfl)) (fun _ _ _ h => h) (Or.inl ⟨by rfl, ?_⟩) hHeld ?_ ?_
              rotate_left
              · rintro w' ⟨s0, s1, s2, s3, s4, s5, s6, s7, s8, s9, s10, s11, s12, s13, s14, s15, s16, s17, s18, s19, s20, s21, s22, s23, s24, s25, s26, s27, s28, s29, s30, s31, s32, s33⟩
                go_simp
                with_reducible rfl
              rotate_left
              · simp only [Act.put, List.setIfInBounds_toArray, List.set_cons_zero, List.set_cons_succ, i64_w, i32_w]
                rfl
              refine pure_ (i := 12) (N := some 87) (v := ?_) (a' := ?_) #[true, true, true, true, true, true, true, true, true, true, true, true, true, false, false, false, false, false, false, false, false, false, false, false, false, false, false, false, false, false, false, false, false, false, false, false, false, false, false, false, false, false, false, false] rfl rfl (any_of HT_.out (by kernel_rfl)) (fun _ _ _ h => h) (Or.inl ⟨by rfl, ?_⟩) ?_ ?_
              rotate_left
              · intro w'
                go_simp
                with_reducible rfl
              rotate_left
              · simp only [Act.put, List.setIfInBounds_toArray, List.set_cons_zero, List.set_cons_succ, i64_w, i32_w]
                rfl
              refine pure_ (i := 13) (N := some 88) (v := ?_) (a' := ?_) #[true, true, true, true, true, true, true, true, true, true, true, true, true, true, false, false, false, false, false, false, false, false, false, false, false, false, false, false, false, false, false, false, false, false, false, false, false, false, false, false, false, false, false, false] rfl rfl (any_of HT_.out (by kernel_rfl)) (fun _ _ _ h => h) (Or.inl ⟨by rfl, ?_⟩) ?_ ?_
              rotate_left
              · intro w'
                go_simp
                with_reducible rfl
              rotate_left
              · simp only [Act.put, List.setIfInBounds_toArray, List.set_cons_zero, List.set_cons_succ, i64_w, i32_w]
                rfl
              refine pure_ (i := 14) (N := some 89) (v := ?_) (a' := ?_) #[true, true, true, true, true, true, true, true, true, true, true, true, true, true, true, false, false, false, false, false, false, false, false, false, false, false, false, false, false, false, false, false, false, false, false, false, false, false, false, false, false, false, false, false] rfl rfl (any_of HT_.out (by kernel_rfl)) (fun _ _ _ h => h) (Or.inl ⟨by rfl, ?_⟩) ?_ ?_
              rotate_left
              · intro w'
                go_simp
                with_reducible rfl
              rotate_left
              · simp only [Act.put, List.setIfInBounds_toArray, List.set_cons_zero, List.set_cons_succ, i64_w, i32_w]
                rfl
              refine pure_ (i := 16) (N := some 91) (v := ?_) (a' := ?_) #[true, true, true, true, true, true, true, true, true, true, true, true, true, true, true, false, true, false, false, false, false, false, false, false, false, false, false, false, false, false, false, false, false, false, false, false, false, false, false, false, false, false, false, false] rfl rfl (any_of HT_.out (by kernel_rfl)) (fun _ _ _ h => h) (Or.inl ⟨by rfl, ?_⟩) ?_ ?_
              rotate_left
              · intro w'
                go_simp
                with_reducible rfl
              rotate_left
              · simp only [Act.put, List.setIfInBounds_toArray, List.set_cons_zero, List.set_cons_succ, i64_w, i32_w]
                rfl
              refine pure_ (i := 20) (N := some 95) (v := ?_) (a' := ?_) #[true, true, true, true, true, true, true, true, true, true, true, true, true, true, true, false, true, false, false, false, true, false, false, false, false, false, false, false, false, false, false, false, false, false, false, false, false, false, false, false, false, false, false, false] rfl rfl (any_of HT_.out (by kernel_rfl)) (fun _ _ _ h => h) (Or.inl ⟨by rfl, ?_⟩) ?_ ?_
              rotate_left
              · intro w'
                go_simp
                with_reducible rfl
              rotate_left
              · simp only [Act.put, List.setIfInBounds_toArray, List.set_cons_zero, List.set_cons_succ, i64_w, i32_w]
                rfl
              refine pure_ (i := 22) (N := some 97) (v := ?_) (a' := ?_) #[true, true, true, true, true, true, true, true, true, true, true, true, true, true, true, false, true, false, false, false, true, false, true, false, false, false, false, false, false, false, false, false, false, false, false, false, false, false, false, false, false, false, false, false] rfl rfl (any_of HT_.out (by kernel_rfl)) (fun _ _ _ h => h) (Or.inl ⟨by rfl, ?_⟩) ?_ ?_
              rotate_left
              · intro w'
                go_simp
                with_reducible rfl
              rotate_left
              · simp only [Act.put, List.setIfInBounds_toArray, List.set_cons_zero, List.set_cons_succ, i64_w, i32_w]
                rfl
              refine take_ (i := 15) (N := some 90) (v := ?_) (a' := ?_) #[true, true, true, true, true, true, true, true, true, true, true, true, true, true, true, true, true, false, false, false, true, false, true, false, false, false, false, false, false, false, false, false, false, false, false, false, false, false, false, false, false, false, false, false] rfl rfl (take_ofW HT_.out HW_.out (by kernel_rfl)) (fun _ _ _ h => h) (Or.inl ⟨by rfl, ?_⟩) hHeld ?_ ?_
              rotate_left
              · rintro w' ⟨s0, s1, s2, s3, s4, s5, s6, s7, s8, s9, s10, s11, s12, s13, s14, s15, s16, s17, s18, s19, s20, s21, s22, s23, s24, s25, s26, s27, s28, s29, s30, s31, s32, s33⟩
                go_simp
                with_reducible rfl
              rotate_left
              · simp only [Act.put, List.setIfInBounds_toArray, List.set_cons_zero, List.set_cons_succ, i64_w, i32_w]
                rfl
              refine pure_ (i := 17) (N := some 92) (v := ?_) (a' := ?_) #[true, true, true, true, true, true, true, true, true, true, true, true, true, true, true, true, true, true, false, false, true, false, true, false, false, false, false, false, false, false, false, false, false, false, false, false, false, false, false, false, false, false, false, false] rfl rfl (any_of HT_.out (by kernel_rfl)) (fun _ _ _ h => h) (Or.inl ⟨by rfl, ?_⟩) ?_ ?_
              rotate_left
              · intro w'
                go_simp
                with_reducible rfl
              rotate_left
              · simp only [Act.put, List.setIfInBounds_toArray, List.set_cons_zero, List.set_cons_succ, i64_w, i32_w]
                rfl
              refine pure_ (i := 18) (N := some 93) (v := ?_) (a' := ?_) #[true, true, true, true, true, true, true, true, true, true, true, true, true, true, true, true, true, true, true, false, true, false, true, false, false, false, false, false, false, false, false, false, false, false, false, false, false, false, false, false, false, false, false, false] rfl rfl (any_of HT_.out (by kernel_rfl)) (fun _ _ _ h => h) (Or.inl ⟨by rfl, ?_⟩) ?_ ?_
              rotate_left
              · intro w'
                go_simp
                with_reducible rfl
              rotate_left
              · simp only [Act.put, List.setIfInBounds_toArray, List.set_cons_zero, List.set_cons_succ, i64_w, i32_w]
                rfl
              refine take_ (i := 19) (N := some 94) (v := ?_) (a' := ?_) #[true, true, true, true, true, true, true, true, true, true, true, true, true, true, true, true, true, true, true, true, true, false, true, false, false, false, false, false, false, false, false, false, false, false, false, false, false, false, false, false, false, false, false, false] rfl rfl (take_ofW HT_.out HW_.out (by kernel_rfl)) (fun _ _ _ h => h) (Or.inl ⟨by rfl, ?_⟩) hHeld ?_ ?_
              rotate_left
              · rintro w' ⟨s0, s1, s2, s3, s4, s5, s6, s7, s8, s9, s10, s11, s12, s13, s14, s15, s16, s17, s18, s19, s20, s21, s22, s23, s24, s25, s26, s27, s28, s29, s30, s31, s32, s33⟩
                go_simp
                with_reducible rfl
              rotate_left
              · simp only [Act.put, List.setIfInBounds_toArray, List.set_cons_zero, List.set_cons_succ, i64_w, i32_w]
                rfl
              refine take_ (i := 21) (N := some 96) (v := ?_) (a' := ?_) #[true, true, true, true, true, true, true, true, true, true, true, true, true, true, true, true, true, true, true, true, true, true, true, false, false, false, false, false, false, false, false, false, false, false, false, false, false, false, false, false, false, false, false, false] rfl rfl (take_ofW HT_.out HW_.out (by kernel_rfl)) (fun _ _ _ h => h) (Or.inl ⟨by rfl, ?_⟩) hHeld ?_ ?_
              rotate_left
              · rintro w' ⟨s0, s1, s2, s3, s4, s5, s6, s7, s8, s9, s10, s11, s12, s13, s14, s15, s16, s17, s18, s19, s20, s21, s22, s23, s24, s25, s26, s27, s28, s29, s30, s31, s32, s33⟩
                go_simp
                with_reducible rfl
              rotate_left
              · simp only [Act.put, List.setIfInBounds_toArray, List.set_cons_zero, List.set_cons_succ, i64_w, i32_w]
                rfl
              refine pure_ (i := 23) (N := some 98) (v := ?_) (a' := ?_) #[true, true, true, true, true, true, true, true, true, true, true, true, true, true, true, true, true, true, true, true, true, true, true, true, false, false, false, false, false, false, false, false, false, false, false, false, false, false, false, false, false, false, false, false] rfl rfl (any_of HT_.out (by kernel_rfl)) (fun _ _ _ h => h) (Or.inl ⟨by rfl, ?_⟩) ?_ ?_
              rotate_left
              · intro w'
                go_simp
                with_reducible rfl
              rotate_left
              · simp only [Act.put, List.setIfInBounds_toArray, List.set_cons_zero, List.set_cons_succ, i64_w, i32_w]
                rfl
              refine pure_ (i := 24) (N := some 99) (v := ?_) (a' := ?_) #[true, true, true, true, true, true, true, true, true, true, true, true, true, true, true, true, true, true, true, true, true, true, true, true, true, false, false, false, false, false, false, false, false, false, false, false, false, false, false, false, false, false, false, false] rfl rfl (any_of HT_.out (by kernel_rfl)) (fun _ _ _ h => h) (Or.inl ⟨by rfl, ?_⟩) ?_ ?_
              rotate_left
              · intro w'
                go_simp
                with_reducible rfl
              rotate_left
              · simp only [Act.put, List.setIfInBounds_toArray, List.set_cons_zero, List.set_cons_succ, i64_w, i32_w]
                rfl
              refine take_ (i := 25) (N := some 100) (v := ?_) (a' := ?_) #[true, true, true, true, true, true, true, true, true, true, true, true, true, true, true, true, true, true, true, true, true, true, true, true, true, true, false, false, false, false, false, false, false, false, false, false, false, false, false, false, false, false, false, false] rfl rfl (take_ofW HT_.out HW_.out (by kernel_rfl)) (fun _ _ _ h => h) (Or.inl ⟨by rfl, ?_⟩) hHeld ?_ ?_
              rotate_left
              · rintro w' ⟨s0, s1, s2, s3, s4, s5, s6, s7, s8, s9, s10, s11, s12, s13, s14, s15, s16, s17, s18, s19, s20, s21, s22, s23, s24, s25, s26, s27, s28, s29, s30, s31, s32, s33⟩
                go_simp
                with_reducible rfl
              rotate_left
              · simp only [Act.put, List.setIfInBounds_toArray, List.set_cons_zero, List.set_cons_succ, i64_w, i32_w]
                rfl
              refine pure_ (i := 26) (N := some 101) (v := ?_) (a' := ?_) #[true, true, true, true, true, true, true, true, true, true, true, true, true, true, true, true, true, true, true, true, true, true, true, true, true, true, true, false, false, false, false, false, false, false, false, false, false, false, false, false, false, false, false, false] rfl rfl (any_of HT_.out (by kernel_rfl)) (fun _ _ _ h => h) (Or.inl ⟨by rfl, ?_⟩) ?_ ?_
              rotate_left
              · intro w'
                go_simp
                with_reducible rfl
              rotate_left
              · simp only [Act.put, List.setIfInBounds_toArray, List.set_cons_zero, List.set_cons_succ, i64_w, i32_w]
                rfl
              refine pure_ (i := 27) (N := some 102) (v := ?_) (a' := ?_) #[true, true, true, true, true, true, true, true, true, true, true, true, true, true, true, true, true, true, true, true, true, true, true, true, true, true, true, true, false, false, false, false, false, false, false, false, false, false, false, false, false, false, false, false] rfl rfl (any_of HT_.out (by kernel_rfl)) (fun _ _ _ h => h) (Or.inl ⟨by rfl, ?_⟩) ?_ ?_
              rotate_left
              · intro w'
                go_simp
                with_reducible rfl
              rotate_left
              · simp only [Act.put, List.setIfInBounds_toArray, List.set_cons_zero, List.set_cons_succ, i64_w, i32_w]
                rfl
              refine pure_ (i := 28) (N := some 103) (v := ?_) (a' := ?_) #[true, true, true, true, true, true, true, true, true, true, true, true, true, true, true, true, true, true, true, true, true, true, true, true, true, true, true, true, true, false, false, false, false, false, false, false, false, false, false, false, false, false, false, false] rfl rfl (any_of HT_.out (by kernel_rfl)) (fun _ _ _ h => h) (Or.inl ⟨by rfl, ?_⟩) ?_ ?_
              rotate_left
              · intro w'
                go_simp
                with_reducible rfl
              rotate_left
              · simp only [Act.put, List.setIfInBounds_toArray, List.set_cons_zero, List.set_cons_succ, i64_w, i32_w]
                rfl
              refine pure_ (i := 29) (N := some 104) (v := ?_) (a' := ?_) #[true, true, true, true, true, true, true, true, true, true, true, true, true, true, true, true, true, true, true, true, true, true, true, true, true, true, true, true, true, true, false, false, false, false, false, false, false, false, false, false, false, false, false, false] rfl rfl (any_of HT_.out (by kernel_rfl)) (fun _ _ _ h => h) (Or.inl ⟨by rfl, ?_⟩) ?_ ?_
              rotate_left
              · intro w'
                go_simp
                with_reducible rfl
              rotate_left
              · simp only [Act.put, List.setIfInBounds_toArray, List.set_cons_zero, List.set_cons_succ, i64_w, i32_w]
                rfl
              refine pure_ (i := 31) (N := some 106) (v := ?_) (a' := ?_) #[true, true, true, true, true, true, true, true, true, true, true, true, true, true, true, true, true, true, true, true, true, true, true, true, true, true, true, true, true, true, false, true, false, false, false, false, false, false, false, false, false, false, false, false] rfl rfl (any_of HT_.out (by kernel_rfl)) (fun _ _ _ h => h) (Or.inl ⟨by rfl, ?_⟩) ?_ ?_
              rotate_left
              · intro w'
                go_simp
                with_reducible rfl
              rotate_left
              · simp only [Act.put, List.setIfInBounds_toArray, List.set_cons_zero, List.set_cons_succ, i64_w, i32_w]
                rfl
              refine pure_ (i := 35) (N := some 110) (v := ?_) (a' := ?_) #[true, true, true, true, true, true, true, true, true, true, true, true, true, true, true, true, true, true, true, true, true, true, true, true, true, true, true, true, true, true, false, true, false, false, false, true, false, false, false, false, false, false, false, false] rfl rfl (any_of HT_.out (by kernel_rfl)) (fun _ _ _ h => h) (Or.inl ⟨by rfl, ?_⟩) ?_ ?_
              rotate_left
              · intro w'
                go_simp
                with_reducible rfl
              rotate_left
              · simp only [Act.put, List.setIfInBounds_toArray, List.set_cons_zero, List.set_cons_succ, i64_w, i32_w]
                rfl
              refine pure_ (i := 37) (N := some 112) (v := ?_) (a' := ?_) #[true, true, true, true, true, true, true, true, true, true, true, true, true, true, true, true, true, true, true, true, true, true, true, true, true, true, true, true, true, true, false, true, false, false, false, true, false, true, false, false, false, false, false, false] rfl rfl (any_of HT_.out (by kernel_rfl)) (fun _ _ _ h => h) (Or.inl ⟨by rfl, ?_⟩) ?_ ?_
              rotate_left
              · intro w'
                go_simp
                with_reducible rfl
              rotate_left
              · simp only [Act.put, List.setIfInBounds_toArray, List.set_cons_zero, List.set_cons_succ, i64_w, i32_w]
                rfl
              refine take_ (i := 30) (N := some 105) (v := ?_) (a' := ?_) #[true, true, true, true, true, true, true, true, true, true, true, true, true, true, true, true, true, true, true, true, true, true, true, true, true, true, true, true, true, true, true, true, false, false, false, true, false, true, false, false, false, false, false, false] rfl rfl (take_ofW HT_.out HW_.out (by kernel_rfl)) (fun _ _ _ h => h) (Or.inl ⟨by rfl, ?_⟩) hHeld ?_ ?_
              rotate_left
              · rintro w' ⟨s0, s1, s2, s3, s4, s5, s6, s7, s8, s9, s10, s11, s12, s13, s14, s15, s16, s17, s18, s19, s20, s21, s22, s23, s24, s25, s26, s27, s28, s29, s30, s31, s32, s33⟩
                go_simp
                with_reducible rfl
              rotate_left
              · simp only [Act.put, List.setIfInBounds_toArray, List.set_cons_zero, List.set_cons_succ, i64_w, i32_w]
                rfl
              refine pure_ (i := 32) (N := some 107) (v := ?_) (a' := ?_) #[true, true, true, true, true, true, true, true, true, true, true, true, true, true, true, true, true, true, true, true, true, true, true, true, true, true, true, true, true, true, true, true, true, false, false, true, false, true, false, false, false, false, false, false] rfl rfl (any_of HT_.out (by kernel_rfl)) (fun _ _ _ h => h) (Or.inl ⟨by rfl, ?_⟩) ?_ ?_
              rotate_left
              · intro w'
                go_simp
                with_reducible rfl
              rotate_left
              · simp only [Act.put, List.setIfInBounds_toArray, List.set_cons_zero, List.set_cons_succ, i64_w, i32_w]
                rfl
              refine pure_ (i := 33) (N := some 108) (v := ?_) (a' := ?_) #[true, true, true, true, true, true, true, true, true, true, true, true, true, true, true, true, true, true, true, true, true, true, true, true, true, true, true, true, true, true, true, true, true, true, false, true, false, true, false, false, false, false, false, false] rfl rfl (any_of HT_.out (by kernel_rfl)) (fun _ _ _ h => h) (Or.inl ⟨by rfl, ?_⟩) ?_ ?_
              rotate_left
              · intro w'
                go_simp
                with_reducible rfl
              rotate_left
              · simp only [Act.put, List.setIfInBounds_toArray, List.set_cons_zero, List.set_cons_succ, i64_w, i32_w]
                rfl
              refine take_ (i := 34) (N := some 109) (v := ?_) (a' := ?_) #[true, true, true, true, true, true, true, true, true, true, true, true, true, true, true, true, true, true, true, true, true, true, true, true, true, true, true, true, true, true, true, true, true, true, true, true, false, true, false, false, false, false, false, false] rfl rfl (take_ofW HT_.out HW_.out (by kernel_rfl)) (fun _ _ _ h => h) (Or.inl ⟨by rfl, ?_⟩) hHeld ?_ ?_
              rotate_left
              · rintro w' ⟨s0, s1, s2, s3, s4, s5, s6, s7, s8, s9, s10, s11, s12, s13, s14, s15, s16, s17, s18, s19, s20, s21, s22, s23, s24, s25, s26, s27, s28, s29, s30, s31, s32, s33⟩
                go_simp
                with_reducible rfl
              rotate_left
              · simp only [Act.put, List.setIfInBounds_toArray, List.set_cons_zero, List.set_cons_succ, i64_w, i32_w]
                rfl
              refine take_ (i := 36) (N := some 111) (v := ?_) (a' := ?_) #[true, true, true, true, true, true, true, true, true, true, true, true, true, true, true, true, true, true, true, true, true, true, true, true, true, true, true, true, true, true, true, true, true, true, true, true, true, true, false, false, false, false, false, false] rfl rfl (take_ofW HT_.out HW_.out (by kernel_rfl)) (fun _ _ _ h => h) (Or.inl ⟨by rfl, ?_⟩) hHeld ?_ ?_
              rotate_left
              · rintro w' ⟨s0, s1, s2, s3, s4, s5, s6, s7, s8, s9, s10, s11, s12, s13, s14, s15, s16, s17, s18, s19, s20, s21, s22, s23, s24, s25, s26, s27, s28, s29, s30, s31, s32, s33⟩
                go_simp
                with_reducible rfl
              rotate_left
              · simp only [Act.put, List.setIfInBounds_toArray, List.set_cons_zero, List.set_cons_succ, i64_w, i32_w]
                rfl
              refine pure_ (i := 38) (N := some 113) (v := ?_) (a' := ?_) #[true, true, true, true, true, true, true, true, true, true, true, true, true, true, true, true, true, true, true, true, true, true, true, true, true, true, true, true, true, true, true, true, true, true, true, true, true, true, true, false, false, false, false, false] rfl rfl (any_of HT_.out (by kernel_rfl)) (fun _ _ _ h => h) (Or.inl ⟨by rfl, ?_⟩) ?_ ?_
              rotate_left
              · intro w'
                go_simp
                with_reducible rfl
              rotate_left
              · simp only [Act.put, List.setIfInBounds_toArray, List.set_cons_zero, List.set_cons_succ, i64_w, i32_w]
                rfl
              refine pure_ (i := 39) (N := some 114) (v := ?_) (a' := ?_) #[true, true, true, true, true, true, true, true, true, true, true, true, true, true, true, true, true, true, true, true, true, true, true, true, true, true, true, true, true, true, true, true, true, true, true, true, true, true, true, true, false, false, false, false] rfl rfl (any_of HT_.out (by kernel_rfl)) (fun _ _ _ h => h) (Or.inl ⟨by rfl, ?_⟩) ?_ ?_
              rotate_left
              · intro w'
                go_simp
                with_reducible rfl
              rotate_left
              · simp only [Act.put, List.setIfInBounds_toArray, List.set_cons_zero, List.set_cons_succ, i64_w, i32_w]
                rfl
              refine take_ (i := 40) (N := some 115) (v := ?_) (a' := ?_) #[true, true, true, true, true, true, true, true, true, true, true, true, true, true, true, true, true, true, true, true, true, true, true, true, true, true, true, true, true, true, true, true, true, true, true, true, true, true, true, true, true, false, false, false] rfl rfl (take_ofW HT_.out HW_.out (by kernel_rfl)) (fun _ _ _ h => h) (Or.inl ⟨by rfl, ?_⟩) hHeld ?_ ?_
              rotate_left
              · rintro w' ⟨s0, s1, s2, s3, s4, s5, s6, s7, s8, s9, s10, s11, s12, s13, s14, s15, s16, s17, s18, s19, s20, s21, s22, s23, s24, s25, s26, s27, s28, s29, s30, s31, s32, s33⟩
                go_simp
                with_reducible rfl
              rotate_left
              · simp only [Act.put, List.setIfInBounds_toArray, List.set_cons_zero, List.set_cons_succ, i64_w, i32_w]
                rfl
              refine one_ (i := 41) (N := some 116) #[true, true, true, true, true, true, true, true, true, true, true, true, true, true, true, true, true, true, true, true, true, true, true, true, true, true, true, true, true, true, true, true, true, true, true, true, true, true, true, true, true, true, false, false] rfl rfl (one_of HT_.out (by kernel_rfl)) (by decide) (fun K hK => ?_)
              refine goes_ Try.func52 (by kernel_rfl) rfl #[.slice A119_2 ((rd_T108 l0_0 x5_2).f2).length c119_2, .slice A120_2 ((rd_T108 l1_0 x5_2).f2).length c120_2] (by rfl) rfl rfl (by (try simp only [List.map_toArray, List.map_cons, List.map_nil]); first | done | rfl | (simp only [List.length_drop, List.length_take]; rfl)) ?_
              with_reducible refine (spec_l12Nums.calls k2 _ _ ((rd_T108 l0_0 x5_2).f2) _ _ ((rd_T108 l1_0 x5_2).f2) t125 _ ?side1 ?side2 ?side3 ?side4 A47.out).mono ?_
              (case side1 => repeat (first | exact (Kd.C_below HR123_2.out HB.out) | (with_reducible refine Kd.C_alloc ?_ _) | (with_reducible refine Kd.C_drewN ?_ _) | (with_reducible refine Kd.C_drew ?_)))
              (case side2 => exact HC123_2.out)
              (case side3 => repeat (first | exact (Kd.C_below HR124_2.out HB.out) | (with_reducible refine Kd.C_alloc ?_ _) | (with_reducible refine Kd.C_drewN ?_ _) | (with_reducible refine Kd.C_drew ?_)))
              (case side4 => exact HC124_2.out)
              rintro e w' ⟨rfl, ⟨nd, rfl⟩⟩
              refine ⟨_, rfl, ?_⟩
              refine hK.out _ _ ⟨(Zkc BK116.out 0).trans rfl, (Zkc BK116.out 1).trans rfl, (Zkc BK116.out 2).trans rfl, (Zkc BK116.out 3).trans rfl, (Zkc BK116.out 4).trans rfl, (Zkc BK116.out 5).trans rfl, (Zkc BK116.out 6).trans rfl, (Zkc BK116.out 7).trans rfl, (Zkc BK117.out 0).trans rfl, (Zkc BK117.out 1).trans rfl, (Zkc BK117.out 2).trans rfl, (Zkc BK117.out 3).trans rfl, (Zkc BK117.out 4).trans rfl, (Zkc BK117.out 5).trans rfl, (Zkc BK117.out 6).trans rfl, (Zkc BK117.out 7).trans rfl, ((HB.out.cell (Zlt _ _ hw119_0)).trans hw119_0), ((HB.out.cell (Zlt _ _ hw119_1)).trans hw119_1), ((HB.out.cell (Zlt _ _ hw119_2)).trans hw119_2), ((HB.out.cell (Zlt _ _ hw120_0)).trans hw120_0), ((HB.out.cell (Zlt _ _ hw120_1)).trans hw120_1), ((HB.out.cell (Zlt _ _ hw120_2)).trans hw120_2), ((HB.out.cell (Zlt _ _ hw121_0)).trans hw121_0), ((HB.out.cell (Zlt _ _ hw121_1)).trans hw121_1), ((HB.out.cell (Zlt _ _ hw121_2)).trans hw121_2), ((HB.out.cell (Zlt _ _ hw122_0)).trans hw122_0), ((HB.out.cell (Zlt _ _ hw122_1)).trans hw122_1), ((HB.out.cell (Zlt _ _ hw122_2)).trans hw122_2), ((HB.out.cell (Zlt _ _ hw123_0)).trans hw123_0), ((HB.out.cell (Zlt _ _ hw123_1)).trans hw123_1), ((HB.out.cell (Zlt _ _ hw123_2)).trans hw123_2), ((HB.out.cell (Zlt _ _ hw124_0)).trans hw124_0), ((HB.out.cell (Zlt _ _ hw124_1)).trans hw124_1), ((HB.out.cell (Zlt _ _ hw124_2)).trans hw124_2)⟩ (fun hHeld => ?_)
              clear hK K
              refine norm_ (a' := ?_) ?_ ?_
              rotate_left
              · show Act.put _ (some 116) _ = _
                simp only [Act.put, List.setIfInBounds_toArray, List.set_cons_zero, List.set_cons_succ, i64_w, i32_w]
                rfl
              refine pure_ (i := 42) (N := some 117) (v := ?_) (a' := ?_) #[true, true, true, true, true, true, true, true, true, true, true, true, true, true, true, true, true, true, true, true, true, true, true, true, true, true, true, true, true, true, true, true, true, true, true, true, true, true, true, true, true, true, true, false] rfl rfl (any_of HT_.out (by kernel_rfl)) (fun _ _ _ h => h) (Or.inl ⟨by rfl, ?_⟩) ?_ ?_
              rotate_left
              · intro w'
                go_simp
                with_reducible rfl
              rotate_left
              · simp only [Act.put, List.setIfInBounds_toArray, List.set_cons_zero, List.set_cons_succ, i64_w, i32_w]
                rfl
              refine pure_ (i := 43) (N := some 118) (v := ?_) (a' := ?_) #[true, true, true, true, true, true, true, true, true, true, true, true, true, true, true, true, true, true, true, true, true, true, true, true, true, true, true, true, true, true, true, true, true, true, true, true, true, true, true, true, true, true, true, true] rfl rfl (any_of HT_.out (by kernel_rfl)) (fun _ _ _ h => h) (Or.inl ⟨by rfl, ?_⟩) ?_ ?_
              rotate_left
              · intro w'
                go_simp
                with_reducible rfl
              rotate_left
              · simp only [Act.put, List.setIfInBounds_toArray, List.set_cons_zero, List.set_cons_succ, i64_w, i32_w]
                rfl
              refine done_ (done_of HT_.out (by kernel_rfl)) ?_
              try go_wp2
              go_meet
              case rel => exact ⟨_, (!t125), (by first | rfl | (simp; done) | (simp [*]; done)), H', ⟨by have := HJ2.out; have := HK2.out; first | omega | exact Nat.le_refl _⟩, ⟨by (with_reducible repeat (first | refine Zkn ?_ _ | refine Zkd ?_ | refine Zka ?_ _)); exact BK116.out⟩, ⟨by (with_reducible repeat (first | refine Zkn ?_ _ | refine Zkd ?_ | refine Zka ?_ _)); exact BK117.out⟩, ⟨by repeat (first | (with_reducible first | exact HB.out | apply Zba | apply Zbn | apply Zbd | refine Zbs ?_ GE116.out | refine Zbs ?_ GE117.out) | exact HB.out)⟩⟩
            case rest =>
              clear HC40
              (try clear c1); (try clear p1); (try clear q1); (try clear hx1); (try clear p2); (try clear c4); (try clear c11); (try clear p11); (try clear q11); (try clear hx11); (try clear c12); (try clear p12); (try clear q12); (try clear hx12); (try clear c43); (try clear c44); (try clear c45); (try clear c45b0); (try clear c45b1); (try clear hx119_0); (try clear hx119_1); (try clear hx119_2); (try clear hx120_0); (try clear hx120_1); (try clear hx120_2); (try clear p119); (try clear p120); (try clear q119); (try clear q120)
              obtain ⟨kq, x118_39, rfl, HA, HJ39, BK116, BK117, HB⟩ := hcut
              cases kq with
              | zero => exact absurd HA.out (by simp [spec_BareSame.j2])
              | succ kj39 =>
                have H := HA.out
                clear HA
                simp only [spec_BareSame.j2] at H
                by_cases c51 : x118_39 = true
                rotate_left
                · replace c51 := Bool.eq_false_iff.mpr c51
                  subst c51
                  have H1 : (spec_BareSame.l0 kj39 (wrap64 (x5_2 + 1)) l0_0 a0_1 l0_2 l0_3 a0_4 a0_5 a0_6 a0_7 l1_0 a1_1 l1_2 l1_3 a1_4 a1_5 a1_6 a1_7) = some r := by rw [if_neg (show ¬ (false = true) by decide)] at H; exact H
                  clear H
                  have H := H1
                  clear H1
                  have H' := Zm H
                  clear H
                  go_wp2
                  go_roundg kj39
                  case measure => have := HJ2.out; have := HK2.out; have := HJ39.out; omega
                  case rel => exact ⟨(wrap64 (x5_2 + 1)), (by first | rfl | (simp; done) | (simp [*]; done)), H', ⟨by have := HJ2.out; have := HK2.out; have := HJ39.out; omega⟩, ⟨by (with_reducible repeat (first | refine Zkn ?_ _ | refine Zkd ?_ | refine Zka ?_ _)); exact BK116.out⟩, ⟨by (with_reducible repeat (first | refine Zkn ?_ _ | refine Zkd ?_ | refine Zka ?_ _)); exact BK117.out⟩, ⟨by repeat (first | (with_reducible first | exact HB.out | apply Zba | apply Zbn | apply Zbd | refine Zbs ?_ GE116.out | refine Zbs ?_ GE117.out) | exact HB.out)⟩⟩
                subst c51
                have H1 : (some false) = some r := by rw [if_pos rfl] at H; exact H
                clear H
                have H := H1
                clear H1
                obtain rfl := Option.some.inj H
                go_wp2
                go_ret
                exact ⟨by first | rfl | (simp [errW_none, errW_some] <;> rfl) | (simp [*, errW_none, errW_some] <;> rfl), by repeat (first | (with_reducible first | exact HB.out | apply Zba | apply Zbn | apply Zbd | refine Zbs ?_ GE116.out | refine Zbs ?_ GE117.out) | exact HB.out)⟩
      subst c38
      have H1 : (some false) = some r := by rw [if_pos rfl] at H; exact H
      clear H
      have H := H1
      clear H1
      obtain rfl := Option.some.inj H
      go_wp2
      go_ret
      exact ⟨by first | rfl | (simp [errW_none, errW_some] <;> rfl) | (simp [*, errW_none, errW_some] <;> rfl), by repeat (first | (with_reducible first | exact HB.out | apply Zba | apply Zbn | apply Zbd | refine Zbs ?_ GE116.out | refine Zbs ?_ GE117.out) | exact HB.out)⟩
end Go.Proofs.Ytlflbmbcjjegaaa.PFnExactBareSame
