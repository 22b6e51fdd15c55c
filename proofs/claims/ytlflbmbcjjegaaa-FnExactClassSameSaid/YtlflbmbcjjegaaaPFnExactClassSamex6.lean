/- Functions of the program as plain Lean functions, each with a proof that the program's call comes to the same; no condition. Written by a program of this session. -/
import Derived.Test.YtlflbmbcjjegaaaPFnExactClassSamex0
import Derived.Test.YtlflbmbcjjegaaaPFnExactClassSamex1
import Derived.Test.YtlflbmbcjjegaaaPFnExactClassSamex5
namespace Go.Proofs.Ytlflbmbcjjegaaa.PFnExactClassSame
open Go.RowKit Go.Proofs.YtlflbmbcjjegaaaW.PrintWords Go.Proofs.YtlflbmbcjjegaaaW.PrintLast Go.Proofs.YtlflbmbcjjegaaaW.PrintMore
open Go.Proofs.YtlflbmbcjjegaaaW.PrintWords renaming below_alloc → Zba, pw_below_drewN → Zbn, below_drew1 → Zbd, below_set → Zbs, below_size → Zbz, below_step → Zbt, blk_drewN → Zkn, blk_drew → Zkd, blk_alloc → Zka, blk_cell → Zkc, blk_below → Zkb
open Go.World renaming block_lt_of_cell? → Zlt
open Go.Proofs.YtlflbmbcjjegaaaW.PrintWords.Aside0 renaming mk → Zm
attribute [local go_sem] max2_int min2_int max_two min_two max_three min_three max_four min_four   -- for this text's walks alone
set_option linter.unusedVariables false
set_option linter.unusedSimpArgs false

attribute [local go_sem high] eqA123
/-! ### spec_ClassSame: function 21 -/
mutual
def spec_ClassSame.j0 : Nat → Bool → ByteArray → ByteArray → Bool → Bool → List (S123) → List (S84) → ByteArray → ByteArray → Bool → Bool → List (S123) → List (S84) → Option (Bool)
  | 0, _, _, _, _, _, _, _, _, _, _, _, _, _ => none
  | k + 1, x50, x125000, x125001, x125002, x125003, x125004, x125005, x126000, x126001, x126002, x126003, x126004, x126005 => if x50 = true then (some false) else (spec_ClassSame.l0 k 0 x125000 x125001 x125002 x125003 x125004 x125005 x126000 x126001 x126002 x126003 x126004 x126005)
def spec_ClassSame.l0 : Nat → Int → ByteArray → ByteArray → Bool → Bool → List (S123) → List (S84) → ByteArray → ByteArray → Bool → Bool → List (S123) → List (S84) → Option (Bool)
  | 0, _, _, _, _, _, _, _, _, _, _, _, _, _ => none
  | k + 1, x5, x125000, x125001, x125002, x125003, x125004, x125005, x126000, x126001, x126002, x126003, x126004, x126005 => if x5 < (x125004.length : Int) then (if 0 ≤ x5 then (if x5 < (x126004.length : Int) then (if (!((((rd_T123 x125004 x5).f0).toList) == (((rd_T123 x126004 x5).f0).toList)) || (!((((rd_T123 x125004 x5).f1).toList) == (((rd_T123 x126004 x5).f1).toList)) || (!(((rd_T123 x125004 x5).f2) == ((rd_T123 x126004 x5).f2))))) = true then (some false) else (spec_ClassSame.l0 k (wrap64 (x5 + 1)) x125000 x125001 x125002 x125003 x125004 x125005 x126000 x126001 x126002 x126003 x126004 x126005)) else (none)) else (none)) else (spec_ClassSame.l1 k 0 x125000 x125001 x125002 x125003 x125004 x125005 x126000 x126001 x126002 x126003 x126004 x126005)
def spec_ClassSame.l1 : Nat → Int → ByteArray → ByteArray → Bool → Bool → List (S123) → List (S84) → ByteArray → ByteArray → Bool → Bool → List (S123) → List (S84) → Option (Bool)
  | 0, _, _, _, _, _, _, _, _, _, _, _, _, _ => none
  | k + 1, x6, x125000, x125001, x125002, x125003, x125004, x125005, x126000, x126001, x126002, x126003, x126004, x126005 => if x6 < (x125005.length : Int) then (if 0 ≤ x6 then (if x6 < (x126005.length : Int) then ((spec_l03SameMethod.f k ((rd_T84 x125005 x6).f0) ((rd_T84 x125005 x6).f1) ((rd_T84 x125005 x6).f2) ((rd_T84 x125005 x6).f3) ((rd_T84 x125005 x6).f4) ((rd_T84 x125005 x6).f5) ((rd_T84 x125005 x6).f6) ((rd_T84 x125005 x6).f7) ((rd_T84 x125005 x6).f8) ((rd_T84 x126005 x6).f0) ((rd_T84 x126005 x6).f1) ((rd_T84 x126005 x6).f2) ((rd_T84 x126005 x6).f3) ((rd_T84 x126005 x6).f4) ((rd_T84 x126005 x6).f5) ((rd_T84 x126005 x6).f6) ((rd_T84 x126005 x6).f7) ((rd_T84 x126005 x6).f8)).bind fun t130 => (if t130 = true then (spec_ClassSame.l1 k (wrap64 (x6 + 1)) x125000 x125001 x125002 x125003 x125004 x125005 x126000 x126001 x126002 x126003 x126004 x126005) else (some false))) else (none)) else (none)) else (some true)
end
def spec_ClassSame.f (k : Nat) (a0_0 : ByteArray) (a0_1 : ByteArray) (a0_2 : Bool) (a0_3 : Bool) (l0_4 : List (S123)) (l0_5 : List (S84)) (a1_0 : ByteArray) (a1_1 : ByteArray) (a1_2 : Bool) (a1_3 : Bool) (l1_4 : List (S123)) (l1_5 : List (S84)) : Option (Bool) := if a0_0.toList = a1_0.toList then (if a0_1.toList = a1_1.toList then (if (a0_2 != a1_2) = true then (spec_ClassSame.j0 k true a0_0 a0_1 a0_2 a0_3 l0_4 l0_5 a1_0 a1_1 a1_2 a1_3 l1_4 l1_5) else (if (a0_3 != a1_3) = true then (spec_ClassSame.j0 k true a0_0 a0_1 a0_2 a0_3 l0_4 l0_5 a1_0 a1_1 a1_2 a1_3 l1_4 l1_5) else (if (l0_4.length : Int) = (l1_4.length : Int) then (spec_ClassSame.j0 k ((l0_5.length : Int) != (l1_5.length : Int)) a0_0 a0_1 a0_2 a0_3 l0_4 l0_5 a1_0 a1_1 a1_2 a1_3 l1_4 l1_5) else (spec_ClassSame.j0 k true a0_0 a0_1 a0_2 a0_3 l0_4 l0_5 a1_0 a1_1 a1_2 a1_3 l1_4 l1_5)))) else (spec_ClassSame.j0 k true a0_0 a0_1 a0_2 a0_3 l0_4 l0_5 a1_0 a1_1 a1_2 a1_3 l1_4 l1_5)) else (spec_ClassSame.j0 k true a0_0 a0_1 a0_2 a0_3 l0_4 l0_5 a1_0 a1_1 a1_2 a1_3 l1_4 l1_5)
theorem spec_ClassSame.mono_l : ∀ k, (∀ y0 y1 y2 y3 y4 y5 y6 y7 y8 y9 y10 y11 y12, LeO (spec_ClassSame.j0 k y0 y1 y2 y3 y4 y5 y6 y7 y8 y9 y10 y11 y12) (spec_ClassSame.j0 (k + 1) y0 y1 y2 y3 y4 y5 y6 y7 y8 y9 y10 y11 y12)) ∧ (∀ y0 y1 y2 y3 y4 y5 y6 y7 y8 y9 y10 y11 y12, LeO (spec_ClassSame.l0 k y0 y1 y2 y3 y4 y5 y6 y7 y8 y9 y10 y11 y12) (spec_ClassSame.l0 (k + 1) y0 y1 y2 y3 y4 y5 y6 y7 y8 y9 y10 y11 y12)) ∧ (∀ y0 y1 y2 y3 y4 y5 y6 y7 y8 y9 y10 y11 y12, LeO (spec_ClassSame.l1 k y0 y1 y2 y3 y4 y5 y6 y7 y8 y9 y10 y11 y12) (spec_ClassSame.l1 (k + 1) y0 y1 y2 y3 y4 y5 y6 y7 y8 y9 y10 y11 y12))
  | 0 => ⟨fun _ _ _ _ _ _ _ _ _ _ _ _ _ r h => by simp [spec_ClassSame.j0] at h, fun _ _ _ _ _ _ _ _ _ _ _ _ _ r h => by simp [spec_ClassSame.l0] at h, fun _ _ _ _ _ _ _ _ _ _ _ _ _ r h => by simp [spec_ClassSame.l1] at h⟩
  | k + 1 => by
    obtain ⟨ih0, ih1, ih2⟩ := spec_ClassSame.mono_l k
    refine ⟨?_, ?_, ?_⟩
    · intro y0 y1 y2 y3 y4 y5 y6 y7 y8 y9 y10 y11 y12
      unfold spec_ClassSame.j0
      repeat' first
      | (with_reducible exact ih0 _ _ _ _ _ _ _ _ _ _ _ _ _)
      | (with_reducible exact ih1 _ _ _ _ _ _ _ _ _ _ _ _ _)
      | (with_reducible exact ih2 _ _ _ _ _ _ _ _ _ _ _ _ _)
      | (with_reducible exact spec_l03SameMethod.mono _ _ _ _ _ _ _ _ _ _ _ _ _ _ _ _ _ _ _)
      | (with_reducible exact LeO.refl _)
      | (with_reducible exact LeO.none _)
      | (with_reducible refine LeO.ite ?_ ?_)
      | (with_reducible refine LeO.bind ?_ (fun _ => ?_))
      | exact ih0 _ _ _ _ _ _ _ _ _ _ _ _ _
      | exact ih1 _ _ _ _ _ _ _ _ _ _ _ _ _
      | exact ih2 _ _ _ _ _ _ _ _ _ _ _ _ _
      | exact spec_l03SameMethod.mono _ _ _ _ _ _ _ _ _ _ _ _ _ _ _ _ _ _ _
      | exact LeO.none _
      | refine LeO.ite ?_ ?_
      | refine LeO.bind ?_ (fun _ => ?_)
    · intro y0 y1 y2 y3 y4 y5 y6 y7 y8 y9 y10 y11 y12
      unfold spec_ClassSame.l0
      repeat' first
      | (with_reducible exact ih0 _ _ _ _ _ _ _ _ _ _ _ _ _)
      | (with_reducible exact ih1 _ _ _ _ _ _ _ _ _ _ _ _ _)
      | (with_reducible exact ih2 _ _ _ _ _ _ _ _ _ _ _ _ _)
      | (with_reducible exact spec_l03SameMethod.mono _ _ _ _ _ _ _ _ _ _ _ _ _ _ _ _ _ _ _)
      | (with_reducible exact LeO.refl _)
      | (with_reducible exact LeO.none _)
      | (with_reducible refine LeO.ite ?_ ?_)
      | (with_reducible refine LeO.bind ?_ (fun _ => ?_))
      | exact ih0 _ _ _ _ _ _ _ _ _ _ _ _ _
      | exact ih1 _ _ _ _ _ _ _ _ _ _ _ _ _
      | exact ih2 _ _ _ _ _ _ _ _ _ _ _ _ _
      | exact spec_l03SameMethod.mono _ _ _ _ _ _ _ _ _ _ _ _ _ _ _ _ _ _ _
      | exact LeO.none _
      | refine LeO.ite ?_ ?_
      | refine LeO.bind ?_ (fun _ => ?_)
    · intro y0 y1 y2 y3 y4 y5 y6 y7 y8 y9 y10 y11 y12
      unfold spec_ClassSame.l1
      repeat' first
      | (with_reducible exact ih0 _ _ _ _ _ _ _ _ _ _ _ _ _)
      | (with_reducible exact ih1 _ _ _ _ _ _ _ _ _ _ _ _ _)
      | (with_reducible exact ih2 _ _ _ _ _ _ _ _ _ _ _ _ _)
      | (with_reducible exact spec_l03SameMethod.mono _ _ _ _ _ _ _ _ _ _ _ _ _ _ _ _ _ _ _)
      | (with_reducible exact LeO.refl _)
      | (with_reducible exact LeO.none _)
      | (with_reducible refine LeO.ite ?_ ?_)
      | (with_reducible refine LeO.bind ?_ (fun _ => ?_))
      | exact ih0 _ _ _ _ _ _ _ _ _ _ _ _ _
      | exact ih1 _ _ _ _ _ _ _ _ _ _ _ _ _
      | exact ih2 _ _ _ _ _ _ _ _ _ _ _ _ _
      | exact spec_l03SameMethod.mono _ _ _ _ _ _ _ _ _ _ _ _ _ _ _ _ _ _ _
      | exact LeO.none _
      | refine LeO.ite ?_ ?_
      | refine LeO.bind ?_ (fun _ => ?_)
theorem spec_ClassSame.mono : ∀ a0 a1 a2 a3 a4 a5 a6 a7 a8 a9 a10 a11 k, LeO (spec_ClassSame.f k a0 a1 a2 a3 a4 a5 a6 a7 a8 a9 a10 a11) (spec_ClassSame.f (k + 1) a0 a1 a2 a3 a4 a5 a6 a7 a8 a9 a10 a11) := by
  intro a0 a1 a2 a3 a4 a5 a6 a7 a8 a9 a10 a11 k
  obtain ⟨ih0, ih1, ih2⟩ := spec_ClassSame.mono_l k
  unfold spec_ClassSame.f
  repeat' first
      | (with_reducible exact ih0 _ _ _ _ _ _ _ _ _ _ _ _ _)
      | (with_reducible exact ih1 _ _ _ _ _ _ _ _ _ _ _ _ _)
      | (with_reducible exact ih2 _ _ _ _ _ _ _ _ _ _ _ _ _)
      | (with_reducible exact spec_l03SameMethod.mono _ _ _ _ _ _ _ _ _ _ _ _ _ _ _ _ _ _ _)
      | (with_reducible exact LeO.refl _)
      | (with_reducible exact LeO.none _)
      | (with_reducible refine LeO.ite ?_ ?_)
      | (with_reducible refine LeO.bind ?_ (fun _ => ?_))
      | exact ih0 _ _ _ _ _ _ _ _ _ _ _ _ _
      | exact ih1 _ _ _ _ _ _ _ _ _ _ _ _ _
      | exact ih2 _ _ _ _ _ _ _ _ _ _ _ _ _
      | exact spec_l03SameMethod.mono _ _ _ _ _ _ _ _ _ _ _ _ _ _ _ _ _ _ _
      | exact LeO.none _
      | refine LeO.ite ?_ ?_
      | refine LeO.bind ?_ (fun _ => ?_)
def spec_ClassSame.T6 : Bool × List (List Nat × List Nat) := (true, [([], []), ([0], [0]), ([], []), ([1, 2], [1, 2]), ([3], [3]), ([], []), ([5], [5]), ([], []), ([6, 7], [6, 7]), ([8], [8]), ([4, 9], [4, 9])])
def spec_ClassSame.B6 : List Nat := [0, 1, 0, 7, 15, 0, 32, 0, 224, 480, 1023]
theorem spec_ClassSame.tab6 : rtab .any (opsOf Try.f21 6) = spec_ClassSame.T6 := by kernel_rfl
theorem spec_ClassSame.bits6 : waitsOk spec_ClassSame.T6.2 spec_ClassSame.B6 = true := by kernel_rfl
def spec_ClassSame.T11 : Bool × List (List Nat × List Nat) := (true, [([], []), ([0], [0]), ([], []), ([1, 2], [1, 2]), ([3], [3]), ([], []), ([5], [5]), ([], []), ([6, 7], [6, 7]), ([8], [8]), ([4, 9], [4, 9]), ([10], [10])])
def spec_ClassSame.B11 : List Nat := [0, 1, 0, 7, 15, 0, 32, 0, 224, 480, 1023, 2047]
theorem spec_ClassSame.tab11 : rtab .any (opsOf Try.f21 11) = spec_ClassSame.T11 := by kernel_rfl
theorem spec_ClassSame.bits11 : waitsOk spec_ClassSame.T11.2 spec_ClassSame.B11 = true := by kernel_rfl
set_option maxHeartbeats 8000000 in
set_option maxRecDepth 100000 in
theorem spec_ClassSame.calls (k : Nat) (a0_0 : ByteArray) (a0_1 : ByteArray) (a0_2 : Bool) (a0_3 : Bool) (A0_4 : Option Addr) (c0_4 : Nat) (l0_4 : List (S123)) (A0_5 : Option Addr) (c0_5 : Nat) (l0_5 : List (S84)) (a1_0 : ByteArray) (a1_1 : ByteArray) (a1_2 : Bool) (a1_3 : Bool) (A1_4 : Option Addr) (c1_4 : Nat) (l1_4 : List (S123)) (A1_5 : Option Addr) (c1_5 : Nat) (l1_5 : List (S84)) (r : Bool) (w : World) (hr0_4 : Kd.C k123 w A0_4 l0_4.length l0_4) (hc0_4 : l0_4.length ≤ c0_4) (hr0_5 : Kd.C k84 w A0_5 l0_5.length l0_5) (hc0_5 : l0_5.length ≤ c0_5) (hr1_4 : Kd.C k123 w A1_4 l1_4.length l1_4) (hc1_4 : l1_4.length ≤ c1_4) (hr1_5 : Kd.C k84 w A1_5 l1_5.length l1_5) (hc1_5 : l1_5.length ≤ c1_5) (h : spec_ClassSame.f k a0_0 a0_1 a0_2 a0_3 l0_4 l0_5 a1_0 a1_1 a1_2 a1_3 l1_4 l1_5 = some r) :
    Calls Try.prog 21 #[.agg #[.string a0_0, .string a0_1, .bool a0_2, .bool a0_3, .slice A0_4 l0_4.length c0_4, .slice A0_5 l0_5.length c0_5], .agg #[.string a1_0, .string a1_1, .bool a1_2, .bool a1_3, .slice A1_4 l1_4.length c1_4, .slice A1_5 l1_5.length c1_5]] w fun e w' => e = .returned (.bool r) ∧ Below w.heap.size w w' := by
  have hu51 := Try.underlying51
  have hu123 := Try.underlying123
  have hu84 := Try.underlying84
  have HR0_4 := Zm hr0_4
  have HC0_4 := Zm hc0_4
  clear hr0_4 hc0_4
  have HR0_5 := Zm hr0_5
  have HC0_5 := Zm hc0_5
  clear hr0_5 hc0_5
  have HR1_4 := Zm hr1_4
  have HC1_4 := Zm hc1_4
  clear hr1_4 hc1_4
  have HR1_5 := Zm hr1_5
  have HC1_5 := Zm hc1_5
  clear hr1_5 hc1_5
  have HB := Zm (Below.refl w.heap.size w)
  have H : (if a0_0.toList = a1_0.toList then (if a0_1.toList = a1_1.toList then (if (a0_2 != a1_2) = true then (spec_ClassSame.j0 k true a0_0 a0_1 a0_2 a0_3 l0_4 l0_5 a1_0 a1_1 a1_2 a1_3 l1_4 l1_5) else (if (a0_3 != a1_3) = true then (spec_ClassSame.j0 k true a0_0 a0_1 a0_2 a0_3 l0_4 l0_5 a1_0 a1_1 a1_2 a1_3 l1_4 l1_5) else (if (l0_4.length : Int) = (l1_4.length : Int) then (spec_ClassSame.j0 k ((l0_5.length : Int) != (l1_5.length : Int)) a0_0 a0_1 a0_2 a0_3 l0_4 l0_5 a1_0 a1_1 a1_2 a1_3 l1_4 l1_5) else (spec_ClassSame.j0 k true a0_0 a0_1 a0_2 a0_3 l0_4 l0_5 a1_0 a1_1 a1_2 a1_3 l1_4 l1_5)))) else (spec_ClassSame.j0 k true a0_0 a0_1 a0_2 a0_3 l0_4 l0_5 a1_0 a1_1 a1_2 a1_3 l1_4 l1_5)) else (spec_ClassSame.j0 k true a0_0 a0_1 a0_2 a0_3 l0_4 l0_5 a1_0 a1_1 a1_2 a1_3 l1_4 l1_5)) = some r := h
  clear h
  have HC3 := Zm H
  clear H
  go_enter Try.func21, Try.ntmps21
  go_upto_region 1 with (first | ((with_reducible refine gate_dst (N := 2) rfl ?_); (try (refine gate_guard (by rfl) ?_; dsimp only)); refine box_event ?hg (N := 2) ?hd (cs := #[.string a0_0, .string a0_1, .bool a0_2, .bool a0_3, .slice A0_4 l0_4.length c0_4, .slice A0_5 l0_5.length c0_5]) (t := 51) ?hr ?_; (case hd => rfl); (case hg => rfl); (case hr => first | (go_simp; done) | (go_simp; rfl)); intro gb124 hg w4 hbox hb; have n0_ := Zm (Zbt (by repeat (first | (with_reducible first | exact HB.out | apply Zba | apply Zbn | apply Zbd) | exact HB.out)) hb); have n1_ := Zm (hbox); have n2_ := Zm ((by rw [hg]; exact (Zbz (by repeat (first | (with_reducible first | exact HB.out | apply Zba | apply Zbn | apply Zbd) | exact HB.out))) : w.heap.size ≤ gb124)); have n3_ := Zm ((by rw [hg]; exact (Zbz (by repeat (first | (with_reducible first | exact HB.out | apply Zba | apply Zbn | apply Zbd) | exact HB.out))) : w.heap.size ≤ gb124)); clear HB; have HB := n0_; have BK124 := n1_; have GW124 := n2_; have GE124 := n3_; clear n0_ n1_ n2_ n3_; clear hb hbox hg) | ((with_reducible refine gate_dst (N := 3) rfl ?_); (try (refine gate_guard (by rfl) ?_; dsimp only)); refine box_event ?hg (N := 3) ?hd (cs := #[.string a1_0, .string a1_1, .bool a1_2, .bool a1_3, .slice A1_4 l1_4.length c1_4, .slice A1_5 l1_5.length c1_5]) (t := 51) ?hr ?_; (case hd => rfl); (case hg => rfl); (case hr => first | (go_simp; done) | (go_simp; rfl)); intro gb125 hg w5 hbox hb; have n0_ := Zm (Zkb (g := gb124) (o := .cells #[.string a0_0, .string a0_1, .bool a0_2, .bool a0_3, .slice A0_4 l0_4.length c0_4, .slice A0_5 l0_5.length c0_5] 51 (0, 0)) (by (with_reducible repeat (first | refine Zkn ?_ _ | refine Zkd ?_ | refine Zka ?_ _)); exact BK124.out) hb); have n1_ := Zm (Zbt (by repeat (first | (with_reducible first | exact HB.out | apply Zba | apply Zbn | apply Zbd | refine Zbs ?_ GE124.out) | exact HB.out)) hb); have n2_ := Zm (hbox); have n3_ := Zm ((by rw [hg]; exact (Zbz (by repeat (first | (with_reducible first | exact HB.out | apply Zba | apply Zbn | apply Zbd | refine Zbs ?_ GE124.out) | exact HB.out))) : w.heap.size ≤ gb125)); have n4_ := Zm ((by rw [hg]; exact (Zbz (by repeat (first | (with_reducible first | exact HB.out | apply Zba | apply Zbn | apply Zbd | refine Zbs ?_ GE124.out) | exact HB.out))) : w.heap.size ≤ gb125)); have n5_ := Zm ((by rw [hg]; exact Nat.ne_of_lt (blk_lt (g := gb124) (o := .cells #[.string a0_0, .string a0_1, .bool a0_2, .bool a0_3, .slice A0_4 l0_4.length c0_4, .slice A0_5 l0_5.length c0_5] 51 (0, 0)) (by (with_reducible repeat (first | refine Zkn ?_ _ | refine Zkd ?_ | refine Zka ?_ _)); exact BK124.out)) : gb124 ≠ gb125)); have n6_ := Zm ((by rw [hg]; exact Nat.ne_of_gt (blk_lt (g := gb124) (o := .cells #[.string a0_0, .string a0_1, .bool a0_2, .bool a0_3, .slice A0_4 l0_4.length c0_4, .slice A0_5 l0_5.length c0_5] 51 (0, 0)) (by (with_reducible repeat (first | refine Zkn ?_ _ | refine Zkd ?_ | refine Zka ?_ _)); exact BK124.out)) : gb125 ≠ gb124)); clear BK124; clear HB; have BK124 := n0_; have HB := n1_; have BK125 := n2_; have GW125 := n3_; have GE125 := n4_; have NB124_125 := n5_; have NB125_124 := n6_; clear n0_ n1_ n2_ n3_ n4_ n5_ n6_; clear hb hbox hg))
  (try simp only [Act.put, List.setIfInBounds_toArray, List.set_cons_zero, List.set_cons_succ])
  go_cut [50] (fun v50 wc => ∃ (kq : Nat) (x50_2 : Bool), v50 = .bool x50_2 ∧ Aside0 (spec_ClassSame.j0 kq x50_2 a0_0 a0_1 a0_2 a0_3 l0_4 l0_5 a1_0 a1_1 a1_2 a1_3 l1_4 l1_5 = some r) ∧ Aside0 (kq ≤ k) ∧ Aside0 (wc.heap[gb124]? = some (.cells #[.string a0_0, .string a0_1, .bool a0_2, .bool a0_3, (.slice A0_4 l0_4.length c0_4), (.slice A0_5 l0_5.length c0_5)] 51 (0, 0))) ∧ Aside0 (wc.heap[gb125]? = some (.cells #[.string a1_0, .string a1_1, .bool a1_2, .bool a1_3, (.slice A1_4 l1_4.length c1_4), (.slice A1_5 l1_5.length c1_5)] 51 (0, 0))) ∧ Aside0 (Below w.heap.size w wc))
  case first =>
    have H := HC3.out
    clear HC3
    by_cases c6 : a0_0.toList = a1_0.toList
    rotate_left
    · rw [if_neg c6] at H
      have c6b0 : (a0_0.toList == a1_0.toList) = false := beq_eq_false_iff_ne.mpr c6
      have c6b1 : (a0_0.toList != a1_0.toList) = true := bne_iff_ne.mpr c6
      (first | rw [c6b0] | (simp only [i64_w, i32_w]; rw [c6b0]) | skip)
      have H' := Zm H
      clear H
      have hnb26 := NB124_125.out
      have hnc26 := NB125_124.out
      have hcz27_0 : w5.cell? ⟨gb124, 0, none⟩ = some (.string a0_0) := (Zkc BK124.out 0).trans rfl
      have hcz27_1 : w5.cell? ⟨gb124, 1, none⟩ = some (.string a0_1) := (Zkc BK124.out 1).trans rfl
      have hcz27_2 : w5.cell? ⟨gb124, 2, none⟩ = some (.bool a0_2) := (Zkc BK124.out 2).trans rfl
      have hcz27_3 : w5.cell? ⟨gb124, 3, none⟩ = some (.bool a0_3) := (Zkc BK124.out 3).trans rfl
      have hcz27_4 : w5.cell? ⟨gb124, 4, none⟩ = some (.slice A0_4 l0_4.length c0_4) := (Zkc BK124.out 4).trans rfl
      have hcz27_5 : w5.cell? ⟨gb124, 5, none⟩ = some (.slice A0_5 l0_5.length c0_5) := (Zkc BK124.out 5).trans rfl
      have hcz28_0 : w5.cell? ⟨gb125, 0, none⟩ = some (.string a1_0) := (Zkc BK125.out 0).trans rfl
      have hcz28_1 : w5.cell? ⟨gb125, 1, none⟩ = some (.string a1_1) := (Zkc BK125.out 1).trans rfl
      have hcz28_2 : w5.cell? ⟨gb125, 2, none⟩ = some (.bool a1_2) := (Zkc BK125.out 2).trans rfl
      have hcz28_3 : w5.cell? ⟨gb125, 3, none⟩ = some (.bool a1_3) := (Zkc BK125.out 3).trans rfl
      have hcz28_4 : w5.cell? ⟨gb125, 4, none⟩ = some (.slice A1_4 l1_4.length c1_4) := (Zkc BK125.out 4).trans rfl
      have hcz28_5 : w5.cell? ⟨gb125, 5, none⟩ = some (.slice A1_5 l1_5.length c1_5) := (Zkc BK125.out 5).trans rfl
      go_wp2
      go_meet
      case rel => exact ⟨_, (true), (by first | rfl | (simp; done) | (simp [*]; done)), H', ⟨by first | omega | exact Nat.le_refl _⟩, ⟨by (with_reducible repeat (first | refine Zkn ?_ _ | refine Zkd ?_ | refine Zka ?_ _)); exact BK124.out⟩, ⟨by (with_reducible repeat (first | refine Zkn ?_ _ | refine Zkd ?_ | refine Zka ?_ _)); exact BK125.out⟩, ⟨by repeat (first | (with_reducible first | exact HB.out | apply Zba | apply Zbn | apply Zbd | refine Zbs ?_ GE124.out | refine Zbs ?_ GE125.out) | exact HB.out)⟩⟩
    rw [if_pos c6] at H
    have c6b0 : (a0_0.toList == a1_0.toList) = true := beq_iff_eq.mpr c6
    have c6b1 : (a0_0.toList != a1_0.toList) = false := bne_eq_false_iff_eq.mpr c6
    clear c6
    (first | rw [c6b0] | (simp only [i64_w, i32_w]; rw [c6b0]) | skip)
    by_cases c7 : a0_1.toList = a1_1.toList
    rotate_left
    · rw [if_neg c7] at H
      have c7b0 : (a0_1.toList == a1_1.toList) = false := beq_eq_false_iff_ne.mpr c7
      have c7b1 : (a0_1.toList != a1_1.toList) = true := bne_iff_ne.mpr c7
      have H' := Zm H
      clear H
      have hnb23 := NB124_125.out
      have hnc23 := NB125_124.out
      have hcz24_0 : w5.cell? ⟨gb124, 0, none⟩ = some (.string a0_0) := (Zkc BK124.out 0).trans rfl
      have hcz24_1 : w5.cell? ⟨gb124, 1, none⟩ = some (.string a0_1) := (Zkc BK124.out 1).trans rfl
      have hcz24_2 : w5.cell? ⟨gb124, 2, none⟩ = some (.bool a0_2) := (Zkc BK124.out 2).trans rfl
      have hcz24_3 : w5.cell? ⟨gb124, 3, none⟩ = some (.bool a0_3) := (Zkc BK124.out 3).trans rfl
      have hcz24_4 : w5.cell? ⟨gb124, 4, none⟩ = some (.slice A0_4 l0_4.length c0_4) := (Zkc BK124.out 4).trans rfl
      have hcz24_5 : w5.cell? ⟨gb124, 5, none⟩ = some (.slice A0_5 l0_5.length c0_5) := (Zkc BK124.out 5).trans rfl
      have hcz25_0 : w5.cell? ⟨gb125, 0, none⟩ = some (.string a1_0) := (Zkc BK125.out 0).trans rfl
      have hcz25_1 : w5.cell? ⟨gb125, 1, none⟩ = some (.string a1_1) := (Zkc BK125.out 1).trans rfl
      have hcz25_2 : w5.cell? ⟨gb125, 2, none⟩ = some (.bool a1_2) := (Zkc BK125.out 2).trans rfl
      have hcz25_3 : w5.cell? ⟨gb125, 3, none⟩ = some (.bool a1_3) := (Zkc BK125.out 3).trans rfl
      have hcz25_4 : w5.cell? ⟨gb125, 4, none⟩ = some (.slice A1_4 l1_4.length c1_4) := (Zkc BK125.out 4).trans rfl
      have hcz25_5 : w5.cell? ⟨gb125, 5, none⟩ = some (.slice A1_5 l1_5.length c1_5) := (Zkc BK125.out 5).trans rfl
      go_wp2
      go_meet
      case rel => exact ⟨_, (true), (by first | rfl | (simp; done) | (simp [*]; done)), H', ⟨by first | omega | exact Nat.le_refl _⟩, ⟨by (with_reducible repeat (first | refine Zkn ?_ _ | refine Zkd ?_ | refine Zka ?_ _)); exact BK124.out⟩, ⟨by (with_reducible repeat (first | refine Zkn ?_ _ | refine Zkd ?_ | refine Zka ?_ _)); exact BK125.out⟩, ⟨by repeat (first | (with_reducible first | exact HB.out | apply Zba | apply Zbn | apply Zbd | refine Zbs ?_ GE124.out | refine Zbs ?_ GE125.out) | exact HB.out)⟩⟩
    rw [if_pos c7] at H
    have c7b0 : (a0_1.toList == a1_1.toList) = true := beq_iff_eq.mpr c7
    have c7b1 : (a0_1.toList != a1_1.toList) = false := bne_eq_false_iff_eq.mpr c7
    clear c7
    by_cases c8 : (a0_2 != a1_2) = true
    rotate_left
    · rw [if_neg c8] at H
      have c8b0 : (a0_2 != a1_2) = false := by simpa using c8
      (try (have c8b1 : decide (a0_2 = a1_2) = true := by simpa using c8))
      (try (have c8b2 : (a0_2 == a1_2) = true := by simpa using c8))
      clear c8
      by_cases c12 : (a0_3 != a1_3) = true
      rotate_left
      · rw [if_neg c12] at H
        have c12b0 : (a0_3 != a1_3) = false := by simpa using c12
        (try (have c12b1 : decide (a0_3 = a1_3) = true := by simpa using c12))
        (try (have c12b2 : (a0_3 == a1_3) = true := by simpa using c12))
        clear c12
        by_cases c16 : (l0_4.length : Int) = (l1_4.length : Int)
        rotate_left
        · rw [if_neg c16] at H
          have c16b0 : ((l0_4.length : Int) == (l1_4.length : Int)) = false := beq_eq_false_iff_ne.mpr c16
          have c16b1 : ((l0_4.length : Int) != (l1_4.length : Int)) = true := bne_iff_ne.mpr c16
          have c16b2 : (l0_4.length == l1_4.length) = false := by first | simpa using c16 | (simp at c16 ⊢; omega)
          have H' := Zm H
          clear H
          have hnb20 := NB124_125.out
          have hnc20 := NB125_124.out
          have hcz21_0 : w5.cell? ⟨gb124, 0, none⟩ = some (.string a0_0) := (Zkc BK124.out 0).trans rfl
          have hcz21_1 : w5.cell? ⟨gb124, 1, none⟩ = some (.string a0_1) := (Zkc BK124.out 1).trans rfl
          have hcz21_2 : w5.cell? ⟨gb124, 2, none⟩ = some (.bool a0_2) := (Zkc BK124.out 2).trans rfl
          have hcz21_3 : w5.cell? ⟨gb124, 3, none⟩ = some (.bool a0_3) := (Zkc BK124.out 3).trans rfl
          have hcz21_4 : w5.cell? ⟨gb124, 4, none⟩ = some (.slice A0_4 l0_4.length c0_4) := (Zkc BK124.out 4).trans rfl
          have hcz21_5 : w5.cell? ⟨gb124, 5, none⟩ = some (.slice A0_5 l0_5.length c0_5) := (Zkc BK124.out 5).trans rfl
          have hcz22_0 : w5.cell? ⟨gb125, 0, none⟩ = some (.string a1_0) := (Zkc BK125.out 0).trans rfl
          have hcz22_1 : w5.cell? ⟨gb125, 1, none⟩ = some (.string a1_1) := (Zkc BK125.out 1).trans rfl
          have hcz22_2 : w5.cell? ⟨gb125, 2, none⟩ = some (.bool a1_2) := (Zkc BK125.out 2).trans rfl
          have hcz22_3 : w5.cell? ⟨gb125, 3, none⟩ = some (.bool a1_3) := (Zkc BK125.out 3).trans rfl
          have hcz22_4 : w5.cell? ⟨gb125, 4, none⟩ = some (.slice A1_4 l1_4.length c1_4) := (Zkc BK125.out 4).trans rfl
          have hcz22_5 : w5.cell? ⟨gb125, 5, none⟩ = some (.slice A1_5 l1_5.length c1_5) := (Zkc BK125.out 5).trans rfl
          go_wp2
          go_meet
          case rel => exact ⟨_, (true), (by first | rfl | (simp; done) | (simp [*]; done)), H', ⟨by first | omega | exact Nat.le_refl _⟩, ⟨by (with_reducible repeat (first | refine Zkn ?_ _ | refine Zkd ?_ | refine Zka ?_ _)); exact BK124.out⟩, ⟨by (with_reducible repeat (first | refine Zkn ?_ _ | refine Zkd ?_ | refine Zka ?_ _)); exact BK125.out⟩, ⟨by repeat (first | (with_reducible first | exact HB.out | apply Zba | apply Zbn | apply Zbd | refine Zbs ?_ GE124.out | refine Zbs ?_ GE125.out) | exact HB.out)⟩⟩
        rw [if_pos c16] at H
        have c16b0 : ((l0_4.length : Int) == (l1_4.length : Int)) = true := beq_iff_eq.mpr c16
        have c16b1 : ((l0_4.length : Int) != (l1_4.length : Int)) = false := bne_eq_false_iff_eq.mpr c16
        have c16b2 : (l0_4.length == l1_4.length) = true := by first | simpa using c16 | (simp at c16 ⊢; omega)
        clear c16
        have H' := Zm H
        clear H
        have hnb17 := NB124_125.out
        have hnc17 := NB125_124.out
        have hcz18_0 : w5.cell? ⟨gb124, 0, none⟩ = some (.string a0_0) := (Zkc BK124.out 0).trans rfl
        have hcz18_1 : w5.cell? ⟨gb124, 1, none⟩ = some (.string a0_1) := (Zkc BK124.out 1).trans rfl
        have hcz18_2 : w5.cell? ⟨gb124, 2, none⟩ = some (.bool a0_2) := (Zkc BK124.out 2).trans rfl
        have hcz18_3 : w5.cell? ⟨gb124, 3, none⟩ = some (.bool a0_3) := (Zkc BK124.out 3).trans rfl
        have hcz18_4 : w5.cell? ⟨gb124, 4, none⟩ = some (.slice A0_4 l0_4.length c0_4) := (Zkc BK124.out 4).trans rfl
        have hcz18_5 : w5.cell? ⟨gb124, 5, none⟩ = some (.slice A0_5 l0_5.length c0_5) := (Zkc BK124.out 5).trans rfl
        have hcz19_0 : w5.cell? ⟨gb125, 0, none⟩ = some (.string a1_0) := (Zkc BK125.out 0).trans rfl
        have hcz19_1 : w5.cell? ⟨gb125, 1, none⟩ = some (.string a1_1) := (Zkc BK125.out 1).trans rfl
        have hcz19_2 : w5.cell? ⟨gb125, 2, none⟩ = some (.bool a1_2) := (Zkc BK125.out 2).trans rfl
        have hcz19_3 : w5.cell? ⟨gb125, 3, none⟩ = some (.bool a1_3) := (Zkc BK125.out 3).trans rfl
        have hcz19_4 : w5.cell? ⟨gb125, 4, none⟩ = some (.slice A1_4 l1_4.length c1_4) := (Zkc BK125.out 4).trans rfl
        have hcz19_5 : w5.cell? ⟨gb125, 5, none⟩ = some (.slice A1_5 l1_5.length c1_5) := (Zkc BK125.out 5).trans rfl
        go_wp2
        go_meet
        case rel => exact ⟨_, (((l0_5.length : Int) != (l1_5.length : Int))), (by first | rfl | (simp; done) | (simp [*]; done)), H', ⟨by first | omega | exact Nat.le_refl _⟩, ⟨by (with_reducible repeat (first | refine Zkn ?_ _ | refine Zkd ?_ | refine Zka ?_ _)); exact BK124.out⟩, ⟨by (with_reducible repeat (first | refine Zkn ?_ _ | refine Zkd ?_ | refine Zka ?_ _)); exact BK125.out⟩, ⟨by repeat (first | (with_reducible first | exact HB.out | apply Zba | apply Zbn | apply Zbd | refine Zbs ?_ GE124.out | refine Zbs ?_ GE125.out) | exact HB.out)⟩⟩
      rw [if_pos c12] at H
      have c12b0 : (a0_3 != a1_3) = true := c12
      (try (have c12b1 : decide (a0_3 = a1_3) = false := by simpa using c12))
      (try (have c12b2 : (a0_3 == a1_3) = false := by simpa using c12))
      (try (have c12b3 : ¬ (a0_3 = a1_3) := by simpa using c12))
      clear c12
      have H' := Zm H
      clear H
      have hnb13 := NB124_125.out
      have hnc13 := NB125_124.out
      have hcz14_0 : w5.cell? ⟨gb124, 0, none⟩ = some (.string a0_0) := (Zkc BK124.out 0).trans rfl
      have hcz14_1 : w5.cell? ⟨gb124, 1, none⟩ = some (.string a0_1) := (Zkc BK124.out 1).trans rfl
      have hcz14_2 : w5.cell? ⟨gb124, 2, none⟩ = some (.bool a0_2) := (Zkc BK124.out 2).trans rfl
      have hcz14_3 : w5.cell? ⟨gb124, 3, none⟩ = some (.bool a0_3) := (Zkc BK124.out 3).trans rfl
      have hcz14_4 : w5.cell? ⟨gb124, 4, none⟩ = some (.slice A0_4 l0_4.length c0_4) := (Zkc BK124.out 4).trans rfl
      have hcz14_5 : w5.cell? ⟨gb124, 5, none⟩ = some (.slice A0_5 l0_5.length c0_5) := (Zkc BK124.out 5).trans rfl
      have hcz15_0 : w5.cell? ⟨gb125, 0, none⟩ = some (.string a1_0) := (Zkc BK125.out 0).trans rfl
      have hcz15_1 : w5.cell? ⟨gb125, 1, none⟩ = some (.string a1_1) := (Zkc BK125.out 1).trans rfl
      have hcz15_2 : w5.cell? ⟨gb125, 2, none⟩ = some (.bool a1_2) := (Zkc BK125.out 2).trans rfl
      have hcz15_3 : w5.cell? ⟨gb125, 3, none⟩ = some (.bool a1_3) := (Zkc BK125.out 3).trans rfl
      have hcz15_4 : w5.cell? ⟨gb125, 4, none⟩ = some (.slice A1_4 l1_4.length c1_4) := (Zkc BK125.out 4).trans rfl
      have hcz15_5 : w5.cell? ⟨gb125, 5, none⟩ = some (.slice A1_5 l1_5.length c1_5) := (Zkc BK125.out 5).trans rfl
      go_wp2
      go_meet
      case rel => exact ⟨_, (true), (by first | rfl | (simp; done) | (simp [*]; done)), H', ⟨by first | omega | exact Nat.le_refl _⟩, ⟨by (with_reducible repeat (first | refine Zkn ?_ _ | refine Zkd ?_ | refine Zka ?_ _)); exact BK124.out⟩, ⟨by (with_reducible repeat (first | refine Zkn ?_ _ | refine Zkd ?_ | refine Zka ?_ _)); exact BK125.out⟩, ⟨by repeat (first | (with_reducible first | exact HB.out | apply Zba | apply Zbn | apply Zbd | refine Zbs ?_ GE124.out | refine Zbs ?_ GE125.out) | exact HB.out)⟩⟩
    rw [if_pos c8] at H
    have c8b0 : (a0_2 != a1_2) = true := c8
    (try (have c8b1 : decide (a0_2 = a1_2) = false := by simpa using c8))
    (try (have c8b2 : (a0_2 == a1_2) = false := by simpa using c8))
    (try (have c8b3 : ¬ (a0_2 = a1_2) := by simpa using c8))
    clear c8
    have H' := Zm H
    clear H
    have hnb9 := NB124_125.out
    have hnc9 := NB125_124.out
    have hcz10_0 : w5.cell? ⟨gb124, 0, none⟩ = some (.string a0_0) := (Zkc BK124.out 0).trans rfl
    have hcz10_1 : w5.cell? ⟨gb124, 1, none⟩ = some (.string a0_1) := (Zkc BK124.out 1).trans rfl
    have hcz10_2 : w5.cell? ⟨gb124, 2, none⟩ = some (.bool a0_2) := (Zkc BK124.out 2).trans rfl
    have hcz10_3 : w5.cell? ⟨gb124, 3, none⟩ = some (.bool a0_3) := (Zkc BK124.out 3).trans rfl
    have hcz10_4 : w5.cell? ⟨gb124, 4, none⟩ = some (.slice A0_4 l0_4.length c0_4) := (Zkc BK124.out 4).trans rfl
    have hcz10_5 : w5.cell? ⟨gb124, 5, none⟩ = some (.slice A0_5 l0_5.length c0_5) := (Zkc BK124.out 5).trans rfl
    have hcz11_0 : w5.cell? ⟨gb125, 0, none⟩ = some (.string a1_0) := (Zkc BK125.out 0).trans rfl
    have hcz11_1 : w5.cell? ⟨gb125, 1, none⟩ = some (.string a1_1) := (Zkc BK125.out 1).trans rfl
    have hcz11_2 : w5.cell? ⟨gb125, 2, none⟩ = some (.bool a1_2) := (Zkc BK125.out 2).trans rfl
    have hcz11_3 : w5.cell? ⟨gb125, 3, none⟩ = some (.bool a1_3) := (Zkc BK125.out 3).trans rfl
    have hcz11_4 : w5.cell? ⟨gb125, 4, none⟩ = some (.slice A1_4 l1_4.length c1_4) := (Zkc BK125.out 4).trans rfl
    have hcz11_5 : w5.cell? ⟨gb125, 5, none⟩ = some (.slice A1_5 l1_5.length c1_5) := (Zkc BK125.out 5).trans rfl
    go_wp2
    go_meet
    case rel => exact ⟨_, (true), (by first | rfl | (simp; done) | (simp [*]; done)), H', ⟨by first | omega | exact Nat.le_refl _⟩, ⟨by (with_reducible repeat (first | refine Zkn ?_ _ | refine Zkd ?_ | refine Zka ?_ _)); exact BK124.out⟩, ⟨by (with_reducible repeat (first | refine Zkn ?_ _ | refine Zkd ?_ | refine Zka ?_ _)); exact BK125.out⟩, ⟨by repeat (first | (with_reducible first | exact HB.out | apply Zba | apply Zbn | apply Zbd | refine Zbs ?_ GE124.out | refine Zbs ?_ GE125.out) | exact HB.out)⟩⟩
  case rest =>
    clear HC3
    (try clear c1); (try clear c2); (try clear p2); (try clear c6); (try clear c6b0); (try clear c6b1); (try clear c7); (try clear c7b0); (try clear c7b1); (try clear c8); (try clear c8b0); (try clear c8b1); (try clear c8b2); (try clear c9); (try clear c12); (try clear c12b0); (try clear c12b1); (try clear c12b2); (try clear c13); (try clear c16); (try clear c16b0); (try clear c16b1); (try clear c16b2); (try clear c17); (try clear c20); (try clear c21); (try clear c23); (try clear c26); (try clear hcz10_0); (try clear hcz10_1); (try clear hcz10_2); (try clear hcz10_3); (try clear hcz10_4); (try clear hcz10_5); (try clear hcz11_0); (try clear hcz11_1); (try clear hcz11_2); (try clear hcz11_3); (try clear hcz11_4); (try clear hcz11_5); (try clear hcz14_0); (try clear hcz14_1); (try clear hcz14_2); (try clear hcz14_3); (try clear hcz14_4); (try clear hcz14_5); (try clear hcz15_0); (try clear hcz15_1); (try clear hcz15_2); (try clear hcz15_3); (try clear hcz15_4); (try clear hcz15_5); (try clear hcz18_0); (try clear hcz18_1); (try clear hcz18_2); (try clear hcz18_3); (try clear hcz18_4); (try clear hcz18_5); (try clear hcz19_0); (try clear hcz19_1); (try clear hcz19_2); (try clear hcz19_3); (try clear hcz19_4); (try clear hcz19_5); (try clear hcz21_0); (try clear hcz21_1); (try clear hcz21_2); (try clear hcz21_3); (try clear hcz21_4); (try clear hcz21_5); (try clear hcz22_0); (try clear hcz22_1); (try clear hcz22_2); (try clear hcz22_3); (try clear hcz22_4); (try clear hcz22_5); (try clear hcz24_0); (try clear hcz24_1); (try clear hcz24_2); (try clear hcz24_3); (try clear hcz24_4); (try clear hcz24_5); (try clear hcz25_0); (try clear hcz25_1); (try clear hcz25_2); (try clear hcz25_3); (try clear hcz25_4); (try clear hcz25_5); (try clear hcz27_0); (try clear hcz27_1); (try clear hcz27_2); (try clear hcz27_3); (try clear hcz27_4); (try clear hcz27_5); (try clear hcz28_0); (try clear hcz28_1); (try clear hcz28_2); (try clear hcz28_3); (try clear hcz28_4); (try clear hcz28_5)
    obtain ⟨kq, x50_2, rfl, HA, HJ2, BK124, BK125, HB⟩ := hcut
    cases kq with
    | zero => exact absurd HA.out (by simp [spec_ClassSame.j0])
    | succ kj2 =>
      have H := HA.out
      clear HA
      simp only [spec_ClassSame.j0] at H
      by_cases c29 : x50_2 = true
      rotate_left
      · replace c29 := Bool.eq_false_iff.mpr c29
        subst c29
        have H1 : (spec_ClassSame.l0 kj2 0 a0_0 a0_1 a0_2 a0_3 l0_4 l0_5 a1_0 a1_1 a1_2 a1_3 l1_4 l1_5) = some r := by rw [if_neg (show ¬ (false = true) by decide)] at H; exact H
        clear H
        have H := H1
        clear H1
        have H' := Zm H
        clear H
        go_wp2
        go_loopg [5] kj2 (fun kq v5 w' => ∃ (x5_2 : Int), v5 = .int .i64 x5_2 ∧ Aside0 (spec_ClassSame.l0 kq x5_2 a0_0 a0_1 a0_2 a0_3 l0_4 l0_5 a1_0 a1_1 a1_2 a1_3 l1_4 l1_5 = some r) ∧ Aside0 (kq ≤ kj2) ∧ Aside0 (w'.heap[gb124]? = some (.cells #[.string a0_0, .string a0_1, .bool a0_2, .bool a0_3, (.slice A0_4 l0_4.length c0_4), (.slice A0_5 l0_5.length c0_5)] 51 (0, 0))) ∧ Aside0 (w'.heap[gb125]? = some (.cells #[.string a1_0, .string a1_1, .bool a1_2, .bool a1_3, (.slice A1_4 l1_4.length c1_4), (.slice A1_5 l1_5.length c1_5)] 51 (0, 0))) ∧ Aside0 (Below w.heap.size w w'))
        case atStart => exact ⟨(0), (by first | rfl | (simp; done) | (simp [*]; done)), H', ⟨Nat.le_refl _⟩, ⟨by (with_reducible repeat (first | refine Zkn ?_ _ | refine Zkd ?_ | refine Zka ?_ _)); exact BK124.out⟩, ⟨by (with_reducible repeat (first | refine Zkn ?_ _ | refine Zkd ?_ | refine Zka ?_ _)); exact BK125.out⟩, ⟨by repeat (first | (with_reducible first | exact HB.out | apply Zba | apply Zbn | apply Zbd | refine Zbs ?_ GE124.out | refine Zbs ?_ GE125.out) | exact HB.out)⟩⟩
        case round =>
          clear H'
          (try clear c1); (try clear c2); (try clear p2); (try clear c6); (try clear c6b0); (try clear c6b1); (try clear c7); (try clear c7b0); (try clear c7b1); (try clear c8); (try clear c8b0); (try clear c8b1); (try clear c8b2); (try clear c9); (try clear c12); (try clear c12b0); (try clear c12b1); (try clear c12b2); (try clear c13); (try clear c16); (try clear c16b0); (try clear c16b1); (try clear c16b2); (try clear c17); (try clear c20); (try clear c21); (try clear c23); (try clear c26); (try clear c29); (try clear hcz10_0); (try clear hcz10_1); (try clear hcz10_2); (try clear hcz10_3); (try clear hcz10_4); (try clear hcz10_5); (try clear hcz11_0); (try clear hcz11_1); (try clear hcz11_2); (try clear hcz11_3); (try clear hcz11_4); (try clear hcz11_5); (try clear hcz14_0); (try clear hcz14_1); (try clear hcz14_2); (try clear hcz14_3); (try clear hcz14_4); (try clear hcz14_5); (try clear hcz15_0); (try clear hcz15_1); (try clear hcz15_2); (try clear hcz15_3); (try clear hcz15_4); (try clear hcz15_5); (try clear hcz18_0); (try clear hcz18_1); (try clear hcz18_2); (try clear hcz18_3); (try clear hcz18_4); (try clear hcz18_5); (try clear hcz19_0); (try clear hcz19_1); (try clear hcz19_2); (try clear hcz19_3); (try clear hcz19_4); (try clear hcz19_5); (try clear hcz21_0); (try clear hcz21_1); (try clear hcz21_2); (try clear hcz21_3); (try clear hcz21_4); (try clear hcz21_5); (try clear hcz22_0); (try clear hcz22_1); (try clear hcz22_2); (try clear hcz22_3); (try clear hcz22_4); (try clear hcz22_5); (try clear hcz24_0); (try clear hcz24_1); (try clear hcz24_2); (try clear hcz24_3); (try clear hcz24_4); (try clear hcz24_5); (try clear hcz25_0); (try clear hcz25_1); (try clear hcz25_2); (try clear hcz25_3); (try clear hcz25_4); (try clear hcz25_5); (try clear hcz27_0); (try clear hcz27_1); (try clear hcz27_2); (try clear hcz27_3); (try clear hcz27_4); (try clear hcz27_5); (try clear hcz28_0); (try clear hcz28_1); (try clear hcz28_2); (try clear hcz28_3); (try clear hcz28_4); (try clear hcz28_5); (try clear p2)
          obtain ⟨x5_2, rfl, HA, HK2, BK124, BK125, HB⟩ := hrel
          cases gk with
          | zero => exact absurd HA.out (by simp [spec_ClassSame.l0])
          | succ k2 =>
            have H := HA.out
            clear HA
            simp only [spec_ClassSame.l0] at H
            by_cases c30 : x5_2 < (l0_4.length : Int)
            rotate_left
            · rw [if_neg c30] at H
              have c30b0 : decide (x5_2 < (l0_4.length : Int)) = false := decide_eq_false c30
              clear c30
              have H' := Zm H
              clear H
              have hnb40 := NB124_125.out
              have hnc40 := NB125_124.out
              have hcz41_0 : wr.cell? ⟨gb124, 0, none⟩ = some (.string a0_0) := (Zkc BK124.out 0).trans rfl
              have hcz41_1 : wr.cell? ⟨gb124, 1, none⟩ = some (.string a0_1) := (Zkc BK124.out 1).trans rfl
              have hcz41_2 : wr.cell? ⟨gb124, 2, none⟩ = some (.bool a0_2) := (Zkc BK124.out 2).trans rfl
              have hcz41_3 : wr.cell? ⟨gb124, 3, none⟩ = some (.bool a0_3) := (Zkc BK124.out 3).trans rfl
              have hcz41_4 : wr.cell? ⟨gb124, 4, none⟩ = some (.slice A0_4 l0_4.length c0_4) := (Zkc BK124.out 4).trans rfl
              have hcz41_5 : wr.cell? ⟨gb124, 5, none⟩ = some (.slice A0_5 l0_5.length c0_5) := (Zkc BK124.out 5).trans rfl
              go_wp2
              go_loopg [6] k2 (fun kq v6 w' => ∃ (x6_3 : Int), v6 = .int .i64 x6_3 ∧ Aside0 (spec_ClassSame.l1 kq x6_3 a0_0 a0_1 a0_2 a0_3 l0_4 l0_5 a1_0 a1_1 a1_2 a1_3 l1_4 l1_5 = some r) ∧ Aside0 (kq ≤ k2) ∧ Aside0 (w'.heap[gb124]? = some (.cells #[.string a0_0, .string a0_1, .bool a0_2, .bool a0_3, (.slice A0_4 l0_4.length c0_4), (.slice A0_5 l0_5.length c0_5)] 51 (0, 0))) ∧ Aside0 (w'.heap[gb125]? = some (.cells #[.string a1_0, .string a1_1, .bool a1_2, .bool a1_3, (.slice A1_4 l1_4.length c1_4), (.slice A1_5 l1_5.length c1_5)] 51 (0, 0))) ∧ Aside0 (Below w.heap.size w w'))
              case atStart => exact ⟨(0), (by first | rfl | (simp; done) | (simp [*]; done)), H', ⟨Nat.le_refl _⟩, ⟨by (with_reducible repeat (first | refine Zkn ?_ _ | refine Zkd ?_ | refine Zka ?_ _)); exact BK124.out⟩, ⟨by (with_reducible repeat (first | refine Zkn ?_ _ | refine Zkd ?_ | refine Zka ?_ _)); exact BK125.out⟩, ⟨by repeat (first | (with_reducible first | exact HB.out | apply Zba | apply Zbn | apply Zbd | refine Zbs ?_ GE124.out | refine Zbs ?_ GE125.out) | exact HB.out)⟩⟩
              case round =>
                clear H'
                (try clear c1); (try clear p1); (try clear q1); (try clear hx1); (try clear c2); (try clear p2); (try clear c3); (try clear c4); (try clear c6); (try clear c6b0); (try clear c6b1); (try clear p6); (try clear c7); (try clear c7b0); (try clear c7b1); (try clear c8); (try clear c8b0); (try clear c8b1); (try clear c8b2); (try clear c9); (try clear c12); (try clear c12b0); (try clear c12b1); (try clear c12b2); (try clear p12); (try clear q12); (try clear hx12); (try clear c13); (try clear c16); (try clear c16b0); (try clear c16b1); (try clear c16b2); (try clear c17); (try clear c20); (try clear c21); (try clear c23); (try clear c26); (try clear c29); (try clear c30); (try clear c30b0); (try clear c31); (try clear c31b0); (try clear c32); (try clear c32b0); (try clear c33); (try clear c33b0); (try clear c34); (try clear c37); (try clear c40); (try clear hcz10_0); (try clear hcz10_1); (try clear hcz10_2); (try clear hcz10_3); (try clear hcz10_4); (try clear hcz10_5); (try clear hcz11_0); (try clear hcz11_1); (try clear hcz11_2); (try clear hcz11_3); (try clear hcz11_4); (try clear hcz11_5); (try clear hcz14_0); (try clear hcz14_1); (try clear hcz14_2); (try clear hcz14_3); (try clear hcz14_4); (try clear hcz14_5); (try clear hcz15_0); (try clear hcz15_1); (try clear hcz15_2); (try clear hcz15_3); (try clear hcz15_4); (try clear hcz15_5); (try clear hcz18_0); (try clear hcz18_1); (try clear hcz18_2); (try clear hcz18_3); (try clear hcz18_4); (try clear hcz18_5); (try clear hcz19_0); (try clear hcz19_1); (try clear hcz19_2); (try clear hcz19_3); (try clear hcz19_4); (try clear hcz19_5); (try clear hcz21_0); (try clear hcz21_1); (try clear hcz21_2); (try clear hcz21_3); (try clear hcz21_4); (try clear hcz21_5); (try clear hcz22_0); (try clear hcz22_1); (try clear hcz22_2); (try clear hcz22_3); (try clear hcz22_4); (try clear hcz22_5); (try clear hcz24_0); (try clear hcz24_1); (try clear hcz24_2); (try clear hcz24_3); (try clear hcz24_4); (try clear hcz24_5); (try clear hcz25_0); (try clear hcz25_1); (try clear hcz25_2); (try clear hcz25_3); (try clear hcz25_4); (try clear hcz25_5); (try clear hcz27_0); (try clear hcz27_1); (try clear hcz27_2); (try clear hcz27_3); (try clear hcz27_4); (try clear hcz27_5); (try clear hcz28_0); (try clear hcz28_1); (try clear hcz28_2); (try clear hcz28_3); (try clear hcz28_4); (try clear hcz28_5); (try clear hcz35_0); (try clear hcz35_1); (try clear hcz35_2); (try clear hcz35_3); (try clear hcz35_4); (try clear hcz35_5); (try clear hcz38_0); (try clear hcz38_1); (try clear hcz38_2); (try clear hcz38_3); (try clear hcz38_4); (try clear hcz38_5); (try clear hcz41_0); (try clear hcz41_1); (try clear hcz41_2); (try clear hcz41_3); (try clear hcz41_4); (try clear hcz41_5); (try clear hx126_0); (try clear hx126_1); (try clear hx126_2); (try clear hx127_0); (try clear hx127_1); (try clear hx127_2); (try clear p126); (try clear p127); (try clear p2); (try clear q126); (try clear q127)
                obtain ⟨x6_3, rfl, HA, HK3, BK124, BK125, HB⟩ := hrel
                cases gk with
                | zero => exact absurd HA.out (by simp [spec_ClassSame.l1])
                | succ k3 =>
                  have H := HA.out
                  clear HA
                  simp only [spec_ClassSame.l1] at H
                  by_cases c42 : x6_3 < (l0_5.length : Int)
                  rotate_left
                  · rw [if_neg c42] at H
                    have c42b0 : decide (x6_3 < (l0_5.length : Int)) = false := decide_eq_false c42
                    clear c42
                    obtain rfl := Option.some.inj H
                    have hnb55 := NB124_125.out
                    have hnc55 := NB125_124.out
                    have hcz56_0 : wr.cell? ⟨gb124, 0, none⟩ = some (.string a0_0) := (Zkc BK124.out 0).trans rfl
                    have hcz56_1 : wr.cell? ⟨gb124, 1, none⟩ = some (.string a0_1) := (Zkc BK124.out 1).trans rfl
                    have hcz56_2 : wr.cell? ⟨gb124, 2, none⟩ = some (.bool a0_2) := (Zkc BK124.out 2).trans rfl
                    have hcz56_3 : wr.cell? ⟨gb124, 3, none⟩ = some (.bool a0_3) := (Zkc BK124.out 3).trans rfl
                    have hcz56_4 : wr.cell? ⟨gb124, 4, none⟩ = some (.slice A0_4 l0_4.length c0_4) := (Zkc BK124.out 4).trans rfl
                    have hcz56_5 : wr.cell? ⟨gb124, 5, none⟩ = some (.slice A0_5 l0_5.length c0_5) := (Zkc BK124.out 5).trans rfl
                    go_wp2
                    go_ret
                    exact ⟨by first | rfl | (simp [errW_none, errW_some] <;> rfl) | (simp [*, errW_none, errW_some] <;> rfl), by repeat (first | (with_reducible first | exact HB.out | apply Zba | apply Zbn | apply Zbd | refine Zbs ?_ GE124.out | refine Zbs ?_ GE125.out) | exact HB.out)⟩

                  rw [if_pos c42] at H
                  have c42b0 : decide (x6_3 < (l0_5.length : Int)) = true := decide_eq_true c42
                  clear c42
                  by_cases c43 : 0 ≤ x6_3
                  rotate_left
                  · rw [if_neg c43] at H
                    exact absurd H (by simp)
                  rw [if_pos c43] at H
                  have c43b0 : decide (0 ≤ x6_3) = true := decide_eq_true c43
                  clear c43
                  by_cases c44 : x6_3 < (l1_5.length : Int)
                  rotate_left
                  · rw [if_neg c44] at H
                    exact absurd H (by simp)
                  rw [if_pos c44] at H
                  have c44b0 : decide (x6_3 < (l1_5.length : Int)) = true := decide_eq_true c44
                  clear c44
                  replace H := Option.bind_eq_some_iff.mp H
                  obtain ⟨t130, A450, H⟩ := H
                  replace H : (if t130 = true then (spec_ClassSame.l1 k3 (wrap64 (x6_3 + 1)) a0_0 a0_1 a0_2 a0_3 l0_4 l0_5 a1_0 a1_1 a1_2 a1_3 l1_4 l1_5) else (some false)) = some r := H
                  have A45 := Zm A450
                  clear A450
                  by_cases c46 : t130 = true
                  rotate_left
                  · replace c46 := Bool.eq_false_iff.mpr c46
                    subst c46
                    have H1 : (some false) = some r := by rw [if_neg (show ¬ (false = true) by decide)] at H; exact H
                    clear H
                    have H := H1
                    clear H1
                    obtain rfl := Option.some.inj H
                    have hnb51 := NB124_125.out
                    have hnc51 := NB125_124.out
                    have hcz52_0 : wr.cell? ⟨gb124, 0, none⟩ = some (.string a0_0) := (Zkc BK124.out 0).trans rfl
                    have hcz52_1 : wr.cell? ⟨gb124, 1, none⟩ = some (.string a0_1) := (Zkc BK124.out 1).trans rfl
                    have hcz52_2 : wr.cell? ⟨gb124, 2, none⟩ = some (.bool a0_2) := (Zkc BK124.out 2).trans rfl
                    have hcz52_3 : wr.cell? ⟨gb124, 3, none⟩ = some (.bool a0_3) := (Zkc BK124.out 3).trans rfl
                    have hcz52_4 : wr.cell? ⟨gb124, 4, none⟩ = some (.slice A0_4 l0_4.length c0_4) := (Zkc BK124.out 4).trans rfl
                    have hcz52_5 : wr.cell? ⟨gb124, 5, none⟩ = some (.slice A0_5 l0_5.length c0_5) := (Zkc BK124.out 5).trans rfl
                    try go_wp2
                    have n0_ := Zm (Zkd BK124.out)
                    have n1_ := Zm (Zkd BK125.out)
                    have n2_ := Zm (Zbd HB.out)
                    clear BK124
                    clear BK125
                    clear HB
                    have BK124 := n0_
                    have BK125 := n1_
                    have HB := n2_
                    clear n0_ n1_ n2_
                    have p128 : 0 ≤ (x6_3 : Int) := of_decide_eq_true (by first | (with_reducible assumption) | assumption)
                    have q128 : x6_3 < (l0_5.length : Int) := of_decide_eq_true (by first | (with_reducible assumption) | assumption)
                    obtain ⟨ad128, A128_7, c128_7, A128_8, c128_8, e128, hx128_0, hx128_1, hx128_2, hx128_3, hx128_4, hx128_5, hx128_6, hx128_7, hx128_8, hl128_7, hi128_7, hl128_8, hi128_8⟩ := at_T84 HR0_5.out x6_3 p128 q128
                    have hw128_8 := hx128_8
                    have hw128_7 := hx128_7
                    have hw128_6 := hx128_6
                    have hw128_5 := hx128_5
                    have hw128_4 := hx128_4
                    have hw128_3 := hx128_3
                    have hw128_2 := hx128_2
                    have hw128_1 := hx128_1
                    have hw128_0 := hx128_0
                    cases e128
                    replace hx128_0 := (HB.out.cell (Zlt _ _ hx128_0)).trans hx128_0
                    replace hx128_1 := (HB.out.cell (Zlt _ _ hx128_1)).trans hx128_1
                    replace hx128_2 := (HB.out.cell (Zlt _ _ hx128_2)).trans hx128_2
                    replace hx128_3 := (HB.out.cell (Zlt _ _ hx128_3)).trans hx128_3
                    replace hx128_4 := (HB.out.cell (Zlt _ _ hx128_4)).trans hx128_4
                    replace hx128_5 := (HB.out.cell (Zlt _ _ hx128_5)).trans hx128_5
                    replace hx128_6 := (HB.out.cell (Zlt _ _ hx128_6)).trans hx128_6
                    replace hx128_7 := (HB.out.cell (Zlt _ _ hx128_7)).trans hx128_7
                    replace hx128_8 := (HB.out.cell (Zlt _ _ hx128_8)).trans hx128_8
                    have HR128_7 := Zm hi128_7
                    have HC128_7 := Zm hl128_7
                    clear hi128_7 hl128_7
                    have HR128_8 := Zm hi128_8
                    have HC128_8 := Zm hl128_8
                    clear hi128_8 hl128_8
                    replace p128 := eq_true p128
                    replace q128 := eq_true q128
                    have p129 : 0 ≤ (x6_3 : Int) := of_decide_eq_true (by first | (with_reducible assumption) | assumption)
                    have q129 : x6_3 < (l1_5.length : Int) := of_decide_eq_true (by first | (with_reducible assumption) | assumption)
                    obtain ⟨ad129, A129_7, c129_7, A129_8, c129_8, e129, hx129_0, hx129_1, hx129_2, hx129_3, hx129_4, hx129_5, hx129_6, hx129_7, hx129_8, hl129_7, hi129_7, hl129_8, hi129_8⟩ := at_T84 HR1_5.out x6_3 p129 q129
                    have hw129_8 := hx129_8
                    have hw129_7 := hx129_7
                    have hw129_6 := hx129_6
                    have hw129_5 := hx129_5
                    have hw129_4 := hx129_4
                    have hw129_3 := hx129_3
                    have hw129_2 := hx129_2
                    have hw129_1 := hx129_1
                    have hw129_0 := hx129_0
                    cases e129
                    replace hx129_0 := (HB.out.cell (Zlt _ _ hx129_0)).trans hx129_0
                    replace hx129_1 := (HB.out.cell (Zlt _ _ hx129_1)).trans hx129_1
                    replace hx129_2 := (HB.out.cell (Zlt _ _ hx129_2)).trans hx129_2
                    replace hx129_3 := (HB.out.cell (Zlt _ _ hx129_3)).trans hx129_3
                    replace hx129_4 := (HB.out.cell (Zlt _ _ hx129_4)).trans hx129_4
                    replace hx129_5 := (HB.out.cell (Zlt _ _ hx129_5)).trans hx129_5
                    replace hx129_6 := (HB.out.cell (Zlt _ _ hx129_6)).trans hx129_6
                    replace hx129_7 := (HB.out.cell (Zlt _ _ hx129_7)).trans hx129_7
                    replace hx129_8 := (HB.out.cell (Zlt _ _ hx129_8)).trans hx129_8
                    have HR129_7 := Zm hi129_7
                    have HC129_7 := Zm hl129_7
                    clear hi129_7 hl129_7
                    have HR129_8 := Zm hi129_8
                    have HC129_8 := Zm hl129_8
                    clear hi129_8 hl129_8
                    replace p129 := eq_true p129
                    replace q129 := eq_true q129
                    refine start_ (n := 12) (S := fun w' => w'.cell? ⟨gb124, 0, none⟩ = some (.string a0_0) ∧ w'.cell? ⟨gb124, 1, none⟩ = some (.string a0_1) ∧ w'.cell? ⟨gb124, 2, none⟩ = some (.bool a0_2) ∧ w'.cell? ⟨gb124, 3, none⟩ = some (.bool a0_3) ∧ w'.cell? ⟨gb124, 4, none⟩ = some (.slice A0_4 l0_4.length c0_4) ∧ w'.cell? ⟨gb124, 5, none⟩ = some (.slice (some ad128) l0_5.length c0_5) ∧ w'.cell? ⟨gb125, 0, none⟩ = some (.string a1_0) ∧ w'.cell? ⟨gb125, 1, none⟩ = some (.string a1_1) ∧ w'.cell? ⟨gb125, 2, none⟩ = some (.bool a1_2) ∧ w'.cell? ⟨gb125, 3, none⟩ = some (.bool a1_3) ∧ w'.cell? ⟨gb125, 4, none⟩ = some (.slice A1_4 l1_4.length c1_4) ∧ w'.cell? ⟨gb125, 5, none⟩ = some (.slice (some ad129) l1_5.length c1_5) ∧ w'.cell? (ad128.add ((x6_3).toNat * 9)) = some (.string ((rd_T84 l0_5 x6_3).f0)) ∧ w'.cell? ⟨(ad128.add ((x6_3).toNat * 9)).block, (ad128.add ((x6_3).toNat * 9)).off + 1, none⟩ = some (.string ((rd_T84 l0_5 x6_3).f1)) ∧ w'.cell? ⟨(ad128.add ((x6_3).toNat * 9)).block, (ad128.add ((x6_3).toNat * 9)).off + 2, none⟩ = some (.bool ((rd_T84 l0_5 x6_3).f2)) ∧ w'.cell? ⟨(ad128.add ((x6_3).toNat * 9)).block, (ad128.add ((x6_3).toNat * 9)).off + 3, none⟩ = some (.bool ((rd_T84 l0_5 x6_3).f3)) ∧ w'.cell? ⟨(ad128.add ((x6_3).toNat * 9)).block, (ad128.add ((x6_3).toNat * 9)).off + 4, none⟩ = some (.bool ((rd_T84 l0_5 x6_3).f4)) ∧ w'.cell? ⟨(ad128.add ((x6_3).toNat * 9)).block, (ad128.add ((x6_3).toNat * 9)).off + 5, none⟩ = some (.int .i64 ((rd_T84 l0_5 x6_3).f5)) ∧ w'.cell? ⟨(ad128.add ((x6_3).toNat * 9)).block, (ad128.add ((x6_3).toNat * 9)).off + 6, none⟩ = some (.int .i64 ((rd_T84 l0_5 x6_3).f6)) ∧ w'.cell? ⟨(ad128.add ((x6_3).toNat * 9)).block, (ad128.add ((x6_3).toNat * 9)).off + 7, none⟩ = some (.slice A128_7 ((rd_T84 l0_5 x6_3).f7).length c128_7) ∧ w'.cell? ⟨(ad128.add ((x6_3).toNat * 9)).block, (ad128.add ((x6_3).toNat * 9)).off + 8, none⟩ = some (.slice A128_8 ((rd_T84 l0_5 x6_3).f8).length c128_8) ∧ w'.cell? (ad129.add ((x6_3).toNat * 9)) = some (.string ((rd_T84 l1_5 x6_3).f0)) ∧ w'.cell? ⟨(ad129.add ((x6_3).toNat * 9)).block, (ad129.add ((x6_3).toNat * 9)).off + 1, none⟩ = some (.string ((rd_T84 l1_5 x6_3).f1)) ∧ w'.cell? ⟨(ad129.add ((x6_3).toNat * 9)).block, (ad129.add ((x6_3).toNat * 9)).off + 2, none⟩ = some (.bool ((rd_T84 l1_5 x6_3).f2)) ∧ w'.cell? ⟨(ad129.add ((x6_3).toNat * 9)).block, (ad129.add ((x6_3).toNat * 9)).off + 3, none⟩ = some (.bool ((rd_T84 l1_5 x6_3).f3)) ∧ w'.cell? ⟨(ad129.add ((x6_3).toNat * 9)).block, (ad129.add ((x6_3).toNat * 9)).off + 4, none⟩ = some (.bool ((rd_T84 l1_5 x6_3).f4)) ∧ w'.cell? ⟨(ad129.add ((x6_3).toNat * 9)).block, (ad129.add ((x6_3).toNat * 9)).off + 5, none⟩ = some (.int .i64 ((rd_T84 l1_5 x6_3).f5)) ∧ w'.cell? ⟨(ad129.add ((x6_3).toNat * 9)).block, (ad129.add ((x6_3).toNat * 9)).off + 6, none⟩ = some (.int .i64 ((rd_T84 l1_5 x6_3).f6)) ∧ w'.cell? ⟨(ad129.add ((x6_3).toNat * 9)).block, (ad129.add ((x6_3).toNat * 9)).off + 7, none⟩ = some (.slice A129_7 ((rd_T84 l1_5 x6_3).f7).length c129_7) ∧ w'.cell? ⟨(ad129.add ((x6_3).toNat * 9)).block, (ad129.add ((x6_3).toNat * 9)).off + 8, none⟩ = some (.slice A129_8 ((rd_T84 l1_5 x6_3).f8).length c129_8)) (ds := []) #[false, false, false, false, false, false, false, false, false, false, false, false] (by kernel_rfl) rfl rfl ⟨(Zkc BK124.out 0).trans rfl, (Zkc BK124.out 1).trans rfl, (Zkc BK124.out 2).trans rfl, (Zkc BK124.out 3).trans rfl, (Zkc BK124.out 4).trans rfl, (Zkc BK124.out 5).trans rfl, (Zkc BK125.out 0).trans rfl, (Zkc BK125.out 1).trans rfl, (Zkc BK125.out 2).trans rfl, (Zkc BK125.out 3).trans rfl, (Zkc BK125.out 4).trans rfl, (Zkc BK125.out 5).trans rfl, ((HB.out.cell (Zlt _ _ hw128_0)).trans hw128_0), ((HB.out.cell (Zlt _ _ hw128_1)).trans hw128_1), ((HB.out.cell (Zlt _ _ hw128_2)).trans hw128_2), ((HB.out.cell (Zlt _ _ hw128_3)).trans hw128_3), ((HB.out.cell (Zlt _ _ hw128_4)).trans hw128_4), ((HB.out.cell (Zlt _ _ hw128_5)).trans hw128_5), ((HB.out.cell (Zlt _ _ hw128_6)).trans hw128_6), ((HB.out.cell (Zlt _ _ hw128_7)).trans hw128_7), ((HB.out.cell (Zlt _ _ hw128_8)).trans hw128_8), ((HB.out.cell (Zlt _ _ hw129_0)).trans hw129_0), ((HB.out.cell (Zlt _ _ hw129_1)).trans hw129_1), ((HB.out.cell (Zlt _ _ hw129_2)).trans hw129_2), ((HB.out.cell (Zlt _ _ hw129_3)).trans hw129_3), ((HB.out.cell (Zlt _ _ hw129_4)).trans hw129_4), ((HB.out.cell (Zlt _ _ hw129_5)).trans hw129_5), ((HB.out.cell (Zlt _ _ hw129_6)).trans hw129_6), ((HB.out.cell (Zlt _ _ hw129_7)).trans hw129_7), ((HB.out.cell (Zlt _ _ hw129_8)).trans hw129_8)⟩ (fun hHeld => ?_); refine with_tabW spec_ClassSame.tab11 spec_ClassSame.bits11 (fun HT_ HW_ => ?_)
                    generalize wr.drew = w53 at BK124 BK125 HB HR128_7 HR128_8 HR129_7 HR129_8 hx128_0 hx128_1 hx128_2 hx128_3 hx128_4 hx128_5 hx128_6 hx128_7 hx128_8 hx129_0 hx129_1 hx129_2 hx129_3 hx129_4 hx129_5 hx129_6 hx129_7 hx129_8 hHeld ⊢
                    refine pure_ (i := 0) (N := some 76) (v := ?_) (a' := ?_) #[true, false, false, false, false, false, false, false, false, false, false, false] rfl rfl (any_of HT_.out (by kernel_rfl)) (fun _ _ _ h => h) (Or.inl ⟨by rfl, ?_⟩) ?_ ?_
                    rotate_left
                    · intro w'
                      go_simp
                      with_reducible rfl
                    rotate_left
                    · simp only [Act.put, List.setIfInBounds_toArray, List.set_cons_zero, List.set_cons_succ, i64_w, i32_w]
                      rfl
                    refine pure_ (i := 2) (N := some 78) (v := ?_) (a' := ?_) #[true, false, true, false, false, false, false, false, false, false, false, false] rfl rfl (any_of HT_.out (by kernel_rfl)) (fun _ _ _ h => h) (Or.inl ⟨by rfl, ?_⟩) ?_ ?_
                    rotate_left
                    · intro w'
                      go_simp
                      with_reducible rfl
                    rotate_left
                    · simp only [Act.put, List.setIfInBounds_toArray, List.set_cons_zero, List.set_cons_succ, i64_w, i32_w]
                      rfl
                    refine pure_ (i := 5) (N := some 81) (v := ?_) (a' := ?_) #[true, false, true, false, false, true, false, false, false, false, false, false] rfl rfl (any_of HT_.out (by kernel_rfl)) (fun _ _ _ h => h) (Or.inl ⟨by rfl, ?_⟩) ?_ ?_
                    rotate_left
                    · intro w'
                      go_simp
                      with_reducible rfl
                    rotate_left
                    · simp only [Act.put, List.setIfInBounds_toArray, List.set_cons_zero, List.set_cons_succ, i64_w, i32_w]
                      rfl
                    refine pure_ (i := 7) (N := some 83) (v := ?_) (a' := ?_) #[true, false, true, false, false, true, false, true, false, false, false, false] rfl rfl (any_of HT_.out (by kernel_rfl)) (fun _ _ _ h => h) (Or.inl ⟨by rfl, ?_⟩) ?_ ?_
                    rotate_left
                    · intro w'
                      go_simp
                      with_reducible rfl
                    rotate_left
                    · simp only [Act.put, List.setIfInBounds_toArray, List.set_cons_zero, List.set_cons_succ, i64_w, i32_w]
                      rfl
                    refine take_ (i := 1) (N := some 77) (v := ?_) (a' := ?_) #[true, true, true, false, false, true, false, true, false, false, false, false] rfl rfl (take_ofW HT_.out HW_.out (by kernel_rfl)) (fun _ _ _ h => h) (Or.inl ⟨by rfl, ?_⟩) hHeld ?_ ?_
                    rotate_left
                    · rintro w' ⟨s0, s1, s2, s3, s4, s5, s6, s7, s8, s9, s10, s11, s12, s13, s14, s15, s16, s17, s18, s19, s20, s21, s22, s23, s24, s25, s26, s27, s28, s29⟩
                      go_simp
                      with_reducible rfl
                    rotate_left
                    · simp only [Act.put, List.setIfInBounds_toArray, List.set_cons_zero, List.set_cons_succ, i64_w, i32_w]
                      rfl
                    refine pure_ (i := 3) (N := some 79) (v := ?_) (a' := ?_) #[true, true, true, true, false, true, false, true, false, false, false, false] rfl rfl (any_of HT_.out (by kernel_rfl)) (fun _ _ _ h => h) (Or.inl ⟨by rfl, ?_⟩) ?_ ?_
                    rotate_left
                    · intro w'
                      go_simp
                      with_reducible rfl
                    rotate_left
                    · simp only [Act.put, List.setIfInBounds_toArray, List.set_cons_zero, List.set_cons_succ, i64_w, i32_w]
                      rfl
                    refine take_ (i := 4) (N := some 80) (v := ?_) (a' := ?_) #[true, true, true, true, true, true, false, true, false, false, false, false] rfl rfl (take_ofW HT_.out HW_.out (by kernel_rfl)) (fun _ _ _ h => h) (Or.inl ⟨by rfl, ?_⟩) hHeld ?_ ?_
                    rotate_left
                    · rintro w' ⟨s0, s1, s2, s3, s4, s5, s6, s7, s8, s9, s10, s11, s12, s13, s14, s15, s16, s17, s18, s19, s20, s21, s22, s23, s24, s25, s26, s27, s28, s29⟩
                      go_simp
                      with_reducible rfl
                    rotate_left
                    · simp only [Act.put, List.setIfInBounds_toArray, List.set_cons_zero, List.set_cons_succ, i64_w, i32_w]
                      rfl
                    refine take_ (i := 6) (N := some 82) (v := ?_) (a' := ?_) #[true, true, true, true, true, true, true, true, false, false, false, false] rfl rfl (take_ofW HT_.out HW_.out (by kernel_rfl)) (fun _ _ _ h => h) (Or.inl ⟨by rfl, ?_⟩) hHeld ?_ ?_
                    rotate_left
                    · rintro w' ⟨s0, s1, s2, s3, s4, s5, s6, s7, s8, s9, s10, s11, s12, s13, s14, s15, s16, s17, s18, s19, s20, s21, s22, s23, s24, s25, s26, s27, s28, s29⟩
                      go_simp
                      with_reducible rfl
                    rotate_left
                    · simp only [Act.put, List.setIfInBounds_toArray, List.set_cons_zero, List.set_cons_succ, i64_w, i32_w]
                      rfl
                    refine pure_ (i := 8) (N := some 84) (v := ?_) (a' := ?_) #[true, true, true, true, true, true, true, true, true, false, false, false] rfl rfl (any_of HT_.out (by kernel_rfl)) (fun _ _ _ h => h) (Or.inl ⟨by rfl, ?_⟩) ?_ ?_
                    rotate_left
                    · intro w'
                      go_simp
                      with_reducible rfl
                    rotate_left
                    · simp only [Act.put, List.setIfInBounds_toArray, List.set_cons_zero, List.set_cons_succ, i64_w, i32_w]
                      rfl
                    refine take_ (i := 9) (N := some 85) (v := ?_) (a' := ?_) #[true, true, true, true, true, true, true, true, true, true, false, false] rfl rfl (take_ofW HT_.out HW_.out (by kernel_rfl)) (fun _ _ _ h => h) (Or.inl ⟨by rfl, ?_⟩) hHeld ?_ ?_
                    rotate_left
                    · rintro w' ⟨s0, s1, s2, s3, s4, s5, s6, s7, s8, s9, s10, s11, s12, s13, s14, s15, s16, s17, s18, s19, s20, s21, s22, s23, s24, s25, s26, s27, s28, s29⟩
                      go_simp
                      with_reducible rfl
                    rotate_left
                    · simp only [Act.put, List.setIfInBounds_toArray, List.set_cons_zero, List.set_cons_succ, i64_w, i32_w]
                      rfl
                    refine one_ (i := 10) (N := some 86) #[true, true, true, true, true, true, true, true, true, true, true, false] rfl rfl (one_of HT_.out (by kernel_rfl)) (by decide) (fun K hK => ?_)
                    refine goes_ Try.func66 (by kernel_rfl) rfl #[.agg #[.string ((rd_T84 l0_5 x6_3).f0), .string ((rd_T84 l0_5 x6_3).f1), .bool ((rd_T84 l0_5 x6_3).f2), .bool ((rd_T84 l0_5 x6_3).f3), .bool ((rd_T84 l0_5 x6_3).f4), .int .i64 ((rd_T84 l0_5 x6_3).f5), .int .i64 ((rd_T84 l0_5 x6_3).f6), .slice A128_7 ((rd_T84 l0_5 x6_3).f7).length c128_7, .slice A128_8 ((rd_T84 l0_5 x6_3).f8).length c128_8], .agg #[.string ((rd_T84 l1_5 x6_3).f0), .string ((rd_T84 l1_5 x6_3).f1), .bool ((rd_T84 l1_5 x6_3).f2), .bool ((rd_T84 l1_5 x6_3).f3), .bool ((rd_T84 l1_5 x6_3).f4), .int .i64 ((rd_T84 l1_5 x6_3).f5), .int .i64 ((rd_T84 l1_5 x6_3).f6), .slice A129_7 ((rd_T84 l1_5 x6_3).f7).length c129_7, .slice A129_8 ((rd_T84 l1_5 x6_3).f8).length c129_8]] (by rfl) rfl rfl (by (try simp only [List.map_toArray, List.map_cons, List.map_nil]); first | done | rfl | (simp only [List.length_drop, List.length_take]; rfl)) ?_
                    with_reducible refine (spec_l03SameMethod.calls k3 ((rd_T84 l0_5 x6_3).f0) ((rd_T84 l0_5 x6_3).f1) ((rd_T84 l0_5 x6_3).f2) ((rd_T84 l0_5 x6_3).f3) ((rd_T84 l0_5 x6_3).f4) ((rd_T84 l0_5 x6_3).f5) ((rd_T84 l0_5 x6_3).f6) _ _ ((rd_T84 l0_5 x6_3).f7) _ _ ((rd_T84 l0_5 x6_3).f8) ((rd_T84 l1_5 x6_3).f0) ((rd_T84 l1_5 x6_3).f1) ((rd_T84 l1_5 x6_3).f2) ((rd_T84 l1_5 x6_3).f3) ((rd_T84 l1_5 x6_3).f4) ((rd_T84 l1_5 x6_3).f5) ((rd_T84 l1_5 x6_3).f6) _ _ ((rd_T84 l1_5 x6_3).f7) _ _ ((rd_T84 l1_5 x6_3).f8) false _ ?side1 ?side2 ?side3 ?side4 ?side5 ?side6 ?side7 ?side8 A45.out).mono ?_
                    (case side1 => repeat (first | exact (Kd.C_below HR128_7.out HB.out) | (with_reducible refine Kd.C_alloc ?_ _) | (with_reducible refine Kd.C_drewN ?_ _) | (with_reducible refine Kd.C_drew ?_)))
                    (case side2 => exact HC128_7.out)
                    (case side3 => repeat (first | exact (Kd.C_below HR128_8.out HB.out) | (with_reducible refine Kd.C_alloc ?_ _) | (with_reducible refine Kd.C_drewN ?_ _) | (with_reducible refine Kd.C_drew ?_)))
                    (case side4 => exact HC128_8.out)
                    (case side5 => repeat (first | exact (Kd.C_below HR129_7.out HB.out) | (with_reducible refine Kd.C_alloc ?_ _) | (with_reducible refine Kd.C_drewN ?_ _) | (with_reducible refine Kd.C_drew ?_)))
                    (case side6 => exact HC129_7.out)
                    (case side7 => repeat (first | exact (Kd.C_below HR129_8.out HB.out) | (with_reducible refine Kd.C_alloc ?_ _) | (with_reducible refine Kd.C_drewN ?_ _) | (with_reducible refine Kd.C_drew ?_)))
                    (case side8 => exact HC129_8.out)
                    rintro e w54 ⟨rfl, hb⟩
                    refine ⟨_, rfl, ?_⟩
                    have n0_ := Zm (Zkb (g := gb124) (o := .cells #[.string a0_0, .string a0_1, .bool a0_2, .bool a0_3, .slice A0_4 l0_4.length c0_4, .slice (some ad128) l0_5.length c0_5] 51 (0, 0)) (by (with_reducible repeat (first | refine Zkn ?_ _ | refine Zkd ?_ | refine Zka ?_ _)); exact BK124.out) hb)
                    have n1_ := Zm (Zkb (g := gb125) (o := .cells #[.string a1_0, .string a1_1, .bool a1_2, .bool a1_3, .slice A1_4 l1_4.length c1_4, .slice (some ad129) l1_5.length c1_5] 51 (0, 0)) (by (with_reducible repeat (first | refine Zkn ?_ _ | refine Zkd ?_ | refine Zka ?_ _)); exact BK125.out) hb)
                    have n2_ := Zm (Zbt (by repeat (first | (with_reducible first | exact HB.out | apply Zba | apply Zbn | apply Zbd | refine Zbs ?_ GE124.out | refine Zbs ?_ GE125.out) | exact HB.out)) hb)
                    clear BK124
                    clear BK125
                    clear HB
                    have BK124 := n0_
                    have BK125 := n1_
                    have HB := n2_
                    clear n0_ n1_ n2_
                    (try clear hb)
                    (try clear hb2)
                    (try clear hk)
                    (try clear hi)
                    refine hK.out _ _ ⟨(Zkc BK124.out 0).trans rfl, (Zkc BK124.out 1).trans rfl, (Zkc BK124.out 2).trans rfl, (Zkc BK124.out 3).trans rfl, (Zkc BK124.out 4).trans rfl, (Zkc BK124.out 5).trans rfl, (Zkc BK125.out 0).trans rfl, (Zkc BK125.out 1).trans rfl, (Zkc BK125.out 2).trans rfl, (Zkc BK125.out 3).trans rfl, (Zkc BK125.out 4).trans rfl, (Zkc BK125.out 5).trans rfl, ((HB.out.cell (Zlt _ _ hw128_0)).trans hw128_0), ((HB.out.cell (Zlt _ _ hw128_1)).trans hw128_1), ((HB.out.cell (Zlt _ _ hw128_2)).trans hw128_2), ((HB.out.cell (Zlt _ _ hw128_3)).trans hw128_3), ((HB.out.cell (Zlt _ _ hw128_4)).trans hw128_4), ((HB.out.cell (Zlt _ _ hw128_5)).trans hw128_5), ((HB.out.cell (Zlt _ _ hw128_6)).trans hw128_6), ((HB.out.cell (Zlt _ _ hw128_7)).trans hw128_7), ((HB.out.cell (Zlt _ _ hw128_8)).trans hw128_8), ((HB.out.cell (Zlt _ _ hw129_0)).trans hw129_0), ((HB.out.cell (Zlt _ _ hw129_1)).trans hw129_1), ((HB.out.cell (Zlt _ _ hw129_2)).trans hw129_2), ((HB.out.cell (Zlt _ _ hw129_3)).trans hw129_3), ((HB.out.cell (Zlt _ _ hw129_4)).trans hw129_4), ((HB.out.cell (Zlt _ _ hw129_5)).trans hw129_5), ((HB.out.cell (Zlt _ _ hw129_6)).trans hw129_6), ((HB.out.cell (Zlt _ _ hw129_7)).trans hw129_7), ((HB.out.cell (Zlt _ _ hw129_8)).trans hw129_8)⟩ (fun hHeld => ?_)
                    clear hK K
                    refine norm_ (a' := ?_) ?_ ?_
                    rotate_left
                    · show Act.put _ (some 86) _ = _
                      simp only [Act.put, List.setIfInBounds_toArray, List.set_cons_zero, List.set_cons_succ, i64_w, i32_w]
                      rfl
                    refine pure_ (i := 11) (N := some 87) (v := ?_) (a' := ?_) #[true, true, true, true, true, true, true, true, true, true, true, true] rfl rfl (any_of HT_.out (by kernel_rfl)) (fun _ _ _ h => h) (Or.inl ⟨by rfl, ?_⟩) ?_ ?_
                    rotate_left
                    · intro w'
                      go_simp
                      with_reducible rfl
                    rotate_left
                    · simp only [Act.put, List.setIfInBounds_toArray, List.set_cons_zero, List.set_cons_succ, i64_w, i32_w]
                      rfl
                    refine done_ (done_of HT_.out (by kernel_rfl)) ?_
                    try go_wp2
                    go_ret
                    exact ⟨by first | rfl | (simp [errW_none, errW_some] <;> rfl) | (simp [*, errW_none, errW_some] <;> rfl), by repeat (first | (with_reducible first | exact HB.out | apply Zba | apply Zbn | apply Zbd | refine Zbs ?_ GE124.out | refine Zbs ?_ GE125.out) | exact HB.out)⟩
                  subst c46
                  have H1 : (spec_ClassSame.l1 k3 (wrap64 (x6_3 + 1)) a0_0 a0_1 a0_2 a0_3 l0_4 l0_5 a1_0 a1_1 a1_2 a1_3 l1_4 l1_5) = some r := by rw [if_pos rfl] at H; exact H
                  clear H
                  have H := H1
                  clear H1
                  have H' := Zm H
                  clear H
                  have hnb47 := NB124_125.out
                  have hnc47 := NB125_124.out
                  have hcz48_0 : wr.cell? ⟨gb124, 0, none⟩ = some (.string a0_0) := (Zkc BK124.out 0).trans rfl
                  have hcz48_1 : wr.cell? ⟨gb124, 1, none⟩ = some (.string a0_1) := (Zkc BK124.out 1).trans rfl
                  have hcz48_2 : wr.cell? ⟨gb124, 2, none⟩ = some (.bool a0_2) := (Zkc BK124.out 2).trans rfl
                  have hcz48_3 : wr.cell? ⟨gb124, 3, none⟩ = some (.bool a0_3) := (Zkc BK124.out 3).trans rfl
                  have hcz48_4 : wr.cell? ⟨gb124, 4, none⟩ = some (.slice A0_4 l0_4.length c0_4) := (Zkc BK124.out 4).trans rfl
                  have hcz48_5 : wr.cell? ⟨gb124, 5, none⟩ = some (.slice A0_5 l0_5.length c0_5) := (Zkc BK124.out 5).trans rfl
                  try go_wp2
                  have n0_ := Zm (Zkd BK124.out)
                  have n1_ := Zm (Zkd BK125.out)
                  have n2_ := Zm (Zbd HB.out)
                  clear BK124
                  clear BK125
                  clear HB
                  have BK124 := n0_
                  have BK125 := n1_
                  have HB := n2_
                  clear n0_ n1_ n2_
                  have p128 : 0 ≤ (x6_3 : Int) := of_decide_eq_true (by first | (with_reducible assumption) | assumption)
                  have q128 : x6_3 < (l0_5.length : Int) := of_decide_eq_true (by first | (with_reducible assumption) | assumption)
                  obtain ⟨ad128, A128_7, c128_7, A128_8, c128_8, e128, hx128_0, hx128_1, hx128_2, hx128_3, hx128_4, hx128_5, hx128_6, hx128_7, hx128_8, hl128_7, hi128_7, hl128_8, hi128_8⟩ := at_T84 HR0_5.out x6_3 p128 q128
                  have hw128_8 := hx128_8
                  have hw128_7 := hx128_7
                  have hw128_6 := hx128_6
                  have hw128_5 := hx128_5
                  have hw128_4 := hx128_4
                  have hw128_3 := hx128_3
                  have hw128_2 := hx128_2
                  have hw128_1 := hx128_1
                  have hw128_0 := hx128_0
                  cases e128
                  replace hx128_0 := (HB.out.cell (Zlt _ _ hx128_0)).trans hx128_0
                  replace hx128_1 := (HB.out.cell (Zlt _ _ hx128_1)).trans hx128_1
                  replace hx128_2 := (HB.out.cell (Zlt _ _ hx128_2)).trans hx128_2
                  replace hx128_3 := (HB.out.cell (Zlt _ _ hx128_3)).trans hx128_3
                  replace hx128_4 := (HB.out.cell (Zlt _ _ hx128_4)).trans hx128_4
                  replace hx128_5 := (HB.out.cell (Zlt _ _ hx128_5)).trans hx128_5
                  replace hx128_6 := (HB.out.cell (Zlt _ _ hx128_6)).trans hx128_6
                  replace hx128_7 := (HB.out.cell (Zlt _ _ hx128_7)).trans hx128_7
                  replace hx128_8 := (HB.out.cell (Zlt _ _ hx128_8)).trans hx128_8
                  have HR128_7 := Zm hi128_7
                  have HC128_7 := Zm hl128_7
                  clear hi128_7 hl128_7
                  have HR128_8 := Zm hi128_8
                  have HC128_8 := Zm hl128_8
                  clear hi128_8 hl128_8
                  replace p128 := eq_true p128
                  replace q128 := eq_true q128
                  have p129 : 0 ≤ (x6_3 : Int) := of_decide_eq_true (by first | (with_reducible assumption) | assumption)
                  have q129 : x6_3 < (l1_5.length : Int) := of_decide_eq_true (by first | (with_reducible assumption) | assumption)
                  obtain ⟨ad129, A129_7, c129_7, A129_8, c129_8, e129, hx129_0, hx129_1, hx129_2, hx129_3, hx129_4, hx129_5, hx129_6, hx129_7, hx129_8, hl129_7, hi129_7, hl129_8, hi129_8⟩ := at_T84 HR1_5.out x6_3 p129 q129
                  have hw129_8 := hx129_8
                  have hw129_7 := hx129_7
                  have hw129_6 := hx129_6
                  have hw129_5 := hx129_5
                  have hw129_4 := hx129_4
                  have hw129_3 := hx129_3
                  have hw129_2 := hx129_2
                  have hw129_1 := hx129_1
                  have hw129_0 := hx129_0
                  cases e129
                  replace hx129_0 := (HB.out.cell (Zlt _ _ hx129_0)).trans hx129_0
                  replace hx129_1 := (HB.out.cell (Zlt _ _ hx129_1)).trans hx129_1
                  replace hx129_2 := (HB.out.cell (Zlt _ _ hx129_2)).trans hx129_2
                  replace hx129_3 := (HB.out.cell (Zlt _ _ hx129_3)).trans hx129_3
                  replace hx129_4 := (HB.out.cell (Zlt _ _ hx129_4)).trans hx129_4
                  replace hx129_5 := (HB.out.cell (Zlt _ _ hx129_5)).trans hx129_5
                  replace hx129_6 := (HB.out.cell (Zlt _ _ hx129_6)).trans hx129_6
                  replace hx129_7 := (HB.out.cell (Zlt _ _ hx129_7)).trans hx129_7
                  replace hx129_8 := (HB.out.cell (Zlt _ _ hx129_8)).trans hx129_8
                  have HR129_7 := Zm hi129_7
                  have HC129_7 := Zm hl129_7
                  clear hi129_7 hl129_7
                  have HR129_8 := Zm hi129_8
                  have HC129_8 := Zm hl129_8
                  clear hi129_8 hl129_8
                  replace p129 := eq_true p129
                  replace q129 := eq_true q129
                  refine start_ (n := 12) (S := fun w' => w'.cell? ⟨gb124, 0, none⟩ = some (.string a0_0) ∧ w'.cell? ⟨gb124, 1, none⟩ = some (.string a0_1) ∧ w'.cell? ⟨gb124, 2, none⟩ = some (.bool a0_2) ∧ w'.cell? ⟨gb124, 3, none⟩ = some (.bool a0_3) ∧ w'.cell? ⟨gb124, 4, none⟩ = some (.slice A0_4 l0_4.length c0_4) ∧ w'.cell? ⟨gb124, 5, none⟩ = some (.slice (some ad128) l0_5.length c0_5) ∧ w'.cell? ⟨gb125, 0, none⟩ = some (.string a1_0) ∧ w'.cell? ⟨gb125, 1, none⟩ = some (.string a1_1) ∧ w'.cell? ⟨gb125, 2, none⟩ = some (.bool a1_2) ∧ w'.cell? ⟨gb125, 3, none⟩ = some (.bool a1_3) ∧ w'.cell? ⟨gb125, 4, none⟩ = some (.slice A1_4 l1_4.length c1_4) ∧ w'.cell? ⟨gb125, 5, none⟩ = some (.slice (some ad129) l1_5.length c1_5) ∧ w'.cell? (ad128.add ((x6_3).toNat * 9)) = some (.string ((rd_T84 l0_5 x6_3).f0)) ∧ w'.cell? ⟨(ad128.add ((x6_3).toNat * 9)).block, (ad128.add ((x6_3).toNat * 9)).off + 1, none⟩ = some (.string ((rd_T84 l0_5 x6_3).f1)) ∧ w'.cell? ⟨(ad128.add ((x6_3).toNat * 9)).block, (ad128.add ((x6_3).toNat * 9)).off + 2, none⟩ = some (.bool ((rd_T84 l0_5 x6_3).f2)) ∧ w'.cell? ⟨(ad128.add ((x6_3).toNat * 9)).block, (ad128.add ((x6_3).toNat * 9)).off + 3, none⟩ = some (.bool ((rd_T84 l0_5 x6_3).f3)) ∧ w'.cell? ⟨(ad128.add ((x6_3).toNat * 9)).block, (ad128.add ((x6_3).toNat * 9)).off + 4, none⟩ = some (.bool ((rd_T84 l0_5 x6_3).f4)) ∧ w'.cell? ⟨(ad128.add ((x6_3).toNat * 9)).block, (ad128.add ((x6_3).toNat * 9)).off + 5, none⟩ = some (.int .i64 ((rd_T84 l0_5 x6_3).f5)) ∧ w'.cell? ⟨(ad128.add ((x6_3).toNat * 9)).block, (ad128.add ((x6_3).toNat * 9)).off + 6, none⟩ = some (.int .i64 ((rd_T84 l0_5 x6_3).f6)) ∧ w'.cell? ⟨(ad128.add ((x6_3).toNat * 9)).block, (ad128.add ((x6_3).toNat * 9)).off + 7, none⟩ = some (.slice A128_7 ((rd_T84 l0_5 x6_3).f7).length c128_7) ∧ w'.cell? ⟨(ad128.add ((x6_3).toNat * 9)).block, (ad128.add ((x6_3).toNat * 9)).off + 8, none⟩ = some (.slice A128_8 ((rd_T84 l0_5 x6_3).f8).length c128_8) ∧ w'.cell? (ad129.add ((x6_3).toNat * 9)) = some (.string ((rd_T84 l1_5 x6_3).f0)) ∧ w'.cell? ⟨(ad129.add ((x6_3).toNat * 9)).block, (ad129.add ((x6_3).toNat * 9)).off + 1, none⟩ = some (.string ((rd_T84 l1_5 x6_3).f1)) ∧ w'.cell? ⟨(ad129.add ((x6_3).toNat * 9)).block, (ad129.add ((x6_3).toNat * 9)).off + 2, none⟩ = some (.bool ((rd_T84 l1_5 x6_3).f2)) ∧ w'.cell? ⟨(ad129.add ((x6_3).toNat * 9)).block, (ad129.add ((x6_3).toNat * 9)).off + 3, none⟩ = some (.bool ((rd_T84 l1_5 x6_3).f3)) ∧ w'.cell? ⟨(ad129.add ((x6_3).toNat * 9)).block, (ad129.add ((x6_3).toNat * 9)).off + 4, none⟩ = some (.bool ((rd_T84 l1_5 x6_3).f4)) ∧ w'.cell? ⟨(ad129.add ((x6_3).toNat * 9)).block, (ad129.add ((x6_3).toNat * 9)).off + 5, none⟩ = some (.int .i64 ((rd_T84 l1_5 x6_3).f5)) ∧ w'.cell? ⟨(ad129.add ((x6_3).toNat * 9)).block, (ad129.add ((x6_3).toNat * 9)).off + 6, none⟩ = some (.int .i64 ((rd_T84 l1_5 x6_3).f6)) ∧ w'.cell? ⟨(ad129.add ((x6_3).toNat * 9)).block, (ad129.add ((x6_3).toNat * 9)).off + 7, none⟩ = some (.slice A129_7 ((rd_T84 l1_5 x6_3).f7).length c129_7) ∧ w'.cell? ⟨(ad129.add ((x6_3).toNat * 9)).block, (ad129.add ((x6_3).toNat * 9)).off + 8, none⟩ = some (.slice A129_8 ((rd_T84 l1_5 x6_3).f8).length c129_8)) (ds := []) #[false, false, false, false, false, false, false, false, false, false, false, false] (by kernel_rfl) rfl rfl ⟨(Zkc BK124.out 0).trans rfl, (Zkc BK124.out 1).trans rfl, (Zkc BK124.out 2).trans rfl, (Zkc BK124.out 3).trans rfl, (Zkc BK124.out 4).trans rfl, (Zkc BK124.out 5).trans rfl, (Zkc BK125.out 0).trans rfl, (Zkc BK125.out 1).trans rfl, (Zkc BK125.out 2).trans rfl, (Zkc BK125.out 3).trans rfl, (Zkc BK125.out 4).trans rfl, (Zkc BK125.out 5).trans rfl, ((HB.out.cell (Zlt _ _ hw128_0)).trans hw128_0), ((HB.out.cell (Zlt _ _ hw128_1)).trans hw128_1), ((HB.out.cell (Zlt _ _ hw128_2)).trans hw128_2), ((HB.out.cell (Zlt _ _ hw128_3)).trans hw128_3), ((HB.out.cell (Zlt _ _ hw128_4)).trans hw128_4), ((HB.out.cell (Zlt _ _ hw128_5)).trans hw128_5), ((HB.out.cell (Zlt _ _ hw128_6)).trans hw128_6), ((HB.out.cell (Zlt _ _ hw128_7)).trans hw128_7), ((HB.out.cell (Zlt _ _ hw128_8)).trans hw128_8), ((HB.out.cell (Zlt _ _ hw129_0)).trans hw129_0), ((HB.out.cell (Zlt _ _ hw129_1)).trans hw129_1), ((HB.out.cell (Zlt _ _ hw129_2)).trans hw129_2), ((HB.out.cell (Zlt _ _ hw129_3)).trans hw129_3), ((HB.out.cell (Zlt _ _ hw129_4)).trans hw129_4), ((HB.out.cell (Zlt _ _ hw129_5)).trans hw129_5), ((HB.out.cell (Zlt _ _ hw129_6)).trans hw129_6), ((HB.out.cell (Zlt _ _ hw129_7)).trans hw129_7), ((HB.out.cell (Zlt _ _ hw129_8)).trans hw129_8)⟩ (fun hHeld => ?_); refine with_tabW spec_ClassSame.tab11 spec_ClassSame.bits11 (fun HT_ HW_ => ?_)
                  generalize wr.drew = w49 at BK124 BK125 HB HR128_7 HR128_8 HR129_7 HR129_8 hx128_0 hx128_1 hx128_2 hx128_3 hx128_4 hx128_5 hx128_6 hx128_7 hx128_8 hx129_0 hx129_1 hx129_2 hx129_3 hx129_4 hx129_5 hx129_6 hx129_7 hx129_8 hHeld ⊢
                  refine pure_ (i := 0) (N := some 76) (v := ?_) (a' := ?_) #[true, false, false, false, false, false, false, false, false, false, false, false] rfl rfl (any_of HT_.out (by kernel_rfl)) (fun _ _ _ h => h) (Or.inl ⟨by rfl, ?_⟩) ?_ ?_
                  rotate_left
                  · intro w'
                    go_simp
                    with_reducible rfl
                  rotate_left
                  · simp only [Act.put, List.setIfInBounds_toArray, List.set_cons_zero, List.set_cons_succ, i64_w, i32_w]
                    rfl
                  refine pure_ (i := 2) (N := some 78) (v := ?_) (a' := ?_) #[true, false, true, false, false, false, false, false, false, false, false, false] rfl rfl (any_of HT_.out (by kernel_rfl)) (fun _ _ _ h => h) (Or.inl ⟨by rfl, ?_⟩) ?_ ?_
                  rotate_left
                  · intro w'
                    go_simp
                    with_reducible rfl
                  rotate_left
                  · simp only [Act.put, List.setIfInBounds_toArray, List.set_cons_zero, List.set_cons_succ, i64_w, i32_w]
                    rfl
                  refine pure_ (i := 5) (N := some 81) (v := ?_) (a' := ?_) #[true, false, true, false, false, true, false, false, false, false, false, false] rfl rfl (any_of HT_.out (by kernel_rfl)) (fun _ _ _ h => h) (Or.inl ⟨by rfl, ?_⟩) ?_ ?_
                  rotate_left
                  · intro w'
                    go_simp
                    with_reducible rfl
                  rotate_left
                  · simp only [Act.put, List.setIfInBounds_toArray, List.set_cons_zero, List.set_cons_succ, i64_w, i32_w]
                    rfl
                  refine pure_ (i := 7) (N := some 83) (v := ?_) (a' := ?_) #[true, false, true, false, false, true, false, true, false, false, false, false] rfl rfl (any_of HT_.out (by kernel_rfl)) (fun _ _ _ h => h) (Or.inl ⟨by rfl, ?_⟩) ?_ ?_
                  rotate_left
                  · intro w'
                    go_simp
                    with_reducible rfl
                  rotate_left
                  · simp only [Act.put, List.setIfInBounds_toArray, List.set_cons_zero, List.set_cons_succ, i64_w, i32_w]
                    rfl
                  refine take_ (i := 1) (N := some 77) (v := ?_) (a' := ?_) #[true, true, true, false, false, true, false, true, false, false, false, false] rfl rfl (take_ofW HT_.out HW_.out (by kernel_rfl)) (fun _ _ _ h => h) (Or.inl ⟨by rfl, ?_⟩) hHeld ?_ ?_
                  rotate_left
                  · rintro w' ⟨s0, s1, s2, s3, s4, s5, s6, s7, s8, s9, s10, s11, s12, s13, s14, s15, s16, s17, s18, s19, s20, s21, s22, s23, s24, s25, s26, s27, s28, s29⟩
                    go_simp
                    with_reducible rfl
                  rotate_left
                  · simp only [Act.put, List.setIfInBounds_toArray, List.set_cons_zero, List.set_cons_succ, i64_w, i32_w]
                    rfl
                  refine pure_ (i := 3) (N := some 79) (v := ?_) (a' := ?_) #[true, true, true, true, false, true, false, true, false, false, false, false] rfl rfl (any_of HT_.out (by kernel_rfl)) (fun _ _ _ h => h) (Or.inl ⟨by rfl, ?_⟩) ?_ ?_
                  rotate_left
                  · intro w'
                    go_simp
                    with_reducible rfl
                  rotate_left
                  · simp only [Act.put, List.setIfInBounds_toArray, List.set_cons_zero, List.set_cons_succ, i64_w, i32_w]
                    rfl
                  refine take_ (i := 4) (N := some 80) (v := ?_) (a' := ?_) #[true, true, true, true, true, true, false, true, false, false, false, false] rfl rfl (take_ofW HT_.out HW_.out (by kernel_rfl)) (fun _ _ _ h => h) (Or.inl ⟨by rfl, ?_⟩) hHeld ?_ ?_
                  rotate_left
                  · rintro w' ⟨s0, s1, s2, s3, s4, s5, s6, s7, s8, s9, s10, s11, s12, s13, s14, s15, s16, s17, s18, s19, s20, s21, s22, s23, s24, s25, s26, s27, s28, s29⟩
                    go_simp
                    with_reducible rfl
                  rotate_left
                  · simp only [Act.put, List.setIfInBounds_toArray, List.set_cons_zero, List.set_cons_succ, i64_w, i32_w]
                    rfl
                  refine take_ (i := 6) (N := some 82) (v := ?_) (a' := ?_) #[true, true, true, true, true, true, true, true, false, false, false, false] rfl rfl (take_ofW HT_.out HW_.out (by kernel_rfl)) (fun _ _ _ h => h) (Or.inl ⟨by rfl, ?_⟩) hHeld ?_ ?_
                  rotate_left
                  · rintro w' ⟨s0, s1, s2, s3, s4, s5, s6, s7, s8, s9, s10, s11, s12, s13, s14, s15, s16, s17, s18, s19, s20, s21, s22, s23, s24, s25, s26, s27, s28, s29⟩
                    go_simp
                    with_reducible rfl
                  rotate_left
                  · simp only [Act.put, List.setIfInBounds_toArray, List.set_cons_zero, List.set_cons_succ, i64_w, i32_w]
                    rfl
                  refine pure_ (i := 8) (N := some 84) (v := ?_) (a' := ?_) #[true, true, true, true, true, true, true, true, true, false, false, false] rfl rfl (any_of HT_.out (by kernel_rfl)) (fun _ _ _ h => h) (Or.inl ⟨by rfl, ?_⟩) ?_ ?_
                  rotate_left
                  · intro w'
                    go_simp
                    with_reducible rfl
                  rotate_left
                  · simp only [Act.put, List.setIfInBounds_toArray, List.set_cons_zero, List.set_cons_succ, i64_w, i32_w]
                    rfl
                  refine take_ (i := 9) (N := some 85) (v := ?_) (a' := ?_) #[true, true, true, true, true, true, true, true, true, true, false, false] rfl rfl (take_ofW HT_.out HW_.out (by kernel_rfl)) (fun _ _ _ h => h) (Or.inl ⟨by rfl, ?_⟩) hHeld ?_ ?_
                  rotate_left
                  · rintro w' ⟨s0, s1, s2, s3, s4, s5, s6, s7, s8, s9, s10, s11, s12, s13, s14, s15, s16, s17, s18, s19, s20, s21, s22, s23, s24, s25, s26, s27, s28, s29⟩
                    go_simp
                    with_reducible rfl
                  rotate_left
                  · simp only [Act.put, List.setIfInBounds_toArray, List.set_cons_zero, List.set_cons_succ, i64_w, i32_w]
                    rfl
                  refine one_ (i := 10) (N := some 86) #[true, true, true, true, true, true, true, true, true, true, true, false] rfl rfl (one_of HT_.out (by kernel_rfl)) (by decide) (fun K hK => ?_)
                  refine goes_ Try.func66 (by kernel_rfl) rfl #[.agg #[.string ((rd_T84 l0_5 x6_3).f0), .string ((rd_T84 l0_5 x6_3).f1), .bool ((rd_T84 l0_5 x6_3).f2), .bool ((rd_T84 l0_5 x6_3).f3), .bool ((rd_T84 l0_5 x6_3).f4), .int .i64 ((rd_T84 l0_5 x6_3).f5), .int .i64 ((rd_T84 l0_5 x6_3).f6), .slice A128_7 ((rd_T84 l0_5 x6_3).f7).length c128_7, .slice A128_8 ((rd_T84 l0_5 x6_3).f8).length c128_8], .agg #[.string ((rd_T84 l1_5 x6_3).f0), .string ((rd_T84 l1_5 x6_3).f1), .bool ((rd_T84 l1_5 x6_3).f2), .bool ((rd_T84 l1_5 x6_3).f3), .bool ((rd_T84 l1_5 x6_3).f4), .int .i64 ((rd_T84 l1_5 x6_3).f5), .int .i64 ((rd_T84 l1_5 x6_3).f6), .slice A129_7 ((rd_T84 l1_5 x6_3).f7).length c129_7, .slice A129_8 ((rd_T84 l1_5 x6_3).f8).length c129_8]] (by rfl) rfl rfl (by (try simp only [List.map_toArray, List.map_cons, List.map_nil]); first | done | rfl | (simp only [List.length_drop, List.length_take]; rfl)) ?_
                  with_reducible refine (spec_l03SameMethod.calls k3 ((rd_T84 l0_5 x6_3).f0) ((rd_T84 l0_5 x6_3).f1) ((rd_T84 l0_5 x6_3).f2) ((rd_T84 l0_5 x6_3).f3) ((rd_T84 l0_5 x6_3).f4) ((rd_T84 l0_5 x6_3).f5) ((rd_T84 l0_5 x6_3).f6) _ _ ((rd_T84 l0_5 x6_3).f7) _ _ ((rd_T84 l0_5 x6_3).f8) ((rd_T84 l1_5 x6_3).f0) ((rd_T84 l1_5 x6_3).f1) ((rd_T84 l1_5 x6_3).f2) ((rd_T84 l1_5 x6_3).f3) ((rd_T84 l1_5 x6_3).f4) ((rd_T84 l1_5 x6_3).f5) ((rd_T84 l1_5 x6_3).f6) _ _ ((rd_T84 l1_5 x6_3).f7) _ _ ((rd_T84 l1_5 x6_3).f8) true _ ?side1 ?side2 ?side3 ?side4 ?side5 ?side6 ?side7 ?side8 A45.out).mono ?_
                  (case side1 => repeat (first | exact (Kd.C_below HR128_7.out HB.out) | (with_reducible refine Kd.C_alloc ?_ _) | (with_reducible refine Kd.C_drewN ?_ _) | (with_reducible refine Kd.C_drew ?_)))
                  (case side2 => exact HC128_7.out)
                  (case side3 => repeat (first | exact (Kd.C_below HR128_8.out HB.out) | (with_reducible refine Kd.C_alloc ?_ _) | (with_reducible refine Kd.C_drewN ?_ _) | (with_reducible refine Kd.C_drew ?_)))
                  (case side4 => exact HC128_8.out)
                  (case side5 => repeat (first | exact (Kd.C_below HR129_7.out HB.out) | (with_reducible refine Kd.C_alloc ?_ _) | (with_reducible refine Kd.C_drewN ?_ _) | (with_reducible refine Kd.C_drew ?_)))
                  (case side6 => exact HC129_7.out)
                  (case side7 => repeat (first | exact (Kd.C_below HR129_8.out HB.out) | (with_reducible refine Kd.C_alloc ?_ _) | (with_reducible refine Kd.C_drewN ?_ _) | (with_reducible refine Kd.C_drew ?_)))
                  (case side8 => exact HC129_8.out)
                  rintro e w50 ⟨rfl, hb⟩
                  refine ⟨_, rfl, ?_⟩
                  have n0_ := Zm (Zkb (g := gb124) (o := .cells #[.string a0_0, .string a0_1, .bool a0_2, .bool a0_3, .slice A0_4 l0_4.length c0_4, .slice (some ad128) l0_5.length c0_5] 51 (0, 0)) (by (with_reducible repeat (first | refine Zkn ?_ _ | refine Zkd ?_ | refine Zka ?_ _)); exact BK124.out) hb)
                  have n1_ := Zm (Zkb (g := gb125) (o := .cells #[.string a1_0, .string a1_1, .bool a1_2, .bool a1_3, .slice A1_4 l1_4.length c1_4, .slice (some ad129) l1_5.length c1_5] 51 (0, 0)) (by (with_reducible repeat (first | refine Zkn ?_ _ | refine Zkd ?_ | refine Zka ?_ _)); exact BK125.out) hb)
                  have n2_ := Zm (Zbt (by repeat (first | (with_reducible first | exact HB.out | apply Zba | apply Zbn | apply Zbd | refine Zbs ?_ GE124.out | refine Zbs ?_ GE125.out) | exact HB.out)) hb)
                  clear BK124
                  clear BK125
                  clear HB
                  have BK124 := n0_
                  have BK125 := n1_
                  have HB := n2_
                  clear n0_ n1_ n2_
                  (try clear hb)
                  (try clear hb2)
                  (try clear hk)
                  (try clear hi)
                  refine hK.out _ _ ⟨(Zkc BK124.out 0).trans rfl, (Zkc BK124.out 1).trans rfl, (Zkc BK124.out 2).trans rfl, (Zkc BK124.out 3).trans rfl, (Zkc BK124.out 4).trans rfl, (Zkc BK124.out 5).trans rfl, (Zkc BK125.out 0).trans rfl, (Zkc BK125.out 1).trans rfl, (Zkc BK125.out 2).trans rfl, (Zkc BK125.out 3).trans rfl, (Zkc BK125.out 4).trans rfl, (Zkc BK125.out 5).trans rfl, ((HB.out.cell (Zlt _ _ hw128_0)).trans hw128_0), ((HB.out.cell (Zlt _ _ hw128_1)).trans hw128_1), ((HB.out.cell (Zlt _ _ hw128_2)).trans hw128_2), ((HB.out.cell (Zlt _ _ hw128_3)).trans hw128_3), ((HB.out.cell (Zlt _ _ hw128_4)).trans hw128_4), ((HB.out.cell (Zlt _ _ hw128_5)).trans hw128_5), ((HB.out.cell (Zlt _ _ hw128_6)).trans hw128_6), ((HB.out.cell (Zlt _ _ hw128_7)).trans hw128_7), ((HB.out.cell (Zlt _ _ hw128_8)).trans hw128_8), ((HB.out.cell (Zlt _ _ hw129_0)).trans hw129_0), ((HB.out.cell (Zlt _ _ hw129_1)).trans hw129_1), ((HB.out.cell (Zlt _ _ hw129_2)).trans hw129_2), ((HB.out.cell (Zlt _ _ hw129_3)).trans hw129_3), ((HB.out.cell (Zlt _ _ hw129_4)).trans hw129_4), ((HB.out.cell (Zlt _ _ hw129_5)).trans hw129_5), ((HB.out.cell (Zlt _ _ hw129_6)).trans hw129_6), ((HB.out.cell (Zlt _ _ hw129_7)).trans hw129_7), ((HB.out.cell (Zlt _ _ hw129_8)).trans hw129_8)⟩ (fun hHeld => ?_)
                  clear hK K
                  refine norm_ (a' := ?_) ?_ ?_
                  rotate_left
                  · show Act.put _ (some 86) _ = _
                    simp only [Act.put, List.setIfInBounds_toArray, List.set_cons_zero, List.set_cons_succ, i64_w, i32_w]
                    rfl
                  refine pure_ (i := 11) (N := some 87) (v := ?_) (a' := ?_) #[true, true, true, true, true, true, true, true, true, true, true, true] rfl rfl (any_of HT_.out (by kernel_rfl)) (fun _ _ _ h => h) (Or.inl ⟨by rfl, ?_⟩) ?_ ?_
                  rotate_left
                  · intro w'
                    go_simp
                    with_reducible rfl
                  rotate_left
                  · simp only [Act.put, List.setIfInBounds_toArray, List.set_cons_zero, List.set_cons_succ, i64_w, i32_w]
                    rfl
                  refine done_ (done_of HT_.out (by kernel_rfl)) ?_
                  try go_wp2
                  go_roundg k3
                  case measure => have := HJ2.out; have := HK2.out; have := HK3.out; omega
                  case rel => exact ⟨(wrap64 (x6_3 + 1)), (by first | rfl | (simp; done) | (simp [*]; done)), H', ⟨by have := HJ2.out; have := HK2.out; have := HK3.out; omega⟩, ⟨by (with_reducible repeat (first | refine Zkn ?_ _ | refine Zkd ?_ | refine Zka ?_ _)); exact BK124.out⟩, ⟨by (with_reducible repeat (first | refine Zkn ?_ _ | refine Zkd ?_ | refine Zka ?_ _)); exact BK125.out⟩, ⟨by repeat (first | (with_reducible first | exact HB.out | apply Zba | apply Zbn | apply Zbd | refine Zbs ?_ GE124.out | refine Zbs ?_ GE125.out) | exact HB.out)⟩⟩
            rw [if_pos c30] at H
            have c30b0 : decide (x5_2 < (l0_4.length : Int)) = true := decide_eq_true c30
            clear c30
            by_cases c31 : 0 ≤ x5_2
            rotate_left
            · rw [if_neg c31] at H
              exact absurd H (by simp)
            rw [if_pos c31] at H
            have c31b0 : decide (0 ≤ x5_2) = true := decide_eq_true c31
            clear c31
            by_cases c32 : x5_2 < (l1_4.length : Int)
            rotate_left
            · rw [if_neg c32] at H
              exact absurd H (by simp)
            rw [if_pos c32] at H
            have c32b0 : decide (x5_2 < (l1_4.length : Int)) = true := decide_eq_true c32
            clear c32
            by_cases c33 : (!((((rd_T123 l0_4 x5_2).f0).toList) == (((rd_T123 l1_4 x5_2).f0).toList)) || (!((((rd_T123 l0_4 x5_2).f1).toList) == (((rd_T123 l1_4 x5_2).f1).toList)) || (!(((rd_T123 l0_4 x5_2).f2) == ((rd_T123 l1_4 x5_2).f2))))) = true
            rotate_left
            · rw [if_neg c33] at H
              have c33b0 : (!((((rd_T123 l0_4 x5_2).f0).toList) == (((rd_T123 l1_4 x5_2).f0).toList)) || (!((((rd_T123 l0_4 x5_2).f1).toList) == (((rd_T123 l1_4 x5_2).f1).toList)) || (!(((rd_T123 l0_4 x5_2).f2) == ((rd_T123 l1_4 x5_2).f2))))) = false := by simpa using c33
              clear c33
              have H' := Zm H
              clear H
              have hnb37 := NB124_125.out
              have hnc37 := NB125_124.out
              have hcz38_0 : wr.cell? ⟨gb124, 0, none⟩ = some (.string a0_0) := (Zkc BK124.out 0).trans rfl
              have hcz38_1 : wr.cell? ⟨gb124, 1, none⟩ = some (.string a0_1) := (Zkc BK124.out 1).trans rfl
              have hcz38_2 : wr.cell? ⟨gb124, 2, none⟩ = some (.bool a0_2) := (Zkc BK124.out 2).trans rfl
              have hcz38_3 : wr.cell? ⟨gb124, 3, none⟩ = some (.bool a0_3) := (Zkc BK124.out 3).trans rfl
              have hcz38_4 : wr.cell? ⟨gb124, 4, none⟩ = some (.slice A0_4 l0_4.length c0_4) := (Zkc BK124.out 4).trans rfl
              have hcz38_5 : wr.cell? ⟨gb124, 5, none⟩ = some (.slice A0_5 l0_5.length c0_5) := (Zkc BK124.out 5).trans rfl
              try go_wp2
              have n0_ := Zm (Zkd BK124.out)
              have n1_ := Zm (Zkd BK125.out)
              have n2_ := Zm (Zbd HB.out)
              clear BK124
              clear BK125
              clear HB
              have BK124 := n0_
              have BK125 := n1_
              have HB := n2_
              clear n0_ n1_ n2_
              have p126 : 0 ≤ (x5_2 : Int) := of_decide_eq_true (by first | (with_reducible assumption) | assumption)
              have q126 : x5_2 < (l0_4.length : Int) := of_decide_eq_true (by first | (with_reducible assumption) | assumption)
              obtain ⟨ad126, e126, hx126_0, hx126_1, hx126_2⟩ := at_T123 HR0_4.out x5_2 p126 q126
              have hw126_2 := hx126_2
              have hw126_1 := hx126_1
              have hw126_0 := hx126_0
              cases e126
              replace hx126_0 := (HB.out.cell (Zlt _ _ hx126_0)).trans hx126_0
              replace hx126_1 := (HB.out.cell (Zlt _ _ hx126_1)).trans hx126_1
              replace hx126_2 := (HB.out.cell (Zlt _ _ hx126_2)).trans hx126_2
              replace p126 := eq_true p126
              replace q126 := eq_true q126
              have p127 : 0 ≤ (x5_2 : Int) := of_decide_eq_true (by first | (with_reducible assumption) | assumption)
              have q127 : x5_2 < (l1_4.length : Int) := of_decide_eq_true (by first | (with_reducible assumption) | assumption)
              obtain ⟨ad127, e127, hx127_0, hx127_1, hx127_2⟩ := at_T123 HR1_4.out x5_2 p127 q127
              have hw127_2 := hx127_2
              have hw127_1 := hx127_1
              have hw127_0 := hx127_0
              cases e127
              replace hx127_0 := (HB.out.cell (Zlt _ _ hx127_0)).trans hx127_0
              replace hx127_1 := (HB.out.cell (Zlt _ _ hx127_1)).trans hx127_1
              replace hx127_2 := (HB.out.cell (Zlt _ _ hx127_2)).trans hx127_2
              replace p127 := eq_true p127
              replace q127 := eq_true q127
              refine start_ (n := 11) (S := fun w' => w'.cell? ⟨gb124, 0, none⟩ = some (.string a0_0) ∧ w'.cell? ⟨gb124, 1, none⟩ = some (.string a0_1) ∧ w'.cell? ⟨gb124, 2, none⟩ = some (.bool a0_2) ∧ w'.cell? ⟨gb124, 3, none⟩ = some (.bool a0_3) ∧ w'.cell? ⟨gb124, 4, none⟩ = some (.slice (some ad126) l0_4.length c0_4) ∧ w'.cell? ⟨gb124, 5, none⟩ = some (.slice A0_5 l0_5.length c0_5) ∧ w'.cell? ⟨gb125, 0, none⟩ = some (.string a1_0) ∧ w'.cell? ⟨gb125, 1, none⟩ = some (.string a1_1) ∧ w'.cell? ⟨gb125, 2, none⟩ = some (.bool a1_2) ∧ w'.cell? ⟨gb125, 3, none⟩ = some (.bool a1_3) ∧ w'.cell? ⟨gb125, 4, none⟩ = some (.slice (some ad127) l1_4.length c1_4) ∧ w'.cell? ⟨gb125, 5, none⟩ = some (.slice A1_5 l1_5.length c1_5) ∧ w'.cell? (ad126.add ((x5_2).toNat * 3)) = some (.string ((rd_T123 l0_4 x5_2).f0)) ∧ w'.cell? ⟨(ad126.add ((x5_2).toNat * 3)).block, (ad126.add ((x5_2).toNat * 3)).off + 1, none⟩ = some (.string ((rd_T123 l0_4 x5_2).f1)) ∧ w'.cell? ⟨(ad126.add ((x5_2).toNat * 3)).block, (ad126.add ((x5_2).toNat * 3)).off + 2, none⟩ = some (.bool ((rd_T123 l0_4 x5_2).f2)) ∧ w'.cell? (ad127.add ((x5_2).toNat * 3)) = some (.string ((rd_T123 l1_4 x5_2).f0)) ∧ w'.cell? ⟨(ad127.add ((x5_2).toNat * 3)).block, (ad127.add ((x5_2).toNat * 3)).off + 1, none⟩ = some (.string ((rd_T123 l1_4 x5_2).f1)) ∧ w'.cell? ⟨(ad127.add ((x5_2).toNat * 3)).block, (ad127.add ((x5_2).toNat * 3)).off + 2, none⟩ = some (.bool ((rd_T123 l1_4 x5_2).f2))) (ds := []) #[false, false, false, false, false, false, false, false, false, false, false] (by kernel_rfl) rfl rfl ⟨(Zkc BK124.out 0).trans rfl, (Zkc BK124.out 1).trans rfl, (Zkc BK124.out 2).trans rfl, (Zkc BK124.out 3).trans rfl, (Zkc BK124.out 4).trans rfl, (Zkc BK124.out 5).trans rfl, (Zkc BK125.out 0).trans rfl, (Zkc BK125.out 1).trans rfl, (Zkc BK125.out 2).trans rfl, (Zkc BK125.out 3).trans rfl, (Zkc BK125.out 4).trans rfl, (Zkc BK125.out 5).trans rfl, ((HB.out.cell (Zlt _ _ hw126_0)).trans hw126_0), ((HB.out.cell (Zlt _ _ hw126_1)).trans hw126_1), ((HB.out.cell (Zlt _ _ hw126_2)).trans hw126_2), ((HB.out.cell (Zlt _ _ hw127_0)).trans hw127_0), ((HB.out.cell (Zlt _ _ hw127_1)).trans hw127_1), ((HB.out.cell (Zlt _ _ hw127_2)).trans hw127_2)⟩ (fun hHeld => ?_); refine with_tabW spec_ClassSame.tab6 spec_ClassSame.bits6 (fun HT_ HW_ => ?_)
              generalize wr.drew = w39 at BK124 BK125 HB hx126_0 hx126_1 hx126_2 hx127_0 hx127_1 hx127_2 hHeld ⊢
              refine pure_ (i := 0) (N := some 58) (v := ?_) (a' := ?_) #[true, false, false, false, false, false, false, false, false, false, false] rfl rfl (any_of HT_.out (by kernel_rfl)) (fun _ _ _ h => h) (Or.inl ⟨by rfl, ?_⟩) ?_ ?_
              rotate_left
              · intro w'
                go_simp
                with_reducible rfl
              rotate_left
              · simp only [Act.put, List.setIfInBounds_toArray, List.set_cons_zero, List.set_cons_succ, i64_w, i32_w]
                rfl
              refine pure_ (i := 2) (N := some 60) (v := ?_) (a' := ?_) #[true, false, true, false, false, false, false, false, false, false, false] rfl rfl (any_of HT_.out (by kernel_rfl)) (fun _ _ _ h => h) (Or.inl ⟨by rfl, ?_⟩) ?_ ?_
              rotate_left
              · intro w'
                go_simp
                with_reducible rfl
              rotate_left
              · simp only [Act.put, List.setIfInBounds_toArray, List.set_cons_zero, List.set_cons_succ, i64_w, i32_w]
                rfl
              refine pure_ (i := 5) (N := some 63) (v := ?_) (a' := ?_) #[true, false, true, false, false, true, false, false, false, false, false] rfl rfl (any_of HT_.out (by kernel_rfl)) (fun _ _ _ h => h) (Or.inl ⟨by rfl, ?_⟩) ?_ ?_
              rotate_left
              · intro w'
                go_simp
                with_reducible rfl
              rotate_left
              · simp only [Act.put, List.setIfInBounds_toArray, List.set_cons_zero, List.set_cons_succ, i64_w, i32_w]
                rfl
              refine pure_ (i := 7) (N := some 65) (v := ?_) (a' := ?_) #[true, false, true, false, false, true, false, true, false, false, false] rfl rfl (any_of HT_.out (by kernel_rfl)) (fun _ _ _ h => h) (Or.inl ⟨by rfl, ?_⟩) ?_ ?_
              rotate_left
              · intro w'
                go_simp
                with_reducible rfl
              rotate_left
              · simp only [Act.put, List.setIfInBounds_toArray, List.set_cons_zero, List.set_cons_succ, i64_w, i32_w]
                rfl
              refine take_ (i := 1) (N := some 59) (v := ?_) (a' := ?_) #[true, true, true, false, false, true, false, true, false, false, false] rfl rfl (take_ofW HT_.out HW_.out (by kernel_rfl)) (fun _ _ _ h => h) (Or.inl ⟨by rfl, ?_⟩) hHeld ?_ ?_
              rotate_left
              · rintro w' ⟨s0, s1, s2, s3, s4, s5, s6, s7, s8, s9, s10, s11, s12, s13, s14, s15, s16, s17⟩
                go_simp
                with_reducible rfl
              rotate_left
              · simp only [Act.put, List.setIfInBounds_toArray, List.set_cons_zero, List.set_cons_succ, i64_w, i32_w]
                rfl
              refine pure_ (i := 3) (N := some 61) (v := ?_) (a' := ?_) #[true, true, true, true, false, true, false, true, false, false, false] rfl rfl (any_of HT_.out (by kernel_rfl)) (fun _ _ _ h => h) (Or.inl ⟨by rfl, ?_⟩) ?_ ?_
              rotate_left
              · intro w'
                go_simp
                with_reducible rfl
              rotate_left
              · simp only [Act.put, List.setIfInBounds_toArray, List.set_cons_zero, List.set_cons_succ, i64_w, i32_w]
                rfl
              refine take_ (i := 4) (N := some 62) (v := ?_) (a' := ?_) #[true, true, true, true, true, true, false, true, false, false, false] rfl rfl (take_ofW HT_.out HW_.out (by kernel_rfl)) (fun _ _ _ h => h) (Or.inl ⟨by rfl, ?_⟩) hHeld ?_ ?_
              rotate_left
              · rintro w' ⟨s0, s1, s2, s3, s4, s5, s6, s7, s8, s9, s10, s11, s12, s13, s14, s15, s16, s17⟩
                go_simp
                with_reducible rfl
              rotate_left
              · simp only [Act.put, List.setIfInBounds_toArray, List.set_cons_zero, List.set_cons_succ, i64_w, i32_w]
                rfl
              refine take_ (i := 6) (N := some 64) (v := ?_) (a' := ?_) #[true, true, true, true, true, true, true, true, false, false, false] rfl rfl (take_ofW HT_.out HW_.out (by kernel_rfl)) (fun _ _ _ h => h) (Or.inl ⟨by rfl, ?_⟩) hHeld ?_ ?_
              rotate_left
              · rintro w' ⟨s0, s1, s2, s3, s4, s5, s6, s7, s8, s9, s10, s11, s12, s13, s14, s15, s16, s17⟩
                go_simp
                with_reducible rfl
              rotate_left
              · simp only [Act.put, List.setIfInBounds_toArray, List.set_cons_zero, List.set_cons_succ, i64_w, i32_w]
                rfl
              refine pure_ (i := 8) (N := some 66) (v := ?_) (a' := ?_) #[true, true, true, true, true, true, true, true, true, false, false] rfl rfl (any_of HT_.out (by kernel_rfl)) (fun _ _ _ h => h) (Or.inl ⟨by rfl, ?_⟩) ?_ ?_
              rotate_left
              · intro w'
                go_simp
                with_reducible rfl
              rotate_left
              · simp only [Act.put, List.setIfInBounds_toArray, List.set_cons_zero, List.set_cons_succ, i64_w, i32_w]
                rfl
              refine take_ (i := 9) (N := some 67) (v := ?_) (a' := ?_) #[true, true, true, true, true, true, true, true, true, true, false] rfl rfl (take_ofW HT_.out HW_.out (by kernel_rfl)) (fun _ _ _ h => h) (Or.inl ⟨by rfl, ?_⟩) hHeld ?_ ?_
              rotate_left
              · rintro w' ⟨s0, s1, s2, s3, s4, s5, s6, s7, s8, s9, s10, s11, s12, s13, s14, s15, s16, s17⟩
                go_simp
                with_reducible rfl
              rotate_left
              · simp only [Act.put, List.setIfInBounds_toArray, List.set_cons_zero, List.set_cons_succ, i64_w, i32_w]
                rfl
              refine pure_ (i := 10) (N := some 68) (v := ?_) (a' := ?_) #[true, true, true, true, true, true, true, true, true, true, true] rfl rfl (any_of HT_.out (by kernel_rfl)) (fun _ _ _ h => h) (Or.inl ⟨by rfl, ?_⟩) ?_ ?_
              rotate_left
              · intro w'
                go_simp
                with_reducible rfl
              rotate_left
              · simp only [Act.put, List.setIfInBounds_toArray, List.set_cons_zero, List.set_cons_succ, i64_w, i32_w]
                rfl
              refine done_ (done_of HT_.out (by kernel_rfl)) ?_
              try go_wp2
              go_roundg k2
              case measure => have := HJ2.out; have := HK2.out; omega
              case rel => exact ⟨(wrap64 (x5_2 + 1)), (by first | rfl | (simp; done) | (simp [*]; done)), H', ⟨by have := HJ2.out; have := HK2.out; omega⟩, ⟨by (with_reducible repeat (first | refine Zkn ?_ _ | refine Zkd ?_ | refine Zka ?_ _)); exact BK124.out⟩, ⟨by (with_reducible repeat (first | refine Zkn ?_ _ | refine Zkd ?_ | refine Zka ?_ _)); exact BK125.out⟩, ⟨by repeat (first | (with_reducible first | exact HB.out | apply Zba | apply Zbn | apply Zbd | refine Zbs ?_ GE124.out | refine Zbs ?_ GE125.out) | exact HB.out)⟩⟩
            rw [if_pos c33] at H
            have c33b0 : (!((((rd_T123 l0_4 x5_2).f0).toList) == (((rd_T123 l1_4 x5_2).f0).toList)) || (!((((rd_T123 l0_4 x5_2).f1).toList) == (((rd_T123 l1_4 x5_2).f1).toList)) || (!(((rd_T123 l0_4 x5_2).f2) == ((rd_T123 l1_4 x5_2).f2))))) = true := c33
            clear c33
            obtain rfl := Option.some.inj H
            have hnb34 := NB124_125.out
            have hnc34 := NB125_124.out
            have hcz35_0 : wr.cell? ⟨gb124, 0, none⟩ = some (.string a0_0) := (Zkc BK124.out 0).trans rfl
            have hcz35_1 : wr.cell? ⟨gb124, 1, none⟩ = some (.string a0_1) := (Zkc BK124.out 1).trans rfl
            have hcz35_2 : wr.cell? ⟨gb124, 2, none⟩ = some (.bool a0_2) := (Zkc BK124.out 2).trans rfl
            have hcz35_3 : wr.cell? ⟨gb124, 3, none⟩ = some (.bool a0_3) := (Zkc BK124.out 3).trans rfl
            have hcz35_4 : wr.cell? ⟨gb124, 4, none⟩ = some (.slice A0_4 l0_4.length c0_4) := (Zkc BK124.out 4).trans rfl
            have hcz35_5 : wr.cell? ⟨gb124, 5, none⟩ = some (.slice A0_5 l0_5.length c0_5) := (Zkc BK124.out 5).trans rfl
            try go_wp2
            have n0_ := Zm (Zkd BK124.out)
            have n1_ := Zm (Zkd BK125.out)
            have n2_ := Zm (Zbd HB.out)
            clear BK124
            clear BK125
            clear HB
            have BK124 := n0_
            have BK125 := n1_
            have HB := n2_
            clear n0_ n1_ n2_
            have p126 : 0 ≤ (x5_2 : Int) := of_decide_eq_true (by first | (with_reducible assumption) | assumption)
            have q126 : x5_2 < (l0_4.length : Int) := of_decide_eq_true (by first | (with_reducible assumption) | assumption)
            obtain ⟨ad126, e126, hx126_0, hx126_1, hx126_2⟩ := at_T123 HR0_4.out x5_2 p126 q126
            have hw126_2 := hx126_2
            have hw126_1 := hx126_1
            have hw126_0 := hx126_0
            cases e126
            replace hx126_0 := (HB.out.cell (Zlt _ _ hx126_0)).trans hx126_0
            replace hx126_1 := (HB.out.cell (Zlt _ _ hx126_1)).trans hx126_1
            replace hx126_2 := (HB.out.cell (Zlt _ _ hx126_2)).trans hx126_2
            replace p126 := eq_true p126
            replace q126 := eq_true q126
            have p127 : 0 ≤ (x5_2 : Int) := of_decide_eq_true (by first | (with_reducible assumption) | assumption)
            have q127 : x5_2 < (l1_4.length : Int) := of_decide_eq_true (by first | (with_reducible assumption) | assumption)
            obtain ⟨ad127, e127, hx127_0, hx127_1, hx127_2⟩ := at_T123 HR1_4.out x5_2 p127 q127
            have hw127_2 := hx127_2
            have hw127_1 := hx127_1
            have hw127_0 := hx127_0
            cases e127
            replace hx127_0 := (HB.out.cell (Zlt _ _ hx127_0)).trans hx127_0
            replace hx127_1 := (HB.out.cell (Zlt _ _ hx127_1)).trans hx127_1
            replace hx127_2 := (HB.out.cell (Zlt _ _ hx127_2)).trans hx127_2
            replace p127 := eq_true p127
            replace q127 := eq_true q127
            refine start_ (n := 11) (S := fun w' => w'.cell? ⟨gb124, 0, none⟩ = some (.string a0_0) ∧ w'.cell? ⟨gb124, 1, none⟩ = some (.string a0_1) ∧ w'.cell? ⟨gb124, 2, none⟩ = some (.bool a0_2) ∧ w'.cell? ⟨gb124, 3, none⟩ = some (.bool a0_3) ∧ w'.cell? ⟨gb124, 4, none⟩ = some (.slice (some ad126) l0_4.length c0_4) ∧ w'.cell? ⟨gb124, 5, none⟩ = some (.slice A0_5 l0_5.length c0_5) ∧ w'.cell? ⟨gb125, 0, none⟩ = some (.string a1_0) ∧ w'.cell? ⟨gb125, 1, none⟩ = some (.string a1_1) ∧ w'.cell? ⟨gb125, 2, none⟩ = some (.bool a1_2) ∧ w'.cell? ⟨gb125, 3, none⟩ = some (.bool a1_3) ∧ w'.cell? ⟨gb125, 4, none⟩ = some (.slice (some ad127) l1_4.length c1_4) ∧ w'.cell? ⟨gb125, 5, none⟩ = some (.slice A1_5 l1_5.length c1_5) ∧ w'.cell? (ad126.add ((x5_2).toNat * 3)) = some (.string ((rd_T123 l0_4 x5_2).f0)) ∧ w'.cell? ⟨(ad126.add ((x5_2).toNat * 3)).block, (ad126.add ((x5_2).toNat * 3)).off + 1, none⟩ = some (.string ((rd_T123 l0_4 x5_2).f1)) ∧ w'.cell? ⟨(ad126.add ((x5_2).toNat * 3)).block, (ad126.add ((x5_2).toNat * 3)).off + 2, none⟩ = some (.bool ((rd_T123 l0_4 x5_2).f2)) ∧ w'.cell? (ad127.add ((x5_2).toNat * 3)) = some (.string ((rd_T123 l1_4 x5_2).f0)) ∧ w'.cell? ⟨(ad127.add ((x5_2).toNat * 3)).block, (ad127.add ((x5_2).toNat * 3)).off + 1, none⟩ = some (.string ((rd_T123 l1_4 x5_2).f1)) ∧ w'.cell? ⟨(ad127.add ((x5_2).toNat * 3)).block, (ad127.add ((x5_2).toNat * 3)).off + 2, none⟩ = some (.bool ((rd_T123 l1_4 x5_2).f2))) (ds := []) #[false, false, false, false, false, false, false, false, false, false, false] (by kernel_rfl) rfl rfl ⟨(Zkc BK124.out 0).trans rfl, (Zkc BK124.out 1).trans rfl, (Zkc BK124.out 2).trans rfl, (Zkc BK124.out 3).trans rfl, (Zkc BK124.out 4).trans rfl, (Zkc BK124.out 5).trans rfl, (Zkc BK125.out 0).trans rfl, (Zkc BK125.out 1).trans rfl, (Zkc BK125.out 2).trans rfl, (Zkc BK125.out 3).trans rfl, (Zkc BK125.out 4).trans rfl, (Zkc BK125.out 5).trans rfl, ((HB.out.cell (Zlt _ _ hw126_0)).trans hw126_0), ((HB.out.cell (Zlt _ _ hw126_1)).trans hw126_1), ((HB.out.cell (Zlt _ _ hw126_2)).trans hw126_2), ((HB.out.cell (Zlt _ _ hw127_0)).trans hw127_0), ((HB.out.cell (Zlt _ _ hw127_1)).trans hw127_1), ((HB.out.cell (Zlt _ _ hw127_2)).trans hw127_2)⟩ (fun hHeld => ?_); refine with_tabW spec_ClassSame.tab6 spec_ClassSame.bits6 (fun HT_ HW_ => ?_)
            generalize wr.drew = w36 at BK124 BK125 HB hx126_0 hx126_1 hx126_2 hx127_0 hx127_1 hx127_2 hHeld ⊢
            refine pure_ (i := 0) (N := some 58) (v := ?_) (a' := ?_) #[true, false, false, false, false, false, false, false, false, false, false] rfl rfl (any_of HT_.out (by kernel_rfl)) (fun _ _ _ h => h) (Or.inl ⟨by rfl, ?_⟩) ?_ ?_
            rotate_left
            · intro w'
              go_simp
              with_reducible rfl
            rotate_left
            · simp only [Act.put, List.setIfInBounds_toArray, List.set_cons_zero, List.set_cons_succ, i64_w, i32_w]
              rfl
            refine pure_ (i := 2) (N := some 60) (v := ?_) (a' := ?_) #[true, false, true, false, false, false, false, false, false, false, false] rfl rfl (any_of HT_.out (by kernel_rfl)) (fun _ _ _ h => h) (Or.inl ⟨by rfl, ?_⟩) ?_ ?_
            rotate_left
            · intro w'
              go_simp
              with_reducible rfl
            rotate_left
            · simp only [Act.put, List.setIfInBounds_toArray, List.set_cons_zero, List.set_cons_succ, i64_w, i32_w]
              rfl
            refine pure_ (i := 5) (N := some 63) (v := ?_) (a' := ?_) #[true, false, true, false, false, true, false, false, false, false, false] rfl rfl (any_of HT_.out (by kernel_rfl)) (fun _ _ _ h => h) (Or.inl ⟨by rfl, ?_⟩) ?_ ?_
            rotate_left
            · intro w'
              go_simp
              with_reducible rfl
            rotate_left
            · simp only [Act.put, List.setIfInBounds_toArray, List.set_cons_zero, List.set_cons_succ, i64_w, i32_w]
              rfl
            refine pure_ (i := 7) (N := some 65) (v := ?_) (a' := ?_) #[true, false, true, false, false, true, false, true, false, false, false] rfl rfl (any_of HT_.out (by kernel_rfl)) (fun _ _ _ h => h) (Or.inl ⟨by rfl, ?_⟩) ?_ ?_
            rotate_left
            · intro w'
              go_simp
              with_reducible rfl
            rotate_left
            · simp only [Act.put, List.setIfInBounds_toArray, List.set_cons_zero, List.set_cons_succ, i64_w, i32_w]
              rfl
            refine take_ (i := 1) (N := some 59) (v := ?_) (a' := ?_) #[true, true, true, false, false, true, false, true, false, false, false] rfl rfl (take_ofW HT_.out HW_.out (by kernel_rfl)) (fun _ _ _ h => h) (Or.inl ⟨by rfl, ?_⟩) hHeld ?_ ?_
            rotate_left
            · rintro w' ⟨s0, s1, s2, s3, s4, s5, s6, s7, s8, s9, s10, s11, s12, s13, s14, s15, s16, s17⟩
              go_simp
              with_reducible rfl
            rotate_left
            · simp only [Act.put, List.setIfInBounds_toArray, List.set_cons_zero, List.set_cons_succ, i64_w, i32_w]
              rfl
            refine pure_ (i := 3) (N := some 61) (v := ?_) (a' := ?_) #[true, true, true, true, false, true, false, true, false, false, false] rfl rfl (any_of HT_.out (by kernel_rfl)) (fun _ _ _ h => h) (Or.inl ⟨by rfl, ?_⟩) ?_ ?_
            rotate_left
            · intro w'
              go_simp
              with_reducible rfl
            rotate_left
            · simp only [Act.put, List.setIfInBounds_toArray, List.set_cons_zero, List.set_cons_succ, i64_w, i32_w]
              rfl
            refine take_ (i := 4) (N := some 62) (v := ?_) (a' := ?_) #[true, true, true, true, true, true, false, true, false, false, false] rfl rfl (take_ofW HT_.out HW_.out (by kernel_rfl)) (fun _ _ _ h => h) (Or.inl ⟨by rfl, ?_⟩) hHeld ?_ ?_
            rotate_left
            · rintro w' ⟨s0, s1, s2, s3, s4, s5, s6, s7, s8, s9, s10, s11, s12, s13, s14, s15, s16, s17⟩
              go_simp
              with_reducible rfl
            rotate_left
            · simp only [Act.put, List.setIfInBounds_toArray, List.set_cons_zero, List.set_cons_succ, i64_w, i32_w]
              rfl
            refine take_ (i := 6) (N := some 64) (v := ?_) (a' := ?_) #[true, true, true, true, true, true, true, true, false, false, false] rfl rfl (take_ofW HT_.out HW_.out (by kernel_rfl)) (fun _ _ _ h => h) (Or.inl ⟨by rfl, ?_⟩) hHeld ?_ ?_
            rotate_left
            · rintro w' ⟨s0, s1, s2, s3, s4, s5, s6, s7, s8, s9, s10, s11, s12, s13, s14, s15, s16, s17⟩
              go_simp
              with_reducible rfl
            rotate_left
            · simp only [Act.put, List.setIfInBounds_toArray, List.set_cons_zero, List.set_cons_succ, i64_w, i32_w]
              rfl
            refine pure_ (i := 8) (N := some 66) (v := ?_) (a' := ?_) #[true, true, true, true, true, true, true, true, true, false, false] rfl rfl (any_of HT_.out (by kernel_rfl)) (fun _ _ _ h => h) (Or.inl ⟨by rfl, ?_⟩) ?_ ?_
            rotate_left
            · intro w'
              go_simp
              with_reducible rfl
            rotate_left
            · simp only [Act.put, List.setIfInBounds_toArray, List.set_cons_zero, List.set_cons_succ, i64_w, i32_w]
              rfl
            refine take_ (i := 9) (N := some 67) (v := ?_) (a' := ?_) #[true, true, true, true, true, true, true, true, true, true, false] rfl rfl (take_ofW HT_.out HW_.out (by kernel_rfl)) (fun _ _ _ h => h) (Or.inl ⟨by rfl, ?_⟩) hHeld ?_ ?_
            rotate_left
            · rintro w' ⟨s0, s1, s2, s3, s4, s5, s6, s7, s8, s9, s10, s11, s12, s13, s14, s15, s16, s17⟩
              go_simp
              with_reducible rfl
            rotate_left
            · simp only [Act.put, List.setIfInBounds_toArray, List.set_cons_zero, List.set_cons_succ, i64_w, i32_w]
              rfl
            refine pure_ (i := 10) (N := some 68) (v := ?_) (a' := ?_) #[true, true, true, true, true, true, true, true, true, true, true] rfl rfl (any_of HT_.out (by kernel_rfl)) (fun _ _ _ h => h) (Or.inl ⟨by rfl, ?_⟩) ?_ ?_
            rotate_left
            · intro w'
              go_simp
              with_reducible rfl
            rotate_left
            · simp only [Act.put, List.setIfInBounds_toArray, List.set_cons_zero, List.set_cons_succ, i64_w, i32_w]
              rfl
            refine done_ (done_of HT_.out (by kernel_rfl)) ?_
            try go_wp2
            go_ret
            exact ⟨by first | rfl | (simp [errW_none, errW_some] <;> rfl) | (simp [*, errW_none, errW_some] <;> rfl), by repeat (first | (with_reducible first | exact HB.out | apply Zba | apply Zbn | apply Zbd | refine Zbs ?_ GE124.out | refine Zbs ?_ GE125.out) | exact HB.out)⟩
      subst c29
      have H1 : (some false) = some r := by rw [if_pos rfl] at H; exact H
      clear H
      have H := H1
      clear H1
      obtain rfl := Option.some.inj H
      go_wp2
      go_ret
      exact ⟨by first | rfl | (simp [errW_none, errW_some] <;> rfl) | (simp [*, errW_none, errW_some] <;> rfl), by repeat (first | (with_reducible first | exact HB.out | apply Zba | apply Zbn | apply Zbd | refine Zbs ?_ GE124.out | refine Zbs ?_ GE125.out) | exact HB.out)⟩
end Go.Proofs.Ytlflbmbcjjegaaa.PFnExactClassSame
