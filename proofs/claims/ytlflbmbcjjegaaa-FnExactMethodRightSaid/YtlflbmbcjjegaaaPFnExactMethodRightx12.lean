/- Functions of the program as plain Lean functions, each with a proof that the program's call comes to the same; no condition. Written by a program of this session. -/
import Derived.Test.YtlflbmbcjjegaaaPFnExactMethodRightx0
import Derived.Test.YtlflbmbcjjegaaaPFnExactMethodRightx7
import Derived.Test.YtlflbmbcjjegaaaPFnExactMethodRightx9
import Derived.Test.YtlflbmbcjjegaaaPFnExactMethodRightx10
import Derived.Test.YtlflbmbcjjegaaaPFnExactMethodRightx11
namespace Go.Proofs.Ytlflbmbcjjegaaa.PFnExactMethodRight
open Go.RowKit Go.Proofs.YtlflbmbcjjegaaaW.PrintWords Go.Proofs.YtlflbmbcjjegaaaW.PrintLast Go.Proofs.YtlflbmbcjjegaaaW.PrintMore
open Go.Proofs.YtlflbmbcjjegaaaW.PrintWords renaming below_drew1 → Zbd, below_size → Zbz, below_step → Zbt, blk_drew → Zkd, blk_cell → Zkc, blk_frozen → Zkf, blk_below → Zkb
open Go.Proofs.YtlflbmbcjjegaaaW.PrintWords.Aside0 renaming mk → Zm
attribute [local go_sem] max2_int min2_int max_two min_two max_three min_three max_four min_four   -- for this text's walks alone
set_option linter.unusedVariables false
set_option linter.unusedSimpArgs false

/-! ### impl_MethodRight: function 36 -/
def impl_MethodRight.j0 : Nat → Bool → ByteArray → ByteArray → Bool → Bool → Bool → Int → Int → List (S156) → List (S160) → Option (Bool)
 | 0, _, _, _, _, _, _, _, _, _, _ => none
 | k + 1, x24, x426000, x426001, x426002, x426003, x426004, x426005, x426006, x426007, x426008 => if x24 = true then (some false) else (if x426003 = true then (if x426005 = 0 then (if x426006 = 0 then (if (x426007.length : Int) = 0 then (if (x426008.length : Int) = 0 then (if x426002 = true then (some false) else (if x426004 = true then (some false) else (some (x426000.toList != ([60, 105, 110, 105, 116, 62] : List UInt8))))) else (some false)) else (some false)) else (some false)) else (some false)) else ((impl_codeRight.f k x426000 x426001 x426002 x426003 x426004 x426005 x426006 x426007 x426008).bind fun t430 => (if t430 = true then ((impl_Method_slots.f k x426000 x426001 x426002 x426003 x426004 x426005 x426006 x426007 x426008).bind fun t431 => (if x426006 < t431 then (some false) else (if x426000.toList = ([60, 105, 110, 105, 116, 62] : List UInt8) then (if x426002 = true then (some false) else (if x426004 = true then (some false) else ((impl_descRead.f k x426001).bind fun bt432 => (some (bt432.2.1.toList == ([86] : List UInt8)))))) else (some true)))) else (some false))))
def impl_MethodRight.f (k : Nat) (a0_0 : ByteArray) (a0_1 : ByteArray) (a0_2 : Bool) (a0_3 : Bool) (a0_4 : Bool) (a0_5 : Int) (a0_6 : Int) (l0_7 : List (S156)) (l0_8 : List (S160)) : Option (Bool) := (impl_isMethodName.f k a0_0).bind fun t426 => (if t426 = true then ((impl_isDesc.f k a0_1).bind fun t427 => (if t427 = true then ((impl_within.f a0_5 0 16).bind fun t428 => (if t428 = true then ((impl_within.f a0_6 0 16).bind fun t429 => (impl_MethodRight.j0 k (!t429) a0_0 a0_1 a0_2 a0_3 a0_4 a0_5 a0_6 l0_7 l0_8)) else (impl_MethodRight.j0 k true a0_0 a0_1 a0_2 a0_3 a0_4 a0_5 a0_6 l0_7 l0_8))) else (impl_MethodRight.j0 k true a0_0 a0_1 a0_2 a0_3 a0_4 a0_5 a0_6 l0_7 l0_8))) else (impl_MethodRight.j0 k true a0_0 a0_1 a0_2 a0_3 a0_4 a0_5 a0_6 l0_7 l0_8))
theorem impl_MethodRight.mono_l : ∀ k, (∀ y0 y1 y2 y3 y4 y5 y6 y7 y8 y9, LeO (impl_MethodRight.j0 k y0 y1 y2 y3 y4 y5 y6 y7 y8 y9) (impl_MethodRight.j0 (k + 1) y0 y1 y2 y3 y4 y5 y6 y7 y8 y9))
 | 0 => fun _ _ _ _ _ _ _ _ _ _ r h => by simp [impl_MethodRight.j0] at h
 | k + 1 => by
  have ih0 := impl_MethodRight.mono_l k
  · intro y0 y1 y2 y3 y4 y5 y6 y7 y8 y9
    unfold impl_MethodRight.j0
    repeat' first
    | (with_reducible exact ih0 _ _ _ _ _ _ _ _ _ _)
    | (with_reducible exact impl_Method_slots.mono _ _ _ _ _ _ _ _ _ _)
    | (with_reducible exact impl_codeRight.mono _ _ _ _ _ _ _ _ _ _)
    | (with_reducible exact impl_descRead.mono _ _)
    | (with_reducible exact impl_isDesc.mono _ _)
    | (with_reducible exact impl_isMethodName.mono _ _)
    | (with_reducible exact LeO.refl _)
    | (with_reducible exact LeO.none _)
    | (with_reducible refine LeO.ite ?_ ?_)
    | (with_reducible refine LeO.bind ?_ (fun _ => ?_))
    | exact ih0 _ _ _ _ _ _ _ _ _ _
    | exact impl_Method_slots.mono _ _ _ _ _ _ _ _ _ _
    | exact impl_codeRight.mono _ _ _ _ _ _ _ _ _ _
    | exact impl_descRead.mono _ _
    | exact impl_isDesc.mono _ _
    | exact impl_isMethodName.mono _ _
    | exact LeO.none _
    | refine LeO.ite ?_ ?_
    | refine LeO.bind ?_ (fun _ => ?_)
theorem impl_MethodRight.mono : ∀ a0 a1 a2 a3 a4 a5 a6 a7 a8 k, LeO (impl_MethodRight.f k a0 a1 a2 a3 a4 a5 a6 a7 a8) (impl_MethodRight.f (k + 1) a0 a1 a2 a3 a4 a5 a6 a7 a8) := by
 intro a0 a1 a2 a3 a4 a5 a6 a7 a8 k
 have ih0 := impl_MethodRight.mono_l k
 unfold impl_MethodRight.f
 repeat' first
  | (with_reducible exact ih0 _ _ _ _ _ _ _ _ _ _)
  | (with_reducible exact impl_Method_slots.mono _ _ _ _ _ _ _ _ _ _)
  | (with_reducible exact impl_codeRight.mono _ _ _ _ _ _ _ _ _ _)
  | (with_reducible exact impl_descRead.mono _ _)
  | (with_reducible exact impl_isDesc.mono _ _)
  | (with_reducible exact impl_isMethodName.mono _ _)
  | (with_reducible exact LeO.refl _)
  | (with_reducible exact LeO.none _)
  | (with_reducible refine LeO.ite ?_ ?_)
  | (with_reducible refine LeO.bind ?_ (fun _ => ?_))
  | exact ih0 _ _ _ _ _ _ _ _ _ _
  | exact impl_Method_slots.mono _ _ _ _ _ _ _ _ _ _
  | exact impl_codeRight.mono _ _ _ _ _ _ _ _ _ _
  | exact impl_descRead.mono _ _
  | exact impl_isDesc.mono _ _
  | exact impl_isMethodName.mono _ _
  | exact LeO.none _
  | refine LeO.ite ?_ ?_
  | refine LeO.bind ?_ (fun _ => ?_)
def impl_MethodRight.T5 : Bool × List (List Nat × List Nat) := (true, [([], []), ([0], [0]), ([1], [1]), ([2, 1], [2]), ([3], [3]), ([4, 3], [3, 4]), ([3], [3]), ([6, 3, 3], [3, 6]), ([5, 7, 3], [3, 5, 7]), ([3, 8], [3, 8])])
def impl_MethodRight.B5 : List Nat := [0, 1, 3, 7, 15, 31, 15, 79, 255, 511]
theorem impl_MethodRight.tab5 : rtab .any (opsOf Try.f36 5) = impl_MethodRight.T5 := by kernel_rfl
theorem impl_MethodRight.bits5 : waitsOk impl_MethodRight.T5.2 impl_MethodRight.B5 = true := by kernel_rfl
set_option maxHeartbeats 8000000 in
set_option maxRecDepth 100000 in
theorem impl_MethodRight.calls (k : Nat) (a0_0 : ByteArray) (a0_1 : ByteArray) (a0_2 : Bool) (a0_3 : Bool) (a0_4 : Bool) (a0_5 : Int) (a0_6 : Int) (A0_7 : Option Addr) (c0_7 : Nat) (l0_7 : List (S156)) (A0_8 : Option Addr) (c0_8 : Nat) (l0_8 : List (S160)) (r : Bool) (w : World) (hr0_7 : Kd.C k156 w A0_7 l0_7.length l0_7) (hc0_7 : l0_7.length ≤ c0_7) (hr0_8 : Kd.C k160 w A0_8 l0_8.length l0_8) (hc0_8 : l0_8.length ≤ c0_8) (h : impl_MethodRight.f k a0_0 a0_1 a0_2 a0_3 a0_4 a0_5 a0_6 l0_7 l0_8 = some r) :
 Calls Try.prog 36 #[.agg #[.string a0_0, .string a0_1, .bool a0_2, .bool a0_3, .bool a0_4, .int .i64 a0_5, .int .i64 a0_6, .slice A0_7 l0_7.length c0_7, .slice A0_8 l0_8.length c0_8]] w fun e w' => e = .returned (.bool r) ∧ Below w.heap.size w w' := by
 have hu84 := Try.underlying84
 have hf151_0 : ∀ (a0_ a1_ a2_ a3_ : Value) (W_ : World), (Instr.field 151 (.agg #[a0_, a1_, a2_, a3_]) 0).run Try.prog W_ = .ok (.agg #[a0_, a1_]) W_ := fun _ _ _ _ _ => by rfl
 have hf149_1 : ∀ (a0_ a1_ : Value) (W_ : World), (Instr.field 149 (.agg #[a0_, a1_]) 1).run Try.prog W_ = .ok (a1_) W_ := fun _ _ _ => by rfl
 have HR0_7 := Zm hr0_7
 have HC0_7 := Zm hc0_7
 clear hr0_7 hc0_7
 have HR0_8 := Zm hr0_8
 have HC0_8 := Zm hc0_8
 clear hr0_8 hc0_8
 have HB := Zm (Below.refl w.heap.size w)
 have H : ((impl_isMethodName.f k a0_0).bind fun t426 => (if t426 = true then ((impl_isDesc.f k a0_1).bind fun t427 => (if t427 = true then ((impl_within.f a0_5 0 16).bind fun t428 => (if t428 = true then ((impl_within.f a0_6 0 16).bind fun t429 => (impl_MethodRight.j0 k (!t429) a0_0 a0_1 a0_2 a0_3 a0_4 a0_5 a0_6 l0_7 l0_8)) else (impl_MethodRight.j0 k true a0_0 a0_1 a0_2 a0_3 a0_4 a0_5 a0_6 l0_7 l0_8))) else (impl_MethodRight.j0 k true a0_0 a0_1 a0_2 a0_3 a0_4 a0_5 a0_6 l0_7 l0_8))) else (impl_MethodRight.j0 k true a0_0 a0_1 a0_2 a0_3 a0_4 a0_5 a0_6 l0_7 l0_8))) = some r := h
 clear h
 have HC2 := Zm H
 clear H
 go_enter Try.func36, Try.ntmps36
 go_upto_region 1 with (first | ((with_reducible refine gate_dst (N := 1) rfl ?_); (try (refine gate_guard (by rfl) ?_; dsimp only)); refine box_event ?hg (N := 1) ?hd (cs := #[.string a0_0, .string a0_1, .bool a0_2, .bool a0_3, .bool a0_4, .int .i64 a0_5, .int .i64 a0_6, .slice A0_7 l0_7.length c0_7, .slice A0_8 l0_8.length c0_8]) (t := 84) ?hr ?_; (case hd => rfl); (case hg => rfl); (case hr => first | (go_simp; done) | (go_simp; rfl)); intro gb425 hg w3 hbox hb; have n0_ := (⟨Zm (Zbt (bk HB.out) hb), Zm (hbox), Zm ((by rw [hg]; exact (Zbz (bk HB.out)) : w.heap.size ≤ gb425)), Zm ((by rw [hg]; exact (Zbz (bk HB.out)) : w.heap.size ≤ gb425))⟩ : _ ∧ _ ∧ _ ∧ _); clear HB; obtain ⟨HB, BK425, GW425, GE425⟩ := n0_; clear hb hbox hg))
 (try simp only [Act.put, List.setIfInBounds_toArray, List.set_cons_zero, List.set_cons_succ])
 go_cut [24] (fun v24 wc => ∃ (kq : Nat) (x24_1 : Bool), v24 = .bool x24_1 ∧ Aside0 (impl_MethodRight.j0 kq x24_1 a0_0 a0_1 a0_2 a0_3 a0_4 a0_5 a0_6 l0_7 l0_8 = some r) ∧ Aside0 (kq ≤ k) ∧ Aside0 (wc.heap[gb425]? = some (.cells #[.string a0_0, .string a0_1, .bool a0_2, .bool a0_3, .bool a0_4, .int .i64 a0_5, .int .i64 a0_6, (.slice A0_7 l0_7.length c0_7), (.slice A0_8 l0_8.length c0_8)] 84 (0, 0))) ∧ Aside0 (Below w.heap.size w wc))
 case first =>
  have H := HC2.out
  clear HC2
  replace H := Option.bind_eq_some_iff.mp H
  obtain ⟨t426, A40, H⟩ := H
  (try dsimp only at H)
  have A4 := Zm A40
  clear A40
  by_cases c5 : t426 = true
  rotate_left
  · replace c5 := Bool.eq_false_iff.mpr c5
    subst c5
    rw [if_neg (show ¬ (false = true) by decide)] at H
    have H' := Zm H
    clear H
    obtain ⟨hcz19_0, hcz19_1, hcz19_2, hcz19_3, hcz19_4, hcz19_5, hcz19_6, hcz19_7, hcz19_8⟩ := cz9 BK425.out
    go_wp2_with (first | ((with_reducible refine gate_callee (f := 103) rfl ?_); refine goesL_ (some 5) rfl rfl Try.func103 (by kernel_rfl) rfl #[.string a0_0] rfl (by (try simp only [List.map_toArray, List.map_cons, List.map_nil]); first | done | rfl | (simp only [List.length_drop, List.length_take]; rfl)) ?_; (with_reducible refine (impl_isMethodName.calls k a0_0 false _ A4.out).mono ?_); rintro e w' ⟨rfl, ⟨nd, rfl⟩⟩; refine ⟨_, rfl, ?_⟩))
    go_meet
    case rel => exact ⟨_, (true), (by first | rfl | (simp; done) | (simp [*]; done)), H', ⟨by first | omega | exact Nat.le_refl _⟩, ⟨pk BK425.out⟩, ⟨bk HB.out⟩⟩
  subst c5
  rw [if_pos rfl] at H
  replace H := Option.bind_eq_some_iff.mp H
  obtain ⟨t427, A60, H⟩ := H
  (try dsimp only at H)
  have A6 := Zm A60
  clear A60
  by_cases c7 : t427 = true
  rotate_left
  · replace c7 := Bool.eq_false_iff.mpr c7
    subst c7
    rw [if_neg (show ¬ (false = true) by decide)] at H
    have H' := Zm H
    clear H
    obtain ⟨hcz17_0, hcz17_1, hcz17_2, hcz17_3, hcz17_4, hcz17_5, hcz17_6, hcz17_7, hcz17_8⟩ := cz9 BK425.out
    go_wp2_with (first | ((with_reducible refine gate_callee (f := 103) rfl ?_); refine goesL_ (some 5) rfl rfl Try.func103 (by kernel_rfl) rfl #[.string a0_0] rfl (by (try simp only [List.map_toArray, List.map_cons, List.map_nil]); first | done | rfl | (simp only [List.length_drop, List.length_take]; rfl)) ?_; (with_reducible refine (impl_isMethodName.calls k a0_0 true _ A4.out).mono ?_); rintro e w' ⟨rfl, ⟨nd, rfl⟩⟩; refine ⟨_, rfl, ?_⟩) | (go_at_call 104; (first | (with_reducible refine (impl_isDesc.calls k a0_1 false _ A6.out).mono ?_) | (with_reducible refine (calls_of_args ?_ (impl_isDesc.calls k a0_1 false _ A6.out)).mono ?_; focus (simp [*]; done))); rintro e w18 ⟨rfl, hb⟩; have n0_ := (⟨Zm (Zkb (pk BK425.out) hb), Zm (Zbt (bk HB.out) hb)⟩ : _ ∧ _); clear BK425 HB; obtain ⟨BK425, HB⟩ := n0_; (try clear hb); (try clear hb2); (try clear hk); (try clear hi)))
    go_meet
    case rel => exact ⟨_, (true), (by first | rfl | (simp; done) | (simp [*]; done)), H', ⟨by first | omega | exact Nat.le_refl _⟩, ⟨pk BK425.out⟩, ⟨bk HB.out⟩⟩
  subst c7
  rw [if_pos rfl] at H
  replace H := Option.bind_eq_some_iff.mp H
  obtain ⟨t428, A80, H⟩ := H
  (try dsimp only at H)
  have A8 := Zm A80
  clear A80
  by_cases c9 : t428 = true
  rotate_left
  · replace c9 := Bool.eq_false_iff.mpr c9
    subst c9
    rw [if_neg (show ¬ (false = true) by decide)] at H
    have H' := Zm H
    clear H
    obtain ⟨hcz14_0, hcz14_1, hcz14_2, hcz14_3, hcz14_4, hcz14_5, hcz14_6, hcz14_7, hcz14_8⟩ := cz9 BK425.out
    go_wp2_with (first | ((with_reducible refine gate_callee (f := 103) rfl ?_); refine goesL_ (some 5) rfl rfl Try.func103 (by kernel_rfl) rfl #[.string a0_0] rfl (by (try simp only [List.map_toArray, List.map_cons, List.map_nil]); first | done | rfl | (simp only [List.length_drop, List.length_take]; rfl)) ?_; (with_reducible refine (impl_isMethodName.calls k a0_0 true _ A4.out).mono ?_); rintro e w' ⟨rfl, ⟨nd, rfl⟩⟩; refine ⟨_, rfl, ?_⟩) | (go_at_call 104; (first | (with_reducible refine (impl_isDesc.calls k a0_1 true _ A6.out).mono ?_) | (with_reducible refine (calls_of_args ?_ (impl_isDesc.calls k a0_1 true _ A6.out)).mono ?_; focus (simp [*]; done))); rintro e w15 ⟨rfl, hb⟩; have n0_ := (⟨Zm (Zkb (pk BK425.out) hb), Zm (Zbt (bk HB.out) hb)⟩ : _ ∧ _); clear BK425 HB; obtain ⟨BK425, HB⟩ := n0_; (try clear hb); (try clear hb2); (try clear hk); (try clear hi); obtain ⟨hcz16_0, hcz16_1, hcz16_2, hcz16_3, hcz16_4, hcz16_5, hcz16_6, hcz16_7, hcz16_8⟩ := cz9 BK425.out; have hfz16_8 := Zkf BK425.out 8) | (go_at_call 44; (first | (with_reducible refine (impl_within.calls a0_5 0 16 false _ A8.out).mono ?_) | (with_reducible refine (calls_of_args ?_ (impl_within.calls a0_5 0 16 false _ A8.out)).mono ?_; focus (simp [*]; done))); rintro e w' ⟨rfl, ⟨nd, rfl⟩⟩))
    go_meet
    case rel => exact ⟨_, (true), (by first | rfl | (simp; done) | (simp [*]; done)), H', ⟨by first | omega | exact Nat.le_refl _⟩, ⟨pk BK425.out⟩, ⟨bk HB.out⟩⟩
  subst c9
  rw [if_pos rfl] at H
  replace H := Option.bind_eq_some_iff.mp H
  obtain ⟨t429, A100, H⟩ := H
  (try dsimp only at H)
  have A10 := Zm A100
  clear A100
  have H' := Zm H
  clear H
  obtain ⟨hcz11_0, hcz11_1, hcz11_2, hcz11_3, hcz11_4, hcz11_5, hcz11_6, hcz11_7, hcz11_8⟩ := cz9 BK425.out
  go_wp2_with (first | ((with_reducible refine gate_callee (f := 103) rfl ?_); refine goesL_ (some 5) rfl rfl Try.func103 (by kernel_rfl) rfl #[.string a0_0] rfl (by (try simp only [List.map_toArray, List.map_cons, List.map_nil]); first | done | rfl | (simp only [List.length_drop, List.length_take]; rfl)) ?_; (with_reducible refine (impl_isMethodName.calls k a0_0 true _ A4.out).mono ?_); rintro e w' ⟨rfl, ⟨nd, rfl⟩⟩; refine ⟨_, rfl, ?_⟩) | (go_at_call 104; (first | (with_reducible refine (impl_isDesc.calls k a0_1 true _ A6.out).mono ?_) | (with_reducible refine (calls_of_args ?_ (impl_isDesc.calls k a0_1 true _ A6.out)).mono ?_; focus (simp [*]; done))); rintro e w12 ⟨rfl, hb⟩; have n0_ := (⟨Zm (Zkb (pk BK425.out) hb), Zm (Zbt (bk HB.out) hb)⟩ : _ ∧ _); clear BK425 HB; obtain ⟨BK425, HB⟩ := n0_; (try clear hb); (try clear hb2); (try clear hk); (try clear hi); obtain ⟨hcz13_0, hcz13_1, hcz13_2, hcz13_3, hcz13_4, hcz13_5, hcz13_6, hcz13_7, hcz13_8⟩ := cz9 BK425.out; have hfz13_8 := Zkf BK425.out 8) | (go_at_call 44; (first | (with_reducible refine (impl_within.calls a0_5 0 16 true _ A8.out).mono ?_) | (with_reducible refine (calls_of_args ?_ (impl_within.calls a0_5 0 16 true _ A8.out)).mono ?_; focus (simp [*]; done))); rintro e w' ⟨rfl, ⟨nd, rfl⟩⟩) | (go_at_call 44; (first | (with_reducible refine (impl_within.calls a0_6 0 16 t429 _ A10.out).mono ?_) | (with_reducible refine (calls_of_args ?_ (impl_within.calls a0_6 0 16 t429 _ A10.out)).mono ?_; focus (simp [*]; done))); rintro e w' ⟨rfl, ⟨nd, rfl⟩⟩))
  go_meet
  case rel => exact ⟨_, (!t429), (by first | rfl | (simp; done) | (simp [*]; done)), H', ⟨by first | omega | exact Nat.le_refl _⟩, ⟨pk BK425.out⟩, ⟨bk HB.out⟩⟩
 case rest =>
  clear HC2
  obtain ⟨kq, x24_1, rfl, HA, HJ1, BK425, HB⟩ := hcut
  cases kq with
  | zero => exact absurd HA.out (by simp [impl_MethodRight.j0])
  | succ kj1 =>
   have H := HA.out
   clear HA
   simp only [impl_MethodRight.j0] at H
   by_cases c20 : x24_1 = true
   rotate_left
   · replace c20 := Bool.eq_false_iff.mpr c20
     subst c20
     rw [if_neg (show ¬ (false = true) by decide)] at H
     by_cases c21 : a0_3 = true
     rotate_left
     · replace c21 := Bool.eq_false_iff.mpr c21
       subst c21
       rw [if_neg (show ¬ (false = true) by decide)] at H
       replace H := Option.bind_eq_some_iff.mp H
       obtain ⟨t430, A350, H⟩ := H
       (try dsimp only at H)
       have A35 := Zm A350
       clear A350
       by_cases c36 : t430 = true
       rotate_left
       · replace c36 := Bool.eq_false_iff.mpr c36
         subst c36
         rw [if_neg (show ¬ (false = true) by decide)] at H
         obtain rfl := Option.some.inj H
         obtain ⟨hcz53_0, hcz53_1, hcz53_2, hcz53_3, hcz53_4, hcz53_5, hcz53_6, hcz53_7, hcz53_8⟩ := cz9 BK425.out
         try go_wp2
         have n0_ := (⟨Zm (Zkd BK425.out), Zm (Zbd HB.out)⟩ : _ ∧ _)
         clear BK425 HB
         obtain ⟨BK425, HB⟩ := n0_
         refine start_ (n := 10) (S := fun w' => w'.cell? ⟨gb425, 0, none⟩ = some (.string a0_0) ∧ w'.cell? ⟨gb425, 1, none⟩ = some (.string a0_1) ∧ w'.cell? ⟨gb425, 2, none⟩ = some (.bool a0_2) ∧ w'.cell? ⟨gb425, 3, none⟩ = some (.bool false) ∧ w'.cell? ⟨gb425, 4, none⟩ = some (.bool a0_4) ∧ w'.cell? ⟨gb425, 5, none⟩ = some (.int .i64 a0_5) ∧ w'.cell? ⟨gb425, 6, none⟩ = some (.int .i64 a0_6) ∧ w'.cell? ⟨gb425, 7, none⟩ = some (.slice A0_7 l0_7.length c0_7) ∧ w'.cell? ⟨gb425, 8, none⟩ = some (.slice A0_8 l0_8.length c0_8)) (ds := []) #[false, false, false, false, false, false, false, false, false, false] (by kernel_rfl) rfl rfl ⟨(Zkc BK425.out 0).trans rfl, (Zkc BK425.out 1).trans rfl, (Zkc BK425.out 2).trans rfl, (Zkc BK425.out 3).trans rfl, (Zkc BK425.out 4).trans rfl, (Zkc BK425.out 5).trans rfl, (Zkc BK425.out 6).trans rfl, (Zkc BK425.out 7).trans rfl, (Zkc BK425.out 8).trans rfl⟩ (fun hHeld => ?_); refine with_tabW impl_MethodRight.tab5 impl_MethodRight.bits5 (fun HT_ HW_ => ?_)
         generalize wc.drew = w54 at BK425 HB hHeld ⊢
         refine take_ (i := 0) (N := some 62) (v := ?_) (a' := ?_) #[true, false, false, false, false, false, false, false, false, false] rfl rfl (take_ofW HT_.out HW_.out (by kernel_rfl)) (fun _ _ _ h => h) (Or.inl ⟨by rfl, ?_⟩) hHeld ?_ ?_
         rotate_left
         · rintro w' ⟨s0, s1, s2, s3, s4, s5, s6, s7, s8⟩
           go_simp
           with_reducible rfl
         rotate_left
         · simp only [Act.put, List.setIfInBounds_toArray, List.set_cons_zero, List.set_cons_succ, i64_w, i32_w]
           rfl
         refine one_ (i := 1) (N := some 63) #[true, true, false, false, false, false, false, false, false, false] rfl rfl (one_of HT_.out (by kernel_rfl)) (by decide) (fun K hK => ?_)
         refine goes_ Try.func105 (by kernel_rfl) rfl #[.agg #[.string a0_0, .string a0_1, .bool a0_2, .bool false, .bool a0_4, .int .i64 a0_5, .int .i64 a0_6, .slice A0_7 l0_7.length c0_7, .slice A0_8 l0_8.length c0_8]] (by rfl) rfl rfl (by (try simp only [List.map_toArray, List.map_cons, List.map_nil]); first | done | rfl | (simp only [List.length_drop, List.length_take]; rfl)) ?_
         with_reducible refine (impl_codeRight.calls kj1 a0_0 a0_1 a0_2 false a0_4 a0_5 a0_6 _ _ l0_7 _ _ l0_8 false _ ?side1 ?side2 ?side3 ?side4 A35.out).mono ?_
         (case side1 => exact pc (Kd.C_below HR0_7.out HB.out))
         (case side2 => exact HC0_7.out)
         (case side3 => exact pc (Kd.C_below HR0_8.out HB.out))
         (case side4 => exact HC0_8.out)
         rintro e w55 ⟨rfl, hb⟩
         refine ⟨_, rfl, ?_⟩
         have n0_ := Zm (Zkb (pk BK425.out) hb)
         have n1_ := Zm (Zbt (bk HB.out) hb)
         clear BK425
         clear HB
         have BK425 := n0_
         have HB := n1_
         clear n0_ n1_
         refine hK.out _ _ ⟨(Zkc BK425.out 0).trans rfl, (Zkc BK425.out 1).trans rfl, (Zkc BK425.out 2).trans rfl, (Zkc BK425.out 3).trans rfl, (Zkc BK425.out 4).trans rfl, (Zkc BK425.out 5).trans rfl, (Zkc BK425.out 6).trans rfl, (Zkc BK425.out 7).trans rfl, (Zkc BK425.out 8).trans rfl⟩ (fun hHeld => ?_)
         clear hK K
         refine norm_ (a' := ?_) ?_ ?_
         rotate_left
         · show Act.put _ (some 63) _ = _
           simp only [Act.put, List.setIfInBounds_toArray, List.set_cons_zero, List.set_cons_succ, i64_w, i32_w]
           rfl
         refine pure_ (i := 2) (N := some 64) (v := ?_) (a' := ?_) #[true, true, true, false, false, false, false, false, false, false] rfl rfl (any_of HT_.out (by kernel_rfl)) (fun _ _ _ h => h) (Or.inl ⟨by rfl, ?_⟩) ?_ ?_
         rotate_left
         · intro w'
           go_simp
           with_reducible rfl
         rotate_left
         · simp only [Act.put, List.setIfInBounds_toArray, List.set_cons_zero, List.set_cons_succ, i64_w, i32_w]
           rfl
         refine pure_ (i := 3) (N := some 65) (v := ?_) (a' := ?_) #[true, true, true, true, false, false, false, false, false, false] rfl rfl (any_of HT_.out (by kernel_rfl)) (fun _ _ _ h => h) (Or.inl ⟨by rfl, ?_⟩) ?_ ?_
         rotate_left
         · intro w'
           go_simp
           with_reducible rfl
         rotate_left
         · simp only [Act.put, List.setIfInBounds_toArray, List.set_cons_zero, List.set_cons_succ, i64_w, i32_w]
           rfl
         refine pure_ (i := 4) (N := some 66) (v := undef) (a' := ?_) #[true, true, true, true, true, false, false, false, false, false] rfl rfl (any_of HT_.out (by kernel_rfl)) (fun _ _ _ h => h) (Or.inr ⟨by rfl, rfl⟩) ?_ ?_
         rotate_left
         · simp only [Act.put, List.setIfInBounds_toArray, List.set_cons_zero, List.set_cons_succ, i64_w, i32_w]
           rfl
         refine pure_ (i := 5) (N := some 67) (v := undef) (a' := ?_) #[true, true, true, true, true, true, false, false, false, false] rfl rfl (any_of HT_.out (by kernel_rfl)) (fun _ _ _ h => h) (Or.inr ⟨by rfl, rfl⟩) ?_ ?_
         rotate_left
         · simp only [Act.put, List.setIfInBounds_toArray, List.set_cons_zero, List.set_cons_succ, i64_w, i32_w]
           rfl
         refine pure_ (i := 6) (N := some 68) (v := undef) (a' := ?_) #[true, true, true, true, true, true, true, false, false, false] rfl rfl (any_of HT_.out (by kernel_rfl)) (fun _ _ _ h => h) (Or.inr ⟨by rfl, rfl⟩) ?_ ?_
         rotate_left
         · simp only [Act.put, List.setIfInBounds_toArray, List.set_cons_zero, List.set_cons_succ, i64_w, i32_w]
           rfl
         refine pure_ (i := 7) (N := some 69) (v := undef) (a' := ?_) #[true, true, true, true, true, true, true, true, false, false] rfl rfl (any_of HT_.out (by kernel_rfl)) (fun _ _ _ h => h) (Or.inr ⟨by rfl, rfl⟩) ?_ ?_
         rotate_left
         · simp only [Act.put, List.setIfInBounds_toArray, List.set_cons_zero, List.set_cons_succ, i64_w, i32_w]
           rfl
         refine pure_ (i := 8) (N := some 70) (v := undef) (a' := ?_) #[true, true, true, true, true, true, true, true, true, false] rfl rfl (any_of HT_.out (by kernel_rfl)) (fun _ _ _ h => h) (Or.inr ⟨by rfl, rfl⟩) ?_ ?_
         rotate_left
         · simp only [Act.put, List.setIfInBounds_toArray, List.set_cons_zero, List.set_cons_succ, i64_w, i32_w]
           rfl
         refine pure_ (i := 9) (N := some 71) (v := ?_) (a' := ?_) #[true, true, true, true, true, true, true, true, true, true] rfl rfl (any_of HT_.out (by kernel_rfl)) (fun _ _ _ h => h) (Or.inl ⟨by rfl, ?_⟩) ?_ ?_
         rotate_left
         · intro w'
           go_simp
           with_reducible rfl
         rotate_left
         · simp only [Act.put, List.setIfInBounds_toArray, List.set_cons_zero, List.set_cons_succ, i64_w, i32_w]
           rfl
         refine done_ (done_of HT_.out (by kernel_rfl)) ?_
         try go_wp2
         go_ret
         exact ⟨by first | rfl | (simp [*] <;> rfl), bk HB.out⟩

       subst c36
       rw [if_pos rfl] at H
       replace H := Option.bind_eq_some_iff.mp H
       obtain ⟨t431, A370, H⟩ := H
       (try dsimp only at H)
       have A37 := Zm A370
       clear A370
       have HC38 := Zm H
       clear H
       obtain ⟨hcz39_0, hcz39_1, hcz39_2, hcz39_3, hcz39_4, hcz39_5, hcz39_6, hcz39_7, hcz39_8⟩ := cz9 BK425.out
       try go_wp2
       have n0_ := (⟨Zm (Zkd BK425.out), Zm (Zbd HB.out)⟩ : _ ∧ _)
       clear BK425 HB
       obtain ⟨BK425, HB⟩ := n0_
       refine start_ (n := 10) (S := fun w' => w'.cell? ⟨gb425, 0, none⟩ = some (.string a0_0) ∧ w'.cell? ⟨gb425, 1, none⟩ = some (.string a0_1) ∧ w'.cell? ⟨gb425, 2, none⟩ = some (.bool a0_2) ∧ w'.cell? ⟨gb425, 3, none⟩ = some (.bool false) ∧ w'.cell? ⟨gb425, 4, none⟩ = some (.bool a0_4) ∧ w'.cell? ⟨gb425, 5, none⟩ = some (.int .i64 a0_5) ∧ w'.cell? ⟨gb425, 6, none⟩ = some (.int .i64 a0_6) ∧ w'.cell? ⟨gb425, 7, none⟩ = some (.slice A0_7 l0_7.length c0_7) ∧ w'.cell? ⟨gb425, 8, none⟩ = some (.slice A0_8 l0_8.length c0_8)) (ds := []) #[false, false, false, false, false, false, false, false, false, false] (by kernel_rfl) rfl rfl ⟨(Zkc BK425.out 0).trans rfl, (Zkc BK425.out 1).trans rfl, (Zkc BK425.out 2).trans rfl, (Zkc BK425.out 3).trans rfl, (Zkc BK425.out 4).trans rfl, (Zkc BK425.out 5).trans rfl, (Zkc BK425.out 6).trans rfl, (Zkc BK425.out 7).trans rfl, (Zkc BK425.out 8).trans rfl⟩ (fun hHeld => ?_); refine with_tabW impl_MethodRight.tab5 impl_MethodRight.bits5 (fun HT_ HW_ => ?_)
       generalize wc.drew = w40 at BK425 HB hHeld ⊢
       refine take_ (i := 0) (N := some 62) (v := ?_) (a' := ?_) #[true, false, false, false, false, false, false, false, false, false] rfl rfl (take_ofW HT_.out HW_.out (by kernel_rfl)) (fun _ _ _ h => h) (Or.inl ⟨by rfl, ?_⟩) hHeld ?_ ?_
       rotate_left
       · rintro w' ⟨s0, s1, s2, s3, s4, s5, s6, s7, s8⟩
         go_simp
         with_reducible rfl
       rotate_left
       · simp only [Act.put, List.setIfInBounds_toArray, List.set_cons_zero, List.set_cons_succ, i64_w, i32_w]
         rfl
       refine one_ (i := 1) (N := some 63) #[true, true, false, false, false, false, false, false, false, false] rfl rfl (one_of HT_.out (by kernel_rfl)) (by decide) (fun K hK => ?_)
       refine goes_ Try.func105 (by kernel_rfl) rfl #[.agg #[.string a0_0, .string a0_1, .bool a0_2, .bool false, .bool a0_4, .int .i64 a0_5, .int .i64 a0_6, .slice A0_7 l0_7.length c0_7, .slice A0_8 l0_8.length c0_8]] (by rfl) rfl rfl (by (try simp only [List.map_toArray, List.map_cons, List.map_nil]); first | done | rfl | (simp only [List.length_drop, List.length_take]; rfl)) ?_
       with_reducible refine (impl_codeRight.calls kj1 a0_0 a0_1 a0_2 false a0_4 a0_5 a0_6 _ _ l0_7 _ _ l0_8 true _ ?side1 ?side2 ?side3 ?side4 A35.out).mono ?_
       (case side1 => exact pc (Kd.C_below HR0_7.out HB.out))
       (case side2 => exact HC0_7.out)
       (case side3 => exact pc (Kd.C_below HR0_8.out HB.out))
       (case side4 => exact HC0_8.out)
       rintro e w41 ⟨rfl, hb⟩
       refine ⟨_, rfl, ?_⟩
       have n0_ := Zm (Zkb (pk BK425.out) hb)
       have n1_ := Zm (Zbt (bk HB.out) hb)
       clear BK425
       clear HB
       have BK425 := n0_
       have HB := n1_
       clear n0_ n1_
       refine hK.out _ _ ⟨(Zkc BK425.out 0).trans rfl, (Zkc BK425.out 1).trans rfl, (Zkc BK425.out 2).trans rfl, (Zkc BK425.out 3).trans rfl, (Zkc BK425.out 4).trans rfl, (Zkc BK425.out 5).trans rfl, (Zkc BK425.out 6).trans rfl, (Zkc BK425.out 7).trans rfl, (Zkc BK425.out 8).trans rfl⟩ (fun hHeld => ?_)
       clear hK K
       refine norm_ (a' := ?_) ?_ ?_
       rotate_left
       · show Act.put _ (some 63) _ = _
         simp only [Act.put, List.setIfInBounds_toArray, List.set_cons_zero, List.set_cons_succ, i64_w, i32_w]
         rfl
       refine pure_ (i := 2) (N := some 64) (v := ?_) (a' := ?_) #[true, true, true, false, false, false, false, false, false, false] rfl rfl (any_of HT_.out (by kernel_rfl)) (fun _ _ _ h => h) (Or.inl ⟨by rfl, ?_⟩) ?_ ?_
       rotate_left
       · intro w'
         go_simp
         with_reducible rfl
       rotate_left
       · simp only [Act.put, List.setIfInBounds_toArray, List.set_cons_zero, List.set_cons_succ, i64_w, i32_w]
         rfl
       refine pure_ (i := 3) (N := some 65) (v := ?_) (a' := ?_) #[true, true, true, true, false, false, false, false, false, false] rfl rfl (any_of HT_.out (by kernel_rfl)) (fun _ _ _ h => h) (Or.inl ⟨by rfl, ?_⟩) ?_ ?_
       rotate_left
       · intro w'
         go_simp
         with_reducible rfl
       rotate_left
       · simp only [Act.put, List.setIfInBounds_toArray, List.set_cons_zero, List.set_cons_succ, i64_w, i32_w]
         rfl
       refine pure_ (i := 4) (N := some 66) (v := ?_) (a' := ?_) #[true, true, true, true, true, false, false, false, false, false] rfl rfl (any_of HT_.out (by kernel_rfl)) (fun _ _ _ h => h) (Or.inl ⟨by rfl, ?_⟩) ?_ ?_
       rotate_left
       · intro w'
         go_simp
         with_reducible rfl
       rotate_left
       · simp only [Act.put, List.setIfInBounds_toArray, List.set_cons_zero, List.set_cons_succ, i64_w, i32_w]
         rfl
       refine take_ (i := 5) (N := some 67) (v := ?_) (a' := ?_) #[true, true, true, true, true, true, false, false, false, false] rfl rfl (take_ofW HT_.out HW_.out (by kernel_rfl)) (fun _ _ _ h => h) (Or.inl ⟨by rfl, ?_⟩) hHeld ?_ ?_
       rotate_left
       · rintro w' ⟨s0, s1, s2, s3, s4, s5, s6, s7, s8⟩
         go_simp
         with_reducible rfl
       rotate_left
       · simp only [Act.put, List.setIfInBounds_toArray, List.set_cons_zero, List.set_cons_succ, i64_w, i32_w]
         rfl
       refine take_ (i := 6) (N := some 68) (v := ?_) (a' := ?_) #[true, true, true, true, true, true, true, false, false, false] rfl rfl (take_ofW HT_.out HW_.out (by kernel_rfl)) (fun _ _ _ h => h) (Or.inl ⟨by rfl, ?_⟩) hHeld ?_ ?_
       rotate_left
       · rintro w' ⟨s0, s1, s2, s3, s4, s5, s6, s7, s8⟩
         go_simp
         with_reducible rfl
       rotate_left
       · simp only [Act.put, List.setIfInBounds_toArray, List.set_cons_zero, List.set_cons_succ, i64_w, i32_w]
         rfl
       refine one_ (i := 7) (N := some 69) #[true, true, true, true, true, true, true, true, false, false] rfl rfl (one_of HT_.out (by kernel_rfl)) (by decide) (fun K hK => ?_)
       refine goes_ Try.func106 (by kernel_rfl) rfl #[.agg #[.string a0_0, .string a0_1, .bool a0_2, .bool false, .bool a0_4, .int .i64 a0_5, .int .i64 a0_6, .slice A0_7 l0_7.length c0_7, .slice A0_8 l0_8.length c0_8]] (by rfl) rfl rfl (by (try simp only [List.map_toArray, List.map_cons, List.map_nil]); first | done | rfl | (simp only [List.length_drop, List.length_take]; rfl)) ?_
       with_reducible refine (impl_Method_slots.calls kj1 a0_0 a0_1 a0_2 false a0_4 a0_5 a0_6 _ _ l0_7 _ _ l0_8 t431 _ ?side1 ?side2 ?side3 ?side4 A37.out).mono ?_
       (case side1 => exact pc (Kd.C_below HR0_7.out HB.out))
       (case side2 => exact HC0_7.out)
       (case side3 => exact pc (Kd.C_below HR0_8.out HB.out))
       (case side4 => exact HC0_8.out)
       rintro e w42 ⟨rfl, hb⟩
       refine ⟨_, rfl, ?_⟩
       have n0_ := Zm (Zkb (pk BK425.out) hb)
       have n1_ := Zm (Zbt (bk HB.out) hb)
       clear BK425
       clear HB
       have BK425 := n0_
       have HB := n1_
       clear n0_ n1_
       refine hK.out _ _ ⟨(Zkc BK425.out 0).trans rfl, (Zkc BK425.out 1).trans rfl, (Zkc BK425.out 2).trans rfl, (Zkc BK425.out 3).trans rfl, (Zkc BK425.out 4).trans rfl, (Zkc BK425.out 5).trans rfl, (Zkc BK425.out 6).trans rfl, (Zkc BK425.out 7).trans rfl, (Zkc BK425.out 8).trans rfl⟩ (fun hHeld => ?_)
       clear hK K
       refine norm_ (a' := ?_) ?_ ?_
       rotate_left
       · show Act.put _ (some 69) _ = _
         simp only [Act.put, List.setIfInBounds_toArray, List.set_cons_zero, List.set_cons_succ, i64_w, i32_w]
         rfl
       refine pure_ (i := 8) (N := some 70) (v := ?_) (a' := ?_) #[true, true, true, true, true, true, true, true, true, false] rfl rfl (any_of HT_.out (by kernel_rfl)) (fun _ _ _ h => h) (Or.inl ⟨by rfl, ?_⟩) ?_ ?_
       rotate_left
       · intro w'
         go_simp
         with_reducible rfl
       rotate_left
       · simp only [Act.put, List.setIfInBounds_toArray, List.set_cons_zero, List.set_cons_succ, i64_w, i32_w]
         rfl
       refine pure_ (i := 9) (N := some 71) (v := ?_) (a' := ?_) #[true, true, true, true, true, true, true, true, true, true] rfl rfl (any_of HT_.out (by kernel_rfl)) (fun _ _ _ h => h) (Or.inl ⟨by rfl, ?_⟩) ?_ ?_
       rotate_left
       · intro w'
         go_simp
         with_reducible rfl
       rotate_left
       · simp only [Act.put, List.setIfInBounds_toArray, List.set_cons_zero, List.set_cons_succ, i64_w, i32_w]
         rfl
       refine done_ (done_of HT_.out (by kernel_rfl)) ?_
       go_upto_if 71 with (fail)
       have H := HC38.out
       clear HC38
       by_cases c43 : a0_6 < t431
       rotate_left
       · rw [if_neg c43] at H
         have c43b0 := decide_eq_false c43
         clear c43
         (first | rw [c43b0] | (simp only [i64_w, i32_w]; rw [c43b0]) | skip)
         by_cases c44 : a0_0.toList = ([60, 105, 110, 105, 116, 62] : List UInt8)
         rotate_left
         · rw [if_neg c44] at H
           have c44b0 : (a0_0.toList == ([60, 105, 110, 105, 116, 62] : List UInt8)) = false := beq_eq_false_iff_ne.mpr c44
           have c44b1 : (a0_0.toList != ([60, 105, 110, 105, 116, 62] : List UInt8)) = true := bne_iff_ne.mpr c44
           obtain rfl := Option.some.inj H
           obtain ⟨hcz52_0, hcz52_1, hcz52_2, hcz52_3, hcz52_4, hcz52_5, hcz52_6, hcz52_7, hcz52_8⟩ := cz9 BK425.out
           go_wp2
           go_ret
           exact ⟨by first | rfl | (simp [*] <;> rfl), bk HB.out⟩
         rw [if_pos c44] at H
         have c44b0 : (a0_0.toList == ([60, 105, 110, 105, 116, 62] : List UInt8)) = true := beq_iff_eq.mpr c44
         have c44b1 : (a0_0.toList != ([60, 105, 110, 105, 116, 62] : List UInt8)) = false := bne_eq_false_iff_eq.mpr c44
         clear c44
         by_cases c45 : a0_2 = true
         rotate_left
         · replace c45 := Bool.eq_false_iff.mpr c45
           subst c45
           rw [if_neg (show ¬ (false = true) by decide)] at H
           by_cases c47 : a0_4 = true
           rotate_left
           · replace c47 := Bool.eq_false_iff.mpr c47
             subst c47
             rw [if_neg (show ¬ (false = true) by decide)] at H
             replace H := Option.bind_eq_some_iff.mp H
             obtain ⟨⟨t432, t435, t436, t437⟩, A490, H⟩ := H
             (try dsimp only at H)
             have A49 := Zm A490
             clear A490
             obtain rfl := Option.some.inj H
             obtain ⟨hcz50_0, hcz50_1, hcz50_2, hcz50_3, hcz50_4, hcz50_5, hcz50_6, hcz50_7, hcz50_8⟩ := cz9 BK425.out
             (try clear BK425)
             go_wp2_with (first | (go_at_call 107; (first | (with_reducible refine (impl_descRead.calls kj1 a0_1 t432 t435 t436 t437 _ A49.out).mono ?_) | (with_reducible refine (calls_of_args ?_ (impl_descRead.calls kj1 a0_1 t432 t435 t436 t437 _ A49.out)).mono ?_; focus (simp [*]; done))); rintro e w51 ⟨v433, rfl, ho0, hb⟩; have n0_ := (⟨Zm (Kd.R_lower ho0 (Zbz (bk HB.out))), Zm (Zbt (bk HB.out) hb)⟩ : _ ∧ _); clear HB; obtain ⟨HO434, HB⟩ := n0_; (try clear hb); (try clear hb2); (try clear hk); (try clear hi); (try clear ho0)))
             go_ret
             exact ⟨by first | rfl | (simp [*] <;> rfl), bk HB.out⟩
           subst c47
           rw [if_pos rfl] at H
           obtain rfl := Option.some.inj H
           obtain ⟨hcz48_0, hcz48_1, hcz48_2, hcz48_3, hcz48_4, hcz48_5, hcz48_6, hcz48_7, hcz48_8⟩ := cz9 BK425.out
           go_wp2
           go_ret
           exact ⟨by first | rfl | (simp [*] <;> rfl), bk HB.out⟩
         subst c45
         rw [if_pos rfl] at H
         obtain rfl := Option.some.inj H
         obtain ⟨hcz46_0, hcz46_1, hcz46_2, hcz46_3, hcz46_4, hcz46_5, hcz46_6, hcz46_7, hcz46_8⟩ := cz9 BK425.out
         go_wp2
         go_ret
         exact ⟨by first | rfl | (simp [*] <;> rfl), bk HB.out⟩
       rw [if_pos c43] at H
       have c43b0 := decide_eq_true c43
       clear c43
       (first | rw [c43b0] | (simp only [i64_w, i32_w]; rw [c43b0]) | skip)
       obtain rfl := Option.some.inj H
       go_wp2
       go_ret
       exact ⟨by first | rfl | (simp [*] <;> rfl), bk HB.out⟩
     subst c21
     rw [if_pos rfl] at H
     by_cases c22 : a0_5 = 0
     rotate_left
     · rw [if_neg c22] at H
       have c22b0 : (a0_5 == 0) = false := beq_eq_false_iff_ne.mpr c22
       have c22b1 : (a0_5 != 0) = true := bne_iff_ne.mpr c22
       obtain rfl := Option.some.inj H
       obtain ⟨hcz34_0, hcz34_1, hcz34_2, hcz34_3, hcz34_4, hcz34_5, hcz34_6, hcz34_7, hcz34_8⟩ := cz9 BK425.out
       go_wp2
       go_ret
       exact ⟨by first | rfl | (simp [*] <;> rfl), bk HB.out⟩
     rw [if_pos c22] at H
     have c22b0 : (a0_5 == 0) = true := beq_iff_eq.mpr c22
     have c22b1 : (a0_5 != 0) = false := bne_eq_false_iff_eq.mpr c22
     clear c22
     by_cases c23 : a0_6 = 0
     rotate_left
     · rw [if_neg c23] at H
       have c23b0 : (a0_6 == 0) = false := beq_eq_false_iff_ne.mpr c23
       have c23b1 : (a0_6 != 0) = true := bne_iff_ne.mpr c23
       obtain rfl := Option.some.inj H
       obtain ⟨hcz33_0, hcz33_1, hcz33_2, hcz33_3, hcz33_4, hcz33_5, hcz33_6, hcz33_7, hcz33_8⟩ := cz9 BK425.out
       go_wp2
       go_ret
       exact ⟨by first | rfl | (simp [*] <;> rfl), bk HB.out⟩
     rw [if_pos c23] at H
     have c23b0 : (a0_6 == 0) = true := beq_iff_eq.mpr c23
     have c23b1 : (a0_6 != 0) = false := bne_eq_false_iff_eq.mpr c23
     clear c23
     by_cases c24 : (l0_7.length : Int) = 0
     rotate_left
     · rw [if_neg c24] at H
       have c24b0 : ((l0_7.length : Int) == 0) = false := beq_eq_false_iff_ne.mpr c24
       have c24b1 : ((l0_7.length : Int) != 0) = true := bne_iff_ne.mpr c24
       have c24b2 : ¬ (l0_7 = []) := fun h_ => c24 (by rw [h_]; rfl)
       obtain rfl := Option.some.inj H
       obtain ⟨hcz32_0, hcz32_1, hcz32_2, hcz32_3, hcz32_4, hcz32_5, hcz32_6, hcz32_7, hcz32_8⟩ := cz9 BK425.out
       go_wp2
       go_ret
       exact ⟨by first | rfl | (simp [*] <;> rfl), bk HB.out⟩
     rw [if_pos c24] at H
     have c24b0 : ((l0_7.length : Int) == 0) = true := beq_iff_eq.mpr c24
     have c24b1 : ((l0_7.length : Int) != 0) = false := bne_eq_false_iff_eq.mpr c24
     clear c24
     by_cases c25 : (l0_8.length : Int) = 0
     rotate_left
     · rw [if_neg c25] at H
       have c25b0 : ((l0_8.length : Int) == 0) = false := beq_eq_false_iff_ne.mpr c25
       have c25b1 : ((l0_8.length : Int) != 0) = true := bne_iff_ne.mpr c25
       have c25b2 : ¬ (l0_8 = []) := fun h_ => c25 (by rw [h_]; rfl)
       obtain rfl := Option.some.inj H
       obtain ⟨hcz31_0, hcz31_1, hcz31_2, hcz31_3, hcz31_4, hcz31_5, hcz31_6, hcz31_7, hcz31_8⟩ := cz9 BK425.out
       go_wp2
       go_ret
       exact ⟨by first | rfl | (simp [*] <;> rfl), bk HB.out⟩
     rw [if_pos c25] at H
     have c25b0 : ((l0_8.length : Int) == 0) = true := beq_iff_eq.mpr c25
     have c25b1 : ((l0_8.length : Int) != 0) = false := bne_eq_false_iff_eq.mpr c25
     clear c25
     by_cases c26 : a0_2 = true
     rotate_left
     · replace c26 := Bool.eq_false_iff.mpr c26
       subst c26
       rw [if_neg (show ¬ (false = true) by decide)] at H
       by_cases c28 : a0_4 = true
       rotate_left
       · replace c28 := Bool.eq_false_iff.mpr c28
         subst c28
         rw [if_neg (show ¬ (false = true) by decide)] at H
         obtain rfl := Option.some.inj H
         obtain ⟨hcz30_0, hcz30_1, hcz30_2, hcz30_3, hcz30_4, hcz30_5, hcz30_6, hcz30_7, hcz30_8⟩ := cz9 BK425.out
         go_wp2
         go_ret
         exact ⟨by first | rfl | (simp [*] <;> rfl), bk HB.out⟩
       subst c28
       rw [if_pos rfl] at H
       obtain rfl := Option.some.inj H
       obtain ⟨hcz29_0, hcz29_1, hcz29_2, hcz29_3, hcz29_4, hcz29_5, hcz29_6, hcz29_7, hcz29_8⟩ := cz9 BK425.out
       go_wp2
       go_ret
       exact ⟨by first | rfl | (simp [*] <;> rfl), bk HB.out⟩
     subst c26
     rw [if_pos rfl] at H
     obtain rfl := Option.some.inj H
     obtain ⟨hcz27_0, hcz27_1, hcz27_2, hcz27_3, hcz27_4, hcz27_5, hcz27_6, hcz27_7, hcz27_8⟩ := cz9 BK425.out
     go_wp2
     go_ret
     exact ⟨by first | rfl | (simp [*] <;> rfl), bk HB.out⟩
   subst c20
   rw [if_pos rfl] at H
   obtain rfl := Option.some.inj H
   go_wp2
   go_ret
   exact ⟨by first | rfl | (simp [*] <;> rfl), bk HB.out⟩
/-! ### laws_eqIns: function 161 -/
def laws_eqIns.f (a0_0 : Int) (a0_1 : Int) (a0_2 : ByteArray) (a0_3 : ByteArray) (a0_4 : ByteArray) (a1_0 : Int) (a1_1 : Int) (a1_2 : ByteArray) (a1_3 : ByteArray) (a1_4 : ByteArray) : Option (Bool) := if a0_0 = a1_0 then (if a0_1 = a1_1 then (if a0_2.toList = a1_2.toList then (if a0_3.toList = a1_3.toList then (if a0_4.toList = a1_4.toList then (some true) else (some false)) else (some false)) else (some false)) else (some false)) else (some false)
set_option maxHeartbeats 8000000 in
set_option maxRecDepth 100000 in
theorem laws_eqIns.calls (a0_0 : Int) (a0_1 : Int) (a0_2 : ByteArray) (a0_3 : ByteArray) (a0_4 : ByteArray) (a1_0 : Int) (a1_1 : Int) (a1_2 : ByteArray) (a1_3 : ByteArray) (a1_4 : ByteArray) (r : Bool) (w : World) (h : laws_eqIns.f a0_0 a0_1 a0_2 a0_3 a0_4 a1_0 a1_1 a1_2 a1_3 a1_4 = some r) :
 Calls Try.prog 161 #[.agg #[.int .i64 a0_0, .int .i64 a0_1, .string a0_2, .string a0_3, .string a0_4], .agg #[.int .i64 a1_0, .int .i64 a1_1, .string a1_2, .string a1_3, .string a1_4]] w fun e w' => e = .returned (.bool r) ∧ Below w.heap.size w w' := by
 have hu156 := Try.underlying156
 have HB := Zm (Below.refl w.heap.size w)
 have H : (if a0_0 = a1_0 then (if a0_1 = a1_1 then (if a0_2.toList = a1_2.toList then (if a0_3.toList = a1_3.toList then (if a0_4.toList = a1_4.toList then (some true) else (some false)) else (some false)) else (some false)) else (some false)) else (some false)) = some r := h
 clear h
 have HC3 := Zm H
 clear H
 go_enter Try.func161, Try.ntmps161
 go_upto_if 9 with (first | ((with_reducible refine gate_dst (N := 2) rfl ?_); refine box_event ?hg (N := 2) ?hd (cs := #[.int .i64 a0_0, .int .i64 a0_1, .string a0_2, .string a0_3, .string a0_4]) (t := 156) ?hr ?_; (case hd => rfl); (case hg => rfl); (case hr => first | (go_simp; done) | (go_simp; rfl)); intro gb438 hg w4 hbox hb; have n0_ := (⟨Zm (Zbt (bk HB.out) hb), Zm (hbox), Zm ((by rw [hg]; exact (Zbz (bk HB.out)) : w.heap.size ≤ gb438)), Zm ((by rw [hg]; exact (Zbz (bk HB.out)) : w.heap.size ≤ gb438))⟩ : _ ∧ _ ∧ _ ∧ _); clear HB; obtain ⟨HB, BK438, GW438, GE438⟩ := n0_; clear hb hbox hg) | ((with_reducible refine gate_dst (N := 3) rfl ?_); refine box_event ?hg (N := 3) ?hd (cs := #[.int .i64 a1_0, .int .i64 a1_1, .string a1_2, .string a1_3, .string a1_4]) (t := 156) ?hr ?_; (case hd => rfl); (case hg => rfl); (case hr => first | (go_simp; done) | (go_simp; rfl)); intro gb439 hg w5 hbox hb; have n0_ := (⟨Zm (Zkb (pk BK438.out) hb), Zm (Zbt (bk HB.out) hb), Zm (hbox), Zm ((by rw [hg]; exact (Zbz (bk HB.out)) : w.heap.size ≤ gb439)), Zm ((by rw [hg]; exact (Zbz (bk HB.out)) : w.heap.size ≤ gb439)), Zm ((by rw [hg]; exact Nat.ne_of_lt (blk_lt (pk BK438.out)) : gb438 ≠ gb439)), Zm ((by rw [hg]; exact Nat.ne_of_gt (blk_lt (pk BK438.out)) : gb439 ≠ gb438))⟩ : _ ∧ _ ∧ _ ∧ _ ∧ _ ∧ _ ∧ _); clear BK438 HB; obtain ⟨BK438, HB, BK439, GW439, GE439, NB438_439, NB439_438⟩ := n0_; clear hb hbox hg; have hnb6 := NB438_439.out; have hnc6 := NB439_438.out; obtain ⟨hcz7_0, hcz7_1, hcz7_2, hcz7_3, hcz7_4⟩ := cz5 BK438.out; obtain ⟨hcz8_0, hcz8_1, hcz8_2, hcz8_3, hcz8_4⟩ := cz5 BK439.out; have hfz8_4 := Zkf BK439.out 4))
 have H := HC3.out
 clear HC3
 by_cases c9 : a0_0 = a1_0
 rotate_left
 · rw [if_neg c9] at H
   have c9b0 : (a0_0 == a1_0) = false := beq_eq_false_iff_ne.mpr c9
   have c9b1 : (a0_0 != a1_0) = true := bne_iff_ne.mpr c9
   (first | rw [c9b0] | (simp only [i64_w, i32_w]; rw [c9b0]) | skip)
   obtain rfl := Option.some.inj H
   go_wp2
   go_ret
   exact ⟨by first | rfl | (simp [*] <;> rfl), bk HB.out⟩

 rw [if_pos c9] at H
 have c9b0 : (a0_0 == a1_0) = true := beq_iff_eq.mpr c9
 have c9b1 : (a0_0 != a1_0) = false := bne_eq_false_iff_eq.mpr c9
 clear c9
 (first | rw [c9b0] | (simp only [i64_w, i32_w]; rw [c9b0]) | skip)
 by_cases c10 : a0_1 = a1_1
 rotate_left
 · rw [if_neg c10] at H
   have c10b0 : (a0_1 == a1_1) = false := beq_eq_false_iff_ne.mpr c10
   have c10b1 : (a0_1 != a1_1) = true := bne_iff_ne.mpr c10
   obtain rfl := Option.some.inj H
   have hnb25 := NB438_439.out
   have hnc25 := NB439_438.out
   obtain ⟨hcz26_0, hcz26_1, hcz26_2, hcz26_3, hcz26_4⟩ := cz5 BK438.out
   obtain ⟨hcz27_0, hcz27_1, hcz27_2, hcz27_3, hcz27_4⟩ := cz5 BK439.out
   go_wp2
   go_ret
   exact ⟨by first | rfl | (simp [*] <;> rfl), bk HB.out⟩
 rw [if_pos c10] at H
 have c10b0 : (a0_1 == a1_1) = true := beq_iff_eq.mpr c10
 have c10b1 : (a0_1 != a1_1) = false := bne_eq_false_iff_eq.mpr c10
 clear c10
 have HC11 := Zm H
 clear H
 have hnb12 := NB438_439.out
 have hnc12 := NB439_438.out
 obtain ⟨hcz13_0, hcz13_1, hcz13_2, hcz13_3, hcz13_4⟩ := cz5 BK438.out
 obtain ⟨hcz14_0, hcz14_1, hcz14_2, hcz14_3, hcz14_4⟩ := cz5 BK439.out
 go_upto_if 19 with (fail)
 have H := HC11.out
 clear HC11
 by_cases c15 : a0_2.toList = a1_2.toList
 rotate_left
 · rw [if_neg c15] at H
   have c15b0 : (a0_2.toList == a1_2.toList) = false := beq_eq_false_iff_ne.mpr c15
   have c15b1 : (a0_2.toList != a1_2.toList) = true := bne_iff_ne.mpr c15
   (first | rw [c15b0] | (simp only [i64_w, i32_w]; rw [c15b0]) | skip)
   obtain rfl := Option.some.inj H
   go_wp2
   go_ret
   exact ⟨by first | rfl | (simp [*] <;> rfl), bk HB.out⟩
 rw [if_pos c15] at H
 have c15b0 : (a0_2.toList == a1_2.toList) = true := beq_iff_eq.mpr c15
 have c15b1 : (a0_2.toList != a1_2.toList) = false := bne_eq_false_iff_eq.mpr c15
 clear c15
 (first | rw [c15b0] | (simp only [i64_w, i32_w]; rw [c15b0]) | skip)
 by_cases c16 : a0_3.toList = a1_3.toList
 rotate_left
 · rw [if_neg c16] at H
   have c16b0 : (a0_3.toList == a1_3.toList) = false := beq_eq_false_iff_ne.mpr c16
   have c16b1 : (a0_3.toList != a1_3.toList) = true := bne_iff_ne.mpr c16
   obtain rfl := Option.some.inj H
   have hnb22 := NB438_439.out
   have hnc22 := NB439_438.out
   obtain ⟨hcz23_0, hcz23_1, hcz23_2, hcz23_3, hcz23_4⟩ := cz5 BK438.out
   obtain ⟨hcz24_0, hcz24_1, hcz24_2, hcz24_3, hcz24_4⟩ := cz5 BK439.out
   go_wp2
   go_ret
   exact ⟨by first | rfl | (simp [*] <;> rfl), bk HB.out⟩
 rw [if_pos c16] at H
 have c16b0 : (a0_3.toList == a1_3.toList) = true := beq_iff_eq.mpr c16
 have c16b1 : (a0_3.toList != a1_3.toList) = false := bne_eq_false_iff_eq.mpr c16
 clear c16
 have HC17 := Zm H
 clear H
 have hnb18 := NB438_439.out
 have hnc18 := NB439_438.out
 obtain ⟨hcz19_0, hcz19_1, hcz19_2, hcz19_3, hcz19_4⟩ := cz5 BK438.out
 obtain ⟨hcz20_0, hcz20_1, hcz20_2, hcz20_3, hcz20_4⟩ := cz5 BK439.out
 go_upto_if 29 with (fail)
 have H := HC17.out
 clear HC17
 by_cases c21 : a0_4.toList = a1_4.toList
 rotate_left
 · rw [if_neg c21] at H
   have c21b0 : (a0_4.toList == a1_4.toList) = false := beq_eq_false_iff_ne.mpr c21
   have c21b1 : (a0_4.toList != a1_4.toList) = true := bne_iff_ne.mpr c21
   (first | rw [c21b0] | (simp only [i64_w, i32_w]; rw [c21b0]) | skip)
   obtain rfl := Option.some.inj H
   go_wp2
   go_ret
   exact ⟨by first | rfl | (simp [*] <;> rfl), bk HB.out⟩
 rw [if_pos c21] at H
 have c21b0 : (a0_4.toList == a1_4.toList) = true := beq_iff_eq.mpr c21
 have c21b1 : (a0_4.toList != a1_4.toList) = false := bne_eq_false_iff_eq.mpr c21
 clear c21
 (first | rw [c21b0] | (simp only [i64_w, i32_w]; rw [c21b0]) | skip)
 obtain rfl := Option.some.inj H
 go_wp2
 go_ret
 exact ⟨by first | rfl | (simp [*] <;> rfl), bk HB.out⟩
end Go.Proofs.Ytlflbmbcjjegaaa.PFnExactMethodRight
