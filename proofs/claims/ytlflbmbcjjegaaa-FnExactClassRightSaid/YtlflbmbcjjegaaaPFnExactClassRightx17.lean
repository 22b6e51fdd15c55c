/- Functions of the program as plain Lean functions, each with a proof that the program's call comes to the same; no condition. Written by a program of this session. -/
import Derived.Test.YtlflbmbcjjegaaaPFnExactClassRightx0
import Derived.Test.YtlflbmbcjjegaaaPFnExactClassRightx12
import Derived.Test.YtlflbmbcjjegaaaPFnExactClassRightx14
import Derived.Test.YtlflbmbcjjegaaaPFnExactClassRightx15
import Derived.Test.YtlflbmbcjjegaaaPFnExactClassRightx16
namespace Go.Proofs.Ytlflbmbcjjegaaa.PFnExactClassRight
open Go.RowKit Go.Proofs.YtlflbmbcjjegaaaW.PrintWords Go.Proofs.YtlflbmbcjjegaaaW.PrintLast Go.Proofs.YtlflbmbcjjegaaaW.PrintMore
open Go.Proofs.YtlflbmbcjjegaaaW.PrintWords renaming below_drew1 → Zbd, below_size → Zbz, below_step → Zbt, blk_drewN → Zkn, blk_drew → Zkd, blk_alloc → Zka, blk_cell → Zkc, blk_frozen → Zkf, blk_below → Zkb
open Go.World renaming block_lt_of_cell? → Zlt
open Go.Proofs.YtlflbmbcjjegaaaW.PrintWords.Aside0 renaming mk → Zm
attribute [local go_sem] max2_int min2_int max_two min_two max_three min_three max_four min_four   -- for this text's walks alone
set_option linter.unusedVariables false
set_option linter.unusedSimpArgs false

/-! ### impl_MethodRight: function 36 -/
def impl_MethodRight.j0 : Nat → Bool → ByteArray → ByteArray → Bool → Bool → Bool → Int → Int → List (S156) → List (S160) → Option (Bool)
 | 0, _, _, _, _, _, _, _, _, _, _ => none
 | k + 1, x24, x512000, x512001, x512002, x512003, x512004, x512005, x512006, x512007, x512008 => if x24 = true then (some false) else (if x512003 = true then (if x512005 = 0 then (if x512006 = 0 then (if (x512007.length : Int) = 0 then (if (x512008.length : Int) = 0 then (if x512002 = true then (some false) else (if x512004 = true then (some false) else (some (x512000.toList != ([60, 105, 110, 105, 116, 62] : List UInt8))))) else (some false)) else (some false)) else (some false)) else (some false)) else ((impl_codeRight.f k x512000 x512001 x512002 x512003 x512004 x512005 x512006 x512007 x512008).bind fun t516 => (if t516 = true then ((impl_Method_slots.f k x512000 x512001 x512002 x512003 x512004 x512005 x512006 x512007 x512008).bind fun t517 => (if x512006 < t517 then (some false) else (if x512000.toList = ([60, 105, 110, 105, 116, 62] : List UInt8) then (if x512002 = true then (some false) else (if x512004 = true then (some false) else ((impl_descRead.f k x512001).bind fun bt518 => (some (bt518.2.1.toList == ([86] : List UInt8)))))) else (some true)))) else (some false))))
def impl_MethodRight.f (k : Nat) (a0_0 : ByteArray) (a0_1 : ByteArray) (a0_2 : Bool) (a0_3 : Bool) (a0_4 : Bool) (a0_5 : Int) (a0_6 : Int) (l0_7 : List (S156)) (l0_8 : List (S160)) : Option (Bool) := (impl_isMethodName.f k a0_0).bind fun t512 => (if t512 = true then ((impl_isDesc.f k a0_1).bind fun t513 => (if t513 = true then ((impl_within.f a0_5 0 16).bind fun t514 => (if t514 = true then ((impl_within.f a0_6 0 16).bind fun t515 => (impl_MethodRight.j0 k (!t515) a0_0 a0_1 a0_2 a0_3 a0_4 a0_5 a0_6 l0_7 l0_8)) else (impl_MethodRight.j0 k true a0_0 a0_1 a0_2 a0_3 a0_4 a0_5 a0_6 l0_7 l0_8))) else (impl_MethodRight.j0 k true a0_0 a0_1 a0_2 a0_3 a0_4 a0_5 a0_6 l0_7 l0_8))) else (impl_MethodRight.j0 k true a0_0 a0_1 a0_2 a0_3 a0_4 a0_5 a0_6 l0_7 l0_8))
def impl_MethodRight.T5 : Bool × List (List Nat × List Nat) := (true, [([], []), ([0], [0]), ([1], [1]), ([2, 1], [2]), ([3], [3]), ([4, 3], [3, 4]), ([3], [3]), ([6, 3, 3], [3, 6]), ([5, 7, 3], [3, 5, 7]), ([3, 8], [3, 8])])
def impl_MethodRight.B5 : List Nat := [0, 1, 3, 7, 15, 31, 15, 79, 255, 511]
theorem impl_MethodRight.tab5 : rtab .any (opsOf Try.f36 5) = impl_MethodRight.T5 := by kernel_rfl
theorem impl_MethodRight.bits5 : waitsOk impl_MethodRight.T5.2 impl_MethodRight.B5 = true := by kernel_rfl
set_option maxHeartbeats 8000000 in
set_option maxRecDepth 100000 in
theorem impl_MethodRight.calls (k : Nat) (a0_0 : ByteArray) (a0_1 : ByteArray) (a0_2 : Bool) (a0_3 : Bool) (a0_4 : Bool) (a0_5 : Int) (a0_6 : Int) (A0_7 : Option Addr) (c0_7 : Nat) (l0_7 : List (S156)) (A0_8 : Option Addr) (c0_8 : Nat) (l0_8 : List (S160)) (r : Bool) (w : World) (hr0_7 : Kd.C k156 w A0_7 l0_7.length l0_7) (hc0_7 : l0_7.length ≤ c0_7) (hr0_8 : Kd.C k160 w A0_8 l0_8.length l0_8) (hc0_8 : l0_8.length ≤ c0_8) (h : impl_MethodRight.f k a0_0 a0_1 a0_2 a0_3 a0_4 a0_5 a0_6 l0_7 l0_8 = some r) :
 Calls Try.prog 36 #[.agg #[.string a0_0, .string a0_1, .bool a0_2, .bool a0_3, .bool a0_4, .int .i64 a0_5, .int .i64 a0_6, .slice A0_7 l0_7.length c0_7, .slice A0_8 l0_8.length c0_8]] w fun e w' => e = .returned (.bool r) ∧ Below w.heap.size w w' := by
 have hu84 := Try.underlying84; have hf151_0 : ∀ (a0_ a1_ a2_ a3_ : Value) (W_ : World), (Instr.field 151 (.agg #[a0_, a1_, a2_, a3_]) 0).run Try.prog W_ = .ok (.agg #[a0_, a1_]) W_ := fun _ _ _ _ _ => by rfl
 have hf149_1 : ∀ (a0_ a1_ : Value) (W_ : World), (Instr.field 149 (.agg #[a0_, a1_]) 1).run Try.prog W_ = .ok (a1_) W_ := fun _ _ _ => by rfl
 have HR0_7 := Zm hr0_7; have HC0_7 := Zm hc0_7; clear hr0_7 hc0_7; have HR0_8 := Zm hr0_8; have HC0_8 := Zm hc0_8; clear hr0_8 hc0_8; have HB := Zm (Below.refl w.heap.size w); have H : ((impl_isMethodName.f k a0_0).bind fun t512 => (if t512 = true then ((impl_isDesc.f k a0_1).bind fun t513 => (if t513 = true then ((impl_within.f a0_5 0 16).bind fun t514 => (if t514 = true then ((impl_within.f a0_6 0 16).bind fun t515 => (impl_MethodRight.j0 k (!t515) a0_0 a0_1 a0_2 a0_3 a0_4 a0_5 a0_6 l0_7 l0_8)) else (impl_MethodRight.j0 k true a0_0 a0_1 a0_2 a0_3 a0_4 a0_5 a0_6 l0_7 l0_8))) else (impl_MethodRight.j0 k true a0_0 a0_1 a0_2 a0_3 a0_4 a0_5 a0_6 l0_7 l0_8))) else (impl_MethodRight.j0 k true a0_0 a0_1 a0_2 a0_3 a0_4 a0_5 a0_6 l0_7 l0_8))) = some r := h; clear h; have HC2 := Zm H; clear H; go_enter Try.func36, Try.ntmps36; go_upto_region 1 with (first | ((with_reducible refine gate_dst (N := 1) rfl ?_); (try (refine gate_guard (by rfl) ?_; dsimp only)); refine box_event ?hg (N := 1) ?hd (cs := #[.string a0_0, .string a0_1, .bool a0_2, .bool a0_3, .bool a0_4, .int .i64 a0_5, .int .i64 a0_6, .slice A0_7 l0_7.length c0_7, .slice A0_8 l0_8.length c0_8]) (t := 84) ?hr ?_; (case hd => rfl); (case hg => rfl); (case hr => first | (go_simp; done) | (go_simp; rfl)); intro gb511 hg w3 hbox hb; have n0_ := (⟨Zm (Zbt (bk HB.out) hb), Zm (hbox), Zm ((by rw [hg]; exact (Zbz (bk HB.out)) : w.heap.size ≤ gb511)), Zm ((by rw [hg]; exact (Zbz (bk HB.out)) : w.heap.size ≤ gb511))⟩ : _ ∧ _ ∧ _ ∧ _); clear HB; obtain ⟨HB, BK511, GW511, GE511⟩ := n0_; clear hb hbox hg)); (try simp only [Act.put, List.setIfInBounds_toArray, List.set_cons_zero, List.set_cons_succ]); go_cut [24] (fun v24 wc => ∃ (kq : Nat) (x24_1 : Bool), v24 = .bool x24_1 ∧ Aside0 (impl_MethodRight.j0 kq x24_1 a0_0 a0_1 a0_2 a0_3 a0_4 a0_5 a0_6 l0_7 l0_8 = some r) ∧ Aside0 (kq ≤ k) ∧ Aside0 (wc.heap[gb511]? = some (.cells #[.string a0_0, .string a0_1, .bool a0_2, .bool a0_3, .bool a0_4, .int .i64 a0_5, .int .i64 a0_6, (.slice A0_7 l0_7.length c0_7), (.slice A0_8 l0_8.length c0_8)] 84 (0, 0))) ∧ Aside0 (Below w.heap.size w wc))
 case first =>
  have H := HC2.out; clear HC2; replace H := Option.bind_eq_some_iff.mp H; obtain ⟨t512, A40, H⟩ := H; (try dsimp only at H); have A4 := Zm A40; clear A40; by_cases c5 : t512 = true; rotate_left
  · replace c5 := Bool.eq_false_iff.mpr c5; subst c5; rw [if_neg (show ¬ (false = true) by decide)] at H; have H' := Zm H; clear H; obtain ⟨hcz19_0, hcz19_1, hcz19_2, hcz19_3, hcz19_4, hcz19_5, hcz19_6, hcz19_7, hcz19_8⟩ := cz9 BK511.out; go_wp2_with (first | ((with_reducible refine gate_callee (f := 103) rfl ?_); refine ge_ (some 5) Try.func103 #[.string a0_0] ?_; (with_reducible refine (impl_isMethodName.calls _ _ _ _ A4.out).mono ?_); rintro e w' ⟨rfl, ⟨nd, rfl⟩⟩; refine ⟨_, rfl, ?_⟩)); go_meet
    case rel => exact ⟨_, (true), (by first | rfl | (simp; done) | (simp [*]; done)), H', ⟨by first | omega | exact Nat.le_refl _⟩, ⟨pk BK511.out⟩, ⟨bk HB.out⟩⟩
  subst c5; rw [if_pos rfl] at H; replace H := Option.bind_eq_some_iff.mp H; obtain ⟨t513, A60, H⟩ := H; (try dsimp only at H); have A6 := Zm A60; clear A60; by_cases c7 : t513 = true; rotate_left
  · replace c7 := Bool.eq_false_iff.mpr c7; subst c7; rw [if_neg (show ¬ (false = true) by decide)] at H; have H' := Zm H; clear H; obtain ⟨hcz17_0, hcz17_1, hcz17_2, hcz17_3, hcz17_4, hcz17_5, hcz17_6, hcz17_7, hcz17_8⟩ := cz9 BK511.out; go_wp2_with (first | ((with_reducible refine gate_callee (f := 103) rfl ?_); refine ge_ (some 5) Try.func103 #[.string a0_0] ?_; (with_reducible refine (impl_isMethodName.calls _ _ _ _ A4.out).mono ?_); rintro e w' ⟨rfl, ⟨nd, rfl⟩⟩; refine ⟨_, rfl, ?_⟩) | (go_at_call 104; (first | (with_reducible refine (impl_isDesc.calls _ _ _ _ A6.out).mono ?_) | (with_reducible refine (calls_of_args ?_ (impl_isDesc.calls _ _ _ _ A6.out)).mono ?_; focus (simp [*]; done))); rintro e w18 ⟨rfl, hb⟩; have n0_ := (⟨Zm (Zkb (pk BK511.out) hb), Zm (Zbt (bk HB.out) hb)⟩ : _ ∧ _); clear BK511 HB; obtain ⟨BK511, HB⟩ := n0_; (try clear hb); (try clear hb2); (try clear hk); (try clear hi))); go_meet
    case rel => exact ⟨_, (true), (by first | rfl | (simp; done) | (simp [*]; done)), H', ⟨by first | omega | exact Nat.le_refl _⟩, ⟨pk BK511.out⟩, ⟨bk HB.out⟩⟩
  subst c7; rw [if_pos rfl] at H; replace H := Option.bind_eq_some_iff.mp H; obtain ⟨t514, A80, H⟩ := H; (try dsimp only at H); have A8 := Zm A80; clear A80; by_cases c9 : t514 = true; rotate_left
  · replace c9 := Bool.eq_false_iff.mpr c9; subst c9; rw [if_neg (show ¬ (false = true) by decide)] at H; have H' := Zm H; clear H; obtain ⟨hcz14_0, hcz14_1, hcz14_2, hcz14_3, hcz14_4, hcz14_5, hcz14_6, hcz14_7, hcz14_8⟩ := cz9 BK511.out; go_wp2_with (first | ((with_reducible refine gate_callee (f := 103) rfl ?_); refine ge_ (some 5) Try.func103 #[.string a0_0] ?_; (with_reducible refine (impl_isMethodName.calls _ _ _ _ A4.out).mono ?_); rintro e w' ⟨rfl, ⟨nd, rfl⟩⟩; refine ⟨_, rfl, ?_⟩) | (go_at_call 104; (first | (with_reducible refine (impl_isDesc.calls _ _ _ _ A6.out).mono ?_) | (with_reducible refine (calls_of_args ?_ (impl_isDesc.calls _ _ _ _ A6.out)).mono ?_; focus (simp [*]; done))); rintro e w15 ⟨rfl, hb⟩; have n0_ := (⟨Zm (Zkb (pk BK511.out) hb), Zm (Zbt (bk HB.out) hb)⟩ : _ ∧ _); clear BK511 HB; obtain ⟨BK511, HB⟩ := n0_; (try clear hb); (try clear hb2); (try clear hk); (try clear hi); obtain ⟨hcz16_0, hcz16_1, hcz16_2, hcz16_3, hcz16_4, hcz16_5, hcz16_6, hcz16_7, hcz16_8⟩ := cz9 BK511.out; have hfz16_8 := Zkf BK511.out 8) | (go_at_call 44; (first | (with_reducible refine (impl_within.calls _ _ _ _ _ A8.out).mono ?_) | (with_reducible refine (calls_of_args ?_ (impl_within.calls _ _ _ _ _ A8.out)).mono ?_; focus (simp [*]; done))); rintro e w' ⟨rfl, ⟨nd, rfl⟩⟩)); go_meet
    case rel => exact ⟨_, (true), (by first | rfl | (simp; done) | (simp [*]; done)), H', ⟨by first | omega | exact Nat.le_refl _⟩, ⟨pk BK511.out⟩, ⟨bk HB.out⟩⟩
  subst c9; rw [if_pos rfl] at H; replace H := Option.bind_eq_some_iff.mp H; obtain ⟨t515, A100, H⟩ := H; (try dsimp only at H); have A10 := Zm A100; clear A100; have H' := Zm H; clear H; obtain ⟨hcz11_0, hcz11_1, hcz11_2, hcz11_3, hcz11_4, hcz11_5, hcz11_6, hcz11_7, hcz11_8⟩ := cz9 BK511.out; go_wp2_with (first | ((with_reducible refine gate_callee (f := 103) rfl ?_); refine ge_ (some 5) Try.func103 #[.string a0_0] ?_; (with_reducible refine (impl_isMethodName.calls _ _ _ _ A4.out).mono ?_); rintro e w' ⟨rfl, ⟨nd, rfl⟩⟩; refine ⟨_, rfl, ?_⟩) | (go_at_call 104; (first | (with_reducible refine (impl_isDesc.calls _ _ _ _ A6.out).mono ?_) | (with_reducible refine (calls_of_args ?_ (impl_isDesc.calls _ _ _ _ A6.out)).mono ?_; focus (simp [*]; done))); rintro e w12 ⟨rfl, hb⟩; have n0_ := (⟨Zm (Zkb (pk BK511.out) hb), Zm (Zbt (bk HB.out) hb)⟩ : _ ∧ _); clear BK511 HB; obtain ⟨BK511, HB⟩ := n0_; (try clear hb); (try clear hb2); (try clear hk); (try clear hi); obtain ⟨hcz13_0, hcz13_1, hcz13_2, hcz13_3, hcz13_4, hcz13_5, hcz13_6, hcz13_7, hcz13_8⟩ := cz9 BK511.out; have hfz13_8 := Zkf BK511.out 8) | (go_at_call 44; (first | (with_reducible refine (impl_within.calls _ _ _ _ _ A8.out).mono ?_) | (with_reducible refine (calls_of_args ?_ (impl_within.calls _ _ _ _ _ A8.out)).mono ?_; focus (simp [*]; done))); rintro e w' ⟨rfl, ⟨nd, rfl⟩⟩) | (go_at_call 44; (first | (with_reducible refine (impl_within.calls _ _ _ _ _ A10.out).mono ?_) | (with_reducible refine (calls_of_args ?_ (impl_within.calls _ _ _ _ _ A10.out)).mono ?_; focus (simp [*]; done))); rintro e w' ⟨rfl, ⟨nd, rfl⟩⟩)); go_meet
  case rel => exact ⟨_, (!t515), (by first | rfl | (simp; done) | (simp [*]; done)), H', ⟨by first | omega | exact Nat.le_refl _⟩, ⟨pk BK511.out⟩, ⟨bk HB.out⟩⟩
 case rest =>
  clear HC2; obtain ⟨kq, x24_1, rfl, HA, HJ1, BK511, HB⟩ := hcut
  cases kq with
  | zero => exact absurd HA.out (by simp [impl_MethodRight.j0])
  | succ kj1 =>
   have H := HA.out; clear HA; simp only [impl_MethodRight.j0] at H; by_cases c20 : x24_1 = true; rotate_left
   · replace c20 := Bool.eq_false_iff.mpr c20; subst c20; rw [if_neg (show ¬ (false = true) by decide)] at H; by_cases c21 : a0_3 = true; rotate_left
     · replace c21 := Bool.eq_false_iff.mpr c21; subst c21; rw [if_neg (show ¬ (false = true) by decide)] at H; replace H := Option.bind_eq_some_iff.mp H; obtain ⟨t516, A350, H⟩ := H; (try dsimp only at H); have A35 := Zm A350; clear A350; by_cases c36 : t516 = true; rotate_left
       · replace c36 := Bool.eq_false_iff.mpr c36; subst c36; rw [if_neg (show ¬ (false = true) by decide)] at H; obtain rfl := Option.some.inj H; obtain ⟨hcz53_0, hcz53_1, hcz53_2, hcz53_3, hcz53_4, hcz53_5, hcz53_6, hcz53_7, hcz53_8⟩ := cz9 BK511.out; try go_wp2
         have n0_ := (⟨Zm (Zkd BK511.out), Zm (Zbd HB.out)⟩ : _ ∧ _); clear BK511 HB; obtain ⟨BK511, HB⟩ := n0_; refine start_ (n := 10) (S := fun w' => w'.cell? ⟨gb511, 0, none⟩ = some (.string a0_0) ∧ w'.cell? ⟨gb511, 1, none⟩ = some (.string a0_1) ∧ w'.cell? ⟨gb511, 2, none⟩ = some (.bool a0_2) ∧ w'.cell? ⟨gb511, 3, none⟩ = some (.bool false) ∧ w'.cell? ⟨gb511, 4, none⟩ = some (.bool a0_4) ∧ w'.cell? ⟨gb511, 5, none⟩ = some (.int .i64 a0_5) ∧ w'.cell? ⟨gb511, 6, none⟩ = some (.int .i64 a0_6) ∧ w'.cell? ⟨gb511, 7, none⟩ = some (.slice A0_7 l0_7.length c0_7) ∧ w'.cell? ⟨gb511, 8, none⟩ = some (.slice A0_8 l0_8.length c0_8)) (ds := []) #[false, false, false, false, false, false, false, false, false, false] (by kernel_rfl) rfl rfl ⟨(Zkc BK511.out 0).trans rfl, (Zkc BK511.out 1).trans rfl, (Zkc BK511.out 2).trans rfl, (Zkc BK511.out 3).trans rfl, (Zkc BK511.out 4).trans rfl, (Zkc BK511.out 5).trans rfl, (Zkc BK511.out 6).trans rfl, (Zkc BK511.out 7).trans rfl, (Zkc BK511.out 8).trans rfl⟩ (fun hHeld => ?_); refine with_tabW impl_MethodRight.tab5 impl_MethodRight.bits5 (fun HT_ HW_ => ?_); generalize wc.drew = w54 at BK511 HB hHeld ⊢; refine take_ (i := 0) (N := some 62) (v := ?_) (a' := ?_) #[true, false, false, false, false, false, false, false, false, false] rfl rfl (take_ofW HT_.out HW_.out (by kernel_rfl)) (fun _ _ _ h => h) (Or.inl ⟨by rfl, ?_⟩) hHeld ?_ ?_; rotate_left
         · rintro w' ⟨s0, s1, s2, s3, s4, s5, s6, s7, s8⟩; go_simp; with_reducible rfl
         rotate_left
         · simp only [Act.put, List.setIfInBounds_toArray, List.set_cons_zero, List.set_cons_succ, i64_w, i32_w]; rfl
         refine one_ (i := 1) (N := some 63) #[true, true, false, false, false, false, false, false, false, false] rfl rfl (one_of HT_.out (by kernel_rfl)) (by decide) (fun K hK => ?_); refine goes_ Try.func105 (by kernel_rfl) rfl #[.agg #[.string a0_0, .string a0_1, .bool a0_2, .bool false, .bool a0_4, .int .i64 a0_5, .int .i64 a0_6, .slice A0_7 l0_7.length c0_7, .slice A0_8 l0_8.length c0_8]] (by rfl) rfl rfl (by (try simp only [List.map_toArray, List.map_cons, List.map_nil]); first | done | rfl | (simp only [List.length_drop, List.length_take]; rfl)) ?_; with_reducible refine (impl_codeRight.calls kj1 a0_0 a0_1 a0_2 false a0_4 a0_5 a0_6 _ _ l0_7 _ _ l0_8 false _ ?side1 ?side2 ?side3 ?side4 A35.out).mono ?_
         (case side1 => exact pc (Kd.C_below HR0_7.out HB.out)); (case side2 => exact HC0_7.out); (case side3 => exact pc (Kd.C_below HR0_8.out HB.out)); (case side4 => exact HC0_8.out); rintro e w55 ⟨rfl, hb⟩; refine ⟨_, rfl, ?_⟩; have n0_ := Zm (Zkb (pk BK511.out) hb); have n1_ := Zm (Zbt (bk HB.out) hb); clear BK511; clear HB; have BK511 := n0_; have HB := n1_; clear n0_ n1_; refine hK.out _ _ ⟨(Zkc BK511.out 0).trans rfl, (Zkc BK511.out 1).trans rfl, (Zkc BK511.out 2).trans rfl, (Zkc BK511.out 3).trans rfl, (Zkc BK511.out 4).trans rfl, (Zkc BK511.out 5).trans rfl, (Zkc BK511.out 6).trans rfl, (Zkc BK511.out 7).trans rfl, (Zkc BK511.out 8).trans rfl⟩ (fun hHeld => ?_); clear hK K; refine norm_ (a' := ?_) ?_ ?_; rotate_left
         · show Act.put _ (some 63) _ = _; simp only [Act.put, List.setIfInBounds_toArray, List.set_cons_zero, List.set_cons_succ, i64_w, i32_w]; rfl
         refine pure_ (i := 2) (N := some 64) (v := ?_) (a' := ?_) #[true, true, true, false, false, false, false, false, false, false] rfl rfl (any_of HT_.out (by kernel_rfl)) (fun _ _ _ h => h) (Or.inl ⟨by rfl, ?_⟩) ?_ ?_; rotate_left
         · intro w'; go_simp; with_reducible rfl
         rotate_left
         · simp only [Act.put, List.setIfInBounds_toArray, List.set_cons_zero, List.set_cons_succ, i64_w, i32_w]; rfl
         refine pure_ (i := 3) (N := some 65) (v := ?_) (a' := ?_) #[true, true, true, true, false, false, false, false, false, false] rfl rfl (any_of HT_.out (by kernel_rfl)) (fun _ _ _ h => h) (Or.inl ⟨by rfl, ?_⟩) ?_ ?_; rotate_left
         · intro w'; go_simp; with_reducible rfl
         rotate_left
         · simp only [Act.put, List.setIfInBounds_toArray, List.set_cons_zero, List.set_cons_succ, i64_w, i32_w]; rfl
         refine pure_ (i := 4) (N := some 66) (v := undef) (a' := ?_) #[true, true, true, true, true, false, false, false, false, false] rfl rfl (any_of HT_.out (by kernel_rfl)) (fun _ _ _ h => h) (Or.inr ⟨by rfl, rfl⟩) ?_ ?_; rotate_left
         · simp only [Act.put, List.setIfInBounds_toArray, List.set_cons_zero, List.set_cons_succ, i64_w, i32_w]; rfl
         refine pure_ (i := 5) (N := some 67) (v := undef) (a' := ?_) #[true, true, true, true, true, true, false, false, false, false] rfl rfl (any_of HT_.out (by kernel_rfl)) (fun _ _ _ h => h) (Or.inr ⟨by rfl, rfl⟩) ?_ ?_; rotate_left
         · simp only [Act.put, List.setIfInBounds_toArray, List.set_cons_zero, List.set_cons_succ, i64_w, i32_w]; rfl
         refine pure_ (i := 6) (N := some 68) (v := undef) (a' := ?_) #[true, true, true, true, true, true, true, false, false, false] rfl rfl (any_of HT_.out (by kernel_rfl)) (fun _ _ _ h => h) (Or.inr ⟨by rfl, rfl⟩) ?_ ?_; rotate_left
         · simp only [Act.put, List.setIfInBounds_toArray, List.set_cons_zero, List.set_cons_succ, i64_w, i32_w]; rfl
         refine pure_ (i := 7) (N := some 69) (v := undef) (a' := ?_) #[true, true, true, true, true, true, true, true, false, false] rfl rfl (any_of HT_.out (by kernel_rfl)) (fun _ _ _ h => h) (Or.inr ⟨by rfl, rfl⟩) ?_ ?_; rotate_left
         · simp only [Act.put, List.setIfInBounds_toArray, List.set_cons_zero, List.set_cons_succ, i64_w, i32_w]; rfl
         refine pure_ (i := 8) (N := some 70) (v := undef) (a' := ?_) #[true, true, true, true, true, true, true, true, true, false] rfl rfl (any_of HT_.out (by kernel_rfl)) (fun _ _ _ h => h) (Or.inr ⟨by rfl, rfl⟩) ?_ ?_; rotate_left
         · simp only [Act.put, List.setIfInBounds_toArray, List.set_cons_zero, List.set_cons_succ, i64_w, i32_w]; rfl
         refine pure_ (i := 9) (N := some 71) (v := ?_) (a' := ?_) #[true, true, true, true, true, true, true, true, true, true] rfl rfl (any_of HT_.out (by kernel_rfl)) (fun _ _ _ h => h) (Or.inl ⟨by rfl, ?_⟩) ?_ ?_; rotate_left
         · intro w'; go_simp; with_reducible rfl
         rotate_left
         · simp only [Act.put, List.setIfInBounds_toArray, List.set_cons_zero, List.set_cons_succ, i64_w, i32_w]; rfl
         refine done_ (done_of HT_.out (by kernel_rfl)) ?_; try go_wp2
         go_ret; exact fin_ HB

       subst c36
       rw [if_pos rfl] at H
       replace H := Option.bind_eq_some_iff.mp H
       obtain ⟨t517, A370, H⟩ := H
       (try dsimp only at H)
       have A37 := Zm A370
       clear A370
       have HC38 := Zm H
       clear H
       obtain ⟨hcz39_0, hcz39_1, hcz39_2, hcz39_3, hcz39_4, hcz39_5, hcz39_6, hcz39_7, hcz39_8⟩ := cz9 BK511.out
       try go_wp2
       have n0_ := (⟨Zm (Zkd BK511.out), Zm (Zbd HB.out)⟩ : _ ∧ _)
       clear BK511 HB
       obtain ⟨BK511, HB⟩ := n0_
       refine start_ (n := 10) (S := fun w' => w'.cell? ⟨gb511, 0, none⟩ = some (.string a0_0) ∧ w'.cell? ⟨gb511, 1, none⟩ = some (.string a0_1) ∧ w'.cell? ⟨gb511, 2, none⟩ = some (.bool a0_2) ∧ w'.cell? ⟨gb511, 3, none⟩ = some (.bool false) ∧ w'.cell? ⟨gb511, 4, none⟩ = some (.bool a0_4) ∧ w'.cell? ⟨gb511, 5, none⟩ = some (.int .i64 a0_5) ∧ w'.cell? ⟨gb511, 6, none⟩ = some (.int .i64 a0_6) ∧ w'.cell? ⟨gb511, 7, none⟩ = some (.slice A0_7 l0_7.length c0_7) ∧ w'.cell? ⟨gb511, 8, none⟩ = some (.slice A0_8 l0_8.length c0_8)) (ds := []) #[false, false, false, false, false, false, false, false, false, false] (by kernel_rfl) rfl rfl ⟨(Zkc BK511.out 0).trans rfl, (Zkc BK511.out 1).trans rfl, (Zkc BK511.out 2).trans rfl, (Zkc BK511.out 3).trans rfl, (Zkc BK511.out 4).trans rfl, (Zkc BK511.out 5).trans rfl, (Zkc BK511.out 6).trans rfl, (Zkc BK511.out 7).trans rfl, (Zkc BK511.out 8).trans rfl⟩ (fun hHeld => ?_); refine with_tabW impl_MethodRight.tab5 impl_MethodRight.bits5 (fun HT_ HW_ => ?_)
       generalize wc.drew = w40 at BK511 HB hHeld ⊢
       refine take_ (i := 0) (N := some 62) (v := ?_) (a' := ?_) #[true, false, false, false, false, false, false, false, false, false] rfl rfl (take_ofW HT_.out HW_.out (by kernel_rfl)) (fun _ _ _ h => h) (Or.inl ⟨by rfl, ?_⟩) hHeld ?_ ?_
       rotate_left
       · rintro w' ⟨s0, s1, s2, s3, s4, s5, s6, s7, s8⟩
         go_simp
         with_reducible rfl
       rotate_left
       · simp only [Act.put, List.setIfInBounds_toArray, List.set_cons_zero, List.set_cons_succ, i64_w, i32_w]
         rfl
       refine one_ (i := 1) (N := some 63) #[true, true, false, false, false, false, false, false, false, false] rfl rfl (one_of HT_.out (by kernel_rfl)) (by decide) (fun K hK => ?_)
       refine goes_ Try.func105 (by kernel_rfl) rfl #[.agg #[.string a0_0, .string a0_1, .bool a0_2, .bool false, .bool a0_4, .int .i64 a0_5, .int .i64 a0_6, .slice A0_7 l0_7.length c0_7, .slice A0_8 l0_8.length c0_8]] (by rfl) rfl rfl (by (try simp only [List.map_toArray, List.map_cons, List.map_nil]); first | done | rfl | (simp only [List.length_drop, List.length_take]; rfl)) ?_
       with_reducible refine (impl_codeRight.calls kj1 a0_0 a0_1 a0_2 false a0_4 a0_5 a0_6 _ _ l0_7 _ _ l0_8 true _ ?side1 ?side2 ?side3 ?side4 A35.out).mono ?_
       (case side1 => exact pc (Kd.C_below HR0_7.out HB.out))
       (case side2 => exact HC0_7.out)
       (case side3 => exact pc (Kd.C_below HR0_8.out HB.out))
       (case side4 => exact HC0_8.out)
       rintro e w41 ⟨rfl, hb⟩
       refine ⟨_, rfl, ?_⟩
       have n0_ := Zm (Zkb (pk BK511.out) hb)
       have n1_ := Zm (Zbt (bk HB.out) hb)
       clear BK511
       clear HB
       have BK511 := n0_
       have HB := n1_
       clear n0_ n1_
       refine hK.out _ _ ⟨(Zkc BK511.out 0).trans rfl, (Zkc BK511.out 1).trans rfl, (Zkc BK511.out 2).trans rfl, (Zkc BK511.out 3).trans rfl, (Zkc BK511.out 4).trans rfl, (Zkc BK511.out 5).trans rfl, (Zkc BK511.out 6).trans rfl, (Zkc BK511.out 7).trans rfl, (Zkc BK511.out 8).trans rfl⟩ (fun hHeld => ?_)
       clear hK K
       refine norm_ (a' := ?_) ?_ ?_
       rotate_left
       · show Act.put _ (some 63) _ = _
         simp only [Act.put, List.setIfInBounds_toArray, List.set_cons_zero, List.set_cons_succ, i64_w, i32_w]
         rfl
       refine pure_ (i := 2) (N := some 64) (v := ?_) (a' := ?_) #[true, true, true, false, false, false, false, false, false, false] rfl rfl (any_of HT_.out (by kernel_rfl)) (fun _ _ _ h => h) (Or.inl ⟨by rfl, ?_⟩) ?_ ?_
       rotate_left
       · intro w'
         go_simp
         with_reducible rfl
       rotate_left
       · simp only [Act.put, List.setIfInBounds_toArray, List.set_cons_zero, List.set_cons_succ, i64_w, i32_w]
         rfl
       refine pure_ (i := 3) (N := some 65) (v := ?_) (a' := ?_) #[true, true, true, true, false, false, false, false, false, false] rfl rfl (any_of HT_.out (by kernel_rfl)) (fun _ _ _ h => h) (Or.inl ⟨by rfl, ?_⟩) ?_ ?_
       rotate_left
       · intro w'
         go_simp
         with_reducible rfl
       rotate_left
       · simp only [Act.put, List.setIfInBounds_toArray, List.set_cons_zero, List.set_cons_succ, i64_w, i32_w]
         rfl
       refine pure_ (i := 4) (N := some 66) (v := ?_) (a' := ?_) #[true, true, true, true, true, false, false, false, false, false] rfl rfl (any_of HT_.out (by kernel_rfl)) (fun _ _ _ h => h) (Or.inl ⟨by rfl, ?_⟩) ?_ ?_
       rotate_left
       · intro w'
         go_simp
         with_reducible rfl
       rotate_left
       · simp only [Act.put, List.setIfInBounds_toArray, List.set_cons_zero, List.set_cons_succ, i64_w, i32_w]
         rfl
       refine take_ (i := 5) (N := some 67) (v := ?_) (a' := ?_) #[true, true, true, true, true, true, false, false, false, false] rfl rfl (take_ofW HT_.out HW_.out (by kernel_rfl)) (fun _ _ _ h => h) (Or.inl ⟨by rfl, ?_⟩) hHeld ?_ ?_
       rotate_left
       · rintro w' ⟨s0, s1, s2, s3, s4, s5, s6, s7, s8⟩
         go_simp
         with_reducible rfl
       rotate_left
       · simp only [Act.put, List.setIfInBounds_toArray, List.set_cons_zero, List.set_cons_succ, i64_w, i32_w]
         rfl
       refine take_ (i := 6) (N := some 68) (v := ?_) (a' := ?_) #[true, true, true, true, true, true, true, false, false, false] rfl rfl (take_ofW HT_.out HW_.out (by kernel_rfl)) (fun _ _ _ h => h) (Or.inl ⟨by rfl, ?_⟩) hHeld ?_ ?_
       rotate_left
       · rintro w' ⟨s0, s1, s2, s3, s4, s5, s6, s7, s8⟩
         go_simp
         with_reducible rfl
       rotate_left
       · simp only [Act.put, List.setIfInBounds_toArray, List.set_cons_zero, List.set_cons_succ, i64_w, i32_w]
         rfl
       refine one_ (i := 7) (N := some 69) #[true, true, true, true, true, true, true, true, false, false] rfl rfl (one_of HT_.out (by kernel_rfl)) (by decide) (fun K hK => ?_)
       refine goes_ Try.func106 (by kernel_rfl) rfl #[.agg #[.string a0_0, .string a0_1, .bool a0_2, .bool false, .bool a0_4, .int .i64 a0_5, .int .i64 a0_6, .slice A0_7 l0_7.length c0_7, .slice A0_8 l0_8.length c0_8]] (by rfl) rfl rfl (by (try simp only [List.map_toArray, List.map_cons, List.map_nil]); first | done | rfl | (simp only [List.length_drop, List.length_take]; rfl)) ?_
       with_reducible refine (impl_Method_slots.calls kj1 a0_0 a0_1 a0_2 false a0_4 a0_5 a0_6 _ _ l0_7 _ _ l0_8 t517 _ ?side1 ?side2 ?side3 ?side4 A37.out).mono ?_
       (case side1 => exact pc (Kd.C_below HR0_7.out HB.out))
       (case side2 => exact HC0_7.out)
       (case side3 => exact pc (Kd.C_below HR0_8.out HB.out))
       (case side4 => exact HC0_8.out)
       rintro e w42 ⟨rfl, hb⟩
       refine ⟨_, rfl, ?_⟩
       have n0_ := Zm (Zkb (pk BK511.out) hb)
       have n1_ := Zm (Zbt (bk HB.out) hb)
       clear BK511
       clear HB
       have BK511 := n0_
       have HB := n1_
       clear n0_ n1_
       refine hK.out _ _ ⟨(Zkc BK511.out 0).trans rfl, (Zkc BK511.out 1).trans rfl, (Zkc BK511.out 2).trans rfl, (Zkc BK511.out 3).trans rfl, (Zkc BK511.out 4).trans rfl, (Zkc BK511.out 5).trans rfl, (Zkc BK511.out 6).trans rfl, (Zkc BK511.out 7).trans rfl, (Zkc BK511.out 8).trans rfl⟩ (fun hHeld => ?_)
       clear hK K
       refine norm_ (a' := ?_) ?_ ?_
       rotate_left
       · show Act.put _ (some 69) _ = _
         simp only [Act.put, List.setIfInBounds_toArray, List.set_cons_zero, List.set_cons_succ, i64_w, i32_w]
         rfl
       refine pure_ (i := 8) (N := some 70) (v := ?_) (a' := ?_) #[true, true, true, true, true, true, true, true, true, false] rfl rfl (any_of HT_.out (by kernel_rfl)) (fun _ _ _ h => h) (Or.inl ⟨by rfl, ?_⟩) ?_ ?_
       rotate_left
       · intro w'
         go_simp
         with_reducible rfl
       rotate_left
       · simp only [Act.put, List.setIfInBounds_toArray, List.set_cons_zero, List.set_cons_succ, i64_w, i32_w]
         rfl
       refine pure_ (i := 9) (N := some 71) (v := ?_) (a' := ?_) #[true, true, true, true, true, true, true, true, true, true] rfl rfl (any_of HT_.out (by kernel_rfl)) (fun _ _ _ h => h) (Or.inl ⟨by rfl, ?_⟩) ?_ ?_
       rotate_left
       · intro w'
         go_simp
         with_reducible rfl
       rotate_left
       · simp only [Act.put, List.setIfInBounds_toArray, List.set_cons_zero, List.set_cons_succ, i64_w, i32_w]
         rfl
       refine done_ (done_of HT_.out (by kernel_rfl)) ?_
       go_upto_if 71 with (fail)
       have H := HC38.out
       clear HC38
       by_cases c43 : a0_6 < t517
       rotate_left
       · rw [if_neg c43] at H
         have c43b0 := decide_eq_false c43
         clear c43
         (first | rw [c43b0] | (simp only [i64_w, i32_w]; rw [c43b0]) | skip)
         by_cases c44 : a0_0.toList = ([60, 105, 110, 105, 116, 62] : List UInt8)
         rotate_left
         · rw [if_neg c44] at H
           have c44b0 : (a0_0.toList == ([60, 105, 110, 105, 116, 62] : List UInt8)) = false := beq_eq_false_iff_ne.mpr c44
           have c44b1 : (a0_0.toList != ([60, 105, 110, 105, 116, 62] : List UInt8)) = true := bne_iff_ne.mpr c44
           obtain rfl := Option.some.inj H
           obtain ⟨hcz52_0, hcz52_1, hcz52_2, hcz52_3, hcz52_4, hcz52_5, hcz52_6, hcz52_7, hcz52_8⟩ := cz9 BK511.out
           go_wp2
           go_ret
           exact fin_ HB
         rw [if_pos c44] at H
         have c44b0 : (a0_0.toList == ([60, 105, 110, 105, 116, 62] : List UInt8)) = true := beq_iff_eq.mpr c44
         have c44b1 : (a0_0.toList != ([60, 105, 110, 105, 116, 62] : List UInt8)) = false := bne_eq_false_iff_eq.mpr c44
         clear c44
         by_cases c45 : a0_2 = true
         rotate_left
         · replace c45 := Bool.eq_false_iff.mpr c45
           subst c45
           rw [if_neg (show ¬ (false = true) by decide)] at H
           by_cases c47 : a0_4 = true
           rotate_left
           · replace c47 := Bool.eq_false_iff.mpr c47
             subst c47
             rw [if_neg (show ¬ (false = true) by decide)] at H
             replace H := Option.bind_eq_some_iff.mp H
             obtain ⟨⟨t518, t521, t522, t523⟩, A490, H⟩ := H
             (try dsimp only at H)
             have A49 := Zm A490
             clear A490
             obtain rfl := Option.some.inj H
             obtain ⟨hcz50_0, hcz50_1, hcz50_2, hcz50_3, hcz50_4, hcz50_5, hcz50_6, hcz50_7, hcz50_8⟩ := cz9 BK511.out
             (try clear BK511)
             go_wp2_with (first | (go_at_call 107; (first | (with_reducible refine (impl_descRead.calls _ _ _ _ _ _ _ A49.out).mono ?_) | (with_reducible refine (calls_of_args ?_ (impl_descRead.calls _ _ _ _ _ _ _ A49.out)).mono ?_; focus (simp [*]; done))); rintro e w51 ⟨v519, rfl, ho0, hb⟩; have n0_ := (⟨Zm (Kd.R_lower ho0 (Zbz (bk HB.out))), Zm (Zbt (bk HB.out) hb)⟩ : _ ∧ _); clear HB; obtain ⟨HO520, HB⟩ := n0_; (try clear hb); (try clear hb2); (try clear hk); (try clear hi); (try clear ho0)))
             go_ret
             exact fin_ HB
           subst c47
           rw [if_pos rfl] at H
           obtain rfl := Option.some.inj H
           obtain ⟨hcz48_0, hcz48_1, hcz48_2, hcz48_3, hcz48_4, hcz48_5, hcz48_6, hcz48_7, hcz48_8⟩ := cz9 BK511.out
           go_wp2
           go_ret
           exact fin_ HB
         subst c45
         rw [if_pos rfl] at H
         obtain rfl := Option.some.inj H
         obtain ⟨hcz46_0, hcz46_1, hcz46_2, hcz46_3, hcz46_4, hcz46_5, hcz46_6, hcz46_7, hcz46_8⟩ := cz9 BK511.out
         go_wp2
         go_ret
         exact fin_ HB
       rw [if_pos c43] at H
       have c43b0 := decide_eq_true c43
       clear c43
       (first | rw [c43b0] | (simp only [i64_w, i32_w]; rw [c43b0]) | skip)
       obtain rfl := Option.some.inj H
       go_wp2
       go_ret
       exact fin_ HB
     subst c21
     rw [if_pos rfl] at H
     by_cases c22 : a0_5 = 0
     rotate_left
     · rw [if_neg c22] at H
       have c22b0 : (a0_5 == 0) = false := beq_eq_false_iff_ne.mpr c22
       have c22b1 : (a0_5 != 0) = true := bne_iff_ne.mpr c22
       obtain rfl := Option.some.inj H
       obtain ⟨hcz34_0, hcz34_1, hcz34_2, hcz34_3, hcz34_4, hcz34_5, hcz34_6, hcz34_7, hcz34_8⟩ := cz9 BK511.out
       go_wp2
       go_ret
       exact fin_ HB
     rw [if_pos c22] at H
     have c22b0 : (a0_5 == 0) = true := beq_iff_eq.mpr c22
     have c22b1 : (a0_5 != 0) = false := bne_eq_false_iff_eq.mpr c22
     clear c22
     by_cases c23 : a0_6 = 0
     rotate_left
     · rw [if_neg c23] at H
       have c23b0 : (a0_6 == 0) = false := beq_eq_false_iff_ne.mpr c23
       have c23b1 : (a0_6 != 0) = true := bne_iff_ne.mpr c23
       obtain rfl := Option.some.inj H
       obtain ⟨hcz33_0, hcz33_1, hcz33_2, hcz33_3, hcz33_4, hcz33_5, hcz33_6, hcz33_7, hcz33_8⟩ := cz9 BK511.out
       go_wp2
       go_ret
       exact fin_ HB
     rw [if_pos c23] at H
     have c23b0 : (a0_6 == 0) = true := beq_iff_eq.mpr c23
     have c23b1 : (a0_6 != 0) = false := bne_eq_false_iff_eq.mpr c23
     clear c23
     by_cases c24 : (l0_7.length : Int) = 0
     rotate_left
     · rw [if_neg c24] at H
       have c24b0 : ((l0_7.length : Int) == 0) = false := beq_eq_false_iff_ne.mpr c24
       have c24b1 : ((l0_7.length : Int) != 0) = true := bne_iff_ne.mpr c24
       have c24b2 : ¬ (l0_7 = []) := fun h_ => c24 (by rw [h_]; rfl)
       obtain rfl := Option.some.inj H
       obtain ⟨hcz32_0, hcz32_1, hcz32_2, hcz32_3, hcz32_4, hcz32_5, hcz32_6, hcz32_7, hcz32_8⟩ := cz9 BK511.out
       go_wp2
       go_ret
       exact fin_ HB
     rw [if_pos c24] at H
     have c24b0 : ((l0_7.length : Int) == 0) = true := beq_iff_eq.mpr c24
     have c24b1 : ((l0_7.length : Int) != 0) = false := bne_eq_false_iff_eq.mpr c24
     clear c24
     by_cases c25 : (l0_8.length : Int) = 0
     rotate_left
     · rw [if_neg c25] at H
       have c25b0 : ((l0_8.length : Int) == 0) = false := beq_eq_false_iff_ne.mpr c25
       have c25b1 : ((l0_8.length : Int) != 0) = true := bne_iff_ne.mpr c25
       have c25b2 : ¬ (l0_8 = []) := fun h_ => c25 (by rw [h_]; rfl)
       obtain rfl := Option.some.inj H
       obtain ⟨hcz31_0, hcz31_1, hcz31_2, hcz31_3, hcz31_4, hcz31_5, hcz31_6, hcz31_7, hcz31_8⟩ := cz9 BK511.out
       go_wp2
       go_ret
       exact fin_ HB
     rw [if_pos c25] at H
     have c25b0 : ((l0_8.length : Int) == 0) = true := beq_iff_eq.mpr c25
     have c25b1 : ((l0_8.length : Int) != 0) = false := bne_eq_false_iff_eq.mpr c25
     clear c25
     by_cases c26 : a0_2 = true
     rotate_left
     · replace c26 := Bool.eq_false_iff.mpr c26
       subst c26
       rw [if_neg (show ¬ (false = true) by decide)] at H
       by_cases c28 : a0_4 = true
       rotate_left
       · replace c28 := Bool.eq_false_iff.mpr c28
         subst c28
         rw [if_neg (show ¬ (false = true) by decide)] at H
         obtain rfl := Option.some.inj H
         obtain ⟨hcz30_0, hcz30_1, hcz30_2, hcz30_3, hcz30_4, hcz30_5, hcz30_6, hcz30_7, hcz30_8⟩ := cz9 BK511.out
         go_wp2
         go_ret
         exact fin_ HB
       subst c28
       rw [if_pos rfl] at H
       obtain rfl := Option.some.inj H
       obtain ⟨hcz29_0, hcz29_1, hcz29_2, hcz29_3, hcz29_4, hcz29_5, hcz29_6, hcz29_7, hcz29_8⟩ := cz9 BK511.out
       go_wp2
       go_ret
       exact fin_ HB
     subst c26
     rw [if_pos rfl] at H
     obtain rfl := Option.some.inj H
     obtain ⟨hcz27_0, hcz27_1, hcz27_2, hcz27_3, hcz27_4, hcz27_5, hcz27_6, hcz27_7, hcz27_8⟩ := cz9 BK511.out
     go_wp2
     go_ret
     exact fin_ HB
   subst c20
   rw [if_pos rfl] at H
   obtain rfl := Option.some.inj H
   go_wp2
   go_ret
   exact fin_ HB
/-! ### impl_Class_fieldAt_1: function 165 -/
def impl_Class_fieldAt_1.f (a0_0 : ByteArray) (a0_1 : ByteArray) (a0_2 : Bool) (s1_0 : ByteArray) : Option (Bool) := some (a0_0.toList == s1_0.toList)
set_option maxHeartbeats 8000000 in
set_option maxRecDepth 100000 in
theorem impl_Class_fieldAt_1.calls (a0_0 : ByteArray) (a0_1 : ByteArray) (a0_2 : Bool) (gb36 : Nat) (s1_0 : ByteArray) (r : Bool) (w : World) (hb36 : w.heap[gb36]? = some (.cells #[.string s1_0] 9 (0, 0))) (h : impl_Class_fieldAt_1.f a0_0 a0_1 a0_2 s1_0 = some r) :
 Calls Try.prog 165 #[.agg #[.string a0_0, .string a0_1, .bool a0_2], .pointer (some ⟨gb36, 0, none⟩)] w fun e w' => e = .returned (.bool r) ∧ Below w.heap.size w w' := by
 have hu123 := Try.underlying123; have BK36 := Zm hb36; clear hb36; have HB := Zm (Below.refl w.heap.size w); have H : (some (a0_0.toList == s1_0.toList)) = some r := h; clear h; obtain rfl := Option.some.inj H; go_enter Try.func165, Try.ntmps165; go_wp2_with (first | ((with_reducible refine gate_dst (N := 2) rfl ?_); refine box_event ?hg (N := 2) ?hd (cs := #[.string a0_0, .string a0_1, .bool a0_2]) (t := 123) ?hr ?_; (case hd => rfl); (case hg => rfl); (case hr => first | (go_simp; done) | (go_simp; rfl)); intro gb524 hg w3 hbox hb; have n0_ := (⟨Zm (Zkb (pk BK36.out) hb), Zm (Zbt (bk HB.out) hb), Zm (hbox), Zm ((by rw [hg]; exact (Zbz (bk HB.out)) : w.heap.size ≤ gb524)), Zm ((by rw [hg]; exact (Zbz (bk HB.out)) : w.heap.size ≤ gb524)), Zm ((by rw [hg]; exact Nat.ne_of_lt (blk_lt (pk BK36.out)) : gb36 ≠ gb524)), Zm ((by rw [hg]; exact Nat.ne_of_gt (blk_lt (pk BK36.out)) : gb524 ≠ gb36))⟩ : _ ∧ _ ∧ _ ∧ _ ∧ _ ∧ _ ∧ _); clear BK36 HB; obtain ⟨BK36, HB, BK524, GW524, GE524, NB36_524, NB524_36⟩ := n0_; clear hb hbox hg; have hnb4 := NB524_36.out; have hnc4 := NB36_524.out; obtain ⟨hcz5_0, hcz5_1, hcz5_2⟩ := cz3 BK524.out; have hcz6_0 : w3.cell? ⟨gb36, 0, none⟩ = some (.string s1_0) := (Zkc BK36.out 0).trans rfl; have hfz6_0 := Zkf BK36.out 0)); go_ret; exact fin_ HB

/-! ### impl_Field: function 164 -/
def impl_Field.l0 : Nat → List (S123) → Int → Int → ByteArray → Option (Int)
 | 0, _, _, _, _ => none
 | k + 1, x0, x7, x8, x37000 => if x8 < x7 then (if 0 ≤ x8 then (if x8 < (x0.length : Int) then ((impl_Class_fieldAt_1.f ((rd_T123 x0 x8).f0) ((rd_T123 x0 x8).f1) ((rd_T123 x0 x8).f2) x37000).bind fun t526 => (if t526 = true then (some x8) else (impl_Field.l0 k x0 x7 (wrap64 (x8 + 1)) x37000))) else (none)) else (none)) else (some (-1))
def impl_Field.f (k : Nat) (l0 : List (S123)) (s1_0 : ByteArray) : Option (Int) := impl_Field.l0 k l0 (l0.length : Int) 0 s1_0
set_option maxHeartbeats 8000000 in
set_option maxRecDepth 100000 in
theorem impl_Field.calls (k : Nat) (A0 : Option Addr) (c0 : Nat) (l0 : List (S123)) (gb36 : Nat) (s1_0 : ByteArray) (r : Int) (w : World) (hr0 : Kd.C k123 w A0 l0.length l0) (hc0 : l0.length ≤ c0) (hb36 : w.heap[gb36]? = some (.cells #[.string s1_0] 9 (0, 0))) (h : impl_Field.f k l0 s1_0 = some r) :
 Calls Try.prog 164 #[.slice A0 l0.length c0, .func (.func 165) #[] #[.pointer (some ⟨gb36, 0, none⟩)]] w fun e w' => e = .returned (.int .i64 r) ∧ Below w.heap.size w w' := by
 have hu123 := Try.underlying123; have HR0 := Zm hr0; have HC0 := Zm hc0; clear hr0 hc0; have BK36 := Zm hb36; clear hb36; have HB := Zm (Below.refl w.heap.size w); have H : (impl_Field.l0 k l0 (l0.length : Int) 0 s1_0) = some r := h; clear h; have H' := Zm H; clear H; go_enter Try.func164, Try.ntmps164; go_wp2; go_loopg [8] k (fun kq v8 w' => ∃ (x8_1 : Int), v8 = .int .i64 x8_1 ∧ Aside0 (impl_Field.l0 kq l0 (l0.length : Int) x8_1 s1_0 = some r) ∧ Aside0 (kq ≤ k) ∧ Aside0 (w'.heap[gb36]? = some (.cells #[.string s1_0] 9 (0, 0))) ∧ Aside0 (Below w.heap.size w w'))
 case atStart => exact ⟨(0), (by first | rfl | (simp; done) | (simp [*]; done)), H', ⟨Nat.le_refl _⟩, ⟨pk BK36.out⟩, ⟨bk HB.out⟩⟩
 case round =>
  clear H'; obtain ⟨x8_1, rfl, HA, HK1, BK36, HB⟩ := hrel
  cases gk with
  | zero => exact absurd HA.out (by simp [impl_Field.l0])
  | succ k1 =>
   have H := HA.out; clear HA; simp only [impl_Field.l0] at H; by_cases c3 : x8_1 < (l0.length : Int); rotate_left
   · rw [if_neg c3] at H; have c3b0 := decide_eq_false c3; clear c3; obtain rfl := Option.some.inj H; go_wp2; go_ret; exact fin_ HB

   rw [if_pos c3] at H
   have c3b0 := decide_eq_true c3
   clear c3
   by_cases c4 : 0 ≤ x8_1
   rotate_left
   · rw [if_neg c4] at H
     exact absurd H (by simp)
   rw [if_pos c4] at H
   have c4b0 := decide_eq_true c4
   clear c4
   by_cases c5 : x8_1 < (l0.length : Int)
   rotate_left
   · rw [if_neg c5] at H
     exact absurd H (by simp)
   rw [if_pos c5] at H
   have c5b0 := decide_eq_true c5
   clear c5
   replace H := Option.bind_eq_some_iff.mp H
   obtain ⟨t526, A60, H⟩ := H
   (try dsimp only at H)
   have A6 := Zm A60
   clear A60
   have HC7 := Zm H
   clear H
   have p525 : 0 ≤ (x8_1 : Int) := of_decide_eq_true (by first | (with_reducible assumption) | assumption)
   have q525 : x8_1 < (l0.length : Int) := of_decide_eq_true (by first | (with_reducible assumption) | assumption)
   obtain ⟨ad525, e525, hx525_0, hx525_1, hx525_2⟩ := at_T123 HR0.out x8_1 p525 q525
   cases e525
   replace hx525_0 := hx_ HB hx525_0 (Zlt _ _ hx525_0)
   replace hx525_1 := hx_ HB hx525_1 (Zlt _ _ hx525_1)
   replace hx525_2 := hx_ HB hx525_2 (Zlt _ _ hx525_2)
   replace p525 := eq_true p525
   replace q525 := eq_true q525
   go_upto_if 16 with (first | (go_at_call 165; (first | (with_reducible refine (impl_Class_fieldAt_1.calls _ _ _ gb36 _ _ _ ?side1 A6.out).mono ?_) | (with_reducible refine (calls_of_args ?_ (impl_Class_fieldAt_1.calls _ _ _ gb36 _ _ _ ?side1 A6.out)).mono ?_; focus (simp [*]; done))); (case side1 => (with_reducible repeat (first | refine Zkn ?_ _ | refine Zkd ?_ | refine Zka ?_ _)); exact BK36.out); rintro e w8 ⟨rfl, hb⟩; have n0_ := (⟨Zm (Zkb (pk BK36.out) hb), Zm (Zbt (bk HB.out) hb)⟩ : _ ∧ _); clear BK36 HB; obtain ⟨BK36, HB⟩ := n0_; (try clear hb); (try clear hb2); (try clear hk); (try clear hi)))
   have H := HC7.out
   clear HC7
   by_cases c9 : t526 = true
   rotate_left
   · replace c9 := Bool.eq_false_iff.mpr c9
     subst c9
     rw [if_neg (show ¬ (false = true) by decide)] at H
     have H' := Zm H
     clear H
     go_wp2
     go_roundg k1
     case measure => have := HK1.out; omega
     case rel => exact ⟨(wrap64 (x8_1 + 1)), (by first | rfl | (simp; done) | (simp [*]; done)), H', ⟨by have := HK1.out; omega⟩, ⟨pk BK36.out⟩, ⟨bk HB.out⟩⟩
   subst c9
   rw [if_pos rfl] at H
   obtain rfl := Option.some.inj H
   go_wp2
   go_ret
   exact fin_ HB
/-! ### impl_Class_fieldAt: function 113 -/
def impl_Class_fieldAt.f (k : Nat) (a0_0 : ByteArray) (a0_1 : ByteArray) (a0_2 : Bool) (a0_3 : Bool) (l0_4 : List (S123)) (l0_5 : List (S84)) (a1 : ByteArray) : Option (Int) := (impl_Field.f k l0_4 a1).bind fun t529 => (some t529)
set_option maxHeartbeats 8000000 in
set_option maxRecDepth 100000 in
theorem impl_Class_fieldAt.calls (k : Nat) (a0_0 : ByteArray) (a0_1 : ByteArray) (a0_2 : Bool) (a0_3 : Bool) (A0_4 : Option Addr) (c0_4 : Nat) (l0_4 : List (S123)) (A0_5 : Option Addr) (c0_5 : Nat) (l0_5 : List (S84)) (a1 : ByteArray) (r : Int) (w : World) (hr0_4 : Kd.C k123 w A0_4 l0_4.length l0_4) (hc0_4 : l0_4.length ≤ c0_4) (hr0_5 : Kd.C k84 w A0_5 l0_5.length l0_5) (hc0_5 : l0_5.length ≤ c0_5) (h : impl_Class_fieldAt.f k a0_0 a0_1 a0_2 a0_3 l0_4 l0_5 a1 = some r) :
 Calls Try.prog 113 #[.agg #[.string a0_0, .string a0_1, .bool a0_2, .bool a0_3, .slice A0_4 l0_4.length c0_4, .slice A0_5 l0_5.length c0_5], .string a1] w fun e w' => e = .returned (.int .i64 r) ∧ Below w.heap.size w w' := by
 have hu51 := Try.underlying51; have HR0_4 := Zm hr0_4; have HC0_4 := Zm hc0_4; clear hr0_4 hc0_4; have HR0_5 := Zm hr0_5; have HC0_5 := Zm hc0_5; clear hr0_5 hc0_5; have HB := Zm (Below.refl w.heap.size w); have H : ((impl_Field.f k l0_4 a1).bind fun t529 => (some t529)) = some r := h; clear h; replace H := Option.bind_eq_some_iff.mp H; obtain ⟨t529, A30, H⟩ := H; (try dsimp only at H); have A3 := Zm A30; clear A30; obtain rfl := Option.some.inj H; go_enter Try.func113, Try.ntmps113; go_wp2_with (first | ((with_reducible refine gate_dst (N := 2) rfl ?_); refine box_event ?hg (N := 2) ?hd (cs := #[.string a0_0, .string a0_1, .bool a0_2, .bool a0_3, .slice A0_4 l0_4.length c0_4, .slice A0_5 l0_5.length c0_5]) (t := 51) ?hr ?_; (case hd => rfl); (case hg => rfl); (case hr => first | (go_simp; done) | (go_simp; rfl)); intro gb527 hg w4 hbox hb; have n0_ := (⟨Zm (Zbt (bk HB.out) hb), Zm (hbox), Zm ((by rw [hg]; exact (Zbz (bk HB.out)) : w.heap.size ≤ gb527)), Zm ((by rw [hg]; exact (Zbz (bk HB.out)) : w.heap.size ≤ gb527))⟩ : _ ∧ _ ∧ _ ∧ _); clear HB; obtain ⟨HB, BK527, GW527, GE527⟩ := n0_; clear hb hbox hg) | ((with_reducible refine gate_dst (N := 3) rfl ?_); refine box_event ?hg (N := 3) ?hd (cs := #[.string a1]) (t := 9) ?hr ?_; (case hd => rfl); (case hg => rfl); (case hr => first | (go_simp; done) | (go_simp; rfl)); intro gb528 hg w5 hbox hb; have n0_ := (⟨Zm (Zkb (pk BK527.out) hb), Zm (Zbt (bk HB.out) hb), Zm (hbox), Zm ((by rw [hg]; exact (Zbz (bk HB.out)) : w.heap.size ≤ gb528)), Zm ((by rw [hg]; exact (Zbz (bk HB.out)) : w.heap.size ≤ gb528)), Zm ((by rw [hg]; exact Nat.ne_of_lt (blk_lt (pk BK527.out)) : gb527 ≠ gb528)), Zm ((by rw [hg]; exact Nat.ne_of_gt (blk_lt (pk BK527.out)) : gb528 ≠ gb527))⟩ : _ ∧ _ ∧ _ ∧ _ ∧ _ ∧ _ ∧ _); clear BK527 HB; obtain ⟨BK527, HB, BK528, GW528, GE528, NB527_528, NB528_527⟩ := n0_; clear hb hbox hg; have hnb6 := NB527_528.out; have hnc6 := NB528_527.out; obtain ⟨hcz7_0, hcz7_1, hcz7_2, hcz7_3, hcz7_4, hcz7_5⟩ := cz6 BK527.out; (try clear BK527)) | (go_at_call 164; (first | (with_reducible refine (impl_Field.calls _ _ _ _ gb528 _ _ _ ?side1 ?side2 ?side3 A3.out).mono ?_) | (with_reducible refine (calls_of_args ?_ (impl_Field.calls _ _ _ _ gb528 _ _ _ ?side1 ?side2 ?side3 A3.out)).mono ?_; focus (simp [*]; done))); (case side1 => exact pc (Kd.C_below HR0_4.out HB.out)); (case side2 => exact HC0_4.out); (case side3 => (with_reducible repeat (first | refine Zkn ?_ _ | refine Zkd ?_ | refine Zka ?_ _)); exact BK528.out); rintro e w8 ⟨rfl, hb⟩; have n0_ := (⟨Zm (Zkb (pk BK528.out) hb), Zm (Zbt (bk HB.out) hb)⟩ : _ ∧ _); clear BK528 HB; obtain ⟨BK528, HB⟩ := n0_; (try clear hb); (try clear hb2); (try clear hk); (try clear hi))); go_ret; exact fin_ HB

/-! ### impl_Class_methodAt_1: function 167 -/
def impl_Class_methodAt_1.f (a0_0 : ByteArray) (a0_1 : ByteArray) (a0_2 : Bool) (a0_3 : Bool) (a0_4 : Bool) (a0_5 : Int) (a0_6 : Int) (l0_7 : List (S156)) (l0_8 : List (S160)) (s1_0 : ByteArray) (s2_0 : ByteArray) : Option (Bool) := if a0_0.toList = s1_0.toList then (some (a0_1.toList == s2_0.toList)) else (some false)
set_option maxHeartbeats 8000000 in
set_option maxRecDepth 100000 in
theorem impl_Class_methodAt_1.calls (a0_0 : ByteArray) (a0_1 : ByteArray) (a0_2 : Bool) (a0_3 : Bool) (a0_4 : Bool) (a0_5 : Int) (a0_6 : Int) (A0_7 : Option Addr) (c0_7 : Nat) (l0_7 : List (S156)) (A0_8 : Option Addr) (c0_8 : Nat) (l0_8 : List (S160)) (gb36 : Nat) (s1_0 : ByteArray) (gb42 : Nat) (s2_0 : ByteArray) (r : Bool) (w : World) (hr0_7 : Kd.C k156 w A0_7 l0_7.length l0_7) (hc0_7 : l0_7.length ≤ c0_7) (hr0_8 : Kd.C k160 w A0_8 l0_8.length l0_8) (hc0_8 : l0_8.length ≤ c0_8) (hb36 : w.heap[gb36]? = some (.cells #[.string s1_0] 9 (0, 0))) (hb42 : w.heap[gb42]? = some (.cells #[.string s2_0] 9 (0, 0))) (hn36_42 : gb36 ≠ gb42) (h : impl_Class_methodAt_1.f a0_0 a0_1 a0_2 a0_3 a0_4 a0_5 a0_6 l0_7 l0_8 s1_0 s2_0 = some r) :
 Calls Try.prog 167 #[.agg #[.string a0_0, .string a0_1, .bool a0_2, .bool a0_3, .bool a0_4, .int .i64 a0_5, .int .i64 a0_6, .slice A0_7 l0_7.length c0_7, .slice A0_8 l0_8.length c0_8], .pointer (some ⟨gb36, 0, none⟩), .pointer (some ⟨gb42, 0, none⟩)] w fun e w' => e = .returned (.bool r) ∧ Below w.heap.size w w' := by
 have hu84 := Try.underlying84; have HR0_7 := Zm hr0_7; have HC0_7 := Zm hc0_7; clear hr0_7 hc0_7; have HR0_8 := Zm hr0_8; have HC0_8 := Zm hc0_8; clear hr0_8 hc0_8; have BK36 := Zm hb36; clear hb36; have NB36_42 := Zm hn36_42; have NB42_36 := Zm (Ne.symm hn36_42); clear hn36_42; have BK42 := Zm hb42; clear hb42; have HB := Zm (Below.refl w.heap.size w); have H : (if a0_0.toList = s1_0.toList then (some (a0_1.toList == s2_0.toList)) else (some false)) = some r := h; clear h; by_cases c4 : a0_0.toList = s1_0.toList; rotate_left
 · rw [if_neg c4] at H; have c4b0 : (a0_0.toList == s1_0.toList) = false := beq_eq_false_iff_ne.mpr c4; have c4b1 : (a0_0.toList != s1_0.toList) = true := bne_iff_ne.mpr c4; obtain rfl := Option.some.inj H; (try clear BK42); go_enter Try.func167, Try.ntmps167; go_wp2_with (first | ((with_reducible refine gate_dst (N := 3) rfl ?_); refine box_event ?hg (N := 3) ?hd (cs := #[.string a0_0, .string a0_1, .bool a0_2, .bool a0_3, .bool a0_4, .int .i64 a0_5, .int .i64 a0_6, .slice A0_7 l0_7.length c0_7, .slice A0_8 l0_8.length c0_8]) (t := 84) ?hr ?_; (case hd => rfl); (case hg => rfl); (case hr => first | (go_simp; done) | (go_simp; rfl)); intro gb530 hg w12 hbox hb; have n0_ := (⟨Zm (Zkb (pk BK36.out) hb), Zm (Zbt (bk HB.out) hb), Zm (hbox), Zm ((by rw [hg]; exact (Zbz (bk HB.out)) : w.heap.size ≤ gb530)), Zm ((by rw [hg]; exact (Zbz (bk HB.out)) : w.heap.size ≤ gb530)), Zm ((by rw [hg]; exact Nat.ne_of_lt (blk_lt (pk BK36.out)) : gb36 ≠ gb530)), Zm ((by rw [hg]; exact Nat.ne_of_gt (blk_lt (pk BK36.out)) : gb530 ≠ gb36))⟩ : _ ∧ _ ∧ _ ∧ _ ∧ _ ∧ _ ∧ _); clear BK36 HB; obtain ⟨BK36, HB, BK530, GW530, GE530, NB36_530, NB530_36⟩ := n0_; clear hb hbox hg; have hnb13 := NB530_36.out; have hnc13 := NB36_530.out; obtain ⟨hcz14_0, hcz14_1, hcz14_2, hcz14_3, hcz14_4, hcz14_5, hcz14_6, hcz14_7, hcz14_8⟩ := cz9 BK530.out; have hcz15_0 : w12.cell? ⟨gb36, 0, none⟩ = some (.string s1_0) := (Zkc BK36.out 0).trans rfl; have hfz15_0 := Zkf BK36.out 0)); go_ret; exact fin_ HB

 rw [if_pos c4] at H
 have c4b0 : (a0_0.toList == s1_0.toList) = true := beq_iff_eq.mpr c4
 have c4b1 : (a0_0.toList != s1_0.toList) = false := bne_eq_false_iff_eq.mpr c4
 clear c4
 obtain rfl := Option.some.inj H
 go_enter Try.func167, Try.ntmps167
 go_wp2_with (first | ((with_reducible refine gate_dst (N := 3) rfl ?_); refine box_event ?hg (N := 3) ?hd (cs := #[.string a0_0, .string a0_1, .bool a0_2, .bool a0_3, .bool a0_4, .int .i64 a0_5, .int .i64 a0_6, .slice A0_7 l0_7.length c0_7, .slice A0_8 l0_8.length c0_8]) (t := 84) ?hr ?_; (case hd => rfl); (case hg => rfl); (case hr => first | (go_simp; done) | (go_simp; rfl)); intro gb530 hg w5 hbox hb; have n0_ := (⟨Zm (Zkb (pk BK36.out) hb), Zm (Zkb (pk BK42.out) hb), Zm (Zbt (bk HB.out) hb), Zm (hbox), Zm ((by rw [hg]; exact (Zbz (bk HB.out)) : w.heap.size ≤ gb530)), Zm ((by rw [hg]; exact (Zbz (bk HB.out)) : w.heap.size ≤ gb530)), Zm ((by rw [hg]; exact Nat.ne_of_lt (blk_lt (pk BK36.out)) : gb36 ≠ gb530)), Zm ((by rw [hg]; exact Nat.ne_of_gt (blk_lt (pk BK36.out)) : gb530 ≠ gb36)), Zm ((by rw [hg]; exact Nat.ne_of_lt (blk_lt (pk BK42.out)) : gb42 ≠ gb530)), Zm ((by rw [hg]; exact Nat.ne_of_gt (blk_lt (pk BK42.out)) : gb530 ≠ gb42))⟩ : _ ∧ _ ∧ _ ∧ _ ∧ _ ∧ _ ∧ _ ∧ _ ∧ _ ∧ _); clear BK36 BK42 HB; obtain ⟨BK36, BK42, HB, BK530, GW530, GE530, NB36_530, NB530_36, NB42_530, NB530_42⟩ := n0_; clear hb hbox hg; have hnb6 := NB530_36.out; have hnc6 := NB36_530.out; have hnb7 := NB530_42.out; have hnc7 := NB42_530.out; obtain ⟨hcz8_0, hcz8_1, hcz8_2, hcz8_3, hcz8_4, hcz8_5, hcz8_6, hcz8_7, hcz8_8⟩ := cz9 BK530.out; have hnb9 := NB36_42.out; have hnc9 := NB42_36.out; have hcz10_0 : w5.cell? ⟨gb36, 0, none⟩ = some (.string s1_0) := (Zkc BK36.out 0).trans rfl; have hcz11_0 : w5.cell? ⟨gb42, 0, none⟩ = some (.string s2_0) := (Zkc BK42.out 0).trans rfl; have hfz11_0 := Zkf BK42.out 0))
 go_ret
 exact fin_ HB
end Go.Proofs.Ytlflbmbcjjegaaa.PFnExactClassRight
