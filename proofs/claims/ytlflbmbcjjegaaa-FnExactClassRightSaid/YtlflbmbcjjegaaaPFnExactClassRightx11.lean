/- Functions of the program as plain Lean functions, each with a proof that the program's call comes to the same; no condition. Written by a program of this session. -/
import Derived.Test.YtlflbmbcjjegaaaPFnExactClassRightx0
import Derived.Test.YtlflbmbcjjegaaaPFnExactClassRightx8
import Derived.Test.YtlflbmbcjjegaaaPFnExactClassRightx10
namespace Go.Proofs.Ytlflbmbcjjegaaa.PFnExactClassRight
open Go.RowKit Go.Proofs.YtlflbmbcjjegaaaW.PrintWords Go.Proofs.YtlflbmbcjjegaaaW.PrintLast Go.Proofs.YtlflbmbcjjegaaaW.PrintMore
open Go.Proofs.YtlflbmbcjjegaaaW.PrintWords renaming below_alloc → Zba, pw_below_drewN → Zbn, below_drew1 → Zbd, below_set → Zbs, below_size → Zbz, below_step → Zbt, blk_drewN → Zkn, blk_drew → Zkd, blk_alloc → Zka, blk_frozen → Zkf, blk_far → Zkr, blk_put → Zkp, blk_below → Zkb
open Go.World renaming block_lt_of_cell? → Zlt
open Go.Proofs.YtlflbmbcjjegaaaW.PrintWords.Aside0 renaming mk → Zm
attribute [local go_sem] max2_int min2_int max_two min_two max_three min_three max_four min_four   -- for this text's walks alone
set_option linter.unusedVariables false
set_option linter.unusedSimpArgs false

/-! ### spec_ClassRight: function 38 -/
mutual
def spec_ClassRight.j0 : Nat → Bool → ByteArray → ByteArray → Bool → Bool → List (S123) → List (S84) → Option (Bool)
 | 0, _, _, _, _, _, _, _ => none
 | k + 1, x44, x340000, x340001, x340002, x340003, x340004, x340005 => if x44 = true then (some false) else (spec_ClassRight.l0 k 0 x340000 x340001 x340002 x340003 x340004 x340005)
def spec_ClassRight.l0 : Nat → Int → ByteArray → ByteArray → Bool → Bool → List (S123) → List (S84) → Option (Bool)
 | 0, _, _, _, _, _, _, _ => none
 | k + 1, x3, x340000, x340001, x340002, x340003, x340004, x340005 => if x3 < (x340004.length : Int) then (if 0 ≤ x3 then ((spec_NameRight.f k ((rd_T123 x340004 x3).f0)).bind fun t343 => (if t343 = true then ((spec_TypeRight.f k ((rd_T123 x340004 x3).f1)).bind fun t345 => (spec_ClassRight.j2 k x3 (!t345) x340000 x340001 x340002 x340003 x340004 x340005)) else (spec_ClassRight.j2 k x3 true x340000 x340001 x340002 x340003 x340004 x340005))) else (none)) else (spec_ClassRight.l2 k 0 x340000 x340001 x340002 x340003 x340004 x340005)
def spec_ClassRight.j2 : Nat → Int → Bool → ByteArray → ByteArray → Bool → Bool → List (S123) → List (S84) → Option (Bool)
 | 0, _, _, _, _, _, _, _, _ => none
 | k + 1, x3, x69, x340000, x340001, x340002, x340003, x340004, x340005 => if x69 = true then (some false) else (spec_ClassRight.l1 k x3 0 x340000 x340001 x340002 x340003 x340004 x340005)
def spec_ClassRight.l1 : Nat → Int → Int → ByteArray → ByteArray → Bool → Bool → List (S123) → List (S84) → Option (Bool)
 | 0, _, _, _, _, _, _, _, _ => none
 | k + 1, x3, x4, x340000, x340001, x340002, x340003, x340004, x340005 => if x4 < x3 then (if 0 ≤ x4 then (if x4 < (x340004.length : Int) then (if 0 ≤ x3 then (if x3 < (x340004.length : Int) then (if ((rd_T123 x340004 x4).f0).toList = ((rd_T123 x340004 x3).f0).toList then (some false) else (spec_ClassRight.l1 k x3 (wrap64 (x4 + 1)) x340000 x340001 x340002 x340003 x340004 x340005)) else (none)) else (none)) else (none)) else (none)) else (spec_ClassRight.l0 k (wrap64 (x3 + 1)) x340000 x340001 x340002 x340003 x340004 x340005)
def spec_ClassRight.l2 : Nat → Int → ByteArray → ByteArray → Bool → Bool → List (S123) → List (S84) → Option (Bool)
 | 0, _, _, _, _, _, _, _ => none
 | k + 1, x5, x340000, x340001, x340002, x340003, x340004, x340005 => if x5 < (x340005.length : Int) then (if 0 ≤ x5 then ((spec_MethodRight.f k ((rd_T84 x340005 x5).f0) ((rd_T84 x340005 x5).f1) ((rd_T84 x340005 x5).f2) ((rd_T84 x340005 x5).f3) ((rd_T84 x340005 x5).f4) ((rd_T84 x340005 x5).f5) ((rd_T84 x340005 x5).f6) ((rd_T84 x340005 x5).f7) ((rd_T84 x340005 x5).f8)).bind fun t350 => (if t350 = true then (if (rd_T84 x340005 x5).f3 = true then (spec_ClassRight.j5 k x5 (!x340003) x340000 x340001 x340002 x340003 x340004 x340005 ((rd_T84 x340005 x5).f0) ((rd_T84 x340005 x5).f1) ((rd_T84 x340005 x5).f2) ((rd_T84 x340005 x5).f3) ((rd_T84 x340005 x5).f4) ((rd_T84 x340005 x5).f5) ((rd_T84 x340005 x5).f6) ((rd_T84 x340005 x5).f7) ((rd_T84 x340005 x5).f8)) else (spec_ClassRight.j5 k x5 false x340000 x340001 x340002 x340003 x340004 x340005 ((rd_T84 x340005 x5).f0) ((rd_T84 x340005 x5).f1) ((rd_T84 x340005 x5).f2) ((rd_T84 x340005 x5).f3) ((rd_T84 x340005 x5).f4) ((rd_T84 x340005 x5).f5) ((rd_T84 x340005 x5).f6) ((rd_T84 x340005 x5).f7) ((rd_T84 x340005 x5).f8))) else (spec_ClassRight.j5 k x5 true x340000 x340001 x340002 x340003 x340004 x340005 ((rd_T84 x340005 x5).f0) ((rd_T84 x340005 x5).f1) ((rd_T84 x340005 x5).f2) ((rd_T84 x340005 x5).f3) ((rd_T84 x340005 x5).f4) ((rd_T84 x340005 x5).f5) ((rd_T84 x340005 x5).f6) ((rd_T84 x340005 x5).f7) ((rd_T84 x340005 x5).f8)))) else (none)) else (some true)
def spec_ClassRight.j5 : Nat → Int → Bool → ByteArray → ByteArray → Bool → Bool → List (S123) → List (S84) → ByteArray → ByteArray → Bool → Bool → Bool → Int → Int → List (S156) → List (S160) → Option (Bool)
 | 0, _, _, _, _, _, _, _, _, _, _, _, _, _, _, _, _, _ => none
 | k + 1, x5, x111, x340000, x340001, x340002, x340003, x340004, x340005, x350000, x350001, x350002, x350003, x350004, x350005, x350006, x350007, x350008 => if x111 = true then (some false) else (spec_ClassRight.l3 k x5 0 x340000 x340001 x340002 x340003 x340004 x340005 x350000 x350001 x350002 x350003 x350004 x350005 x350006 x350007 x350008)
def spec_ClassRight.l3 : Nat → Int → Int → ByteArray → ByteArray → Bool → Bool → List (S123) → List (S84) → ByteArray → ByteArray → Bool → Bool → Bool → Int → Int → List (S156) → List (S160) → Option (Bool)
 | 0, _, _, _, _, _, _, _, _, _, _, _, _, _, _, _, _, _ => none
 | k + 1, x5, x7, x340000, x340001, x340002, x340003, x340004, x340005, x350000, x350001, x350002, x350003, x350004, x350005, x350006, x350007, x350008 => if x7 < x5 then (if 0 ≤ x7 then (if x7 < (x340005.length : Int) then (if ((rd_T84 x340005 x7).f0).toList = x350000.toList then (if ((rd_T84 x340005 x7).f1).toList = x350001.toList then (some false) else (spec_ClassRight.l3 k x5 (wrap64 (x7 + 1)) x340000 x340001 x340002 x340003 x340004 x340005 x350000 x350001 x350002 x350003 x350004 x350005 x350006 x350007 x350008)) else (spec_ClassRight.l3 k x5 (wrap64 (x7 + 1)) x340000 x340001 x340002 x340003 x340004 x340005 x350000 x350001 x350002 x350003 x350004 x350005 x350006 x350007 x350008)) else (none)) else (none)) else (spec_ClassRight.l2 k (wrap64 (x5 + 1)) x340000 x340001 x340002 x340003 x340004 x340005)
end
def spec_ClassRight.f (k : Nat) (a0_0 : ByteArray) (a0_1 : ByteArray) (a0_2 : Bool) (a0_3 : Bool) (l0_4 : List (S123)) (l0_5 : List (S84)) : Option (Bool) := (spec_NameRight.f k a0_0).bind fun t340 => (if t340 = true then ((spec_NameRight.f k a0_1).bind fun t341 => (if t341 = true then (if a0_0.toList = a0_1.toList then (spec_ClassRight.j0 k true a0_0 a0_1 a0_2 a0_3 l0_4 l0_5) else (if a0_2 = true then (if a0_3 = true then (spec_ClassRight.j0 k true a0_0 a0_1 a0_2 a0_3 l0_4 l0_5) else (if (l0_4.length : Int) > 8 then (spec_ClassRight.j0 k true a0_0 a0_1 a0_2 a0_3 l0_4 l0_5) else (spec_ClassRight.j0 k (decide ((l0_5.length : Int) > 10)) a0_0 a0_1 a0_2 a0_3 l0_4 l0_5))) else (if (l0_4.length : Int) > 8 then (spec_ClassRight.j0 k true a0_0 a0_1 a0_2 a0_3 l0_4 l0_5) else (spec_ClassRight.j0 k (decide ((l0_5.length : Int) > 10)) a0_0 a0_1 a0_2 a0_3 l0_4 l0_5)))) else (spec_ClassRight.j0 k true a0_0 a0_1 a0_2 a0_3 l0_4 l0_5))) else (spec_ClassRight.j0 k true a0_0 a0_1 a0_2 a0_3 l0_4 l0_5))
set_option maxHeartbeats 8000000 in
set_option maxRecDepth 100000 in
theorem spec_ClassRight.calls (k : Nat) (a0_0 : ByteArray) (a0_1 : ByteArray) (a0_2 : Bool) (a0_3 : Bool) (A0_4 : Option Addr) (c0_4 : Nat) (l0_4 : List (S123)) (A0_5 : Option Addr) (c0_5 : Nat) (l0_5 : List (S84)) (r : Bool) (w : World) (hr0_4 : Kd.C k123 w A0_4 l0_4.length l0_4) (hc0_4 : l0_4.length ≤ c0_4) (hr0_5 : Kd.C k84 w A0_5 l0_5.length l0_5) (hc0_5 : l0_5.length ≤ c0_5) (h : spec_ClassRight.f k a0_0 a0_1 a0_2 a0_3 l0_4 l0_5 = some r) :
 Calls Try.prog 38 #[.agg #[.string a0_0, .string a0_1, .bool a0_2, .bool a0_3, .slice A0_4 l0_4.length c0_4, .slice A0_5 l0_5.length c0_5]] w fun e w' => e = .returned (.bool r) ∧ Below w.heap.size w w' := by
 have hu51 := Try.underlying51; have hu84 := Try.underlying84; have HR0_4 := Zm hr0_4; have HC0_4 := Zm hc0_4; clear hr0_4 hc0_4; have HR0_5 := Zm hr0_5; have HC0_5 := Zm hc0_5; clear hr0_5 hc0_5; have HB := Zm (Below.refl w.heap.size w); have H : ((spec_NameRight.f k a0_0).bind fun t340 => (if t340 = true then ((spec_NameRight.f k a0_1).bind fun t341 => (if t341 = true then (if a0_0.toList = a0_1.toList then (spec_ClassRight.j0 k true a0_0 a0_1 a0_2 a0_3 l0_4 l0_5) else (if a0_2 = true then (if a0_3 = true then (spec_ClassRight.j0 k true a0_0 a0_1 a0_2 a0_3 l0_4 l0_5) else (if (l0_4.length : Int) > 8 then (spec_ClassRight.j0 k true a0_0 a0_1 a0_2 a0_3 l0_4 l0_5) else (spec_ClassRight.j0 k (decide ((l0_5.length : Int) > 10)) a0_0 a0_1 a0_2 a0_3 l0_4 l0_5))) else (if (l0_4.length : Int) > 8 then (spec_ClassRight.j0 k true a0_0 a0_1 a0_2 a0_3 l0_4 l0_5) else (spec_ClassRight.j0 k (decide ((l0_5.length : Int) > 10)) a0_0 a0_1 a0_2 a0_3 l0_4 l0_5)))) else (spec_ClassRight.j0 k true a0_0 a0_1 a0_2 a0_3 l0_4 l0_5))) else (spec_ClassRight.j0 k true a0_0 a0_1 a0_2 a0_3 l0_4 l0_5))) = some r := h; clear h; have HC2 := Zm H; clear H; go_enter Try.func38, Try.ntmps38; go_upto_region 1 with (first | ((with_reducible refine gate_dst (N := 1) rfl ?_); (try (refine gate_guard (by rfl) ?_; dsimp only)); refine box_event ?hg (N := 1) ?hd (cs := #[.string a0_0, .string a0_1, .bool a0_2, .bool a0_3, .slice A0_4 l0_4.length c0_4, .slice A0_5 l0_5.length c0_5]) (t := 51) ?hr ?_; (case hd => rfl); (case hg => rfl); (case hr => first | (go_simp; done) | (go_simp; rfl)); intro gb339 hg w3 hbox hb; have n0_ := (⟨Zm (Zbt (bk HB.out) hb), Zm (hbox), Zm ((by rw [hg]; exact (Zbz (bk HB.out)) : w.heap.size ≤ gb339)), Zm ((by rw [hg]; exact (Zbz (bk HB.out)) : w.heap.size ≤ gb339))⟩ : _ ∧ _ ∧ _ ∧ _); clear HB; obtain ⟨HB, BK339, GW339, GE339⟩ := n0_; clear hb hbox hg))
 repeat (go_quiet (first | ((with_reducible refine gate_dst (N := 1) rfl ?_); (try (refine gate_guard (by rfl) ?_; dsimp only)); refine box_event ?hg (N := 1) ?hd (cs := #[.string a0_0, .string a0_1, .bool a0_2, .bool a0_3, .slice A0_4 l0_4.length c0_4, .slice A0_5 l0_5.length c0_5]) (t := 51) ?hr ?_; (case hd => rfl); (case hg => rfl); (case hr => first | (go_simp; done) | (go_simp; rfl)); intro gb339 hg w3 hbox hb; have n0_ := (⟨Zm (Zbt (bk HB.out) hb), Zm (hbox), Zm ((by rw [hg]; exact (Zbz (bk HB.out)) : w.heap.size ≤ gb339)), Zm ((by rw [hg]; exact (Zbz (bk HB.out)) : w.heap.size ≤ gb339))⟩ : _ ∧ _ ∧ _ ∧ _); clear HB; obtain ⟨HB, BK339, GW339, GE339⟩ := n0_; clear hb hbox hg)); go_upto_region 1 with (first | ((with_reducible refine gate_dst (N := 1) rfl ?_); (try (refine gate_guard (by rfl) ?_; dsimp only)); refine box_event ?hg (N := 1) ?hd (cs := #[.string a0_0, .string a0_1, .bool a0_2, .bool a0_3, .slice A0_4 l0_4.length c0_4, .slice A0_5 l0_5.length c0_5]) (t := 51) ?hr ?_; (case hd => rfl); (case hg => rfl); (case hr => first | (go_simp; done) | (go_simp; rfl)); intro gb339 hg w3 hbox hb; have n0_ := (⟨Zm (Zbt (bk HB.out) hb), Zm (hbox), Zm ((by rw [hg]; exact (Zbz (bk HB.out)) : w.heap.size ≤ gb339)), Zm ((by rw [hg]; exact (Zbz (bk HB.out)) : w.heap.size ≤ gb339))⟩ : _ ∧ _ ∧ _ ∧ _); clear HB; obtain ⟨HB, BK339, GW339, GE339⟩ := n0_; clear hb hbox hg)))
 (try simp only [Act.put, List.setIfInBounds_toArray, List.set_cons_zero, List.set_cons_succ]); go_cut [44] (fun v44 wc => ∃ (kq : Nat) (x44_1 : Bool), v44 = .bool x44_1 ∧ Aside0 (spec_ClassRight.j0 kq x44_1 a0_0 a0_1 a0_2 a0_3 l0_4 l0_5 = some r) ∧ Aside0 (kq ≤ k) ∧ Aside0 (wc.heap[gb339]? = some (.cells #[.string a0_0, .string a0_1, .bool a0_2, .bool a0_3, (.slice A0_4 l0_4.length c0_4), (.slice A0_5 l0_5.length c0_5)] 51 (0, 0))) ∧ Aside0 (Below w.heap.size w wc))
 case first =>
  have H := HC2.out; clear HC2; replace H := Option.bind_eq_some_iff.mp H; obtain ⟨t340, A40, H⟩ := H; (try dsimp only at H); have A4 := Zm A40; clear A40; by_cases c5 : t340 = true; rotate_left
  · replace c5 := Bool.eq_false_iff.mpr c5; subst c5; rw [if_neg (show ¬ (false = true) by decide)] at H; have H' := Zm H; clear H; obtain ⟨hcz20_0, hcz20_1, hcz20_2, hcz20_3, hcz20_4, hcz20_5⟩ := cz6 BK339.out; go_wp2_with (first | (go_at_call 97; (first | (with_reducible refine (spec_NameRight.calls _ _ _ _ A4.out).mono ?_) | (with_reducible refine (calls_of_args ?_ (spec_NameRight.calls _ _ _ _ A4.out)).mono ?_; focus (simp [*]; done))); rintro e w' ⟨rfl, ⟨nd, rfl⟩⟩; (try first | exact ⟨rfl, _, World.drewN_drewN _ _ _⟩ | exact ⟨rfl, _, Eq.trans (World.drewN_drewN _ _ _) (congrArg (World.drewN _) (Nat.add_assoc _ _ _))⟩)))
    repeat (go_quiet (first | (go_at_call 97; (first | (with_reducible refine (spec_NameRight.calls _ _ _ _ A4.out).mono ?_) | (with_reducible refine (calls_of_args ?_ (spec_NameRight.calls _ _ _ _ A4.out)).mono ?_; focus (simp [*]; done))); rintro e w' ⟨rfl, ⟨nd, rfl⟩⟩; (try first | exact ⟨rfl, _, World.drewN_drewN _ _ _⟩ | exact ⟨rfl, _, Eq.trans (World.drewN_drewN _ _ _) (congrArg (World.drewN _) (Nat.add_assoc _ _ _))⟩))); try go_wp2)
    go_meet
    case rel => exact ⟨_, (true), (by first | rfl | (simp; done) | (simp [*]; done)), H', ⟨by first | omega | exact Nat.le_refl _⟩, ⟨pk BK339.out⟩, ⟨bk HB.out⟩⟩
  subst c5; rw [if_pos rfl] at H; replace H := Option.bind_eq_some_iff.mp H; obtain ⟨t341, A60, H⟩ := H; (try dsimp only at H); have A6 := Zm A60; clear A60; by_cases c7 : t341 = true; rotate_left
  · replace c7 := Bool.eq_false_iff.mpr c7; subst c7; rw [if_neg (show ¬ (false = true) by decide)] at H; have H' := Zm H; clear H; obtain ⟨hcz19_0, hcz19_1, hcz19_2, hcz19_3, hcz19_4, hcz19_5⟩ := cz6 BK339.out; go_wp2_with (first | (go_at_call 97; (first | (with_reducible refine (spec_NameRight.calls _ _ _ _ A4.out).mono ?_) | (with_reducible refine (calls_of_args ?_ (spec_NameRight.calls _ _ _ _ A4.out)).mono ?_; focus (simp [*]; done))); rintro e w' ⟨rfl, ⟨nd, rfl⟩⟩; (try first | exact ⟨rfl, _, World.drewN_drewN _ _ _⟩ | exact ⟨rfl, _, Eq.trans (World.drewN_drewN _ _ _) (congrArg (World.drewN _) (Nat.add_assoc _ _ _))⟩)) | (go_at_call 97; (first | (with_reducible refine (spec_NameRight.calls _ _ _ _ A6.out).mono ?_) | (with_reducible refine (calls_of_args ?_ (spec_NameRight.calls _ _ _ _ A6.out)).mono ?_; focus (simp [*]; done))); rintro e w' ⟨rfl, ⟨nd, rfl⟩⟩; (try first | exact ⟨rfl, _, World.drewN_drewN _ _ _⟩ | exact ⟨rfl, _, Eq.trans (World.drewN_drewN _ _ _) (congrArg (World.drewN _) (Nat.add_assoc _ _ _))⟩)))
    repeat (go_quiet (first | (go_at_call 97; (first | (with_reducible refine (spec_NameRight.calls _ _ _ _ A4.out).mono ?_) | (with_reducible refine (calls_of_args ?_ (spec_NameRight.calls _ _ _ _ A4.out)).mono ?_; focus (simp [*]; done))); rintro e w' ⟨rfl, ⟨nd, rfl⟩⟩; (try first | exact ⟨rfl, _, World.drewN_drewN _ _ _⟩ | exact ⟨rfl, _, Eq.trans (World.drewN_drewN _ _ _) (congrArg (World.drewN _) (Nat.add_assoc _ _ _))⟩)) | (go_at_call 97; (first | (with_reducible refine (spec_NameRight.calls _ _ _ _ A6.out).mono ?_) | (with_reducible refine (calls_of_args ?_ (spec_NameRight.calls _ _ _ _ A6.out)).mono ?_; focus (simp [*]; done))); rintro e w' ⟨rfl, ⟨nd, rfl⟩⟩; (try first | exact ⟨rfl, _, World.drewN_drewN _ _ _⟩ | exact ⟨rfl, _, Eq.trans (World.drewN_drewN _ _ _) (congrArg (World.drewN _) (Nat.add_assoc _ _ _))⟩))); try go_wp2)
    go_meet
    case rel => exact ⟨_, (true), (by first | rfl | (simp; done) | (simp [*]; done)), H', ⟨by first | omega | exact Nat.le_refl _⟩, ⟨pk BK339.out⟩, ⟨bk HB.out⟩⟩
  subst c7; rw [if_pos rfl] at H; by_cases c8 : a0_0.toList = a0_1.toList; rotate_left
  · rw [if_neg c8] at H; have c8b0 : (a0_0.toList == a0_1.toList) = false := beq_eq_false_iff_ne.mpr c8; have c8b1 : (a0_0.toList != a0_1.toList) = true := bne_iff_ne.mpr c8; (first | rw [c8b0] | (simp only [i64_w, i32_w]; rw [c8b0]) | skip); by_cases c10 : a0_2 = true; rotate_left
    · replace c10 := Bool.eq_false_iff.mpr c10; subst c10; rw [if_neg (show ¬ (false = true) by decide)] at H; by_cases c16 : (l0_4.length : Int) > 8; rotate_left
      · rw [if_neg c16] at H; have c16b0 : decide (8 < (l0_4.length : Int)) = false := decide_eq_false c16; have c16b1 : decide (8 < l0_4.length) = false := decide_eq_false (by omega); clear c16; have H' := Zm H; clear H; obtain ⟨hcz18_0, hcz18_1, hcz18_2, hcz18_3, hcz18_4, hcz18_5⟩ := cz6 BK339.out; go_wp2_with (first | (go_at_call 97; (first | (with_reducible refine (spec_NameRight.calls _ _ _ _ A4.out).mono ?_) | (with_reducible refine (calls_of_args ?_ (spec_NameRight.calls _ _ _ _ A4.out)).mono ?_; focus (simp [*]; done))); rintro e w' ⟨rfl, ⟨nd, rfl⟩⟩; (try first | exact ⟨rfl, _, World.drewN_drewN _ _ _⟩ | exact ⟨rfl, _, Eq.trans (World.drewN_drewN _ _ _) (congrArg (World.drewN _) (Nat.add_assoc _ _ _))⟩)) | (go_at_call 97; (first | (with_reducible refine (spec_NameRight.calls _ _ _ _ A6.out).mono ?_) | (with_reducible refine (calls_of_args ?_ (spec_NameRight.calls _ _ _ _ A6.out)).mono ?_; focus (simp [*]; done))); rintro e w' ⟨rfl, ⟨nd, rfl⟩⟩; (try first | exact ⟨rfl, _, World.drewN_drewN _ _ _⟩ | exact ⟨rfl, _, Eq.trans (World.drewN_drewN _ _ _) (congrArg (World.drewN _) (Nat.add_assoc _ _ _))⟩)))
        repeat (go_quiet (first | (go_at_call 97; (first | (with_reducible refine (spec_NameRight.calls _ _ _ _ A4.out).mono ?_) | (with_reducible refine (calls_of_args ?_ (spec_NameRight.calls _ _ _ _ A4.out)).mono ?_; focus (simp [*]; done))); rintro e w' ⟨rfl, ⟨nd, rfl⟩⟩; (try first | exact ⟨rfl, _, World.drewN_drewN _ _ _⟩ | exact ⟨rfl, _, Eq.trans (World.drewN_drewN _ _ _) (congrArg (World.drewN _) (Nat.add_assoc _ _ _))⟩)) | (go_at_call 97; (first | (with_reducible refine (spec_NameRight.calls _ _ _ _ A6.out).mono ?_) | (with_reducible refine (calls_of_args ?_ (spec_NameRight.calls _ _ _ _ A6.out)).mono ?_; focus (simp [*]; done))); rintro e w' ⟨rfl, ⟨nd, rfl⟩⟩; (try first | exact ⟨rfl, _, World.drewN_drewN _ _ _⟩ | exact ⟨rfl, _, Eq.trans (World.drewN_drewN _ _ _) (congrArg (World.drewN _) (Nat.add_assoc _ _ _))⟩))); try go_wp2)
        go_meet
        case rel => exact ⟨_, (decide ((l0_5.length : Int) > 10)), (by first | rfl | (simp; done) | (simp [*]; done)), H', ⟨by first | omega | exact Nat.le_refl _⟩, ⟨pk BK339.out⟩, ⟨bk HB.out⟩⟩
      rw [if_pos c16] at H; have c16b0 : decide (8 < (l0_4.length : Int)) = true := decide_eq_true c16; have c16b1 : decide (8 < l0_4.length) = true := decide_eq_true (by omega); clear c16; have H' := Zm H; clear H; obtain ⟨hcz17_0, hcz17_1, hcz17_2, hcz17_3, hcz17_4, hcz17_5⟩ := cz6 BK339.out; go_wp2_with (first | (go_at_call 97; (first | (with_reducible refine (spec_NameRight.calls _ _ _ _ A4.out).mono ?_) | (with_reducible refine (calls_of_args ?_ (spec_NameRight.calls _ _ _ _ A4.out)).mono ?_; focus (simp [*]; done))); rintro e w' ⟨rfl, ⟨nd, rfl⟩⟩; (try first | exact ⟨rfl, _, World.drewN_drewN _ _ _⟩ | exact ⟨rfl, _, Eq.trans (World.drewN_drewN _ _ _) (congrArg (World.drewN _) (Nat.add_assoc _ _ _))⟩)) | (go_at_call 97; (first | (with_reducible refine (spec_NameRight.calls _ _ _ _ A6.out).mono ?_) | (with_reducible refine (calls_of_args ?_ (spec_NameRight.calls _ _ _ _ A6.out)).mono ?_; focus (simp [*]; done))); rintro e w' ⟨rfl, ⟨nd, rfl⟩⟩; (try first | exact ⟨rfl, _, World.drewN_drewN _ _ _⟩ | exact ⟨rfl, _, Eq.trans (World.drewN_drewN _ _ _) (congrArg (World.drewN _) (Nat.add_assoc _ _ _))⟩)))
      repeat (go_quiet (first | (go_at_call 97; (first | (with_reducible refine (spec_NameRight.calls _ _ _ _ A4.out).mono ?_) | (with_reducible refine (calls_of_args ?_ (spec_NameRight.calls _ _ _ _ A4.out)).mono ?_; focus (simp [*]; done))); rintro e w' ⟨rfl, ⟨nd, rfl⟩⟩; (try first | exact ⟨rfl, _, World.drewN_drewN _ _ _⟩ | exact ⟨rfl, _, Eq.trans (World.drewN_drewN _ _ _) (congrArg (World.drewN _) (Nat.add_assoc _ _ _))⟩)) | (go_at_call 97; (first | (with_reducible refine (spec_NameRight.calls _ _ _ _ A6.out).mono ?_) | (with_reducible refine (calls_of_args ?_ (spec_NameRight.calls _ _ _ _ A6.out)).mono ?_; focus (simp [*]; done))); rintro e w' ⟨rfl, ⟨nd, rfl⟩⟩; (try first | exact ⟨rfl, _, World.drewN_drewN _ _ _⟩ | exact ⟨rfl, _, Eq.trans (World.drewN_drewN _ _ _) (congrArg (World.drewN _) (Nat.add_assoc _ _ _))⟩))); try go_wp2)
      go_meet
      case rel => exact ⟨_, (true), (by first | rfl | (simp; done) | (simp [*]; done)), H', ⟨by first | omega | exact Nat.le_refl _⟩, ⟨pk BK339.out⟩, ⟨bk HB.out⟩⟩
    subst c10; rw [if_pos rfl] at H; by_cases c11 : a0_3 = true; rotate_left
    · replace c11 := Bool.eq_false_iff.mpr c11; subst c11; rw [if_neg (show ¬ (false = true) by decide)] at H; by_cases c13 : (l0_4.length : Int) > 8; rotate_left
      · rw [if_neg c13] at H; have c13b0 : decide (8 < (l0_4.length : Int)) = false := decide_eq_false c13; have c13b1 : decide (8 < l0_4.length) = false := decide_eq_false (by omega); clear c13; have H' := Zm H; clear H; obtain ⟨hcz15_0, hcz15_1, hcz15_2, hcz15_3, hcz15_4, hcz15_5⟩ := cz6 BK339.out; go_wp2_with (first | (go_at_call 97; (first | (with_reducible refine (spec_NameRight.calls _ _ _ _ A4.out).mono ?_) | (with_reducible refine (calls_of_args ?_ (spec_NameRight.calls _ _ _ _ A4.out)).mono ?_; focus (simp [*]; done))); rintro e w' ⟨rfl, ⟨nd, rfl⟩⟩; (try first | exact ⟨rfl, _, World.drewN_drewN _ _ _⟩ | exact ⟨rfl, _, Eq.trans (World.drewN_drewN _ _ _) (congrArg (World.drewN _) (Nat.add_assoc _ _ _))⟩)) | (go_at_call 97; (first | (with_reducible refine (spec_NameRight.calls _ _ _ _ A6.out).mono ?_) | (with_reducible refine (calls_of_args ?_ (spec_NameRight.calls _ _ _ _ A6.out)).mono ?_; focus (simp [*]; done))); rintro e w' ⟨rfl, ⟨nd, rfl⟩⟩; (try first | exact ⟨rfl, _, World.drewN_drewN _ _ _⟩ | exact ⟨rfl, _, Eq.trans (World.drewN_drewN _ _ _) (congrArg (World.drewN _) (Nat.add_assoc _ _ _))⟩)))
        repeat (go_quiet (first | (go_at_call 97; (first | (with_reducible refine (spec_NameRight.calls _ _ _ _ A4.out).mono ?_) | (with_reducible refine (calls_of_args ?_ (spec_NameRight.calls _ _ _ _ A4.out)).mono ?_; focus (simp [*]; done))); rintro e w' ⟨rfl, ⟨nd, rfl⟩⟩; (try first | exact ⟨rfl, _, World.drewN_drewN _ _ _⟩ | exact ⟨rfl, _, Eq.trans (World.drewN_drewN _ _ _) (congrArg (World.drewN _) (Nat.add_assoc _ _ _))⟩)) | (go_at_call 97; (first | (with_reducible refine (spec_NameRight.calls _ _ _ _ A6.out).mono ?_) | (with_reducible refine (calls_of_args ?_ (spec_NameRight.calls _ _ _ _ A6.out)).mono ?_; focus (simp [*]; done))); rintro e w' ⟨rfl, ⟨nd, rfl⟩⟩; (try first | exact ⟨rfl, _, World.drewN_drewN _ _ _⟩ | exact ⟨rfl, _, Eq.trans (World.drewN_drewN _ _ _) (congrArg (World.drewN _) (Nat.add_assoc _ _ _))⟩))); try go_wp2)
        go_meet
        case rel => exact ⟨_, (decide ((l0_5.length : Int) > 10)), (by first | rfl | (simp; done) | (simp [*]; done)), H', ⟨by first | omega | exact Nat.le_refl _⟩, ⟨pk BK339.out⟩, ⟨bk HB.out⟩⟩
      rw [if_pos c13] at H; have c13b0 : decide (8 < (l0_4.length : Int)) = true := decide_eq_true c13; have c13b1 : decide (8 < l0_4.length) = true := decide_eq_true (by omega); clear c13; have H' := Zm H; clear H; obtain ⟨hcz14_0, hcz14_1, hcz14_2, hcz14_3, hcz14_4, hcz14_5⟩ := cz6 BK339.out; go_wp2_with (first | (go_at_call 97; (first | (with_reducible refine (spec_NameRight.calls _ _ _ _ A4.out).mono ?_) | (with_reducible refine (calls_of_args ?_ (spec_NameRight.calls _ _ _ _ A4.out)).mono ?_; focus (simp [*]; done))); rintro e w' ⟨rfl, ⟨nd, rfl⟩⟩; (try first | exact ⟨rfl, _, World.drewN_drewN _ _ _⟩ | exact ⟨rfl, _, Eq.trans (World.drewN_drewN _ _ _) (congrArg (World.drewN _) (Nat.add_assoc _ _ _))⟩)) | (go_at_call 97; (first | (with_reducible refine (spec_NameRight.calls _ _ _ _ A6.out).mono ?_) | (with_reducible refine (calls_of_args ?_ (spec_NameRight.calls _ _ _ _ A6.out)).mono ?_; focus (simp [*]; done))); rintro e w' ⟨rfl, ⟨nd, rfl⟩⟩; (try first | exact ⟨rfl, _, World.drewN_drewN _ _ _⟩ | exact ⟨rfl, _, Eq.trans (World.drewN_drewN _ _ _) (congrArg (World.drewN _) (Nat.add_assoc _ _ _))⟩)))
      repeat (go_quiet (first | (go_at_call 97; (first | (with_reducible refine (spec_NameRight.calls _ _ _ _ A4.out).mono ?_) | (with_reducible refine (calls_of_args ?_ (spec_NameRight.calls _ _ _ _ A4.out)).mono ?_; focus (simp [*]; done))); rintro e w' ⟨rfl, ⟨nd, rfl⟩⟩; (try first | exact ⟨rfl, _, World.drewN_drewN _ _ _⟩ | exact ⟨rfl, _, Eq.trans (World.drewN_drewN _ _ _) (congrArg (World.drewN _) (Nat.add_assoc _ _ _))⟩)) | (go_at_call 97; (first | (with_reducible refine (spec_NameRight.calls _ _ _ _ A6.out).mono ?_) | (with_reducible refine (calls_of_args ?_ (spec_NameRight.calls _ _ _ _ A6.out)).mono ?_; focus (simp [*]; done))); rintro e w' ⟨rfl, ⟨nd, rfl⟩⟩; (try first | exact ⟨rfl, _, World.drewN_drewN _ _ _⟩ | exact ⟨rfl, _, Eq.trans (World.drewN_drewN _ _ _) (congrArg (World.drewN _) (Nat.add_assoc _ _ _))⟩))); try go_wp2)
      go_meet
      case rel => exact ⟨_, (true), (by first | rfl | (simp; done) | (simp [*]; done)), H', ⟨by first | omega | exact Nat.le_refl _⟩, ⟨pk BK339.out⟩, ⟨bk HB.out⟩⟩
    subst c11; rw [if_pos rfl] at H; have H' := Zm H; clear H; obtain ⟨hcz12_0, hcz12_1, hcz12_2, hcz12_3, hcz12_4, hcz12_5⟩ := cz6 BK339.out; go_wp2_with (first | (go_at_call 97; (first | (with_reducible refine (spec_NameRight.calls _ _ _ _ A4.out).mono ?_) | (with_reducible refine (calls_of_args ?_ (spec_NameRight.calls _ _ _ _ A4.out)).mono ?_; focus (simp [*]; done))); rintro e w' ⟨rfl, ⟨nd, rfl⟩⟩; (try first | exact ⟨rfl, _, World.drewN_drewN _ _ _⟩ | exact ⟨rfl, _, Eq.trans (World.drewN_drewN _ _ _) (congrArg (World.drewN _) (Nat.add_assoc _ _ _))⟩)) | (go_at_call 97; (first | (with_reducible refine (spec_NameRight.calls _ _ _ _ A6.out).mono ?_) | (with_reducible refine (calls_of_args ?_ (spec_NameRight.calls _ _ _ _ A6.out)).mono ?_; focus (simp [*]; done))); rintro e w' ⟨rfl, ⟨nd, rfl⟩⟩; (try first | exact ⟨rfl, _, World.drewN_drewN _ _ _⟩ | exact ⟨rfl, _, Eq.trans (World.drewN_drewN _ _ _) (congrArg (World.drewN _) (Nat.add_assoc _ _ _))⟩)))
    repeat (go_quiet (first | (go_at_call 97; (first | (with_reducible refine (spec_NameRight.calls _ _ _ _ A4.out).mono ?_) | (with_reducible refine (calls_of_args ?_ (spec_NameRight.calls _ _ _ _ A4.out)).mono ?_; focus (simp [*]; done))); rintro e w' ⟨rfl, ⟨nd, rfl⟩⟩; (try first | exact ⟨rfl, _, World.drewN_drewN _ _ _⟩ | exact ⟨rfl, _, Eq.trans (World.drewN_drewN _ _ _) (congrArg (World.drewN _) (Nat.add_assoc _ _ _))⟩)) | (go_at_call 97; (first | (with_reducible refine (spec_NameRight.calls _ _ _ _ A6.out).mono ?_) | (with_reducible refine (calls_of_args ?_ (spec_NameRight.calls _ _ _ _ A6.out)).mono ?_; focus (simp [*]; done))); rintro e w' ⟨rfl, ⟨nd, rfl⟩⟩; (try first | exact ⟨rfl, _, World.drewN_drewN _ _ _⟩ | exact ⟨rfl, _, Eq.trans (World.drewN_drewN _ _ _) (congrArg (World.drewN _) (Nat.add_assoc _ _ _))⟩))); try go_wp2)
    go_meet
    case rel => exact ⟨_, (true), (by first | rfl | (simp; done) | (simp [*]; done)), H', ⟨by first | omega | exact Nat.le_refl _⟩, ⟨pk BK339.out⟩, ⟨bk HB.out⟩⟩
  rw [if_pos c8] at H; have c8b0 : (a0_0.toList == a0_1.toList) = true := beq_iff_eq.mpr c8; have c8b1 : (a0_0.toList != a0_1.toList) = false := bne_eq_false_iff_eq.mpr c8; clear c8; (first | rw [c8b0] | (simp only [i64_w, i32_w]; rw [c8b0]) | skip); have H' := Zm H; clear H; obtain ⟨hcz9_0, hcz9_1, hcz9_2, hcz9_3, hcz9_4, hcz9_5⟩ := cz6 BK339.out; go_wp2_with (first | (go_at_call 97; (first | (with_reducible refine (spec_NameRight.calls _ _ _ _ A4.out).mono ?_) | (with_reducible refine (calls_of_args ?_ (spec_NameRight.calls _ _ _ _ A4.out)).mono ?_; focus (simp [*]; done))); rintro e w' ⟨rfl, ⟨nd, rfl⟩⟩; (try first | exact ⟨rfl, _, World.drewN_drewN _ _ _⟩ | exact ⟨rfl, _, Eq.trans (World.drewN_drewN _ _ _) (congrArg (World.drewN _) (Nat.add_assoc _ _ _))⟩)) | (go_at_call 97; (first | (with_reducible refine (spec_NameRight.calls _ _ _ _ A6.out).mono ?_) | (with_reducible refine (calls_of_args ?_ (spec_NameRight.calls _ _ _ _ A6.out)).mono ?_; focus (simp [*]; done))); rintro e w' ⟨rfl, ⟨nd, rfl⟩⟩; (try first | exact ⟨rfl, _, World.drewN_drewN _ _ _⟩ | exact ⟨rfl, _, Eq.trans (World.drewN_drewN _ _ _) (congrArg (World.drewN _) (Nat.add_assoc _ _ _))⟩)))
  repeat (go_quiet (first | (go_at_call 97; (first | (with_reducible refine (spec_NameRight.calls _ _ _ _ A4.out).mono ?_) | (with_reducible refine (calls_of_args ?_ (spec_NameRight.calls _ _ _ _ A4.out)).mono ?_; focus (simp [*]; done))); rintro e w' ⟨rfl, ⟨nd, rfl⟩⟩; (try first | exact ⟨rfl, _, World.drewN_drewN _ _ _⟩ | exact ⟨rfl, _, Eq.trans (World.drewN_drewN _ _ _) (congrArg (World.drewN _) (Nat.add_assoc _ _ _))⟩)) | (go_at_call 97; (first | (with_reducible refine (spec_NameRight.calls _ _ _ _ A6.out).mono ?_) | (with_reducible refine (calls_of_args ?_ (spec_NameRight.calls _ _ _ _ A6.out)).mono ?_; focus (simp [*]; done))); rintro e w' ⟨rfl, ⟨nd, rfl⟩⟩; (try first | exact ⟨rfl, _, World.drewN_drewN _ _ _⟩ | exact ⟨rfl, _, Eq.trans (World.drewN_drewN _ _ _) (congrArg (World.drewN _) (Nat.add_assoc _ _ _))⟩))); try go_wp2)
  go_meet
  case rel => exact ⟨_, (true), (by first | rfl | (simp; done) | (simp [*]; done)), H', ⟨by first | omega | exact Nat.le_refl _⟩, ⟨pk BK339.out⟩, ⟨bk HB.out⟩⟩
 case rest =>
  clear HC2; obtain ⟨kq, x44_1, rfl, HA, HJ1, BK339, HB⟩ := hcut
  cases kq with
  | zero => exact absurd HA.out (by simp [spec_ClassRight.j0])
  | succ kj1 =>
   have H := HA.out; clear HA; simp only [spec_ClassRight.j0] at H; by_cases c21 : x44_1 = true; rotate_left
   · replace c21 := Bool.eq_false_iff.mpr c21; subst c21; rw [if_neg (show ¬ (false = true) by decide)] at H; have H' := Zm H; clear H; go_wp2
     repeat (go_quiet (fail); try go_wp2)
     go_loopg [3] kj1 (fun kq v3 w' => ∃ (x3_2 : Int), v3 = .int .i64 x3_2 ∧ Aside0 (spec_ClassRight.l0 kq x3_2 a0_0 a0_1 a0_2 a0_3 l0_4 l0_5 = some r) ∧ Aside0 (kq ≤ kj1) ∧ Aside0 (w'.heap[gb339]? = some (.cells #[.string a0_0, .string a0_1, .bool a0_2, .bool a0_3, (.slice A0_4 l0_4.length c0_4), (.slice A0_5 l0_5.length c0_5)] 51 (0, 0))) ∧ Aside0 (Below w.heap.size w w'))
     case atStart => exact ⟨(0), (by first | rfl | (simp; done) | (simp [*]; done)), H', ⟨Nat.le_refl _⟩, ⟨pk BK339.out⟩, ⟨bk HB.out⟩⟩
     case round =>
      clear H'; (try clear c21); obtain ⟨x3_2, rfl, HA, HK2, BK339, HB⟩ := hrel
      cases gk with
      | zero => exact absurd HA.out (by simp [spec_ClassRight.l0])
      | succ k2 =>
       have H := HA.out; clear HA; simp only [spec_ClassRight.l0] at H; by_cases c22 : x3_2 < (l0_4.length : Int); rotate_left
       · rw [if_neg c22] at H; have c22b0 := decide_eq_false c22; clear c22; have H' := Zm H; clear H; obtain ⟨hcz40_0, hcz40_1, hcz40_2, hcz40_3, hcz40_4, hcz40_5⟩ := cz6 BK339.out; go_wp2
         repeat (go_quiet (fail); try go_wp2)
         go_loopg [5] k2 (fun kq v5 w' => ∃ (x5_3 : Int), v5 = .int .i64 x5_3 ∧ Aside0 (spec_ClassRight.l2 kq x5_3 a0_0 a0_1 a0_2 a0_3 l0_4 l0_5 = some r) ∧ Aside0 (kq ≤ k2) ∧ Aside0 (w'.heap[gb339]? = some (.cells #[.string a0_0, .string a0_1, .bool a0_2, .bool a0_3, (.slice A0_4 l0_4.length c0_4), (.slice A0_5 l0_5.length c0_5)] 51 (0, 0))) ∧ Aside0 (Below w.heap.size w w'))
         case atStart => exact ⟨(0), (by first | rfl | (simp; done) | (simp [*]; done)), H', ⟨Nat.le_refl _⟩, ⟨pk BK339.out⟩, ⟨bk HB.out⟩⟩
         case round =>
          clear H'; (try clear c21); (try clear c22); (try clear c22b0); (try clear hcz40_0); (try clear hcz40_1); (try clear hcz40_2); (try clear hcz40_3); (try clear hcz40_4); (try clear hcz40_5); obtain ⟨x5_3, rfl, HA, HK3, BK339, HB⟩ := hrel
          cases gk with
          | zero => exact absurd HA.out (by simp [spec_ClassRight.l2])
          | succ k3 =>
           have H := HA.out; clear HA; simp only [spec_ClassRight.l2] at H; by_cases c41 : x5_3 < (l0_5.length : Int); rotate_left
           · rw [if_neg c41] at H; have c41b0 := decide_eq_false c41; clear c41; obtain rfl := Option.some.inj H; obtain ⟨hcz79_0, hcz79_1, hcz79_2, hcz79_3, hcz79_4, hcz79_5⟩ := cz6 BK339.out; go_wp2
             repeat (go_quiet (fail); try go_wp2)
             go_ret; exact fin_ HB

           rw [if_pos c41] at H
           have c41b0 := decide_eq_true c41
           clear c41
           by_cases c42 : 0 ≤ x5_3
           rotate_left
           · rw [if_neg c42] at H
             exact absurd H (by simp)
           rw [if_pos c42] at H
           have c42b0 := decide_eq_true c42
           clear c42
           have HC43 := Zm H
           clear H
           obtain ⟨hcz44_0, hcz44_1, hcz44_2, hcz44_3, hcz44_4, hcz44_5⟩ := cz6 BK339.out
           have p348 : 0 ≤ (x5_3 : Int) := of_decide_eq_true (by first | (with_reducible assumption) | assumption)
           have q348 : x5_3 < (l0_5.length : Int) := of_decide_eq_true (by first | (with_reducible assumption) | assumption)
           obtain ⟨ad348, A348_7, c348_7, A348_8, c348_8, e348, hx348_0, hx348_1, hx348_2, hx348_3, hx348_4, hx348_5, hx348_6, hx348_7, hx348_8, hl348_7, hi348_7, hl348_8, hi348_8⟩ := at_T84 HR0_5.out x5_3 p348 q348
           cases e348
           replace hx348_0 := hx_ HB hx348_0 (Zlt _ _ hx348_0)
           replace hx348_1 := hx_ HB hx348_1 (Zlt _ _ hx348_1)
           replace hx348_2 := hx_ HB hx348_2 (Zlt _ _ hx348_2)
           replace hx348_3 := hx_ HB hx348_3 (Zlt _ _ hx348_3)
           replace hx348_4 := hx_ HB hx348_4 (Zlt _ _ hx348_4)
           replace hx348_5 := hx_ HB hx348_5 (Zlt _ _ hx348_5)
           replace hx348_6 := hx_ HB hx348_6 (Zlt _ _ hx348_6)
           replace hx348_7 := hx_ HB hx348_7 (Zlt _ _ hx348_7)
           replace hx348_8 := hx_ HB hx348_8 (Zlt _ _ hx348_8)
           have HR348_7 := Zm hi348_7
           have HC348_7 := Zm hl348_7
           clear hi348_7 hl348_7
           have HR348_8 := Zm hi348_8
           have HC348_8 := Zm hl348_8
           clear hi348_8 hl348_8
           replace p348 := eq_true p348
           replace q348 := eq_true q348
           go_upto_region 17 with (first | ((with_reducible refine gate_dst (N := 6) rfl ?_); (try (refine gate_guard (by rfl) ?_; dsimp only)); refine box_event ?hg (N := 6) ?hd (cs := #[.string (⟨#[]⟩ : ByteArray), .string (⟨#[]⟩ : ByteArray), .bool false, .bool false, .bool false, .int .i64 0, .int .i64 0, .slice none 0 0, .slice none 0 0]) (t := 84) ?hr ?_; (case hd => rfl); (case hg => rfl); (case hr => first | (go_simp; done) | (go_simp; rfl)); intro gb349 hg w45 hbox hb; have n0_ := (⟨Zm (Zkb (pk BK339.out) hb), Zm (Zbt (bk HB.out) hb), Zm (hbox), Zm ((by rw [hg]; exact (Zbz (bk HB.out)) : w.heap.size ≤ gb349)), Zm ((by rw [hg]; exact (Zbz (bk HB.out)) : w.heap.size ≤ gb349)), Zm ((by rw [hg]; exact Nat.ne_of_lt (blk_lt (pk BK339.out)) : gb339 ≠ gb349)), Zm ((by rw [hg]; exact Nat.ne_of_gt (blk_lt (pk BK339.out)) : gb349 ≠ gb339))⟩ : _ ∧ _ ∧ _ ∧ _ ∧ _ ∧ _ ∧ _); clear BK339 HB; obtain ⟨BK339, HB, BK349, GW349, GE349, NB339_349, NB349_339⟩ := n0_; clear hb hbox hg; have hnb46 := NB349_339.out; have hnc46 := NB339_349.out; obtain ⟨hcz47_0, hcz47_1, hcz47_2, hcz47_3, hcz47_4, hcz47_5, hcz47_6, hcz47_7, hcz47_8⟩ := cz9 BK349.out; have hfz47_0 := Zkf BK349.out 0; have hfz47_1 := Zkf BK349.out 1; have hfz47_2 := Zkf BK349.out 2; have hfz47_3 := Zkf BK349.out 3; have hfz47_4 := Zkf BK349.out 4; have hfz47_5 := Zkf BK349.out 5; have hfz47_6 := Zkf BK349.out 6; have hfz47_7 := Zkf BK349.out 7; have hfz47_8 := Zkf BK349.out 8))
           repeat (go_quiet (first | ((with_reducible refine gate_dst (N := 6) rfl ?_); (try (refine gate_guard (by rfl) ?_; dsimp only)); refine box_event ?hg (N := 6) ?hd (cs := #[.string (⟨#[]⟩ : ByteArray), .string (⟨#[]⟩ : ByteArray), .bool false, .bool false, .bool false, .int .i64 0, .int .i64 0, .slice none 0 0, .slice none 0 0]) (t := 84) ?hr ?_; (case hd => rfl); (case hg => rfl); (case hr => first | (go_simp; done) | (go_simp; rfl)); intro gb349 hg w45 hbox hb; have n0_ := (⟨Zm (Zkb (pk BK339.out) hb), Zm (Zbt (bk HB.out) hb), Zm (hbox), Zm ((by rw [hg]; exact (Zbz (bk HB.out)) : w.heap.size ≤ gb349)), Zm ((by rw [hg]; exact (Zbz (bk HB.out)) : w.heap.size ≤ gb349)), Zm ((by rw [hg]; exact Nat.ne_of_lt (blk_lt (pk BK339.out)) : gb339 ≠ gb349)), Zm ((by rw [hg]; exact Nat.ne_of_gt (blk_lt (pk BK339.out)) : gb349 ≠ gb339))⟩ : _ ∧ _ ∧ _ ∧ _ ∧ _ ∧ _ ∧ _); clear BK339 HB; obtain ⟨BK339, HB, BK349, GW349, GE349, NB339_349, NB349_339⟩ := n0_; clear hb hbox hg; have hnb46 := NB349_339.out; have hnc46 := NB339_349.out; obtain ⟨hcz47_0, hcz47_1, hcz47_2, hcz47_3, hcz47_4, hcz47_5, hcz47_6, hcz47_7, hcz47_8⟩ := cz9 BK349.out; have hfz47_0 := Zkf BK349.out 0; have hfz47_1 := Zkf BK349.out 1; have hfz47_2 := Zkf BK349.out 2; have hfz47_3 := Zkf BK349.out 3; have hfz47_4 := Zkf BK349.out 4; have hfz47_5 := Zkf BK349.out 5; have hfz47_6 := Zkf BK349.out 6; have hfz47_7 := Zkf BK349.out 7; have hfz47_8 := Zkf BK349.out 8)); go_upto_region 17 with (first | ((with_reducible refine gate_dst (N := 6) rfl ?_); (try (refine gate_guard (by rfl) ?_; dsimp only)); refine box_event ?hg (N := 6) ?hd (cs := #[.string (⟨#[]⟩ : ByteArray), .string (⟨#[]⟩ : ByteArray), .bool false, .bool false, .bool false, .int .i64 0, .int .i64 0, .slice none 0 0, .slice none 0 0]) (t := 84) ?hr ?_; (case hd => rfl); (case hg => rfl); (case hr => first | (go_simp; done) | (go_simp; rfl)); intro gb349 hg w45 hbox hb; have n0_ := (⟨Zm (Zkb (pk BK339.out) hb), Zm (Zbt (bk HB.out) hb), Zm (hbox), Zm ((by rw [hg]; exact (Zbz (bk HB.out)) : w.heap.size ≤ gb349)), Zm ((by rw [hg]; exact (Zbz (bk HB.out)) : w.heap.size ≤ gb349)), Zm ((by rw [hg]; exact Nat.ne_of_lt (blk_lt (pk BK339.out)) : gb339 ≠ gb349)), Zm ((by rw [hg]; exact Nat.ne_of_gt (blk_lt (pk BK339.out)) : gb349 ≠ gb339))⟩ : _ ∧ _ ∧ _ ∧ _ ∧ _ ∧ _ ∧ _); clear BK339 HB; obtain ⟨BK339, HB, BK349, GW349, GE349, NB339_349, NB349_339⟩ := n0_; clear hb hbox hg; have hnb46 := NB349_339.out; have hnc46 := NB339_349.out; obtain ⟨hcz47_0, hcz47_1, hcz47_2, hcz47_3, hcz47_4, hcz47_5, hcz47_6, hcz47_7, hcz47_8⟩ := cz9 BK349.out; have hfz47_0 := Zkf BK349.out 0; have hfz47_1 := Zkf BK349.out 1; have hfz47_2 := Zkf BK349.out 2; have hfz47_3 := Zkf BK349.out 3; have hfz47_4 := Zkf BK349.out 4; have hfz47_5 := Zkf BK349.out 5; have hfz47_6 := Zkf BK349.out 6; have hfz47_7 := Zkf BK349.out 7; have hfz47_8 := Zkf BK349.out 8)))
           (try simp only [Act.put, List.setIfInBounds_toArray, List.set_cons_zero, List.set_cons_succ])
           go_cut [111] (fun v111 wc => ∃ (kq : Nat) (x111_42 : Bool), v111 = .bool x111_42 ∧ Aside0 (spec_ClassRight.j5 kq x5_3 x111_42 a0_0 a0_1 a0_2 a0_3 l0_4 l0_5 ((rd_T84 l0_5 x5_3).f0) ((rd_T84 l0_5 x5_3).f1) ((rd_T84 l0_5 x5_3).f2) ((rd_T84 l0_5 x5_3).f3) ((rd_T84 l0_5 x5_3).f4) ((rd_T84 l0_5 x5_3).f5) ((rd_T84 l0_5 x5_3).f6) ((rd_T84 l0_5 x5_3).f7) ((rd_T84 l0_5 x5_3).f8) = some r) ∧ Aside0 (kq ≤ k3) ∧ Aside0 (wc.heap[gb339]? = some (.cells #[.string a0_0, .string a0_1, .bool a0_2, .bool a0_3, (.slice A0_4 l0_4.length c0_4), (.slice (some ad348) l0_5.length c0_5)] 51 (0, 0))) ∧ Aside0 (wc.heap[gb349]? = some (.cells #[.string ((rd_T84 l0_5 x5_3).f0), .string ((rd_T84 l0_5 x5_3).f1), .bool ((rd_T84 l0_5 x5_3).f2), .bool ((rd_T84 l0_5 x5_3).f3), .bool ((rd_T84 l0_5 x5_3).f4), .int .i64 ((rd_T84 l0_5 x5_3).f5), .int .i64 ((rd_T84 l0_5 x5_3).f6), (.slice A348_7 ((rd_T84 l0_5 x5_3).f7).length c348_7), (.slice A348_8 ((rd_T84 l0_5 x5_3).f8).length c348_8)] 84 (0, 0))) ∧ Aside0 (Below w.heap.size w wc))
           case first =>
            have H := HC43.out
            clear HC43
            replace H := Option.bind_eq_some_iff.mp H
            obtain ⟨t350, A480, H⟩ := H
            (try dsimp only at H)
            have A48 := Zm A480
            clear A480
            by_cases c49 : t350 = true
            rotate_left
            · replace c49 := Bool.eq_false_iff.mpr c49
              subst c49
              rw [if_neg (show ¬ (false = true) by decide)] at H
              have H' := Zm H
              clear H
              have hnb61 := NB349_339.out
              have hnc61 := NB339_349.out
              obtain ⟨hcz62_0, hcz62_1, hcz62_2, hcz62_3, hcz62_4, hcz62_5, hcz62_6, hcz62_7, hcz62_8⟩ := cz9 BK349.out
              have hfz62_0 := Zkf BK349.out 0
              have hfz62_1 := Zkf BK349.out 1
              have hfz62_2 := Zkf BK349.out 2
              have hfz62_3 := Zkf BK349.out 3
              have hfz62_4 := Zkf BK349.out 4
              have hfz62_5 := Zkf BK349.out 5
              have hfz62_6 := Zkf BK349.out 6
              have hfz62_7 := Zkf BK349.out 7
              have hfz62_8 := Zkf BK349.out 8
              go_wp2_with (first | (go_at_call 34; (first | (with_reducible refine (spec_MethodRight.calls _ _ _ _ _ _ _ _ _ _ _ _ _ _ _ _ ?side1 ?side2 ?side3 ?side4 A48.out).mono ?_) | (with_reducible refine (calls_of_args ?_ (spec_MethodRight.calls _ _ _ _ _ _ _ _ _ _ _ _ _ _ _ _ ?side1 ?side2 ?side3 ?side4 A48.out)).mono ?_; focus (simp [*]; done))); (case side1 => exact Kd.C_below HR348_7.out hb_); (case side2 => exact HC348_7.out); (case side3 => exact Kd.C_below HR348_8.out hb_); (case side4 => exact HC348_8.out); rintro e w63 ⟨rfl, hb⟩; have n0_ := (⟨Zm (Zkb (g := gb339) (o := .cells #[.string a0_0, .string a0_1, .bool a0_2, .bool a0_3, .slice A0_4 l0_4.length c0_4, .slice (some ad348) l0_5.length c0_5] 51 (0, 0)) zc_ hb), Zm (Zkb (g := gb349) (o := .cells #[.string ((rd_T84 l0_5 x5_3).f0), .string ((rd_T84 l0_5 x5_3).f1), .bool ((rd_T84 l0_5 x5_3).f2), .bool ((rd_T84 l0_5 x5_3).f3), .bool ((rd_T84 l0_5 x5_3).f4), .int .i64 ((rd_T84 l0_5 x5_3).f5), .int .i64 ((rd_T84 l0_5 x5_3).f6), .slice A348_7 ((rd_T84 l0_5 x5_3).f7).length c348_7, .slice A348_8 ((rd_T84 l0_5 x5_3).f8).length c348_8] 84 (0, 0)) zc_ hb), Zm (Zbt hb_ hb)⟩ : _ ∧ _ ∧ _); clear BK339 BK349 HB; obtain ⟨BK339, BK349, HB⟩ := n0_; (try clear hb); (try clear hb2); (try clear hk); (try clear hi)))
              repeat (go_quiet (first | (go_at_call 34; (first | (with_reducible refine (spec_MethodRight.calls _ _ _ _ _ _ _ _ _ _ _ _ _ _ _ _ ?side1 ?side2 ?side3 ?side4 A48.out).mono ?_) | (with_reducible refine (calls_of_args ?_ (spec_MethodRight.calls _ _ _ _ _ _ _ _ _ _ _ _ _ _ _ _ ?side1 ?side2 ?side3 ?side4 A48.out)).mono ?_; focus (simp [*]; done))); (case side1 => exact Kd.C_below HR348_7.out hb_); (case side2 => exact HC348_7.out); (case side3 => exact Kd.C_below HR348_8.out hb_); (case side4 => exact HC348_8.out); rintro e w63 ⟨rfl, hb⟩; have n0_ := (⟨Zm (Zkb (g := gb339) (o := .cells #[.string a0_0, .string a0_1, .bool a0_2, .bool a0_3, .slice A0_4 l0_4.length c0_4, .slice (some ad348) l0_5.length c0_5] 51 (0, 0)) zc_ hb), Zm (Zkb (g := gb349) (o := .cells #[.string ((rd_T84 l0_5 x5_3).f0), .string ((rd_T84 l0_5 x5_3).f1), .bool ((rd_T84 l0_5 x5_3).f2), .bool ((rd_T84 l0_5 x5_3).f3), .bool ((rd_T84 l0_5 x5_3).f4), .int .i64 ((rd_T84 l0_5 x5_3).f5), .int .i64 ((rd_T84 l0_5 x5_3).f6), .slice A348_7 ((rd_T84 l0_5 x5_3).f7).length c348_7, .slice A348_8 ((rd_T84 l0_5 x5_3).f8).length c348_8] 84 (0, 0)) zc_ hb), Zm (Zbt hb_ hb)⟩ : _ ∧ _ ∧ _); clear BK339 BK349 HB; obtain ⟨BK339, BK349, HB⟩ := n0_; (try clear hb); (try clear hb2); (try clear hk); (try clear hi))); try go_wp2)
              go_meet
              case rel => exact ⟨_, (true), (by first | rfl | (simp; done) | (simp [*]; done)), H', ⟨by have := HJ1.out; have := HK2.out; have := HK3.out; first | omega | exact Nat.le_refl _⟩, ⟨pk BK339.out⟩, ⟨pk BK349.out⟩, ⟨bk HB.out⟩⟩
            subst c49
            rw [if_pos rfl] at H
            obtain ⟨bq50, hbq50⟩ : ∃ b_ : Bool, b_ = ((rd_T84 l0_5 x5_3).f3) := ⟨_, rfl⟩
            (try rw [← hbq50] at A48)
            replace H : (if bq50 = true then (spec_ClassRight.j5 k3 x5_3 (!a0_3) a0_0 a0_1 a0_2 a0_3 l0_4 l0_5 ((rd_T84 l0_5 x5_3).f0) ((rd_T84 l0_5 x5_3).f1) ((rd_T84 l0_5 x5_3).f2) bq50 ((rd_T84 l0_5 x5_3).f4) ((rd_T84 l0_5 x5_3).f5) ((rd_T84 l0_5 x5_3).f6) ((rd_T84 l0_5 x5_3).f7) ((rd_T84 l0_5 x5_3).f8)) else (spec_ClassRight.j5 k3 x5_3 false a0_0 a0_1 a0_2 a0_3 l0_4 l0_5 ((rd_T84 l0_5 x5_3).f0) ((rd_T84 l0_5 x5_3).f1) ((rd_T84 l0_5 x5_3).f2) bq50 ((rd_T84 l0_5 x5_3).f4) ((rd_T84 l0_5 x5_3).f5) ((rd_T84 l0_5 x5_3).f6) ((rd_T84 l0_5 x5_3).f7) ((rd_T84 l0_5 x5_3).f8))) = some r := by rw [← hbq50] at H; exact H
            have Nbq50 := Zm hbq50
            clear hbq50
            (try rw [← Nbq50.out])
            by_cases c51 : bq50 = true
            rotate_left
            · replace c51 := Bool.eq_false_iff.mpr c51
              subst c51
              rw [if_neg (show ¬ (false = true) by decide)] at H
              have H' := Zm H
              clear H
              have hnb57 := NB349_339.out
              have hnc57 := NB339_349.out
              obtain ⟨hcz58_0, hcz58_1, hcz58_2, hcz58_3, hcz58_4, hcz58_5, hcz58_6, hcz58_7, hcz58_8⟩ := cz9 BK349.out
              have hfz58_0 := Zkf BK349.out 0
              have hfz58_1 := Zkf BK349.out 1
              have hfz58_2 := Zkf BK349.out 2
              have hfz58_3 := Zkf BK349.out 3
              have hfz58_4 := Zkf BK349.out 4
              have hfz58_5 := Zkf BK349.out 5
              have hfz58_6 := Zkf BK349.out 6
              have hfz58_7 := Zkf BK349.out 7
              have hfz58_8 := Zkf BK349.out 8
              go_wp2_with (first | (go_at_call 34; (first | (with_reducible refine (spec_MethodRight.calls _ _ _ _ _ _ _ _ _ _ _ _ _ _ _ _ ?side1 ?side2 ?side3 ?side4 A48.out).mono ?_) | (with_reducible refine (calls_of_args ?_ (spec_MethodRight.calls _ _ _ _ _ _ _ _ _ _ _ _ _ _ _ _ ?side1 ?side2 ?side3 ?side4 A48.out)).mono ?_; focus (simp [*]; done))); (case side1 => exact Kd.C_below HR348_7.out hb_); (case side2 => exact HC348_7.out); (case side3 => exact Kd.C_below HR348_8.out hb_); (case side4 => exact HC348_8.out); rintro e w59 ⟨rfl, hb⟩; have n0_ := (⟨Zm (Zkb (g := gb339) (o := .cells #[.string a0_0, .string a0_1, .bool a0_2, .bool a0_3, .slice A0_4 l0_4.length c0_4, .slice (some ad348) l0_5.length c0_5] 51 (0, 0)) zc_ hb), Zm (Zkb (g := gb349) (o := .cells #[.string ((rd_T84 l0_5 x5_3).f0), .string ((rd_T84 l0_5 x5_3).f1), .bool ((rd_T84 l0_5 x5_3).f2), .bool false, .bool ((rd_T84 l0_5 x5_3).f4), .int .i64 ((rd_T84 l0_5 x5_3).f5), .int .i64 ((rd_T84 l0_5 x5_3).f6), .slice A348_7 ((rd_T84 l0_5 x5_3).f7).length c348_7, .slice A348_8 ((rd_T84 l0_5 x5_3).f8).length c348_8] 84 (0, 0)) zc_ hb), Zm (Zbt hb_ hb)⟩ : _ ∧ _ ∧ _); clear BK339 BK349 HB; obtain ⟨BK339, BK349, HB⟩ := n0_; (try clear hb); (try clear hb2); (try clear hk); (try clear hi); obtain ⟨hcz60_0, hcz60_1, hcz60_2, hcz60_3, hcz60_4, hcz60_5, hcz60_6, hcz60_7, hcz60_8⟩ := cz9 BK349.out; have hfz60_0 := Zkf BK349.out 0; have hfz60_1 := Zkf BK349.out 1; have hfz60_2 := Zkf BK349.out 2; have hfz60_3 := Zkf BK349.out 3; have hfz60_4 := Zkf BK349.out 4; have hfz60_5 := Zkf BK349.out 5; have hfz60_6 := Zkf BK349.out 6; have hfz60_7 := Zkf BK349.out 7; have hfz60_8 := Zkf BK349.out 8))
              repeat (go_quiet (first | (go_at_call 34; (first | (with_reducible refine (spec_MethodRight.calls _ _ _ _ _ _ _ _ _ _ _ _ _ _ _ _ ?side1 ?side2 ?side3 ?side4 A48.out).mono ?_) | (with_reducible refine (calls_of_args ?_ (spec_MethodRight.calls _ _ _ _ _ _ _ _ _ _ _ _ _ _ _ _ ?side1 ?side2 ?side3 ?side4 A48.out)).mono ?_; focus (simp [*]; done))); (case side1 => exact Kd.C_below HR348_7.out hb_); (case side2 => exact HC348_7.out); (case side3 => exact Kd.C_below HR348_8.out hb_); (case side4 => exact HC348_8.out); rintro e w59 ⟨rfl, hb⟩; have n0_ := (⟨Zm (Zkb (g := gb339) (o := .cells #[.string a0_0, .string a0_1, .bool a0_2, .bool a0_3, .slice A0_4 l0_4.length c0_4, .slice (some ad348) l0_5.length c0_5] 51 (0, 0)) zc_ hb), Zm (Zkb (g := gb349) (o := .cells #[.string ((rd_T84 l0_5 x5_3).f0), .string ((rd_T84 l0_5 x5_3).f1), .bool ((rd_T84 l0_5 x5_3).f2), .bool false, .bool ((rd_T84 l0_5 x5_3).f4), .int .i64 ((rd_T84 l0_5 x5_3).f5), .int .i64 ((rd_T84 l0_5 x5_3).f6), .slice A348_7 ((rd_T84 l0_5 x5_3).f7).length c348_7, .slice A348_8 ((rd_T84 l0_5 x5_3).f8).length c348_8] 84 (0, 0)) zc_ hb), Zm (Zbt hb_ hb)⟩ : _ ∧ _ ∧ _); clear BK339 BK349 HB; obtain ⟨BK339, BK349, HB⟩ := n0_; (try clear hb); (try clear hb2); (try clear hk); (try clear hi); obtain ⟨hcz60_0, hcz60_1, hcz60_2, hcz60_3, hcz60_4, hcz60_5, hcz60_6, hcz60_7, hcz60_8⟩ := cz9 BK349.out; have hfz60_0 := Zkf BK349.out 0; have hfz60_1 := Zkf BK349.out 1; have hfz60_2 := Zkf BK349.out 2; have hfz60_3 := Zkf BK349.out 3; have hfz60_4 := Zkf BK349.out 4; have hfz60_5 := Zkf BK349.out 5; have hfz60_6 := Zkf BK349.out 6; have hfz60_7 := Zkf BK349.out 7; have hfz60_8 := Zkf BK349.out 8)); try go_wp2)
              go_meet
              case rel => (try rw [← Nbq50.out]); exact ⟨_, (false), (by first | rfl | (simp; done) | (simp [*]; done)), H', ⟨by have := HJ1.out; have := HK2.out; have := HK3.out; first | omega | exact Nat.le_refl _⟩, ⟨pk BK339.out⟩, ⟨pk BK349.out⟩, ⟨bk HB.out⟩⟩
            subst c51
            rw [if_pos rfl] at H
            have H' := Zm H
            clear H
            have hnb52 := NB349_339.out
            have hnc52 := NB339_349.out
            obtain ⟨hcz53_0, hcz53_1, hcz53_2, hcz53_3, hcz53_4, hcz53_5, hcz53_6, hcz53_7, hcz53_8⟩ := cz9 BK349.out
            have hfz53_0 := Zkf BK349.out 0
            have hfz53_1 := Zkf BK349.out 1
            have hfz53_2 := Zkf BK349.out 2
            have hfz53_3 := Zkf BK349.out 3
            have hfz53_4 := Zkf BK349.out 4
            have hfz53_5 := Zkf BK349.out 5
            have hfz53_6 := Zkf BK349.out 6
            have hfz53_7 := Zkf BK349.out 7
            have hfz53_8 := Zkf BK349.out 8
            go_wp2_with (first | (go_at_call 34; (first | (with_reducible refine (spec_MethodRight.calls _ _ _ _ _ _ _ _ _ _ _ _ _ _ _ _ ?side1 ?side2 ?side3 ?side4 A48.out).mono ?_) | (with_reducible refine (calls_of_args ?_ (spec_MethodRight.calls _ _ _ _ _ _ _ _ _ _ _ _ _ _ _ _ ?side1 ?side2 ?side3 ?side4 A48.out)).mono ?_; focus (simp [*]; done))); (case side1 => exact Kd.C_below HR348_7.out hb_); (case side2 => exact HC348_7.out); (case side3 => exact Kd.C_below HR348_8.out hb_); (case side4 => exact HC348_8.out); rintro e w54 ⟨rfl, hb⟩; have n0_ := (⟨Zm (Zkb (g := gb339) (o := .cells #[.string a0_0, .string a0_1, .bool a0_2, .bool a0_3, .slice A0_4 l0_4.length c0_4, .slice (some ad348) l0_5.length c0_5] 51 (0, 0)) zc_ hb), Zm (Zkb (g := gb349) (o := .cells #[.string ((rd_T84 l0_5 x5_3).f0), .string ((rd_T84 l0_5 x5_3).f1), .bool ((rd_T84 l0_5 x5_3).f2), .bool true, .bool ((rd_T84 l0_5 x5_3).f4), .int .i64 ((rd_T84 l0_5 x5_3).f5), .int .i64 ((rd_T84 l0_5 x5_3).f6), .slice A348_7 ((rd_T84 l0_5 x5_3).f7).length c348_7, .slice A348_8 ((rd_T84 l0_5 x5_3).f8).length c348_8] 84 (0, 0)) zc_ hb), Zm (Zbt hb_ hb)⟩ : _ ∧ _ ∧ _); clear BK339 BK349 HB; obtain ⟨BK339, BK349, HB⟩ := n0_; (try clear hb); (try clear hb2); (try clear hk); (try clear hi); obtain ⟨hcz55_0, hcz55_1, hcz55_2, hcz55_3, hcz55_4, hcz55_5, hcz55_6, hcz55_7, hcz55_8⟩ := cz9 BK349.out; have hfz55_0 := Zkf BK349.out 0; have hfz55_1 := Zkf BK349.out 1; have hfz55_2 := Zkf BK349.out 2; have hfz55_3 := Zkf BK349.out 3; have hfz55_4 := Zkf BK349.out 4; have hfz55_5 := Zkf BK349.out 5; have hfz55_6 := Zkf BK349.out 6; have hfz55_7 := Zkf BK349.out 7; have hfz55_8 := Zkf BK349.out 8; obtain ⟨hcz56_0, hcz56_1, hcz56_2, hcz56_3, hcz56_4, hcz56_5⟩ := cz6 BK339.out; have hfz56_5 := Zkf BK339.out 5))
            repeat (go_quiet (first | (go_at_call 34; (first | (with_reducible refine (spec_MethodRight.calls _ _ _ _ _ _ _ _ _ _ _ _ _ _ _ _ ?side1 ?side2 ?side3 ?side4 A48.out).mono ?_) | (with_reducible refine (calls_of_args ?_ (spec_MethodRight.calls _ _ _ _ _ _ _ _ _ _ _ _ _ _ _ _ ?side1 ?side2 ?side3 ?side4 A48.out)).mono ?_; focus (simp [*]; done))); (case side1 => exact Kd.C_below HR348_7.out hb_); (case side2 => exact HC348_7.out); (case side3 => exact Kd.C_below HR348_8.out hb_); (case side4 => exact HC348_8.out); rintro e w54 ⟨rfl, hb⟩; have n0_ := (⟨Zm (Zkb (g := gb339) (o := .cells #[.string a0_0, .string a0_1, .bool a0_2, .bool a0_3, .slice A0_4 l0_4.length c0_4, .slice (some ad348) l0_5.length c0_5] 51 (0, 0)) zc_ hb), Zm (Zkb (g := gb349) (o := .cells #[.string ((rd_T84 l0_5 x5_3).f0), .string ((rd_T84 l0_5 x5_3).f1), .bool ((rd_T84 l0_5 x5_3).f2), .bool true, .bool ((rd_T84 l0_5 x5_3).f4), .int .i64 ((rd_T84 l0_5 x5_3).f5), .int .i64 ((rd_T84 l0_5 x5_3).f6), .slice A348_7 ((rd_T84 l0_5 x5_3).f7).length c348_7, .slice A348_8 ((rd_T84 l0_5 x5_3).f8).length c348_8] 84 (0, 0)) zc_ hb), Zm (Zbt hb_ hb)⟩ : _ ∧ _ ∧ _); clear BK339 BK349 HB; obtain ⟨BK339, BK349, HB⟩ := n0_; (try clear hb); (try clear hb2); (try clear hk); (try clear hi); obtain ⟨hcz55_0, hcz55_1, hcz55_2, hcz55_3, hcz55_4, hcz55_5, hcz55_6, hcz55_7, hcz55_8⟩ := cz9 BK349.out; have hfz55_0 := Zkf BK349.out 0; have hfz55_1 := Zkf BK349.out 1; have hfz55_2 := Zkf BK349.out 2; have hfz55_3 := Zkf BK349.out 3; have hfz55_4 := Zkf BK349.out 4; have hfz55_5 := Zkf BK349.out 5; have hfz55_6 := Zkf BK349.out 6; have hfz55_7 := Zkf BK349.out 7; have hfz55_8 := Zkf BK349.out 8; obtain ⟨hcz56_0, hcz56_1, hcz56_2, hcz56_3, hcz56_4, hcz56_5⟩ := cz6 BK339.out; have hfz56_5 := Zkf BK339.out 5)); try go_wp2)
            go_meet
            case rel => (try rw [← Nbq50.out]); exact ⟨_, (!a0_3), (by first | rfl | (simp; done) | (simp [*]; done)), H', ⟨by have := HJ1.out; have := HK2.out; have := HK3.out; first | omega | exact Nat.le_refl _⟩, ⟨pk BK339.out⟩, ⟨pk BK349.out⟩, ⟨bk HB.out⟩⟩
           case rest =>
            clear HC43
            (try clear c21); (try clear c22); (try clear c22b0); (try clear c41); (try clear c41b0); (try clear c42); (try clear c42b0); (try clear hcz40_0); (try clear hcz40_1); (try clear hcz40_2); (try clear hcz40_3); (try clear hcz40_4); (try clear hcz40_5); (try clear hcz44_0); (try clear hcz44_1); (try clear hcz44_2); (try clear hcz44_3); (try clear hcz44_4); (try clear hcz44_5); (try clear hcz47_0); (try clear hcz47_1); (try clear hcz47_2); (try clear hcz47_3); (try clear hcz47_4); (try clear hcz47_5); (try clear hcz47_6); (try clear hcz47_7); (try clear hcz47_8); (try clear hfz47_0); (try clear hfz47_1); (try clear hfz47_2); (try clear hfz47_3); (try clear hfz47_4); (try clear hfz47_5); (try clear hfz47_6); (try clear hfz47_7); (try clear hfz47_8); (try clear hx348_0); (try clear hx348_1); (try clear hx348_2); (try clear hx348_3); (try clear hx348_4); (try clear hx348_5); (try clear hx348_6); (try clear hx348_7); (try clear hx348_8); (try clear p348); (try clear q348)
            obtain ⟨kq, x111_42, rfl, HA, HJ42, BK339, BK349, HB⟩ := hcut
            cases kq with
            | zero => exact absurd HA.out (by simp [spec_ClassRight.j5])
            | succ kj42 =>
             have H := HA.out
             clear HA
             simp only [spec_ClassRight.j5] at H
             by_cases c64 : x111_42 = true
             rotate_left
             · replace c64 := Bool.eq_false_iff.mpr c64
               subst c64
               rw [if_neg (show ¬ (false = true) by decide)] at H
               have H' := Zm H
               clear H
               go_wp2
               repeat (go_quiet (fail); try go_wp2)
               go_loopg [7] kj42 (fun kq v7 w' => ∃ (x7_5 : Int), v7 = .int .i64 x7_5 ∧ Aside0 (spec_ClassRight.l3 kq x5_3 x7_5 a0_0 a0_1 a0_2 a0_3 l0_4 l0_5 ((rd_T84 l0_5 x5_3).f0) ((rd_T84 l0_5 x5_3).f1) ((rd_T84 l0_5 x5_3).f2) ((rd_T84 l0_5 x5_3).f3) ((rd_T84 l0_5 x5_3).f4) ((rd_T84 l0_5 x5_3).f5) ((rd_T84 l0_5 x5_3).f6) ((rd_T84 l0_5 x5_3).f7) ((rd_T84 l0_5 x5_3).f8) = some r) ∧ Aside0 (kq ≤ kj42) ∧ Aside0 (w'.heap[gb339]? = some (.cells #[.string a0_0, .string a0_1, .bool a0_2, .bool a0_3, (.slice A0_4 l0_4.length c0_4), (.slice (some ad348) l0_5.length c0_5)] 51 (0, 0))) ∧ Aside0 (w'.heap[gb349]? = some (.cells #[.string ((rd_T84 l0_5 x5_3).f0), .string ((rd_T84 l0_5 x5_3).f1), .bool ((rd_T84 l0_5 x5_3).f2), .bool ((rd_T84 l0_5 x5_3).f3), .bool ((rd_T84 l0_5 x5_3).f4), .int .i64 ((rd_T84 l0_5 x5_3).f5), .int .i64 ((rd_T84 l0_5 x5_3).f6), (.slice A348_7 ((rd_T84 l0_5 x5_3).f7).length c348_7), (.slice A348_8 ((rd_T84 l0_5 x5_3).f8).length c348_8)] 84 (0, 0))) ∧ Aside0 (Below w.heap.size w w'))
               case atStart => exact ⟨(0), (by first | rfl | (simp; done) | (simp [*]; done)), H', ⟨Nat.le_refl _⟩, ⟨pk BK339.out⟩, ⟨pk BK349.out⟩, ⟨bk HB.out⟩⟩
               case round =>
                clear H'
                (try clear c21); (try clear c22); (try clear c22b0); (try clear c41); (try clear c41b0); (try clear c42); (try clear c42b0); (try clear c64); (try clear hcz40_0); (try clear hcz40_1); (try clear hcz40_2); (try clear hcz40_3); (try clear hcz40_4); (try clear hcz40_5); (try clear hcz44_0); (try clear hcz44_1); (try clear hcz44_2); (try clear hcz44_3); (try clear hcz44_4); (try clear hcz44_5); (try clear hcz47_0); (try clear hcz47_1); (try clear hcz47_2); (try clear hcz47_3); (try clear hcz47_4); (try clear hcz47_5); (try clear hcz47_6); (try clear hcz47_7); (try clear hcz47_8); (try clear hfz47_0); (try clear hfz47_1); (try clear hfz47_2); (try clear hfz47_3); (try clear hfz47_4); (try clear hfz47_5); (try clear hfz47_6); (try clear hfz47_7); (try clear hfz47_8); (try clear hx348_0); (try clear hx348_1); (try clear hx348_2); (try clear hx348_3); (try clear hx348_4); (try clear hx348_5); (try clear hx348_6); (try clear hx348_7); (try clear hx348_8); (try clear p348); (try clear q348)
                obtain ⟨x7_5, rfl, HA, HK5, BK339, BK349, HB⟩ := hrel
                cases gk with
                | zero => exact absurd HA.out (by simp [spec_ClassRight.l3])
                | succ k5 =>
                 have H := HA.out
                 clear HA
                 simp only [spec_ClassRight.l3] at H
                 by_cases c65 : x7_5 < x5_3
                 rotate_left
                 · rw [if_neg c65] at H
                   have c65b0 := decide_eq_false c65
                   clear c65
                   have H' := Zm H
                   clear H
                   go_wp2
                   repeat (go_quiet (fail); try go_wp2)
                   go_roundg k5
                   case measure => have := HJ1.out; have := HK2.out; have := HK3.out; have := HJ42.out; have := HK5.out; omega
                   case rel => exact ⟨(wrap64 (x5_3 + 1)), (by first | rfl | (simp; done) | (simp [*]; done)), H', ⟨by have := HJ1.out; have := HK2.out; have := HK3.out; have := HJ42.out; have := HK5.out; omega⟩, ⟨pk BK339.out⟩, ⟨bk HB.out⟩⟩
                 rw [if_pos c65] at H
                 have c65b0 := decide_eq_true c65
                 clear c65
                 by_cases c66 : 0 ≤ x7_5
                 rotate_left
                 · rw [if_neg c66] at H
                   exact absurd H (by simp)
                 rw [if_pos c66] at H
                 have c66b0 := decide_eq_true c66
                 clear c66
                 by_cases c67 : x7_5 < (l0_5.length : Int)
                 rotate_left
                 · rw [if_neg c67] at H
                   exact absurd H (by simp)
                 rw [if_pos c67] at H
                 have c67b0 := decide_eq_true c67
                 clear c67
                 by_cases c68 : ((rd_T84 l0_5 x7_5).f0).toList = ((rd_T84 l0_5 x5_3).f0).toList
                 rotate_left
                 · rw [if_neg c68] at H
                   have c68b0 : (((rd_T84 l0_5 x7_5).f0).toList == ((rd_T84 l0_5 x5_3).f0).toList) = false := beq_eq_false_iff_ne.mpr c68
                   have c68b1 : (((rd_T84 l0_5 x7_5).f0).toList != ((rd_T84 l0_5 x5_3).f0).toList) = true := bne_iff_ne.mpr c68
                   have H' := Zm H
                   clear H
                   have hnb76 := NB339_349.out
                   have hnc76 := NB349_339.out
                   obtain ⟨hcz77_0, hcz77_1, hcz77_2, hcz77_3, hcz77_4, hcz77_5⟩ := cz6 BK339.out
                   have p351 : 0 ≤ (x7_5 : Int) := of_decide_eq_true (by first | (with_reducible assumption) | assumption)
                   have q351 : x7_5 < (l0_5.length : Int) := of_decide_eq_true (by first | (with_reducible assumption) | assumption)
                   obtain ⟨ad351, A351_7, c351_7, A351_8, c351_8, e351, hx351_0, hx351_1, hx351_2, hx351_3, hx351_4, hx351_5, hx351_6, hx351_7, hx351_8, hl351_7, hi351_7, hl351_8, hi351_8⟩ := at_T84 HR0_5.out x7_5 p351 q351
                   obtain rfl : ad348 = ad351 := (by injection e351)
                   replace hx351_0 := hx_ HB hx351_0 (Zlt _ _ hx351_0)
                   replace hx351_1 := hx_ HB hx351_1 (Zlt _ _ hx351_1)
                   replace hx351_2 := hx_ HB hx351_2 (Zlt _ _ hx351_2)
                   replace hx351_3 := hx_ HB hx351_3 (Zlt _ _ hx351_3)
                   replace hx351_4 := hx_ HB hx351_4 (Zlt _ _ hx351_4)
                   replace hx351_5 := hx_ HB hx351_5 (Zlt _ _ hx351_5)
                   replace hx351_6 := hx_ HB hx351_6 (Zlt _ _ hx351_6)
                   replace hx351_7 := hx_ HB hx351_7 (Zlt _ _ hx351_7)
                   replace hx351_8 := hx_ HB hx351_8 (Zlt _ _ hx351_8)
                   have HR351_7 := Zm hi351_7
                   have HC351_7 := Zm hl351_7
                   clear hi351_7 hl351_7
                   have HR351_8 := Zm hi351_8
                   have HC351_8 := Zm hl351_8
                   clear hi351_8 hl351_8
                   replace p351 := eq_true p351
                   replace q351 := eq_true q351
                   obtain ⟨hcz78_0, hcz78_1, hcz78_2, hcz78_3, hcz78_4, hcz78_5, hcz78_6, hcz78_7, hcz78_8⟩ := cz9 BK349.out
                   have hfz78_0 := Zkf BK349.out 0
                   have hfz78_1 := Zkf BK349.out 1
                   have hfz78_2 := Zkf BK349.out 2
                   have hfz78_3 := Zkf BK349.out 3
                   have hfz78_4 := Zkf BK349.out 4
                   have hfz78_5 := Zkf BK349.out 5
                   have hfz78_6 := Zkf BK349.out 6
                   have hfz78_7 := Zkf BK349.out 7
                   have hfz78_8 := Zkf BK349.out 8
                   go_wp2
                   repeat (go_quiet (fail); try go_wp2)
                   go_roundg k5
                   case measure => have := HJ1.out; have := HK2.out; have := HK3.out; have := HJ42.out; have := HK5.out; omega
                   case rel => exact ⟨(wrap64 (x7_5 + 1)), (by first | rfl | (simp; done) | (simp [*]; done)), H', ⟨by have := HJ1.out; have := HK2.out; have := HK3.out; have := HJ42.out; have := HK5.out; omega⟩, ⟨pk BK339.out⟩, ⟨pk BK349.out⟩, ⟨bk HB.out⟩⟩
                 rw [if_pos c68] at H
                 have c68b0 : (((rd_T84 l0_5 x7_5).f0).toList == ((rd_T84 l0_5 x5_3).f0).toList) = true := beq_iff_eq.mpr c68
                 have c68b1 : (((rd_T84 l0_5 x7_5).f0).toList != ((rd_T84 l0_5 x5_3).f0).toList) = false := bne_eq_false_iff_eq.mpr c68
                 clear c68
                 by_cases c69 : ((rd_T84 l0_5 x7_5).f1).toList = ((rd_T84 l0_5 x5_3).f1).toList
                 rotate_left
                 · rw [if_neg c69] at H
                   have c69b0 : (((rd_T84 l0_5 x7_5).f1).toList == ((rd_T84 l0_5 x5_3).f1).toList) = false := beq_eq_false_iff_ne.mpr c69
                   have c69b1 : (((rd_T84 l0_5 x7_5).f1).toList != ((rd_T84 l0_5 x5_3).f1).toList) = true := bne_iff_ne.mpr c69
                   have H' := Zm H
                   clear H
                   have hnb73 := NB339_349.out
                   have hnc73 := NB349_339.out
                   obtain ⟨hcz74_0, hcz74_1, hcz74_2, hcz74_3, hcz74_4, hcz74_5⟩ := cz6 BK339.out
                   have p351 : 0 ≤ (x7_5 : Int) := of_decide_eq_true (by first | (with_reducible assumption) | assumption)
                   have q351 : x7_5 < (l0_5.length : Int) := of_decide_eq_true (by first | (with_reducible assumption) | assumption)
                   obtain ⟨ad351, A351_7, c351_7, A351_8, c351_8, e351, hx351_0, hx351_1, hx351_2, hx351_3, hx351_4, hx351_5, hx351_6, hx351_7, hx351_8, hl351_7, hi351_7, hl351_8, hi351_8⟩ := at_T84 HR0_5.out x7_5 p351 q351
                   obtain rfl : ad348 = ad351 := (by injection e351)
                   replace hx351_0 := hx_ HB hx351_0 (Zlt _ _ hx351_0)
                   replace hx351_1 := hx_ HB hx351_1 (Zlt _ _ hx351_1)
                   replace hx351_2 := hx_ HB hx351_2 (Zlt _ _ hx351_2)
                   replace hx351_3 := hx_ HB hx351_3 (Zlt _ _ hx351_3)
                   replace hx351_4 := hx_ HB hx351_4 (Zlt _ _ hx351_4)
                   replace hx351_5 := hx_ HB hx351_5 (Zlt _ _ hx351_5)
                   replace hx351_6 := hx_ HB hx351_6 (Zlt _ _ hx351_6)
                   replace hx351_7 := hx_ HB hx351_7 (Zlt _ _ hx351_7)
                   replace hx351_8 := hx_ HB hx351_8 (Zlt _ _ hx351_8)
                   have HR351_7 := Zm hi351_7
                   have HC351_7 := Zm hl351_7
                   clear hi351_7 hl351_7
                   have HR351_8 := Zm hi351_8
                   have HC351_8 := Zm hl351_8
                   clear hi351_8 hl351_8
                   replace p351 := eq_true p351
                   replace q351 := eq_true q351
                   obtain ⟨hcz75_0, hcz75_1, hcz75_2, hcz75_3, hcz75_4, hcz75_5, hcz75_6, hcz75_7, hcz75_8⟩ := cz9 BK349.out
                   have hfz75_0 := Zkf BK349.out 0
                   have hfz75_1 := Zkf BK349.out 1
                   have hfz75_2 := Zkf BK349.out 2
                   have hfz75_3 := Zkf BK349.out 3
                   have hfz75_4 := Zkf BK349.out 4
                   have hfz75_5 := Zkf BK349.out 5
                   have hfz75_6 := Zkf BK349.out 6
                   have hfz75_7 := Zkf BK349.out 7
                   have hfz75_8 := Zkf BK349.out 8
                   have p352 : 0 ≤ (x7_5 : Int) := of_decide_eq_true (by first | (with_reducible assumption) | assumption)
                   have q352 : x7_5 < (l0_5.length : Int) := of_decide_eq_true (by first | (with_reducible assumption) | assumption)
                   obtain ⟨ad352, A352_7, c352_7, A352_8, c352_8, e352, hx352_0, hx352_1, hx352_2, hx352_3, hx352_4, hx352_5, hx352_6, hx352_7, hx352_8, hl352_7, hi352_7, hl352_8, hi352_8⟩ := at_T84 HR0_5.out x7_5 p352 q352
                   obtain rfl : ad348 = ad352 := (by injection e352)
                   replace hx352_0 := hx_ HB hx352_0 (Zlt _ _ hx352_0)
                   replace hx352_1 := hx_ HB hx352_1 (Zlt _ _ hx352_1)
                   replace hx352_2 := hx_ HB hx352_2 (Zlt _ _ hx352_2)
                   replace hx352_3 := hx_ HB hx352_3 (Zlt _ _ hx352_3)
                   replace hx352_4 := hx_ HB hx352_4 (Zlt _ _ hx352_4)
                   replace hx352_5 := hx_ HB hx352_5 (Zlt _ _ hx352_5)
                   replace hx352_6 := hx_ HB hx352_6 (Zlt _ _ hx352_6)
                   replace hx352_7 := hx_ HB hx352_7 (Zlt _ _ hx352_7)
                   replace hx352_8 := hx_ HB hx352_8 (Zlt _ _ hx352_8)
                   have HR352_7 := Zm hi352_7
                   have HC352_7 := Zm hl352_7
                   clear hi352_7 hl352_7
                   have HR352_8 := Zm hi352_8
                   have HC352_8 := Zm hl352_8
                   clear hi352_8 hl352_8
                   replace p352 := eq_true p352
                   replace q352 := eq_true q352
                   have ea_ := Option.some.inj (hx351_7.symm.trans hx352_7)
                   injection ea_ with ea_ en_ ec_
                   subst ea_
                   subst ec_
                   clear en_
                   have ea_ := Option.some.inj (hx351_8.symm.trans hx352_8)
                   injection ea_ with ea_ en_ ec_
                   subst ea_
                   subst ec_
                   clear en_
                   go_wp2
                   repeat (go_quiet (fail); try go_wp2)
                   go_roundg k5
                   case measure => have := HJ1.out; have := HK2.out; have := HK3.out; have := HJ42.out; have := HK5.out; omega
                   case rel => exact ⟨(wrap64 (x7_5 + 1)), (by first | rfl | (simp; done) | (simp [*]; done)), H', ⟨by have := HJ1.out; have := HK2.out; have := HK3.out; have := HJ42.out; have := HK5.out; omega⟩, ⟨pk BK339.out⟩, ⟨pk BK349.out⟩, ⟨bk HB.out⟩⟩
                 rw [if_pos c69] at H
                 have c69b0 : (((rd_T84 l0_5 x7_5).f1).toList == ((rd_T84 l0_5 x5_3).f1).toList) = true := beq_iff_eq.mpr c69
                 have c69b1 : (((rd_T84 l0_5 x7_5).f1).toList != ((rd_T84 l0_5 x5_3).f1).toList) = false := bne_eq_false_iff_eq.mpr c69
                 clear c69
                 obtain rfl := Option.some.inj H
                 have hnb70 := NB339_349.out
                 have hnc70 := NB349_339.out
                 obtain ⟨hcz71_0, hcz71_1, hcz71_2, hcz71_3, hcz71_4, hcz71_5⟩ := cz6 BK339.out
                 have p351 : 0 ≤ (x7_5 : Int) := of_decide_eq_true (by first | (with_reducible assumption) | assumption)
                 have q351 : x7_5 < (l0_5.length : Int) := of_decide_eq_true (by first | (with_reducible assumption) | assumption)
                 obtain ⟨ad351, A351_7, c351_7, A351_8, c351_8, e351, hx351_0, hx351_1, hx351_2, hx351_3, hx351_4, hx351_5, hx351_6, hx351_7, hx351_8, hl351_7, hi351_7, hl351_8, hi351_8⟩ := at_T84 HR0_5.out x7_5 p351 q351
                 obtain rfl : ad348 = ad351 := (by injection e351)
                 replace hx351_0 := hx_ HB hx351_0 (Zlt _ _ hx351_0)
                 replace hx351_1 := hx_ HB hx351_1 (Zlt _ _ hx351_1)
                 replace hx351_2 := hx_ HB hx351_2 (Zlt _ _ hx351_2)
                 replace hx351_3 := hx_ HB hx351_3 (Zlt _ _ hx351_3)
                 replace hx351_4 := hx_ HB hx351_4 (Zlt _ _ hx351_4)
                 replace hx351_5 := hx_ HB hx351_5 (Zlt _ _ hx351_5)
                 replace hx351_6 := hx_ HB hx351_6 (Zlt _ _ hx351_6)
                 replace hx351_7 := hx_ HB hx351_7 (Zlt _ _ hx351_7)
                 replace hx351_8 := hx_ HB hx351_8 (Zlt _ _ hx351_8)
                 have HR351_7 := Zm hi351_7
                 have HC351_7 := Zm hl351_7
                 clear hi351_7 hl351_7
                 have HR351_8 := Zm hi351_8
                 have HC351_8 := Zm hl351_8
                 clear hi351_8 hl351_8
                 replace p351 := eq_true p351
                 replace q351 := eq_true q351
                 obtain ⟨hcz72_0, hcz72_1, hcz72_2, hcz72_3, hcz72_4, hcz72_5, hcz72_6, hcz72_7, hcz72_8⟩ := cz9 BK349.out
                 have hfz72_0 := Zkf BK349.out 0
                 have hfz72_1 := Zkf BK349.out 1
                 have hfz72_2 := Zkf BK349.out 2
                 have hfz72_3 := Zkf BK349.out 3
                 have hfz72_4 := Zkf BK349.out 4
                 have hfz72_5 := Zkf BK349.out 5
                 have hfz72_6 := Zkf BK349.out 6
                 have hfz72_7 := Zkf BK349.out 7
                 have hfz72_8 := Zkf BK349.out 8
                 have p352 : 0 ≤ (x7_5 : Int) := of_decide_eq_true (by first | (with_reducible assumption) | assumption)
                 have q352 : x7_5 < (l0_5.length : Int) := of_decide_eq_true (by first | (with_reducible assumption) | assumption)
                 obtain ⟨ad352, A352_7, c352_7, A352_8, c352_8, e352, hx352_0, hx352_1, hx352_2, hx352_3, hx352_4, hx352_5, hx352_6, hx352_7, hx352_8, hl352_7, hi352_7, hl352_8, hi352_8⟩ := at_T84 HR0_5.out x7_5 p352 q352
                 obtain rfl : ad348 = ad352 := (by injection e352)
                 replace hx352_0 := hx_ HB hx352_0 (Zlt _ _ hx352_0)
                 replace hx352_1 := hx_ HB hx352_1 (Zlt _ _ hx352_1)
                 replace hx352_2 := hx_ HB hx352_2 (Zlt _ _ hx352_2)
                 replace hx352_3 := hx_ HB hx352_3 (Zlt _ _ hx352_3)
                 replace hx352_4 := hx_ HB hx352_4 (Zlt _ _ hx352_4)
                 replace hx352_5 := hx_ HB hx352_5 (Zlt _ _ hx352_5)
                 replace hx352_6 := hx_ HB hx352_6 (Zlt _ _ hx352_6)
                 replace hx352_7 := hx_ HB hx352_7 (Zlt _ _ hx352_7)
                 replace hx352_8 := hx_ HB hx352_8 (Zlt _ _ hx352_8)
                 have HR352_7 := Zm hi352_7
                 have HC352_7 := Zm hl352_7
                 clear hi352_7 hl352_7
                 have HR352_8 := Zm hi352_8
                 have HC352_8 := Zm hl352_8
                 clear hi352_8 hl352_8
                 replace p352 := eq_true p352
                 replace q352 := eq_true q352
                 have ea_ := Option.some.inj (hx351_7.symm.trans hx352_7)
                 injection ea_ with ea_ en_ ec_
                 subst ea_
                 subst ec_
                 clear en_
                 have ea_ := Option.some.inj (hx351_8.symm.trans hx352_8)
                 injection ea_ with ea_ en_ ec_
                 subst ea_
                 subst ec_
                 clear en_
                 go_wp2
                 repeat (go_quiet (fail); try go_wp2)
                 go_ret
                 exact fin_ HB
             subst c64
             rw [if_pos rfl] at H
             obtain rfl := Option.some.inj H
             go_wp2
             repeat (go_quiet (fail); try go_wp2)
             go_ret
             exact fin_ HB
       rw [if_pos c22] at H
       have c22b0 := decide_eq_true c22
       clear c22
       have HC23 := Zm H
       clear H
       obtain ⟨hcz24_0, hcz24_1, hcz24_2, hcz24_3, hcz24_4, hcz24_5⟩ := cz6 BK339.out
       go_upto_region 6 with (fail)
       repeat (go_quiet (fail); go_upto_region 6 with (fail))
       go_cut [69] (fun v69 wc => ∃ (kq : Nat) (x69_22 : Bool), v69 = .bool x69_22 ∧ Aside0 (spec_ClassRight.j2 kq x3_2 x69_22 a0_0 a0_1 a0_2 a0_3 l0_4 l0_5 = some r) ∧ Aside0 (kq ≤ k2) ∧ Aside0 (wc.heap[gb339]? = some (.cells #[.string a0_0, .string a0_1, .bool a0_2, .bool a0_3, (.slice A0_4 l0_4.length c0_4), (.slice A0_5 l0_5.length c0_5)] 51 (0, 0))) ∧ Aside0 (Below w.heap.size w wc))
       case first =>
        have H := HC23.out
        clear HC23
        by_cases c25 : 0 ≤ x3_2
        rotate_left
        · rw [if_neg c25] at H
          exact absurd H (by simp)
        rw [if_pos c25] at H
        have c25b0 := decide_eq_true c25
        clear c25
        (first | rw [c25b0] | (simp only [i64_w, i32_w]; rw [c25b0]) | skip)
        replace H := Option.bind_eq_some_iff.mp H
        obtain ⟨t343, A260, H⟩ := H
        (try dsimp only at H)
        have A26 := Zm A260
        clear A260
        by_cases c27 : t343 = true
        rotate_left
        · replace c27 := Bool.eq_false_iff.mpr c27
          subst c27
          rw [if_neg (show ¬ (false = true) by decide)] at H
          have H' := Zm H
          clear H
          obtain ⟨hcz30_0, hcz30_1, hcz30_2, hcz30_3, hcz30_4, hcz30_5⟩ := cz6 BK339.out
          have p342 : 0 ≤ (x3_2 : Int) := of_decide_eq_true (by first | (with_reducible assumption) | assumption)
          have q342 : x3_2 < (l0_4.length : Int) := of_decide_eq_true (by first | (with_reducible assumption) | assumption)
          obtain ⟨ad342, e342, hx342_0, hx342_1, hx342_2⟩ := at_T123 HR0_4.out x3_2 p342 q342
          cases e342
          replace hx342_0 := hx_ HB hx342_0 (Zlt _ _ hx342_0)
          replace hx342_1 := hx_ HB hx342_1 (Zlt _ _ hx342_1)
          replace hx342_2 := hx_ HB hx342_2 (Zlt _ _ hx342_2)
          replace p342 := eq_true p342
          replace q342 := eq_true q342
          go_wp2_with (first | (go_at_call 97; (first | (with_reducible refine (spec_NameRight.calls _ _ _ _ A26.out).mono ?_) | (with_reducible refine (calls_of_args ?_ (spec_NameRight.calls _ _ _ _ A26.out)).mono ?_; focus (simp [*]; done))); rintro e w' ⟨rfl, ⟨nd, rfl⟩⟩; (try first | exact ⟨rfl, _, World.drewN_drewN _ _ _⟩ | exact ⟨rfl, _, Eq.trans (World.drewN_drewN _ _ _) (congrArg (World.drewN _) (Nat.add_assoc _ _ _))⟩)))
          repeat (go_quiet (first | (go_at_call 97; (first | (with_reducible refine (spec_NameRight.calls _ _ _ _ A26.out).mono ?_) | (with_reducible refine (calls_of_args ?_ (spec_NameRight.calls _ _ _ _ A26.out)).mono ?_; focus (simp [*]; done))); rintro e w' ⟨rfl, ⟨nd, rfl⟩⟩; (try first | exact ⟨rfl, _, World.drewN_drewN _ _ _⟩ | exact ⟨rfl, _, Eq.trans (World.drewN_drewN _ _ _) (congrArg (World.drewN _) (Nat.add_assoc _ _ _))⟩))); try go_wp2)
          go_meet
          case rel => exact ⟨_, (true), (by first | rfl | (simp; done) | (simp [*]; done)), H', ⟨by have := HJ1.out; have := HK2.out; first | omega | exact Nat.le_refl _⟩, ⟨pk BK339.out⟩, ⟨bk HB.out⟩⟩
        subst c27
        rw [if_pos rfl] at H
        replace H := Option.bind_eq_some_iff.mp H
        obtain ⟨t345, A280, H⟩ := H
        (try dsimp only at H)
        have A28 := Zm A280
        clear A280
        have H' := Zm H
        clear H
        obtain ⟨hcz29_0, hcz29_1, hcz29_2, hcz29_3, hcz29_4, hcz29_5⟩ := cz6 BK339.out
        have p342 : 0 ≤ (x3_2 : Int) := of_decide_eq_true (by first | (with_reducible assumption) | assumption)
        have q342 : x3_2 < (l0_4.length : Int) := of_decide_eq_true (by first | (with_reducible assumption) | assumption)
        obtain ⟨ad342, e342, hx342_0, hx342_1, hx342_2⟩ := at_T123 HR0_4.out x3_2 p342 q342
        cases e342
        replace hx342_0 := hx_ HB hx342_0 (Zlt _ _ hx342_0)
        replace hx342_1 := hx_ HB hx342_1 (Zlt _ _ hx342_1)
        replace hx342_2 := hx_ HB hx342_2 (Zlt _ _ hx342_2)
        replace p342 := eq_true p342
        replace q342 := eq_true q342
        go_wp2_with (first | (go_at_call 97; (first | (with_reducible refine (spec_NameRight.calls _ _ _ _ A26.out).mono ?_) | (with_reducible refine (calls_of_args ?_ (spec_NameRight.calls _ _ _ _ A26.out)).mono ?_; focus (simp [*]; done))); rintro e w' ⟨rfl, ⟨nd, rfl⟩⟩; (try first | exact ⟨rfl, _, World.drewN_drewN _ _ _⟩ | exact ⟨rfl, _, Eq.trans (World.drewN_drewN _ _ _) (congrArg (World.drewN _) (Nat.add_assoc _ _ _))⟩); have p344 : 0 ≤ (x3_2 : Int) := of_decide_eq_true (by first | (with_reducible assumption) | assumption); have q344 : x3_2 < (l0_4.length : Int) := of_decide_eq_true (by first | (with_reducible assumption) | assumption); obtain ⟨ad344, e344, hx344_0, hx344_1, hx344_2⟩ := at_T123 HR0_4.out x3_2 p344 q344; obtain rfl : ad342 = ad344 := (by injection e344); replace hx344_0 := hx_ HB hx344_0 (Zlt _ _ hx344_0); replace hx344_1 := hx_ HB hx344_1 (Zlt _ _ hx344_1); replace hx344_2 := hx_ HB hx344_2 (Zlt _ _ hx344_2); replace p344 := eq_true p344; replace q344 := eq_true q344) | (go_at_call 110; (first | (with_reducible refine (spec_TypeRight.calls _ _ _ _ A28.out).mono ?_) | (with_reducible refine (calls_of_args ?_ (spec_TypeRight.calls _ _ _ _ A28.out)).mono ?_; focus (simp [*]; done))); rintro e w' ⟨rfl, ⟨nd, rfl⟩⟩; (try first | exact ⟨rfl, _, World.drewN_drewN _ _ _⟩ | exact ⟨rfl, _, Eq.trans (World.drewN_drewN _ _ _) (congrArg (World.drewN _) (Nat.add_assoc _ _ _))⟩)))
        repeat (go_quiet (first | (go_at_call 97; (first | (with_reducible refine (spec_NameRight.calls _ _ _ _ A26.out).mono ?_) | (with_reducible refine (calls_of_args ?_ (spec_NameRight.calls _ _ _ _ A26.out)).mono ?_; focus (simp [*]; done))); rintro e w' ⟨rfl, ⟨nd, rfl⟩⟩; (try first | exact ⟨rfl, _, World.drewN_drewN _ _ _⟩ | exact ⟨rfl, _, Eq.trans (World.drewN_drewN _ _ _) (congrArg (World.drewN _) (Nat.add_assoc _ _ _))⟩); have p344 : 0 ≤ (x3_2 : Int) := of_decide_eq_true (by first | (with_reducible assumption) | assumption); have q344 : x3_2 < (l0_4.length : Int) := of_decide_eq_true (by first | (with_reducible assumption) | assumption); obtain ⟨ad344, e344, hx344_0, hx344_1, hx344_2⟩ := at_T123 HR0_4.out x3_2 p344 q344; obtain rfl : ad342 = ad344 := (by injection e344); replace hx344_0 := hx_ HB hx344_0 (Zlt _ _ hx344_0); replace hx344_1 := hx_ HB hx344_1 (Zlt _ _ hx344_1); replace hx344_2 := hx_ HB hx344_2 (Zlt _ _ hx344_2); replace p344 := eq_true p344; replace q344 := eq_true q344) | (go_at_call 110; (first | (with_reducible refine (spec_TypeRight.calls _ _ _ _ A28.out).mono ?_) | (with_reducible refine (calls_of_args ?_ (spec_TypeRight.calls _ _ _ _ A28.out)).mono ?_; focus (simp [*]; done))); rintro e w' ⟨rfl, ⟨nd, rfl⟩⟩; (try first | exact ⟨rfl, _, World.drewN_drewN _ _ _⟩ | exact ⟨rfl, _, Eq.trans (World.drewN_drewN _ _ _) (congrArg (World.drewN _) (Nat.add_assoc _ _ _))⟩))); try go_wp2)
        go_meet
        case rel => exact ⟨_, (!t345), (by first | rfl | (simp; done) | (simp [*]; done)), H', ⟨by have := HJ1.out; have := HK2.out; first | omega | exact Nat.le_refl _⟩, ⟨pk BK339.out⟩, ⟨bk HB.out⟩⟩
       case rest =>
        clear HC23
        (try clear c21); (try clear c22); (try clear c22b0); (try clear hcz24_0); (try clear hcz24_1); (try clear hcz24_2); (try clear hcz24_3); (try clear hcz24_4); (try clear hcz24_5)
        obtain ⟨kq, x69_22, rfl, HA, HJ22, BK339, HB⟩ := hcut
        cases kq with
        | zero => exact absurd HA.out (by simp [spec_ClassRight.j2])
        | succ kj22 =>
         have H := HA.out
         clear HA
         simp only [spec_ClassRight.j2] at H
         by_cases c31 : x69_22 = true
         rotate_left
         · replace c31 := Bool.eq_false_iff.mpr c31
           subst c31
           rw [if_neg (show ¬ (false = true) by decide)] at H
           have H' := Zm H
           clear H
           go_wp2
           repeat (go_quiet (fail); try go_wp2)
           go_loopg [4] kj22 (fun kq v4 w' => ∃ (x4_4 : Int), v4 = .int .i64 x4_4 ∧ Aside0 (spec_ClassRight.l1 kq x3_2 x4_4 a0_0 a0_1 a0_2 a0_3 l0_4 l0_5 = some r) ∧ Aside0 (kq ≤ kj22) ∧ Aside0 (w'.heap[gb339]? = some (.cells #[.string a0_0, .string a0_1, .bool a0_2, .bool a0_3, (.slice A0_4 l0_4.length c0_4), (.slice A0_5 l0_5.length c0_5)] 51 (0, 0))) ∧ Aside0 (Below w.heap.size w w'))
           case atStart => exact ⟨(0), (by first | rfl | (simp; done) | (simp [*]; done)), H', ⟨Nat.le_refl _⟩, ⟨pk BK339.out⟩, ⟨bk HB.out⟩⟩
           case round =>
            clear H'
            (try clear c21); (try clear c22); (try clear c22b0); (try clear c31); (try clear hcz24_0); (try clear hcz24_1); (try clear hcz24_2); (try clear hcz24_3); (try clear hcz24_4); (try clear hcz24_5)
            obtain ⟨x4_4, rfl, HA, HK4, BK339, HB⟩ := hrel
            cases gk with
            | zero => exact absurd HA.out (by simp [spec_ClassRight.l1])
            | succ k4 =>
             have H := HA.out
             clear HA
             simp only [spec_ClassRight.l1] at H
             by_cases c32 : x4_4 < x3_2
             rotate_left
             · rw [if_neg c32] at H
               have c32b0 := decide_eq_false c32
               clear c32
               have H' := Zm H
               clear H
               go_wp2
               repeat (go_quiet (fail); try go_wp2)
               go_roundg k4
               case measure => have := HJ1.out; have := HK2.out; have := HJ22.out; have := HK4.out; omega
               case rel => exact ⟨(wrap64 (x3_2 + 1)), (by first | rfl | (simp; done) | (simp [*]; done)), H', ⟨by have := HJ1.out; have := HK2.out; have := HJ22.out; have := HK4.out; omega⟩, ⟨pk BK339.out⟩, ⟨bk HB.out⟩⟩
             rw [if_pos c32] at H
             have c32b0 := decide_eq_true c32
             clear c32
             by_cases c33 : 0 ≤ x4_4
             rotate_left
             · rw [if_neg c33] at H
               exact absurd H (by simp)
             rw [if_pos c33] at H
             have c33b0 := decide_eq_true c33
             clear c33
             by_cases c34 : x4_4 < (l0_4.length : Int)
             rotate_left
             · rw [if_neg c34] at H
               exact absurd H (by simp)
             rw [if_pos c34] at H
             have c34b0 := decide_eq_true c34
             clear c34
             by_cases c35 : 0 ≤ x3_2
             rotate_left
             · rw [if_neg c35] at H
               exact absurd H (by simp)
             rw [if_pos c35] at H
             have c35b0 := decide_eq_true c35
             clear c35
             by_cases c36 : x3_2 < (l0_4.length : Int)
             rotate_left
             · rw [if_neg c36] at H
               exact absurd H (by simp)
             rw [if_pos c36] at H
             have c36b0 := decide_eq_true c36
             clear c36
             by_cases c37 : ((rd_T123 l0_4 x4_4).f0).toList = ((rd_T123 l0_4 x3_2).f0).toList
             rotate_left
             · rw [if_neg c37] at H
               have c37b0 : (((rd_T123 l0_4 x4_4).f0).toList == ((rd_T123 l0_4 x3_2).f0).toList) = false := beq_eq_false_iff_ne.mpr c37
               have c37b1 : (((rd_T123 l0_4 x4_4).f0).toList != ((rd_T123 l0_4 x3_2).f0).toList) = true := bne_iff_ne.mpr c37
               have H' := Zm H
               clear H
               obtain ⟨hcz39_0, hcz39_1, hcz39_2, hcz39_3, hcz39_4, hcz39_5⟩ := cz6 BK339.out
               have p346 : 0 ≤ (x4_4 : Int) := of_decide_eq_true (by first | (with_reducible assumption) | assumption)
               have q346 : x4_4 < (l0_4.length : Int) := of_decide_eq_true (by first | (with_reducible assumption) | assumption)
               obtain ⟨ad346, e346, hx346_0, hx346_1, hx346_2⟩ := at_T123 HR0_4.out x4_4 p346 q346
               cases e346
               replace hx346_0 := hx_ HB hx346_0 (Zlt _ _ hx346_0)
               replace hx346_1 := hx_ HB hx346_1 (Zlt _ _ hx346_1)
               replace hx346_2 := hx_ HB hx346_2 (Zlt _ _ hx346_2)
               replace p346 := eq_true p346
               replace q346 := eq_true q346
               have p347 : 0 ≤ (x3_2 : Int) := of_decide_eq_true (by first | (with_reducible assumption) | assumption)
               have q347 : x3_2 < (l0_4.length : Int) := of_decide_eq_true (by first | (with_reducible assumption) | assumption)
               obtain ⟨ad347, e347, hx347_0, hx347_1, hx347_2⟩ := at_T123 HR0_4.out x3_2 p347 q347
               obtain rfl : ad346 = ad347 := (by injection e347)
               replace hx347_0 := hx_ HB hx347_0 (Zlt _ _ hx347_0)
               replace hx347_1 := hx_ HB hx347_1 (Zlt _ _ hx347_1)
               replace hx347_2 := hx_ HB hx347_2 (Zlt _ _ hx347_2)
               replace p347 := eq_true p347
               replace q347 := eq_true q347
               go_wp2
               repeat (go_quiet (fail); try go_wp2)
               go_roundg k4
               case measure => have := HJ1.out; have := HK2.out; have := HJ22.out; have := HK4.out; omega
               case rel => exact ⟨(wrap64 (x4_4 + 1)), (by first | rfl | (simp; done) | (simp [*]; done)), H', ⟨by have := HJ1.out; have := HK2.out; have := HJ22.out; have := HK4.out; omega⟩, ⟨pk BK339.out⟩, ⟨bk HB.out⟩⟩
             rw [if_pos c37] at H
             have c37b0 : (((rd_T123 l0_4 x4_4).f0).toList == ((rd_T123 l0_4 x3_2).f0).toList) = true := beq_iff_eq.mpr c37
             have c37b1 : (((rd_T123 l0_4 x4_4).f0).toList != ((rd_T123 l0_4 x3_2).f0).toList) = false := bne_eq_false_iff_eq.mpr c37
             clear c37
             obtain rfl := Option.some.inj H
             obtain ⟨hcz38_0, hcz38_1, hcz38_2, hcz38_3, hcz38_4, hcz38_5⟩ := cz6 BK339.out
             have p346 : 0 ≤ (x4_4 : Int) := of_decide_eq_true (by first | (with_reducible assumption) | assumption)
             have q346 : x4_4 < (l0_4.length : Int) := of_decide_eq_true (by first | (with_reducible assumption) | assumption)
             obtain ⟨ad346, e346, hx346_0, hx346_1, hx346_2⟩ := at_T123 HR0_4.out x4_4 p346 q346
             cases e346
             replace hx346_0 := hx_ HB hx346_0 (Zlt _ _ hx346_0)
             replace hx346_1 := hx_ HB hx346_1 (Zlt _ _ hx346_1)
             replace hx346_2 := hx_ HB hx346_2 (Zlt _ _ hx346_2)
             replace p346 := eq_true p346
             replace q346 := eq_true q346
             have p347 : 0 ≤ (x3_2 : Int) := of_decide_eq_true (by first | (with_reducible assumption) | assumption)
             have q347 : x3_2 < (l0_4.length : Int) := of_decide_eq_true (by first | (with_reducible assumption) | assumption)
             obtain ⟨ad347, e347, hx347_0, hx347_1, hx347_2⟩ := at_T123 HR0_4.out x3_2 p347 q347
             obtain rfl : ad346 = ad347 := (by injection e347)
             replace hx347_0 := hx_ HB hx347_0 (Zlt _ _ hx347_0)
             replace hx347_1 := hx_ HB hx347_1 (Zlt _ _ hx347_1)
             replace hx347_2 := hx_ HB hx347_2 (Zlt _ _ hx347_2)
             replace p347 := eq_true p347
             replace q347 := eq_true q347
             go_wp2
             repeat (go_quiet (fail); try go_wp2)
             go_ret
             exact fin_ HB
         subst c31
         rw [if_pos rfl] at H
         obtain rfl := Option.some.inj H
         go_wp2
         repeat (go_quiet (fail); try go_wp2)
         go_ret
         exact fin_ HB
   subst c21
   rw [if_pos rfl] at H
   obtain rfl := Option.some.inj H
   go_wp2
   repeat (go_quiet (fail); try go_wp2)
   go_ret
   exact fin_ HB
end Go.Proofs.Ytlflbmbcjjegaaa.PFnExactClassRight
