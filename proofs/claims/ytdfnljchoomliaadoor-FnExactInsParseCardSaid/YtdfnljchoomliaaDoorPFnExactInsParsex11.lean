/- Functions of the program as plain Lean functions, each with a proof that the program's call comes to the same; no condition. Written by a program of this session. -/
import Derived.Test.YtdfnljchoomliaaDoorPFnExactInsParsex0
import Derived.Test.YtdfnljchoomliaaDoorPFnExactInsParsex7
import Derived.Test.YtdfnljchoomliaaDoorPFnExactInsParsex10
namespace Go.Proofs.YtdfnljchoomliaaDoor.PFnExactInsParse
open Go.RowKit Go.Proofs.YtdfnljchoomliaaDoorW.PrintWords Go.Proofs.YtdfnljchoomliaaDoorW.PrintLast Go.Proofs.YtdfnljchoomliaaDoorW.PrintMore
open Go.Proofs.YtdfnljchoomliaaDoorW.PrintWords renaming below_alloc → Zba, pw_below_drewN → Zbn, below_drew1 → Zbd, below_set → Zbs, below_size → Zbz, below_step → Zbt, blk_drewN → Zkn, blk_drew → Zkd, blk_alloc → Zka, blk_cell → Zkc, blk_frozen → Zkf, blk_far → Zkr, blk_put → Zkp, blk_below → Zkb, add_block → Zab
open Go.World renaming block_lt_of_cell? → Zlt
open Go.Proofs.YtdfnljchoomliaaDoorW.PrintWords.Aside0 renaming mk → Zm
attribute [local go_sem] max2_int min2_int max_two min_two max_three min_three max_four min_four   -- for this text's walks alone
set_option linter.unusedVariables false
set_option linter.unusedSimpArgs false

/-! ### impl_insOf: function 36 -/
mutual
def impl_insOf.l0 : Nat → List ByteArray → List ByteArray → Int → Int → Int → Int → ByteArray → ByteArray → ByteArray → Option (Int × Int × ByteArray × ByteArray × ByteArray × Bool)
 | 0, _, _, _, _, _, _, _, _, _ => none
 | k + 1, x0, x14, x15, x16, x387000, x387001, x387002, x387003, x387004 => if x16 < x15 then (if 0 ≤ x16 then (if x16 < (x14.length : Int) then (if 0 < (x0.length : Int) then (if (rdOf ByteArray.empty x0 0).toList = (rdOf ByteArray.empty x14 x16).toList then (impl_insOf.l0 k x0 x14 x15 (wrap64 (x16 + 1)) (wrap64 (x16 + 1)) x387001 x387002 x387003 x387004) else (impl_insOf.l0 k x0 x14 x15 (wrap64 (x16 + 1)) x387000 x387001 x387002 x387003 x387004)) else (none)) else (none)) else (none)) else ((impl_OpForm.f x387000).bind fun t392 => (if 1 ≤ (x0.length : Int) then ((map_make36.f).bind fun t394 => ((map_look36.f t392).bind fun bt395 => (if bt395.2 = true then (impl_insOf.j1 k t392 (x0.drop 1) (((x0.drop 1).length : Int) != bt395.1) x387000 x387001 x387002 x387003 x387004) else (impl_insOf.j1 k t392 (x0.drop 1) true x387000 x387001 x387002 x387003 x387004)))) else (none)))
def impl_insOf.j1 : Nat → ByteArray → List ByteArray → Bool → Int → Int → ByteArray → ByteArray → ByteArray → Option (Int × Int × ByteArray × ByteArray × ByteArray × Bool)
 | 0, _, _, _, _, _, _, _, _ => none
 | k + 1, x7, x8, x50, x387000, x387001, x387002, x387003, x387004 => if x50 = true then (some (0, 0, (⟨#[]⟩ : ByteArray), (⟨#[]⟩ : ByteArray), (⟨#[]⟩ : ByteArray), false)) else (if x7.toList = ([110] : List UInt8) then (impl_insOf.j2 k x8 true x7 (x7.toList == ([110] : List UInt8)) x387000 x387001 x387002 x387003 x387004) else (if x7.toList = ([105] : List UInt8) then (impl_insOf.j2 k x8 true x7 (x7.toList == ([105] : List UInt8)) x387000 x387001 x387002 x387003 x387004) else (impl_insOf.j2 k x8 true x7 (x7.toList == ([116] : List UInt8)) x387000 x387001 x387002 x387003 x387004)))
def impl_insOf.j2 : Nat → List ByteArray → Bool → ByteArray → Bool → Int → Int → ByteArray → ByteArray → ByteArray → Option (Int × Int × ByteArray × ByteArray × ByteArray × Bool)
 | 0, _, _, _, _, _, _, _, _, _ => none
 | k + 1, x8, x12, x52, x53, x387000, x387001, x387002, x387003, x387004 => if x53 = true then (if 0 < (x8.length : Int) then ((impl_numberOf.f (rdOf ByteArray.empty x8 0)).bind fun bt398 => (some (x387000, bt398.1, x387002, x387003, x387004, bt398.2))) else (none)) else (if x52.toList = ([99] : List UInt8) then (if 0 < (x8.length : Int) then (some (x387000, x387001, rdOf ByteArray.empty x8 0, x387003, x387004, x12)) else (none)) else (if x52.toList = ([121] : List UInt8) then (if 0 < (x8.length : Int) then (some (x387000, x387001, x387002, x387003, rdOf ByteArray.empty x8 0, x12)) else (none)) else (if x52.toList = ([102] : List UInt8) then (if 0 < (x8.length : Int) then (if 1 < (x8.length : Int) then (if 2 < (x8.length : Int) then (some (x387000, x387001, rdOf ByteArray.empty x8 0, rdOf ByteArray.empty x8 1, rdOf ByteArray.empty x8 2, x12)) else (none)) else (none)) else (none)) else (if x52.toList = ([109] : List UInt8) then (if 0 < (x8.length : Int) then (if 1 < (x8.length : Int) then (if 2 < (x8.length : Int) then (some (x387000, x387001, rdOf ByteArray.empty x8 0, rdOf ByteArray.empty x8 1, rdOf ByteArray.empty x8 2, x12)) else (none)) else (none)) else (none)) else (some (x387000, x387001, x387002, x387003, x387004, x12))))))
end
def impl_insOf.f (k : Nat) (l0 : List ByteArray) : Option (Int × Int × ByteArray × ByteArray × ByteArray × Bool) := (impl_opNames.f).bind fun t387 => (impl_insOf.l0 k l0 t387 (t387.length : Int) 0 0 0 (⟨#[]⟩ : ByteArray) (⟨#[]⟩ : ByteArray) (⟨#[]⟩ : ByteArray))
def impl_insOf.T25 : Bool × List (List Nat × List Nat) := (true, [([], []), ([0], [0]), ([1], [1]), ([], []), ([3], [3]), ([4], [4]), ([], []), ([6], [6]), ([7], [7]), ([0, 1, 2], []), ([9, 2, 0, 1, 2], [2, 9]), ([0, 1, 2, 3, 4, 5, 9, 10], []), ([11, 5, 10, 0, 1, 2, 3, 4, 5, 9, 10], [5, 11]), ([0, 1, 2, 3, 4, 5, 6, 7, 8, 9, 10, 11, 12], []), ([13, 8, 12, 0, 1, 2, 3, 4, 5, 6, 7, 8, 9, 10, 11, 12], [8, 13])])
def impl_insOf.B25 : List Nat := [0, 1, 3, 0, 8, 24, 0, 64, 192, 7, 519, 1599, 3647, 8191, 16383]
theorem impl_insOf.tab25 : rtab .any (opsOf Tryd.f36 25) = impl_insOf.T25 := by kernel_rfl
theorem impl_insOf.bits25 : waitsOk impl_insOf.T25.2 impl_insOf.B25 = true := by kernel_rfl
set_option maxHeartbeats 8000000 in
set_option maxRecDepth 100000 in
theorem impl_insOf.calls (k : Nat) (A0 : Option Addr) (c0 : Nat) (l0 : List ByteArray) (r1 : Int) (r2 : Int) (r3 : ByteArray) (r4 : ByteArray) (r5 : ByteArray) (r6 : Bool) (w : World) (hr0 : Kd.C Kd.string w A0 l0.length l0) (hc0 : l0.length ≤ c0) (h : impl_insOf.f k l0 = some (r1, r2, r3, r4, r5, r6)) (htab : Tabs w := by exact tab_) :
 Calls Tryd.prog 36 #[.slice A0 l0.length c0] w fun e w' => e = .returned (.tuple #[.agg #[.int .i64 r1, .int .i64 r2, .string r3, .string r4, .string r5], .bool r6]) ∧ Below w.heap.size w w' := by
 have HTAB := Zm htab
 clear htab
 have hu44 := Tryd.underlying44; have HR0 := Zm hr0; have HC0 := Zm hc0; clear hr0 hc0; have HB := Zm (Below.refl w.heap.size w); have H : ((impl_opNames.f).bind fun t387 => (impl_insOf.l0 k l0 t387 (t387.length : Int) 0 0 0 (⟨#[]⟩ : ByteArray) (⟨#[]⟩ : ByteArray) (⟨#[]⟩ : ByteArray))) = some (r1, r2, r3, r4, r5, r6) := h; clear h; replace H := Option.bind_eq_some_iff.mp H; obtain ⟨t387, A20, H⟩ := H; replace H : (impl_insOf.l0 k l0 t387 (t387.length : Int) 0 0 0 (⟨#[]⟩ : ByteArray) (⟨#[]⟩ : ByteArray) (⟨#[]⟩ : ByteArray)) = some (r1, r2, r3, r4, r5, r6) := H; have A2 := Zm A20; clear A20; have H' := Zm H; clear H; go_enter Tryd.func36, Tryd.ntmps36; go_wp2_with (first | ((with_reducible refine gate_dst (N := 2) rfl ?_); (try (refine gate_guard (by rfl) ?_; dsimp only)); refine box_event ?hg (N := 2) ?hd (cs := #[.int .i64 0, .int .i64 0, .string (⟨#[]⟩ : ByteArray), .string (⟨#[]⟩ : ByteArray), .string (⟨#[]⟩ : ByteArray)]) (t := 44) ?hr ?_; (case hd => rfl); (case hg => rfl); (case hr => first | (go_simp; done) | (go_simp; rfl)); intro gb385 hg w3 hbox hb; have n0_ := (⟨Zm (Zbt (bk HB.out) hb), Zm (hbox), Zm ((by rw [hg]; exact (Zbz (bk HB.out)) : w.heap.size ≤ gb385)), Zm ((by rw [hg]; exact (Zbz (bk HB.out)) : w.heap.size ≤ gb385))⟩ : _ ∧ _ ∧ _ ∧ _); clear HB; obtain ⟨HB, BK385, GW385, GE385⟩ := n0_; clear hb hbox hg) | ((with_reducible refine gate_dst (N := 4) rfl ?_); (try (refine gate_guard (by rfl) ?_; dsimp only)); refine box_event ?hg (N := 4) ?hd (cs := #[.int .i64 0, .int .i64 0, .string (⟨#[]⟩ : ByteArray), .string (⟨#[]⟩ : ByteArray), .string (⟨#[]⟩ : ByteArray)]) (t := 44) ?hr ?_; (case hd => rfl); (case hg => rfl); (case hr => first | (go_simp; done) | (go_simp; rfl)); intro gb386 hg w4 hbox hb; have n0_ := (⟨Zm (Zkb (pk BK385.out) hb), Zm (Zbt (bk HB.out) hb), Zm (hbox), Zm ((by rw [hg]; exact (Zbz (bk HB.out)) : w.heap.size ≤ gb386)), Zm ((by rw [hg]; exact (Zbz (bk HB.out)) : w.heap.size ≤ gb386)), Zm ((by rw [hg]; exact Nat.ne_of_lt (blk_lt (pk BK385.out)) : gb385 ≠ gb386)), Zm ((by rw [hg]; exact Nat.ne_of_gt (blk_lt (pk BK385.out)) : gb386 ≠ gb385))⟩ : _ ∧ _ ∧ _ ∧ _ ∧ _ ∧ _ ∧ _); clear BK385 HB; obtain ⟨BK385, HB, BK386, GW386, GE386, NB385_386, NB386_385⟩ := n0_; clear hb hbox hg; have hnb5 := NB386_385.out; have hnc5 := NB385_386.out; obtain ⟨hcz6_0, hcz6_1, hcz6_2, hcz6_3, hcz6_4⟩ := cz5 BK386.out; have hfz6_0 := Zkf BK386.out 0; have hfz6_1 := Zkf BK386.out 1; have hfz6_2 := Zkf BK386.out 2; have hfz6_3 := Zkf BK386.out 3; have hfz6_4 := Zkf BK386.out 4) | ((with_reducible refine gate_callee (f := 59) rfl ?_); refine ge_ (some 14) Tryd.func59 #[] ?_; (with_reducible refine (impl_opNames.calls _ _ A2.out).mono ?_); rintro e w7 ⟨v388, rfl, ho0, hb⟩; refine ⟨_, rfl, ?_⟩; have n0_ := (⟨Zm (Kd.R_lower ho0 (Zbz hb_)), Zm (Zkb (g := gb385) (o := .cells #[.int .i64 0, .int .i64 0, .string (⟨#[]⟩ : ByteArray), .string (⟨#[]⟩ : ByteArray), .string (⟨#[]⟩ : ByteArray)] 44 (0, 0)) zc_ hb), Zm (Zkb (g := gb386) (o := .cells #[.int .i64 0, .int .i64 0, .string (⟨#[]⟩ : ByteArray), .string (⟨#[]⟩ : ByteArray), .string (⟨#[]⟩ : ByteArray)] 44 (0, 0)) zc_ hb), Zm (Zbt hb_ hb)⟩ : _ ∧ _ ∧ _ ∧ _); clear BK385 BK386 HB; obtain ⟨HO389, BK385, BK386, HB⟩ := n0_; (try clear hb); (try clear hb2); (try clear hk); (try clear hi); (try clear ho0); obtain ⟨Ao8, co8, eo8⟩ := Kd.R_slice HO389.out; subst eo8)); go_loopg [16] k (fun kq v16 w' => ∃ (x16_1 : Int) (x387000_1 : Int), v16 = .int .i64 x16_1 ∧ Aside0 (impl_insOf.l0 kq l0 t387 (t387.length : Int) x16_1 x387000_1 0 (⟨#[]⟩ : ByteArray) (⟨#[]⟩ : ByteArray) (⟨#[]⟩ : ByteArray) = some (r1, r2, r3, r4, r5, r6)) ∧ Aside0 (kq ≤ k) ∧ Aside0 (Kd.R Kd.string 9 w' w.heap.size (fun _ => True) (.slice Ao8 t387.length co8) t387) ∧ Aside0 (w'.heap[gb385]? = some (.cells #[.int .i64 0, .int .i64 0, .string (⟨#[]⟩ : ByteArray), .string (⟨#[]⟩ : ByteArray), .string (⟨#[]⟩ : ByteArray)] 44 (0, 0))) ∧ Aside0 (w'.heap[gb386]? = some (.cells #[.int .i64 x387000_1, .int .i64 0, .string (⟨#[]⟩ : ByteArray), .string (⟨#[]⟩ : ByteArray), .string (⟨#[]⟩ : ByteArray)] 44 (0, 0))) ∧ Aside0 (Below w.heap.size w w'))
 case atStart => exact ⟨(0), (0), (by first | rfl | (simp; done) | (simp [*]; done)), H', ⟨Nat.le_refl _⟩, ⟨by (with_reducible repeat (first | apply Kd.R_alloc | apply Kd.R_drewN | apply Kd.R_drew)); exact HO389.out⟩, ⟨pk BK385.out⟩, ⟨pk BK386.out⟩, ⟨bk HB.out⟩⟩
 case round =>
  clear H'; (try clear hcz6_0); (try clear hcz6_1); (try clear hcz6_2); (try clear hcz6_3); (try clear hcz6_4); (try clear hfz6_0); (try clear hfz6_1); (try clear hfz6_2); (try clear hfz6_3); (try clear hfz6_4); obtain ⟨x16_1, x387000_1, rfl, HA, HK1, HO_14, BK385, BK386, HB⟩ := hrel
  cases gk with
  | zero => exact absurd HA.out (by simp [impl_insOf.l0])
  | succ k1 =>
   have H := HA.out; clear HA; simp only [impl_insOf.l0] at H; by_cases c9 : x16_1 < (t387.length : Int); rotate_left
   · rw [if_neg c9] at H; have c9b0 := decide_eq_false c9; clear c9; replace H := Option.bind_eq_some_iff.mp H; obtain ⟨t392, A170, H⟩ := H; replace H : (if 1 ≤ (l0.length : Int) then ((map_make36.f).bind fun t394 => ((map_look36.f t392).bind fun bt395 => (if bt395.2 = true then (impl_insOf.j1 k1 t392 (l0.drop 1) (((l0.drop 1).length : Int) != bt395.1) x387000_1 0 (⟨#[]⟩ : ByteArray) (⟨#[]⟩ : ByteArray) (⟨#[]⟩ : ByteArray)) else (impl_insOf.j1 k1 t392 (l0.drop 1) true x387000_1 0 (⟨#[]⟩ : ByteArray) (⟨#[]⟩ : ByteArray) (⟨#[]⟩ : ByteArray))))) else (none)) = some (r1, r2, r3, r4, r5, r6) := H; have A17 := Zm A170; clear A170; by_cases c18 : 1 ≤ (l0.length : Int); rotate_left
     · rw [if_neg c18] at H; exact absurd H (by simp)

     rw [if_pos c18] at H
     have c18b0 := eq_true c18
     have c18b1 := decide_eq_true c18
     clear c18
     replace H := Option.bind_eq_some_iff.mp H
     obtain ⟨t394, A190, H⟩ := H
     replace H : ((map_look36.f t392).bind fun bt395 => (if bt395.2 = true then (impl_insOf.j1 k1 t392 (l0.drop 1) (((l0.drop 1).length : Int) != bt395.1) x387000_1 0 (⟨#[]⟩ : ByteArray) (⟨#[]⟩ : ByteArray) (⟨#[]⟩ : ByteArray)) else (impl_insOf.j1 k1 t392 (l0.drop 1) true x387000_1 0 (⟨#[]⟩ : ByteArray) (⟨#[]⟩ : ByteArray) (⟨#[]⟩ : ByteArray)))) = some (r1, r2, r3, r4, r5, r6) := H
     have A19 := Zm A190
     clear A190
     replace H := Option.bind_eq_some_iff.mp H
     obtain ⟨⟨t395, t396⟩, A200, H⟩ := H
     replace H : (if t396 = true then (impl_insOf.j1 k1 t392 (l0.drop 1) (((l0.drop 1).length : Int) != t395) x387000_1 0 (⟨#[]⟩ : ByteArray) (⟨#[]⟩ : ByteArray) (⟨#[]⟩ : ByteArray)) else (impl_insOf.j1 k1 t392 (l0.drop 1) true x387000_1 0 (⟨#[]⟩ : ByteArray) (⟨#[]⟩ : ByteArray) (⟨#[]⟩ : ByteArray))) = some (r1, r2, r3, r4, r5, r6) := H
     have A20 := Zm A200
     clear A200
     have HC21 := Zm H
     clear H
     try go_wp2
     have n0_ := (⟨Zm (Kd.R_drew HO_14.out), Zm (Zkd BK385.out), Zm (Zkd BK386.out), Zm (Zbd HB.out)⟩ : _ ∧ _ ∧ _ ∧ _)
     clear HO_14 BK385 BK386 HB
     obtain ⟨HO_14, BK385, BK386, HB⟩ := n0_
     obtain ⟨i023, hi023, _, hsz23, _⟩ := info_parts info9
     obtain ⟨A23, hcut23, hA23, hC23⟩ := print_drop_of (P := Tryd.prog) Value.string (⟨#[]⟩ : ByteArray) 61 9 .i64 Tryd.underlying61 hi023 hsz23 A0 c0 l0 1 (by omega) (of_decide_eq_true (by first | (with_reducible assumption) | assumption)) HC0.out
     have HR393 := Zm (Kd.C_of_reads (h1 := fun _ => rfl) (hA23 _ (Kd.reads_of_C HR0.out)))
     have HC393 := Zm hC23
     clear hA23 hC23 hi023 hsz23
     refine start_ (n := 7) (S := fun w' => w'.cell? ⟨gb386, 0, none⟩ = some (.int .i64 x387000_1) ∧ w'.cell? ⟨gb386, 1, none⟩ = some (.int .i64 0) ∧ w'.cell? ⟨gb386, 2, none⟩ = some (.string (⟨#[]⟩ : ByteArray)) ∧ w'.cell? ⟨gb386, 3, none⟩ = some (.string (⟨#[]⟩ : ByteArray)) ∧ w'.cell? ⟨gb386, 4, none⟩ = some (.string (⟨#[]⟩ : ByteArray))) (ds := []) #[false, false, false, false, false, false, false] (by kernel_rfl) rfl rfl ⟨(Zkc BK386.out 0).trans rfl, (Zkc BK386.out 1).trans rfl, (Zkc BK386.out 2).trans rfl, (Zkc BK386.out 3).trans rfl, (Zkc BK386.out 4).trans rfl⟩ (fun hHeld => ?_)
     generalize wr.drew = w22 at HO_14 BK385 BK386 HB HR393 hHeld ⊢
     refine pure_ (i := 0) (N := some 30) (v := ?_) (a' := ?_) #[true, false, false, false, false, false, false] rfl rfl (by kernel_rfl) (fun _ _ _ h => h) (Or.inl ⟨by rfl, ?_⟩) ?_ ?_
     rotate_left
     · intro w'
       go_simp
       with_reducible rfl
     rotate_left
     · simp only [Act.put, List.setIfInBounds_toArray, List.set_cons_zero, List.set_cons_succ, i64_w, i32_w]
       rfl
     refine pure_ (i := 3) (N := some 33) (v := ?_) (a' := ?_) #[true, false, false, true, false, false, false] rfl rfl (by kernel_rfl) (fun _ _ _ h => h) (Or.inl ⟨by rfl, ?_⟩) ?_ ?_
     rotate_left
     · intro w'
       go_simp
       with_reducible rfl
     rotate_left
     · simp only [Act.put, List.setIfInBounds_toArray, List.set_cons_zero, List.set_cons_succ, i64_w, i32_w]
       rfl
     refine pure_ (i := 4) (N := some 34) (v := ?_) (a' := ?_) #[true, false, false, true, true, false, false] rfl rfl (by kernel_rfl) (fun _ _ _ h => h) (Or.inl ⟨by rfl, ?_⟩) ?_ ?_
     rotate_left
     · intro w'
       go_simp
       with_reducible rfl
     rotate_left
     · simp only [Act.put, List.setIfInBounds_toArray, List.set_cons_zero, List.set_cons_succ, i64_w, i32_w]
       rfl
     refine take_ (i := 1) (N := some 31) (v := ?_) (a' := ?_) #[true, true, false, true, true, false, false] rfl rfl (by kernel_rfl) (fun _ _ _ h => h) (Or.inl ⟨by rfl, ?_⟩) hHeld ?_ ?_
     rotate_left
     · rintro w' ⟨s0, s1, s2, s3, s4⟩
       go_simp
       with_reducible rfl
     rotate_left
     · simp only [Act.put, List.setIfInBounds_toArray, List.set_cons_zero, List.set_cons_succ, i64_w, i32_w]
       rfl
     refine one_ (i := 2) (N := some 32) #[true, true, true, true, true, false, false] rfl rfl (by kernel_rfl) (by decide) (fun K hK => ?_)
     refine goes_ Tryd.func48 (by kernel_rfl) rfl #[.int .i64 x387000_1] (by rfl) rfl rfl (by (try simp only [List.map_toArray, List.map_cons, List.map_nil]); first | done | rfl | (simp only [List.length_drop, List.length_take]; rfl)) ?_
     with_reducible refine (impl_OpForm.calls x387000_1 t392 _ A17.out).mono ?_
     rintro e w24 ⟨rfl, hb⟩
     refine ⟨_, rfl, ?_⟩
     have n0_ := Zm (Kd.R_below (by (with_reducible repeat (first | apply Kd.R_alloc | apply Kd.R_drewN | apply Kd.R_drew)); exact HO_14.out) hb)
     have n1_ := Zm (Zkb (pk BK385.out) hb)
     have n2_ := Zm (Zkb (pk BK386.out) hb)
     have n3_ := Zm (Zbt (bk HB.out) hb)
     clear HO_14
     clear BK385
     clear BK386
     clear HB
     have HO_14 := n0_
     have BK385 := n1_
     have BK386 := n2_
     have HB := n3_
     clear n0_ n1_ n2_ n3_
     refine hK.out _ _ ⟨(Zkc BK386.out 0).trans rfl, (Zkc BK386.out 1).trans rfl, (Zkc BK386.out 2).trans rfl, (Zkc BK386.out 3).trans rfl, (Zkc BK386.out 4).trans rfl⟩ (fun hHeld => ?_)
     clear hK K
     refine norm_ (a' := ?_) ?_ ?_
     rotate_left
     · show Act.put _ (some 32) _ = _
       simp only [Act.put, List.setIfInBounds_toArray, List.set_cons_zero, List.set_cons_succ, i64_w, i32_w]
       rfl
     refine pure_ (i := 5) (N := some 7) (v := ?_) (a' := ?_) #[true, true, true, true, true, true, false] rfl rfl (by kernel_rfl) (fun _ _ _ h => h) (Or.inl ⟨by rfl, ?_⟩) ?_ ?_
     rotate_left
     · intro w'
       go_simp
       with_reducible rfl
     rotate_left
     · simp only [Act.put, List.setIfInBounds_toArray, List.set_cons_zero, List.set_cons_succ, i64_w, i32_w]
       rfl
     refine pure_ (i := 6) (N := some 8) (v := ?_) (a' := ?_) #[true, true, true, true, true, true, true] rfl rfl (by kernel_rfl) (fun _ _ _ h => h) (Or.inl ⟨by rfl, ?_⟩) ?_ ?_
     rotate_left
     · intro w'
       go_simp
       with_reducible rfl
     rotate_left
     · simp only [Act.put, List.setIfInBounds_toArray, List.set_cons_zero, List.set_cons_succ, i64_w, i32_w]
       rfl
     refine done_ (by kernel_rfl) ?_
     go_upto_region 11 with (first | ((with_reducible refine map36_walk (X := 35) ?q ?_); (case q => exact ⟨rfl, rfl, rfl, rfl, rfl, rfl, rfl, rfl, rfl, rfl, rfl, rfl, rfl, rfl, rfl, rfl, rfl, rfl, rfl, rfl, rfl, rfl, rfl, rfl, rfl, rfl, rfl, rfl⟩); intro w25 hmap hb; have HMAP := Zm hmap; clear hmap; have n0_ := (⟨Zm (Kd.R_below (by (with_reducible repeat (first | apply Kd.R_alloc | apply Kd.R_drewN | apply Kd.R_drew)); exact HO_14.out) hb), Zm (Zkb (pk BK385.out) hb), Zm (Zkb (pk BK386.out) hb), Zm (Zbt (bk HB.out) hb)⟩ : _ ∧ _ ∧ _ ∧ _); clear HO_14 BK385 BK386 HB; obtain ⟨HO_14, BK385, BK386, HB⟩ := n0_; (try clear hb); (try clear hb2); (try clear hk); (try clear hi)) | ((with_reducible refine map36_look HMAP.out _ A20.out ?q ?_); (case q => exact ⟨rfl, rfl⟩)))
     (try simp only [Act.put, List.setIfInBounds_toArray, List.set_cons_zero, List.set_cons_succ])
     go_cut [50] (fun v50 wc => ∃ (kq : Nat) (x50_20 : Bool), v50 = .bool x50_20 ∧ Aside0 (impl_insOf.j1 kq t392 (l0.drop 1) x50_20 x387000_1 0 (⟨#[]⟩ : ByteArray) (⟨#[]⟩ : ByteArray) (⟨#[]⟩ : ByteArray) = some (r1, r2, r3, r4, r5, r6)) ∧ Aside0 (kq ≤ k1) ∧ Aside0 (wc.heap[gb385]? = some (.cells #[.int .i64 0, .int .i64 0, .string (⟨#[]⟩ : ByteArray), .string (⟨#[]⟩ : ByteArray), .string (⟨#[]⟩ : ByteArray)] 44 (0, 0))) ∧ Aside0 (wc.heap[gb386]? = some (.cells #[.int .i64 x387000_1, .int .i64 0, .string (⟨#[]⟩ : ByteArray), .string (⟨#[]⟩ : ByteArray), .string (⟨#[]⟩ : ByteArray)] 44 (0, 0))) ∧ Aside0 (Below w.heap.size w wc))
     case first =>
      have H := HC21.out
      clear HC21
      by_cases c26 : t396 = true
      rotate_left
      · replace c26 := Bool.eq_false_iff.mpr c26
        subst c26
        rw [if_neg (show ¬ (false = true) by decide)] at H
        have H' := Zm H
        clear H
        go_wp2
        go_meet
        case rel => exact ⟨_, (true), (by first | rfl | (simp; done) | (simp [*]; done)), H', ⟨by have := HK1.out; first | omega | exact Nat.le_refl _⟩, ⟨pk BK385.out⟩, ⟨pk BK386.out⟩, ⟨bk HB.out⟩⟩
      subst c26
      rw [if_pos rfl] at H
      have H' := Zm H
      clear H
      go_wp2
      go_meet
      case rel => exact ⟨_, ((((l0.drop 1).length : Int) != t395)), (by first | rfl | (simp; done) | (simp [*]; done)), H', ⟨by have := HK1.out; first | omega | exact Nat.le_refl _⟩, ⟨pk BK385.out⟩, ⟨pk BK386.out⟩, ⟨bk HB.out⟩⟩
     case rest =>
      clear HC21
      (try clear c9); (try clear c9b0); (try clear c18); (try clear c18b0); (try clear c18b1); (try clear hcz6_0); (try clear hcz6_1); (try clear hcz6_2); (try clear hcz6_3); (try clear hcz6_4); (try clear hfz6_0); (try clear hfz6_1); (try clear hfz6_2); (try clear hfz6_3); (try clear hfz6_4)
      obtain ⟨kq, x50_20, rfl, HA, HJ20, BK385, BK386, HB⟩ := hcut
      cases kq with
      | zero => exact absurd HA.out (by simp [impl_insOf.j1])
      | succ kj20 =>
       have H := HA.out
       clear HA
       simp only [impl_insOf.j1] at H
       by_cases c27 : x50_20 = true
       rotate_left
       · replace c27 := Bool.eq_false_iff.mpr c27
         subst c27
         rw [if_neg (show ¬ (false = true) by decide)] at H
         have HC30 := Zm H
         clear H
         go_upto_if 53 with (fail)
         go_cut [53] (fun v53 wc => ∃ (kq : Nat) (x53_29 : Bool), v53 = .bool x53_29 ∧ Aside0 (impl_insOf.j2 kq (l0.drop 1) true t392 x53_29 x387000_1 0 (⟨#[]⟩ : ByteArray) (⟨#[]⟩ : ByteArray) (⟨#[]⟩ : ByteArray) = some (r1, r2, r3, r4, r5, r6)) ∧ Aside0 (kq ≤ kj20) ∧ Aside0 (wc.heap[gb385]? = some (.cells #[.int .i64 0, .int .i64 0, .string (⟨#[]⟩ : ByteArray), .string (⟨#[]⟩ : ByteArray), .string (⟨#[]⟩ : ByteArray)] 44 (0, 0))) ∧ Aside0 (wc.heap[gb386]? = some (.cells #[.int .i64 x387000_1, .int .i64 0, .string (⟨#[]⟩ : ByteArray), .string (⟨#[]⟩ : ByteArray), .string (⟨#[]⟩ : ByteArray)] 44 (0, 0))) ∧ Aside0 (Below w.heap.size w wc))
         case first =>
          have H := HC30.out
          clear HC30
          by_cases c31 : t392.toList = ([110] : List UInt8)
          rotate_left
          · rw [if_neg c31] at H
            have c31b0 : (t392.toList == ([110] : List UInt8)) = false := beq_eq_false_iff_ne.mpr c31
            have c31b1 : (t392.toList != ([110] : List UInt8)) = true := bne_iff_ne.mpr c31
            (first | rw [c31b0] | (simp only [i64_w, i32_w]; rw [c31b0]) | skip)
            by_cases c32 : t392.toList = ([105] : List UInt8)
            rotate_left
            · rw [if_neg c32] at H
              have c32b0 : (t392.toList == ([105] : List UInt8)) = false := beq_eq_false_iff_ne.mpr c32
              have c32b1 : (t392.toList != ([105] : List UInt8)) = true := bne_iff_ne.mpr c32
              have H' := Zm H
              clear H
              go_wp2
              go_meet
              case rel => exact ⟨_, ((t392.toList == ([116] : List UInt8))), (by first | rfl | (simp; done) | (simp [*]; done)), H', ⟨by have := HK1.out; have := HJ20.out; first | omega | exact Nat.le_refl _⟩, ⟨pk BK385.out⟩, ⟨pk BK386.out⟩, ⟨bk HB.out⟩⟩
            rw [if_pos c32] at H
            have c32b0 : (t392.toList == ([105] : List UInt8)) = true := beq_iff_eq.mpr c32
            have c32b1 : (t392.toList != ([105] : List UInt8)) = false := bne_eq_false_iff_eq.mpr c32
            clear c32
            have H' := Zm H
            clear H
            go_wp2
            go_meet
            case rel => exact ⟨_, ((t392.toList == ([105] : List UInt8))), (by first | rfl | (simp; done) | (simp [*]; done)), H', ⟨by have := HK1.out; have := HJ20.out; first | omega | exact Nat.le_refl _⟩, ⟨pk BK385.out⟩, ⟨pk BK386.out⟩, ⟨bk HB.out⟩⟩
          rw [if_pos c31] at H
          have c31b0 : (t392.toList == ([110] : List UInt8)) = true := beq_iff_eq.mpr c31
          have c31b1 : (t392.toList != ([110] : List UInt8)) = false := bne_eq_false_iff_eq.mpr c31
          clear c31
          (first | rw [c31b0] | (simp only [i64_w, i32_w]; rw [c31b0]) | skip)
          have H' := Zm H
          clear H
          go_wp2
          go_meet
          case rel => exact ⟨_, ((t392.toList == ([110] : List UInt8))), (by first | rfl | (simp; done) | (simp [*]; done)), H', ⟨by have := HK1.out; have := HJ20.out; first | omega | exact Nat.le_refl _⟩, ⟨pk BK385.out⟩, ⟨pk BK386.out⟩, ⟨bk HB.out⟩⟩
         case rest =>
          clear HC30
          (try clear c9); (try clear c9b0); (try clear c18); (try clear c18b0); (try clear c18b1); (try clear c27); (try clear hcz6_0); (try clear hcz6_1); (try clear hcz6_2); (try clear hcz6_3); (try clear hcz6_4); (try clear hfz6_0); (try clear hfz6_1); (try clear hfz6_2); (try clear hfz6_3); (try clear hfz6_4)
          obtain ⟨kq, x53_29, rfl, HA, HJ29, BK385, BK386, HB⟩ := hcut
          cases kq with
          | zero => exact absurd HA.out (by simp [impl_insOf.j2])
          | succ kj29 =>
           have H := HA.out
           clear HA
           simp only [impl_insOf.j2] at H
           by_cases c33 : x53_29 = true
           rotate_left
           · replace c33 := Bool.eq_false_iff.mpr c33
             subst c33
             rw [if_neg (show ¬ (false = true) by decide)] at H
             by_cases c40 : t392.toList = ([99] : List UInt8)
             rotate_left
             · rw [if_neg c40] at H
               have c40b0 : (t392.toList == ([99] : List UInt8)) = false := beq_eq_false_iff_ne.mpr c40
               have c40b1 : (t392.toList != ([99] : List UInt8)) = true := bne_iff_ne.mpr c40
               by_cases c45 : t392.toList = ([121] : List UInt8)
               rotate_left
               · rw [if_neg c45] at H
                 have c45b0 : (t392.toList == ([121] : List UInt8)) = false := beq_eq_false_iff_ne.mpr c45
                 have c45b1 : (t392.toList != ([121] : List UInt8)) = true := bne_iff_ne.mpr c45
                 by_cases c50 : t392.toList = ([102] : List UInt8)
                 rotate_left
                 · rw [if_neg c50] at H
                   have c50b0 : (t392.toList == ([102] : List UInt8)) = false := beq_eq_false_iff_ne.mpr c50
                   have c50b1 : (t392.toList != ([102] : List UInt8)) = true := bne_iff_ne.mpr c50
                   by_cases c61 : t392.toList = ([109] : List UInt8)
                   rotate_left
                   · rw [if_neg c61] at H
                     have c61b0 : (t392.toList == ([109] : List UInt8)) = false := beq_eq_false_iff_ne.mpr c61
                     have c61b1 : (t392.toList != ([109] : List UInt8)) = true := bne_iff_ne.mpr c61
                     simp only [Option.some.injEq, Prod.mk.injEq] at H
                     obtain ⟨rfl, rfl, rfl, rfl, rfl, rfl⟩ := H
                     have hnb72 := NB386_385.out
                     have hnc72 := NB385_386.out
                     obtain ⟨hcz73_0, hcz73_1, hcz73_2, hcz73_3, hcz73_4⟩ := cz5 BK386.out
                     have hfz73_0 := Zkf BK386.out 0
                     have hfz73_1 := Zkf BK386.out 1
                     have hfz73_2 := Zkf BK386.out 2
                     have hfz73_3 := Zkf BK386.out 3
                     have hfz73_4 := Zkf BK386.out 4
                     obtain ⟨hcz74_0, hcz74_1, hcz74_2, hcz74_3, hcz74_4⟩ := cz5 BK385.out
                     have hfz74_0 := Zkf BK385.out 0
                     have hfz74_1 := Zkf BK385.out 1
                     have hfz74_2 := Zkf BK385.out 2
                     have hfz74_3 := Zkf BK385.out 3
                     have hfz74_4 := Zkf BK385.out 4
                     go_wp2
                     refine bodyPost_ret (results_ct rfl _ _ gb385 44 #[.int .i64 x387000_1, .int .i64 0, .string (⟨#[]⟩ : ByteArray), .string (⟨#[]⟩ : ByteArray), .string (⟨#[]⟩ : ByteArray)] (0, 0) _ rfl zc_ Tryd.underlying44 rfl (by kernel_rfl)) rfl ?_
                     exact ⟨by first | rfl | (simp [*] <;> rfl), hb_⟩
                   rw [if_pos c61] at H
                   have c61b0 : (t392.toList == ([109] : List UInt8)) = true := beq_iff_eq.mpr c61
                   have c61b1 : (t392.toList != ([109] : List UInt8)) = false := bne_eq_false_iff_eq.mpr c61
                   clear c61
                   by_cases c62 : 0 < ((l0.drop 1).length : Int)
                   rotate_left
                   · rw [if_neg c62] at H
                     exact absurd H (by simp)
                   rw [if_pos c62] at H
                   have c62b0 := decide_eq_true c62
                   have c62b1 : decide (0 < (l0.drop 1).length) = true := decide_eq_true (by omega)
                   clear c62
                   by_cases c63 : 1 < ((l0.drop 1).length : Int)
                   rotate_left
                   · rw [if_neg c63] at H
                     exact absurd H (by simp)
                   rw [if_pos c63] at H
                   have c63b0 := decide_eq_true c63
                   have c63b1 : decide (1 < (l0.drop 1).length) = true := decide_eq_true (by omega)
                   clear c63
                   by_cases c64 : 2 < ((l0.drop 1).length : Int)
                   rotate_left
                   · rw [if_neg c64] at H
                     exact absurd H (by simp)
                   rw [if_pos c64] at H
                   have c64b0 := decide_eq_true c64
                   have c64b1 : decide (2 < (l0.drop 1).length) = true := decide_eq_true (by omega)
                   clear c64
                   simp only [Option.some.injEq, Prod.mk.injEq] at H
                   obtain ⟨rfl, rfl, rfl, rfl, rfl, rfl⟩ := H
                   try go_wp2
                   have n0_ := (⟨Zm (Zkd BK385.out), Zm (Zkd BK386.out), Zm (Zbd HB.out)⟩ : _ ∧ _ ∧ _)
                   clear BK385 BK386 HB
                   obtain ⟨BK385, BK386, HB⟩ := n0_
                   have p405 : 0 ≤ (0 : Int) := (by omega)
                   have q405 : 0 < ((l0.drop 1).length : Int) := of_decide_eq_true (by first | (with_reducible assumption) | assumption)
                   obtain ⟨ad405, e405, hx405_0⟩ := Kd.at_string HR393.out 0 p405 q405
                   obtain ⟨dv405, hdv405⟩ : ∃ z_, Aside0 (z_ = (rdOf ByteArray.empty (l0.drop 1) 0)) := ⟨_, ⟨rfl⟩⟩
                   (try rw [show ((1 : Int)).toNat = 1 from rfl] at hx405_0)
                   rw [← hdv405.out] at hx405_0
                   have hw405_0 := hx405_0
                   (try rw [show ((0 : Int)).toNat = 0 from rfl] at hw405_0)
                   (try rw [show 0 * 1 = 0 from rfl] at hw405_0)
                   (try rw [Addr.add_zero'] at hw405_0)
                   cases e405
                   have qi405 : (0 < (l0.drop 1).length) = True := eq_true (by omega)
                   have qi405y := qi405
                   (try simp only [List.length_drop] at qi405y)
                   (try rw [show ((0 : Int)).toNat = 0 from rfl] at hx405_0)
                   (try rw [Addr.add_zero'] at hx405_0)
                   replace hx405_0 := hx_ HB hx405_0 (Zlt _ _ hx405_0)
                   replace p405 := eq_true p405
                   replace q405 := eq_true q405
                   have q405y := q405
                   (try simp only [List.length_drop] at q405y)
                   have p406 : 0 ≤ (1 : Int) := (by omega)
                   have q406 : 1 < ((l0.drop 1).length : Int) := of_decide_eq_true (by first | (with_reducible assumption) | assumption)
                   obtain ⟨ad406, e406, hx406_0⟩ := Kd.at_string HR393.out 1 p406 q406
                   obtain ⟨dv406, hdv406⟩ : ∃ z_, Aside0 (z_ = (rdOf ByteArray.empty (l0.drop 1) 1)) := ⟨_, ⟨rfl⟩⟩
                   (try rw [show ((1 : Int)).toNat = 1 from rfl] at hx406_0)
                   rw [← hdv406.out] at hx406_0
                   have hw406_0 := hx406_0
                   (try rw [show ((1 : Int)).toNat = 1 from rfl] at hw406_0)
                   (try rw [show 1 * 1 = 1 from rfl] at hw406_0)
                   (try simp only [Nat.reduceMul, Nat.reduceEqDiff, Go.Addr.add, ↓reduceIte] at hw406_0)
                   obtain rfl : ad405 = ad406 := (by injection e406)
                   (try simp only [show (1 : Int).toNat = 1 from rfl, Nat.reduceMul, Nat.reduceEqDiff, Go.Addr.add, ↓reduceIte] at hx406_0)
                   have qi406 : (1 < (l0.drop 1).length) = True := eq_true (by omega)
                   have qi406y := qi406
                   (try simp only [List.length_drop] at qi406y)
                   (try rw [show ((1 : Int)).toNat = 1 from rfl] at hx406_0)
                   replace hx406_0 := hx_ HB hx406_0 (Zlt _ _ hx406_0)
                   replace p406 := eq_true p406
                   replace q406 := eq_true q406
                   have q406y := q406
                   (try simp only [List.length_drop] at q406y)
                   have p407 : 0 ≤ (2 : Int) := (by omega)
                   have q407 : 2 < ((l0.drop 1).length : Int) := of_decide_eq_true (by first | (with_reducible assumption) | assumption)
                   obtain ⟨ad407, e407, hx407_0⟩ := Kd.at_string HR393.out 2 p407 q407
                   obtain ⟨dv407, hdv407⟩ : ∃ z_, Aside0 (z_ = (rdOf ByteArray.empty (l0.drop 1) 2)) := ⟨_, ⟨rfl⟩⟩
                   (try rw [show ((1 : Int)).toNat = 1 from rfl] at hx407_0)
                   rw [← hdv407.out] at hx407_0
                   have hw407_0 := hx407_0
                   (try rw [show ((2 : Int)).toNat = 2 from rfl] at hw407_0)
                   (try rw [show 2 * 1 = 2 from rfl] at hw407_0)
                   (try simp only [Nat.reduceMul, Nat.reduceEqDiff, Go.Addr.add, ↓reduceIte] at hw407_0)
                   obtain rfl : ad405 = ad407 := (by injection e407)
                   (try simp only [show (2 : Int).toNat = 2 from rfl, Nat.reduceMul, Nat.reduceEqDiff, Go.Addr.add, ↓reduceIte] at hx407_0)
                   have qi407 : (2 < (l0.drop 1).length) = True := eq_true (by omega)
                   have qi407y := qi407
                   (try simp only [List.length_drop] at qi407y)
                   (try rw [show ((2 : Int)).toNat = 2 from rfl] at hx407_0)
                   replace hx407_0 := hx_ HB hx407_0 (Zlt _ _ hx407_0)
                   replace p407 := eq_true p407
                   replace q407 := eq_true q407
                   have q407y := q407
                   (try simp only [List.length_drop] at q407y)
                   refine start_ (n := 15) (S := fun w' => w'.cell? ad405 = some (.string dv405) ∧ w'.cell? ⟨ad405.block, ad405.off + 1, none⟩ = some (.string dv406) ∧ w'.cell? ⟨ad405.block, ad405.off + 2, none⟩ = some (.string dv407)) (ds := []) #[false, false, false, false, false, false, false, false, false, false, false, false, false, false, false] (by kernel_rfl) rfl rfl ⟨((HB.out.cell (Zlt _ _ hw405_0)).trans hw405_0), ((HB.out.cell (Zlt _ _ hw406_0)).trans hw406_0), ((HB.out.cell (Zlt _ _ hw407_0)).trans hw407_0)⟩ (fun hHeld => ?_); refine with_tabW impl_insOf.tab25 impl_insOf.bits25 (fun HT_ HW_ => ?_)
                   generalize wc.drew = w65 at BK385 BK386 HB hx405_0 hx406_0 hx407_0 hHeld ⊢
                   refine pure_ (i := 0) (N := some 80) (v := ?_) (a' := ?_) #[true, false, false, false, false, false, false, false, false, false, false, false, false, false, false] rfl rfl (any_of HT_.out (by kernel_rfl)) (fun _ _ _ h => h) (Or.inl ⟨by rfl, ?_⟩) ?_ ?_
                   rotate_left
                   · intro w'
                     go_simp
                     with_reducible rfl
                   rotate_left
                   · simp only [Act.put, List.setIfInBounds_toArray, List.set_cons_zero, List.set_cons_succ, i64_w, i32_w]
                     rfl
                   refine pure_ (i := 1) (N := some 81) (v := ?_) (a' := ?_) #[true, true, false, false, false, false, false, false, false, false, false, false, false, false, false] rfl rfl (any_of HT_.out (by kernel_rfl)) (fun _ _ _ h => h) (Or.inl ⟨by rfl, ?_⟩) ?_ ?_
                   rotate_left
                   · intro w'
                     go_simp
                     with_reducible rfl
                   rotate_left
                   · simp only [Act.put, List.setIfInBounds_toArray, List.set_cons_zero, List.set_cons_succ, i64_w, i32_w]
                     rfl
                   refine pure_ (i := 3) (N := some 83) (v := ?_) (a' := ?_) #[true, true, false, true, false, false, false, false, false, false, false, false, false, false, false] rfl rfl (any_of HT_.out (by kernel_rfl)) (fun _ _ _ h => h) (Or.inl ⟨by rfl, ?_⟩) ?_ ?_
                   rotate_left
                   · intro w'
                     go_simp
                     with_reducible rfl
                   rotate_left
                   · simp only [Act.put, List.setIfInBounds_toArray, List.set_cons_zero, List.set_cons_succ, i64_w, i32_w]
                     rfl
                   refine pure_ (i := 4) (N := some 84) (v := ?_) (a' := ?_) #[true, true, false, true, true, false, false, false, false, false, false, false, false, false, false] rfl rfl (any_of HT_.out (by kernel_rfl)) (fun _ _ _ h => h) (Or.inl ⟨by rfl, ?_⟩) ?_ ?_
                   rotate_left
                   · intro w'
                     go_simp
                     with_reducible rfl
                   rotate_left
                   · simp only [Act.put, List.setIfInBounds_toArray, List.set_cons_zero, List.set_cons_succ, i64_w, i32_w]
                     rfl
                   refine pure_ (i := 6) (N := some 86) (v := ?_) (a' := ?_) #[true, true, false, true, true, false, true, false, false, false, false, false, false, false, false] rfl rfl (any_of HT_.out (by kernel_rfl)) (fun _ _ _ h => h) (Or.inl ⟨by rfl, ?_⟩) ?_ ?_
                   rotate_left
                   · intro w'
                     go_simp
                     with_reducible rfl
                   rotate_left
                   · simp only [Act.put, List.setIfInBounds_toArray, List.set_cons_zero, List.set_cons_succ, i64_w, i32_w]
                     rfl
                   refine pure_ (i := 7) (N := some 87) (v := ?_) (a' := ?_) #[true, true, false, true, true, false, true, true, false, false, false, false, false, false, false] rfl rfl (any_of HT_.out (by kernel_rfl)) (fun _ _ _ h => h) (Or.inl ⟨by rfl, ?_⟩) ?_ ?_
                   rotate_left
                   · intro w'
                     go_simp
                     with_reducible rfl
                   rotate_left
                   · simp only [Act.put, List.setIfInBounds_toArray, List.set_cons_zero, List.set_cons_succ, i64_w, i32_w]
                     rfl
                   refine take_ (i := 2) (N := some 82) (v := ?_) (a' := ?_) #[true, true, true, true, true, false, true, true, false, false, false, false, false, false, false] rfl rfl (take_ofW HT_.out HW_.out (by kernel_rfl)) (fun _ _ _ h => h) (Or.inl ⟨by rfl, ?_⟩) hHeld ?_ ?_
                   rotate_left
                   · rintro w' ⟨s0, s1, s2⟩
                     go_simp
                     with_reducible rfl
                   rotate_left
                   · simp only [Act.put, List.setIfInBounds_toArray, List.set_cons_zero, List.set_cons_succ, i64_w, i32_w]
                     rfl
                   refine pure_ (i := 9) (N := some 89) (v := ?_) (a' := ?_) #[true, true, true, true, true, false, true, true, false, true, false, false, false, false, false] rfl rfl (any_of HT_.out (by kernel_rfl)) (fun _ _ _ h => h) (Or.inl ⟨by rfl, ?_⟩) ?_ ?_
                   rotate_left
                   · intro w'
                     go_simp
                     with_reducible rfl
                   rotate_left
                   · simp only [Act.put, List.setIfInBounds_toArray, List.set_cons_zero, List.set_cons_succ, i64_w, i32_w]
                     rfl
                   refine take_ (i := 5) (N := some 85) (v := ?_) (a' := ?_) #[true, true, true, true, true, true, true, true, false, true, false, false, false, false, false] rfl rfl (take_ofW HT_.out HW_.out (by kernel_rfl)) (fun _ _ _ h => h) (Or.inl ⟨by rfl, ?_⟩) hHeld ?_ ?_
                   rotate_left
                   · rintro w' ⟨s0, s1, s2⟩
                     go_simp
                     with_reducible rfl
                   rotate_left
                   · simp only [Act.put, List.setIfInBounds_toArray, List.set_cons_zero, List.set_cons_succ, i64_w, i32_w]
                     rfl
                   refine take_ (i := 8) (N := some 88) (v := ?_) (a' := ?_) #[true, true, true, true, true, true, true, true, true, true, false, false, false, false, false] rfl rfl (take_ofW HT_.out HW_.out (by kernel_rfl)) (fun _ _ _ h => h) (Or.inl ⟨by rfl, ?_⟩) hHeld ?_ ?_
                   rotate_left
                   · rintro w' ⟨s0, s1, s2⟩
                     go_simp
                     with_reducible rfl
                   rotate_left
                   · simp only [Act.put, List.setIfInBounds_toArray, List.set_cons_zero, List.set_cons_succ, i64_w, i32_w]
                     rfl
                   refine one_ (i := 10) (N := none) #[true, true, true, true, true, true, true, true, true, true, true, false, false, false, false] rfl rfl (one_of HT_.out (by kernel_rfl)) (by decide) (fun K hK => ?_)
                   have hs66 : w65.cell? ⟨gb386, 2, none⟩ = some (.string (⟨#[]⟩ : ByteArray)) := (Zkc BK386.out 2).trans rfl
                   have hfs66 := Zkf BK386.out 2
                   have hns66_0 := NB385_386.out
                   have hms66_0 := NB386_385.out
                   refine skip_ (w1 := ?_) (by rfl) rfl ?_ ?_
                   rotate_left
                   · go_simp
                     rfl
                   refine hK.out _ _ ⟨((cell_far (p := ⟨gb386, _, none⟩) (by first | exact Nat.ne_of_lt (Nat.lt_of_lt_of_le (by have := Zlt _ _ hw405_0; first | rwa [Zab] at this | exact this) GW386.out) | (rw [Zab]; exact Nat.ne_of_lt (Nat.lt_of_lt_of_le (by have := Zlt _ _ hw405_0; first | rwa [Zab] at this | exact this) GW386.out)) | (show (Addr.add _ _).block ≠ _; rw [Zab]; exact Nat.ne_of_lt (Nat.lt_of_lt_of_le (by have := Zlt _ _ hw405_0; first | rwa [Zab] at this | exact this) GW386.out)) | (dsimp only; exact Nat.ne_of_lt (Nat.lt_of_lt_of_le (by have := Zlt _ _ hw405_0; first | rwa [Zab] at this | exact this) GW386.out))) _).trans (hHeld.1)), ((cell_far (p := ⟨gb386, _, none⟩) (by first | exact Nat.ne_of_lt (Nat.lt_of_lt_of_le (by have := Zlt _ _ hw406_0; first | rwa [Zab] at this | exact this) GW386.out) | (rw [Zab]; exact Nat.ne_of_lt (Nat.lt_of_lt_of_le (by have := Zlt _ _ hw406_0; first | rwa [Zab] at this | exact this) GW386.out)) | (show (Addr.add _ _).block ≠ _; rw [Zab]; exact Nat.ne_of_lt (Nat.lt_of_lt_of_le (by have := Zlt _ _ hw406_0; first | rwa [Zab] at this | exact this) GW386.out)) | (dsimp only; exact Nat.ne_of_lt (Nat.lt_of_lt_of_le (by have := Zlt _ _ hw406_0; first | rwa [Zab] at this | exact this) GW386.out))) _).trans (hHeld.2.1)), ((cell_far (p := ⟨gb386, _, none⟩) (by first | exact Nat.ne_of_lt (Nat.lt_of_lt_of_le (by have := Zlt _ _ hw407_0; first | rwa [Zab] at this | exact this) GW386.out) | (rw [Zab]; exact Nat.ne_of_lt (Nat.lt_of_lt_of_le (by have := Zlt _ _ hw407_0; first | rwa [Zab] at this | exact this) GW386.out)) | (show (Addr.add _ _).block ≠ _; rw [Zab]; exact Nat.ne_of_lt (Nat.lt_of_lt_of_le (by have := Zlt _ _ hw407_0; first | rwa [Zab] at this | exact this) GW386.out)) | (dsimp only; exact Nat.ne_of_lt (Nat.lt_of_lt_of_le (by have := Zlt _ _ hw407_0; first | rwa [Zab] at this | exact this) GW386.out))) _).trans (hHeld.2.2))⟩ (fun hHeld => ?_)
                   clear hK K
                   refine pure_ (i := 11) (N := some 90) (v := ?_) (a' := ?_) #[true, true, true, true, true, true, true, true, true, true, true, true, false, false, false] rfl rfl (any_of HT_.out (by kernel_rfl)) (fun _ _ _ h => h) (Or.inl ⟨by rfl, ?_⟩) ?_ ?_
                   rotate_left
                   · intro w'
                     go_simp
                     with_reducible rfl
                   rotate_left
                   · simp only [Act.put, List.setIfInBounds_toArray, List.set_cons_zero, List.set_cons_succ, i64_w, i32_w]
                     rfl
                   refine one_ (i := 12) (N := none) #[true, true, true, true, true, true, true, true, true, true, true, true, true, false, false] rfl rfl (one_of HT_.out (by kernel_rfl)) (by decide) (fun K hK => ?_)
                   have hs67 : w65.cell? ⟨gb386, 3, none⟩ = some (.string (⟨#[]⟩ : ByteArray)) := (Zkc BK386.out 3).trans rfl
                   have hfs67 := Zkf BK386.out 3
                   have hns67_0 := NB385_386.out
                   have hms67_0 := NB386_385.out
                   refine skip_ (w1 := ?_) (by rfl) rfl ?_ ?_
                   rotate_left
                   · go_simp
                     rfl
                   refine hK.out _ _ ⟨((cell_far (p := ⟨gb386, _, none⟩) (by first | exact Nat.ne_of_lt (Nat.lt_of_lt_of_le (by have := Zlt _ _ hw405_0; first | rwa [Zab] at this | exact this) GW386.out) | (rw [Zab]; exact Nat.ne_of_lt (Nat.lt_of_lt_of_le (by have := Zlt _ _ hw405_0; first | rwa [Zab] at this | exact this) GW386.out)) | (show (Addr.add _ _).block ≠ _; rw [Zab]; exact Nat.ne_of_lt (Nat.lt_of_lt_of_le (by have := Zlt _ _ hw405_0; first | rwa [Zab] at this | exact this) GW386.out)) | (dsimp only; exact Nat.ne_of_lt (Nat.lt_of_lt_of_le (by have := Zlt _ _ hw405_0; first | rwa [Zab] at this | exact this) GW386.out))) _).trans (hHeld.1)), ((cell_far (p := ⟨gb386, _, none⟩) (by first | exact Nat.ne_of_lt (Nat.lt_of_lt_of_le (by have := Zlt _ _ hw406_0; first | rwa [Zab] at this | exact this) GW386.out) | (rw [Zab]; exact Nat.ne_of_lt (Nat.lt_of_lt_of_le (by have := Zlt _ _ hw406_0; first | rwa [Zab] at this | exact this) GW386.out)) | (show (Addr.add _ _).block ≠ _; rw [Zab]; exact Nat.ne_of_lt (Nat.lt_of_lt_of_le (by have := Zlt _ _ hw406_0; first | rwa [Zab] at this | exact this) GW386.out)) | (dsimp only; exact Nat.ne_of_lt (Nat.lt_of_lt_of_le (by have := Zlt _ _ hw406_0; first | rwa [Zab] at this | exact this) GW386.out))) _).trans (hHeld.2.1)), ((cell_far (p := ⟨gb386, _, none⟩) (by first | exact Nat.ne_of_lt (Nat.lt_of_lt_of_le (by have := Zlt _ _ hw407_0; first | rwa [Zab] at this | exact this) GW386.out) | (rw [Zab]; exact Nat.ne_of_lt (Nat.lt_of_lt_of_le (by have := Zlt _ _ hw407_0; first | rwa [Zab] at this | exact this) GW386.out)) | (show (Addr.add _ _).block ≠ _; rw [Zab]; exact Nat.ne_of_lt (Nat.lt_of_lt_of_le (by have := Zlt _ _ hw407_0; first | rwa [Zab] at this | exact this) GW386.out)) | (dsimp only; exact Nat.ne_of_lt (Nat.lt_of_lt_of_le (by have := Zlt _ _ hw407_0; first | rwa [Zab] at this | exact this) GW386.out))) _).trans (hHeld.2.2))⟩ (fun hHeld => ?_)
                   clear hK K
                   refine pure_ (i := 13) (N := some 91) (v := ?_) (a' := ?_) #[true, true, true, true, true, true, true, true, true, true, true, true, true, true, false] rfl rfl (any_of HT_.out (by kernel_rfl)) (fun _ _ _ h => h) (Or.inl ⟨by rfl, ?_⟩) ?_ ?_
                   rotate_left
                   · intro w'
                     go_simp
                     with_reducible rfl
                   rotate_left
                   · simp only [Act.put, List.setIfInBounds_toArray, List.set_cons_zero, List.set_cons_succ, i64_w, i32_w]
                     rfl
                   refine one_ (i := 14) (N := none) #[true, true, true, true, true, true, true, true, true, true, true, true, true, true, true] rfl rfl (one_of HT_.out (by kernel_rfl)) (by decide) (fun K hK => ?_)
                   have hs68 : w65.cell? ⟨gb386, 4, none⟩ = some (.string (⟨#[]⟩ : ByteArray)) := (Zkc BK386.out 4).trans rfl
                   have hfs68 := Zkf BK386.out 4
                   have hns68_0 := NB385_386.out
                   have hms68_0 := NB386_385.out
                   refine skip_ (w1 := ?_) (by rfl) rfl ?_ ?_
                   rotate_left
                   · go_simp
                     rfl
                   refine hK.out _ _ ⟨((cell_far (p := ⟨gb386, _, none⟩) (by first | exact Nat.ne_of_lt (Nat.lt_of_lt_of_le (by have := Zlt _ _ hw405_0; first | rwa [Zab] at this | exact this) GW386.out) | (rw [Zab]; exact Nat.ne_of_lt (Nat.lt_of_lt_of_le (by have := Zlt _ _ hw405_0; first | rwa [Zab] at this | exact this) GW386.out)) | (show (Addr.add _ _).block ≠ _; rw [Zab]; exact Nat.ne_of_lt (Nat.lt_of_lt_of_le (by have := Zlt _ _ hw405_0; first | rwa [Zab] at this | exact this) GW386.out)) | (dsimp only; exact Nat.ne_of_lt (Nat.lt_of_lt_of_le (by have := Zlt _ _ hw405_0; first | rwa [Zab] at this | exact this) GW386.out))) _).trans (hHeld.1)), ((cell_far (p := ⟨gb386, _, none⟩) (by first | exact Nat.ne_of_lt (Nat.lt_of_lt_of_le (by have := Zlt _ _ hw406_0; first | rwa [Zab] at this | exact this) GW386.out) | (rw [Zab]; exact Nat.ne_of_lt (Nat.lt_of_lt_of_le (by have := Zlt _ _ hw406_0; first | rwa [Zab] at this | exact this) GW386.out)) | (show (Addr.add _ _).block ≠ _; rw [Zab]; exact Nat.ne_of_lt (Nat.lt_of_lt_of_le (by have := Zlt _ _ hw406_0; first | rwa [Zab] at this | exact this) GW386.out)) | (dsimp only; exact Nat.ne_of_lt (Nat.lt_of_lt_of_le (by have := Zlt _ _ hw406_0; first | rwa [Zab] at this | exact this) GW386.out))) _).trans (hHeld.2.1)), ((cell_far (p := ⟨gb386, _, none⟩) (by first | exact Nat.ne_of_lt (Nat.lt_of_lt_of_le (by have := Zlt _ _ hw407_0; first | rwa [Zab] at this | exact this) GW386.out) | (rw [Zab]; exact Nat.ne_of_lt (Nat.lt_of_lt_of_le (by have := Zlt _ _ hw407_0; first | rwa [Zab] at this | exact this) GW386.out)) | (show (Addr.add _ _).block ≠ _; rw [Zab]; exact Nat.ne_of_lt (Nat.lt_of_lt_of_le (by have := Zlt _ _ hw407_0; first | rwa [Zab] at this | exact this) GW386.out)) | (dsimp only; exact Nat.ne_of_lt (Nat.lt_of_lt_of_le (by have := Zlt _ _ hw407_0; first | rwa [Zab] at this | exact this) GW386.out))) _).trans (hHeld.2.2))⟩ (fun hHeld => ?_)
                   clear hK K
                   refine done_ (done_of HT_.out (by kernel_rfl)) ?_
                   have hnb69 := NB386_385.out
                   have hnc69 := NB385_386.out
                   obtain ⟨hcz70_0, hcz70_1, hcz70_2, hcz70_3, hcz70_4⟩ := cz5 BK386.out
                   have hfz70_0 := Zkf BK386.out 0
                   have hfz70_1 := Zkf BK386.out 1
                   have hfz70_2 := Zkf BK386.out 2
                   have hfz70_3 := Zkf BK386.out 3
                   have hfz70_4 := Zkf BK386.out 4
                   obtain ⟨hcz71_0, hcz71_1, hcz71_2, hcz71_3, hcz71_4⟩ := cz5 BK385.out
                   have hfz71_0 := Zkf BK385.out 0
                   have hfz71_1 := Zkf BK385.out 1
                   have hfz71_2 := Zkf BK385.out 2
                   have hfz71_3 := Zkf BK385.out 3
                   have hfz71_4 := Zkf BK385.out 4
                   try go_wp2
                   (try (have e_ := hdv407.out; clear hdv407; subst e_))
                   (try (have e_ := hdv406.out; clear hdv406; subst e_))
                   (try (have e_ := hdv405.out; clear hdv405; subst e_))
                   refine bodyPost_ret (results_ct rfl _ _ gb385 44 #[.int .i64 x387000_1, .int .i64 0, .string (rdOf ByteArray.empty (l0.drop 1) 0), .string (rdOf ByteArray.empty (l0.drop 1) 1), .string (rdOf ByteArray.empty (l0.drop 1) 2)] (0, 0) _ rfl zc_ Tryd.underlying44 rfl (by kernel_rfl)) rfl ?_
                   exact ⟨by first | rfl | (simp [*] <;> rfl), hb_⟩
                 rw [if_pos c50] at H
                 have c50b0 : (t392.toList == ([102] : List UInt8)) = true := beq_iff_eq.mpr c50
                 have c50b1 : (t392.toList != ([102] : List UInt8)) = false := bne_eq_false_iff_eq.mpr c50
                 clear c50
                 by_cases c51 : 0 < ((l0.drop 1).length : Int)
                 rotate_left
                 · rw [if_neg c51] at H
                   exact absurd H (by simp)
                 rw [if_pos c51] at H
                 have c51b0 := decide_eq_true c51
                 have c51b1 : decide (0 < (l0.drop 1).length) = true := decide_eq_true (by omega)
                 clear c51
                 by_cases c52 : 1 < ((l0.drop 1).length : Int)
                 rotate_left
                 · rw [if_neg c52] at H
                   exact absurd H (by simp)
                 rw [if_pos c52] at H
                 have c52b0 := decide_eq_true c52
                 have c52b1 : decide (1 < (l0.drop 1).length) = true := decide_eq_true (by omega)
                 clear c52
                 by_cases c53 : 2 < ((l0.drop 1).length : Int)
                 rotate_left
                 · rw [if_neg c53] at H
                   exact absurd H (by simp)
                 rw [if_pos c53] at H
                 have c53b0 := decide_eq_true c53
                 have c53b1 : decide (2 < (l0.drop 1).length) = true := decide_eq_true (by omega)
                 clear c53
                 simp only [Option.some.injEq, Prod.mk.injEq] at H
                 obtain ⟨rfl, rfl, rfl, rfl, rfl, rfl⟩ := H
                 try go_wp2
                 have n0_ := (⟨Zm (Zkd BK385.out), Zm (Zkd BK386.out), Zm (Zbd HB.out)⟩ : _ ∧ _ ∧ _)
                 clear BK385 BK386 HB
                 obtain ⟨BK385, BK386, HB⟩ := n0_
                 have p402 : 0 ≤ (0 : Int) := (by omega)
                 have q402 : 0 < ((l0.drop 1).length : Int) := of_decide_eq_true (by first | (with_reducible assumption) | assumption)
                 obtain ⟨ad402, e402, hx402_0⟩ := Kd.at_string HR393.out 0 p402 q402
                 obtain ⟨dv402, hdv402⟩ : ∃ z_, Aside0 (z_ = (rdOf ByteArray.empty (l0.drop 1) 0)) := ⟨_, ⟨rfl⟩⟩
                 (try rw [show ((1 : Int)).toNat = 1 from rfl] at hx402_0)
                 rw [← hdv402.out] at hx402_0
                 have hw402_0 := hx402_0
                 (try rw [show ((0 : Int)).toNat = 0 from rfl] at hw402_0)
                 (try rw [show 0 * 1 = 0 from rfl] at hw402_0)
                 (try rw [Addr.add_zero'] at hw402_0)
                 cases e402
                 have qi402 : (0 < (l0.drop 1).length) = True := eq_true (by omega)
                 have qi402y := qi402
                 (try simp only [List.length_drop] at qi402y)
                 (try rw [show ((0 : Int)).toNat = 0 from rfl] at hx402_0)
                 (try rw [Addr.add_zero'] at hx402_0)
                 replace hx402_0 := hx_ HB hx402_0 (Zlt _ _ hx402_0)
                 replace p402 := eq_true p402
                 replace q402 := eq_true q402
                 have q402y := q402
                 (try simp only [List.length_drop] at q402y)
                 have p403 : 0 ≤ (1 : Int) := (by omega)
                 have q403 : 1 < ((l0.drop 1).length : Int) := of_decide_eq_true (by first | (with_reducible assumption) | assumption)
                 obtain ⟨ad403, e403, hx403_0⟩ := Kd.at_string HR393.out 1 p403 q403
                 obtain ⟨dv403, hdv403⟩ : ∃ z_, Aside0 (z_ = (rdOf ByteArray.empty (l0.drop 1) 1)) := ⟨_, ⟨rfl⟩⟩
                 (try rw [show ((1 : Int)).toNat = 1 from rfl] at hx403_0)
                 rw [← hdv403.out] at hx403_0
                 have hw403_0 := hx403_0
                 (try rw [show ((1 : Int)).toNat = 1 from rfl] at hw403_0)
                 (try rw [show 1 * 1 = 1 from rfl] at hw403_0)
                 (try simp only [Nat.reduceMul, Nat.reduceEqDiff, Go.Addr.add, ↓reduceIte] at hw403_0)
                 obtain rfl : ad402 = ad403 := (by injection e403)
                 (try simp only [show (1 : Int).toNat = 1 from rfl, Nat.reduceMul, Nat.reduceEqDiff, Go.Addr.add, ↓reduceIte] at hx403_0)
                 have qi403 : (1 < (l0.drop 1).length) = True := eq_true (by omega)
                 have qi403y := qi403
                 (try simp only [List.length_drop] at qi403y)
                 (try rw [show ((1 : Int)).toNat = 1 from rfl] at hx403_0)
                 replace hx403_0 := hx_ HB hx403_0 (Zlt _ _ hx403_0)
                 replace p403 := eq_true p403
                 replace q403 := eq_true q403
                 have q403y := q403
                 (try simp only [List.length_drop] at q403y)
                 have p404 : 0 ≤ (2 : Int) := (by omega)
                 have q404 : 2 < ((l0.drop 1).length : Int) := of_decide_eq_true (by first | (with_reducible assumption) | assumption)
                 obtain ⟨ad404, e404, hx404_0⟩ := Kd.at_string HR393.out 2 p404 q404
                 obtain ⟨dv404, hdv404⟩ : ∃ z_, Aside0 (z_ = (rdOf ByteArray.empty (l0.drop 1) 2)) := ⟨_, ⟨rfl⟩⟩
                 (try rw [show ((1 : Int)).toNat = 1 from rfl] at hx404_0)
                 rw [← hdv404.out] at hx404_0
                 have hw404_0 := hx404_0
                 (try rw [show ((2 : Int)).toNat = 2 from rfl] at hw404_0)
                 (try rw [show 2 * 1 = 2 from rfl] at hw404_0)
                 (try simp only [Nat.reduceMul, Nat.reduceEqDiff, Go.Addr.add, ↓reduceIte] at hw404_0)
                 obtain rfl : ad402 = ad404 := (by injection e404)
                 (try simp only [show (2 : Int).toNat = 2 from rfl, Nat.reduceMul, Nat.reduceEqDiff, Go.Addr.add, ↓reduceIte] at hx404_0)
                 have qi404 : (2 < (l0.drop 1).length) = True := eq_true (by omega)
                 have qi404y := qi404
                 (try simp only [List.length_drop] at qi404y)
                 (try rw [show ((2 : Int)).toNat = 2 from rfl] at hx404_0)
                 replace hx404_0 := hx_ HB hx404_0 (Zlt _ _ hx404_0)
                 replace p404 := eq_true p404
                 replace q404 := eq_true q404
                 have q404y := q404
                 (try simp only [List.length_drop] at q404y)
                 refine start_ (n := 15) (S := fun w' => w'.cell? ad402 = some (.string dv402) ∧ w'.cell? ⟨ad402.block, ad402.off + 1, none⟩ = some (.string dv403) ∧ w'.cell? ⟨ad402.block, ad402.off + 2, none⟩ = some (.string dv404)) (ds := []) #[false, false, false, false, false, false, false, false, false, false, false, false, false, false, false] (by kernel_rfl) rfl rfl ⟨((HB.out.cell (Zlt _ _ hw402_0)).trans hw402_0), ((HB.out.cell (Zlt _ _ hw403_0)).trans hw403_0), ((HB.out.cell (Zlt _ _ hw404_0)).trans hw404_0)⟩ (fun hHeld => ?_); refine with_tabW impl_insOf.tab25 impl_insOf.bits25 (fun HT_ HW_ => ?_)
                 generalize wc.drew = w54 at BK385 BK386 HB hx402_0 hx403_0 hx404_0 hHeld ⊢
                 refine pure_ (i := 0) (N := some 80) (v := ?_) (a' := ?_) #[true, false, false, false, false, false, false, false, false, false, false, false, false, false, false] rfl rfl (any_of HT_.out (by kernel_rfl)) (fun _ _ _ h => h) (Or.inl ⟨by rfl, ?_⟩) ?_ ?_
                 rotate_left
                 · intro w'
                   go_simp
                   with_reducible rfl
                 rotate_left
                 · simp only [Act.put, List.setIfInBounds_toArray, List.set_cons_zero, List.set_cons_succ, i64_w, i32_w]
                   rfl
                 refine pure_ (i := 1) (N := some 81) (v := ?_) (a' := ?_) #[true, true, false, false, false, false, false, false, false, false, false, false, false, false, false] rfl rfl (any_of HT_.out (by kernel_rfl)) (fun _ _ _ h => h) (Or.inl ⟨by rfl, ?_⟩) ?_ ?_
                 rotate_left
                 · intro w'
                   go_simp
                   with_reducible rfl
                 rotate_left
                 · simp only [Act.put, List.setIfInBounds_toArray, List.set_cons_zero, List.set_cons_succ, i64_w, i32_w]
                   rfl
                 refine pure_ (i := 3) (N := some 83) (v := ?_) (a' := ?_) #[true, true, false, true, false, false, false, false, false, false, false, false, false, false, false] rfl rfl (any_of HT_.out (by kernel_rfl)) (fun _ _ _ h => h) (Or.inl ⟨by rfl, ?_⟩) ?_ ?_
                 rotate_left
                 · intro w'
                   go_simp
                   with_reducible rfl
                 rotate_left
                 · simp only [Act.put, List.setIfInBounds_toArray, List.set_cons_zero, List.set_cons_succ, i64_w, i32_w]
                   rfl
                 refine pure_ (i := 4) (N := some 84) (v := ?_) (a' := ?_) #[true, true, false, true, true, false, false, false, false, false, false, false, false, false, false] rfl rfl (any_of HT_.out (by kernel_rfl)) (fun _ _ _ h => h) (Or.inl ⟨by rfl, ?_⟩) ?_ ?_
                 rotate_left
                 · intro w'
                   go_simp
                   with_reducible rfl
                 rotate_left
                 · simp only [Act.put, List.setIfInBounds_toArray, List.set_cons_zero, List.set_cons_succ, i64_w, i32_w]
                   rfl
                 refine pure_ (i := 6) (N := some 86) (v := ?_) (a' := ?_) #[true, true, false, true, true, false, true, false, false, false, false, false, false, false, false] rfl rfl (any_of HT_.out (by kernel_rfl)) (fun _ _ _ h => h) (Or.inl ⟨by rfl, ?_⟩) ?_ ?_
                 rotate_left
                 · intro w'
                   go_simp
                   with_reducible rfl
                 rotate_left
                 · simp only [Act.put, List.setIfInBounds_toArray, List.set_cons_zero, List.set_cons_succ, i64_w, i32_w]
                   rfl
                 refine pure_ (i := 7) (N := some 87) (v := ?_) (a' := ?_) #[true, true, false, true, true, false, true, true, false, false, false, false, false, false, false] rfl rfl (any_of HT_.out (by kernel_rfl)) (fun _ _ _ h => h) (Or.inl ⟨by rfl, ?_⟩) ?_ ?_
                 rotate_left
                 · intro w'
                   go_simp
                   with_reducible rfl
                 rotate_left
                 · simp only [Act.put, List.setIfInBounds_toArray, List.set_cons_zero, List.set_cons_succ, i64_w, i32_w]
                   rfl
                 refine take_ (i := 2) (N := some 82) (v := ?_) (a' := ?_) #[true, true, true, true, true, false, true, true, false, false, false, false, false, false, false] rfl rfl (take_ofW HT_.out HW_.out (by kernel_rfl)) (fun _ _ _ h => h) (Or.inl ⟨by rfl, ?_⟩) hHeld ?_ ?_
                 rotate_left
                 · rintro w' ⟨s0, s1, s2⟩
                   go_simp
                   with_reducible rfl
                 rotate_left
                 · simp only [Act.put, List.setIfInBounds_toArray, List.set_cons_zero, List.set_cons_succ, i64_w, i32_w]
                   rfl
                 refine pure_ (i := 9) (N := some 89) (v := ?_) (a' := ?_) #[true, true, true, true, true, false, true, true, false, true, false, false, false, false, false] rfl rfl (any_of HT_.out (by kernel_rfl)) (fun _ _ _ h => h) (Or.inl ⟨by rfl, ?_⟩) ?_ ?_
                 rotate_left
                 · intro w'
                   go_simp
                   with_reducible rfl
                 rotate_left
                 · simp only [Act.put, List.setIfInBounds_toArray, List.set_cons_zero, List.set_cons_succ, i64_w, i32_w]
                   rfl
                 refine take_ (i := 5) (N := some 85) (v := ?_) (a' := ?_) #[true, true, true, true, true, true, true, true, false, true, false, false, false, false, false] rfl rfl (take_ofW HT_.out HW_.out (by kernel_rfl)) (fun _ _ _ h => h) (Or.inl ⟨by rfl, ?_⟩) hHeld ?_ ?_
                 rotate_left
                 · rintro w' ⟨s0, s1, s2⟩
                   go_simp
                   with_reducible rfl
                 rotate_left
                 · simp only [Act.put, List.setIfInBounds_toArray, List.set_cons_zero, List.set_cons_succ, i64_w, i32_w]
                   rfl
                 refine take_ (i := 8) (N := some 88) (v := ?_) (a' := ?_) #[true, true, true, true, true, true, true, true, true, true, false, false, false, false, false] rfl rfl (take_ofW HT_.out HW_.out (by kernel_rfl)) (fun _ _ _ h => h) (Or.inl ⟨by rfl, ?_⟩) hHeld ?_ ?_
                 rotate_left
                 · rintro w' ⟨s0, s1, s2⟩
                   go_simp
                   with_reducible rfl
                 rotate_left
                 · simp only [Act.put, List.setIfInBounds_toArray, List.set_cons_zero, List.set_cons_succ, i64_w, i32_w]
                   rfl
                 refine one_ (i := 10) (N := none) #[true, true, true, true, true, true, true, true, true, true, true, false, false, false, false] rfl rfl (one_of HT_.out (by kernel_rfl)) (by decide) (fun K hK => ?_)
                 have hs55 : w54.cell? ⟨gb386, 2, none⟩ = some (.string (⟨#[]⟩ : ByteArray)) := (Zkc BK386.out 2).trans rfl
                 have hfs55 := Zkf BK386.out 2
                 have hns55_0 := NB385_386.out
                 have hms55_0 := NB386_385.out
                 refine skip_ (w1 := ?_) (by rfl) rfl ?_ ?_
                 rotate_left
                 · go_simp
                   rfl
                 refine hK.out _ _ ⟨((cell_far (p := ⟨gb386, _, none⟩) (by first | exact Nat.ne_of_lt (Nat.lt_of_lt_of_le (by have := Zlt _ _ hw402_0; first | rwa [Zab] at this | exact this) GW386.out) | (rw [Zab]; exact Nat.ne_of_lt (Nat.lt_of_lt_of_le (by have := Zlt _ _ hw402_0; first | rwa [Zab] at this | exact this) GW386.out)) | (show (Addr.add _ _).block ≠ _; rw [Zab]; exact Nat.ne_of_lt (Nat.lt_of_lt_of_le (by have := Zlt _ _ hw402_0; first | rwa [Zab] at this | exact this) GW386.out)) | (dsimp only; exact Nat.ne_of_lt (Nat.lt_of_lt_of_le (by have := Zlt _ _ hw402_0; first | rwa [Zab] at this | exact this) GW386.out))) _).trans (hHeld.1)), ((cell_far (p := ⟨gb386, _, none⟩) (by first | exact Nat.ne_of_lt (Nat.lt_of_lt_of_le (by have := Zlt _ _ hw403_0; first | rwa [Zab] at this | exact this) GW386.out) | (rw [Zab]; exact Nat.ne_of_lt (Nat.lt_of_lt_of_le (by have := Zlt _ _ hw403_0; first | rwa [Zab] at this | exact this) GW386.out)) | (show (Addr.add _ _).block ≠ _; rw [Zab]; exact Nat.ne_of_lt (Nat.lt_of_lt_of_le (by have := Zlt _ _ hw403_0; first | rwa [Zab] at this | exact this) GW386.out)) | (dsimp only; exact Nat.ne_of_lt (Nat.lt_of_lt_of_le (by have := Zlt _ _ hw403_0; first | rwa [Zab] at this | exact this) GW386.out))) _).trans (hHeld.2.1)), ((cell_far (p := ⟨gb386, _, none⟩) (by first | exact Nat.ne_of_lt (Nat.lt_of_lt_of_le (by have := Zlt _ _ hw404_0; first | rwa [Zab] at this | exact this) GW386.out) | (rw [Zab]; exact Nat.ne_of_lt (Nat.lt_of_lt_of_le (by have := Zlt _ _ hw404_0; first | rwa [Zab] at this | exact this) GW386.out)) | (show (Addr.add _ _).block ≠ _; rw [Zab]; exact Nat.ne_of_lt (Nat.lt_of_lt_of_le (by have := Zlt _ _ hw404_0; first | rwa [Zab] at this | exact this) GW386.out)) | (dsimp only; exact Nat.ne_of_lt (Nat.lt_of_lt_of_le (by have := Zlt _ _ hw404_0; first | rwa [Zab] at this | exact this) GW386.out))) _).trans (hHeld.2.2))⟩ (fun hHeld => ?_)
                 clear hK K
                 refine pure_ (i := 11) (N := some 90) (v := ?_) (a' := ?_) #[true, true, true, true, true, true, true, true, true, true, true, true, false, false, false] rfl rfl (any_of HT_.out (by kernel_rfl)) (fun _ _ _ h => h) (Or.inl ⟨by rfl, ?_⟩) ?_ ?_
                 rotate_left
                 · intro w'
                   go_simp
                   with_reducible rfl
                 rotate_left
                 · simp only [Act.put, List.setIfInBounds_toArray, List.set_cons_zero, List.set_cons_succ, i64_w, i32_w]
                   rfl
                 refine one_ (i := 12) (N := none) #[true, true, true, true, true, true, true, true, true, true, true, true, true, false, false] rfl rfl (one_of HT_.out (by kernel_rfl)) (by decide) (fun K hK => ?_)
                 have hs56 : w54.cell? ⟨gb386, 3, none⟩ = some (.string (⟨#[]⟩ : ByteArray)) := (Zkc BK386.out 3).trans rfl
                 have hfs56 := Zkf BK386.out 3
                 have hns56_0 := NB385_386.out
                 have hms56_0 := NB386_385.out
                 refine skip_ (w1 := ?_) (by rfl) rfl ?_ ?_
                 rotate_left
                 · go_simp
                   rfl
                 refine hK.out _ _ ⟨((cell_far (p := ⟨gb386, _, none⟩) (by first | exact Nat.ne_of_lt (Nat.lt_of_lt_of_le (by have := Zlt _ _ hw402_0; first | rwa [Zab] at this | exact this) GW386.out) | (rw [Zab]; exact Nat.ne_of_lt (Nat.lt_of_lt_of_le (by have := Zlt _ _ hw402_0; first | rwa [Zab] at this | exact this) GW386.out)) | (show (Addr.add _ _).block ≠ _; rw [Zab]; exact Nat.ne_of_lt (Nat.lt_of_lt_of_le (by have := Zlt _ _ hw402_0; first | rwa [Zab] at this | exact this) GW386.out)) | (dsimp only; exact Nat.ne_of_lt (Nat.lt_of_lt_of_le (by have := Zlt _ _ hw402_0; first | rwa [Zab] at this | exact this) GW386.out))) _).trans (hHeld.1)), ((cell_far (p := ⟨gb386, _, none⟩) (by first | exact Nat.ne_of_lt (Nat.lt_of_lt_of_le (by have := Zlt _ _ hw403_0; first | rwa [Zab] at this | exact this) GW386.out) | (rw [Zab]; exact Nat.ne_of_lt (Nat.lt_of_lt_of_le (by have := Zlt _ _ hw403_0; first | rwa [Zab] at this | exact this) GW386.out)) | (show (Addr.add _ _).block ≠ _; rw [Zab]; exact Nat.ne_of_lt (Nat.lt_of_lt_of_le (by have := Zlt _ _ hw403_0; first | rwa [Zab] at this | exact this) GW386.out)) | (dsimp only; exact Nat.ne_of_lt (Nat.lt_of_lt_of_le (by have := Zlt _ _ hw403_0; first | rwa [Zab] at this | exact this) GW386.out))) _).trans (hHeld.2.1)), ((cell_far (p := ⟨gb386, _, none⟩) (by first | exact Nat.ne_of_lt (Nat.lt_of_lt_of_le (by have := Zlt _ _ hw404_0; first | rwa [Zab] at this | exact this) GW386.out) | (rw [Zab]; exact Nat.ne_of_lt (Nat.lt_of_lt_of_le (by have := Zlt _ _ hw404_0; first | rwa [Zab] at this | exact this) GW386.out)) | (show (Addr.add _ _).block ≠ _; rw [Zab]; exact Nat.ne_of_lt (Nat.lt_of_lt_of_le (by have := Zlt _ _ hw404_0; first | rwa [Zab] at this | exact this) GW386.out)) | (dsimp only; exact Nat.ne_of_lt (Nat.lt_of_lt_of_le (by have := Zlt _ _ hw404_0; first | rwa [Zab] at this | exact this) GW386.out))) _).trans (hHeld.2.2))⟩ (fun hHeld => ?_)
                 clear hK K
                 refine pure_ (i := 13) (N := some 91) (v := ?_) (a' := ?_) #[true, true, true, true, true, true, true, true, true, true, true, true, true, true, false] rfl rfl (any_of HT_.out (by kernel_rfl)) (fun _ _ _ h => h) (Or.inl ⟨by rfl, ?_⟩) ?_ ?_
                 rotate_left
                 · intro w'
                   go_simp
                   with_reducible rfl
                 rotate_left
                 · simp only [Act.put, List.setIfInBounds_toArray, List.set_cons_zero, List.set_cons_succ, i64_w, i32_w]
                   rfl
                 refine one_ (i := 14) (N := none) #[true, true, true, true, true, true, true, true, true, true, true, true, true, true, true] rfl rfl (one_of HT_.out (by kernel_rfl)) (by decide) (fun K hK => ?_)
                 have hs57 : w54.cell? ⟨gb386, 4, none⟩ = some (.string (⟨#[]⟩ : ByteArray)) := (Zkc BK386.out 4).trans rfl
                 have hfs57 := Zkf BK386.out 4
                 have hns57_0 := NB385_386.out
                 have hms57_0 := NB386_385.out
                 refine skip_ (w1 := ?_) (by rfl) rfl ?_ ?_
                 rotate_left
                 · go_simp
                   rfl
                 refine hK.out _ _ ⟨((cell_far (p := ⟨gb386, _, none⟩) (by first | exact Nat.ne_of_lt (Nat.lt_of_lt_of_le (by have := Zlt _ _ hw402_0; first | rwa [Zab] at this | exact this) GW386.out) | (rw [Zab]; exact Nat.ne_of_lt (Nat.lt_of_lt_of_le (by have := Zlt _ _ hw402_0; first | rwa [Zab] at this | exact this) GW386.out)) | (show (Addr.add _ _).block ≠ _; rw [Zab]; exact Nat.ne_of_lt (Nat.lt_of_lt_of_le (by have := Zlt _ _ hw402_0; first | rwa [Zab] at this | exact this) GW386.out)) | (dsimp only; exact Nat.ne_of_lt (Nat.lt_of_lt_of_le (by have := Zlt _ _ hw402_0; first | rwa [Zab] at this | exact this) GW386.out))) _).trans (hHeld.1)), ((cell_far (p := ⟨gb386, _, none⟩) (by first | exact Nat.ne_of_lt (Nat.lt_of_lt_of_le (by have := Zlt _ _ hw403_0; first | rwa [Zab] at this | exact this) GW386.out) | (rw [Zab]; exact Nat.ne_of_lt (Nat.lt_of_lt_of_le (by have := Zlt _ _ hw403_0; first | rwa [Zab] at this | exact this) GW386.out)) | (show (Addr.add _ _).block ≠ _; rw [Zab]; exact Nat.ne_of_lt (Nat.lt_of_lt_of_le (by have := Zlt _ _ hw403_0; first | rwa [Zab] at this | exact this) GW386.out)) | (dsimp only; exact Nat.ne_of_lt (Nat.lt_of_lt_of_le (by have := Zlt _ _ hw403_0; first | rwa [Zab] at this | exact this) GW386.out))) _).trans (hHeld.2.1)), ((cell_far (p := ⟨gb386, _, none⟩) (by first | exact Nat.ne_of_lt (Nat.lt_of_lt_of_le (by have := Zlt _ _ hw404_0; first | rwa [Zab] at this | exact this) GW386.out) | (rw [Zab]; exact Nat.ne_of_lt (Nat.lt_of_lt_of_le (by have := Zlt _ _ hw404_0; first | rwa [Zab] at this | exact this) GW386.out)) | (show (Addr.add _ _).block ≠ _; rw [Zab]; exact Nat.ne_of_lt (Nat.lt_of_lt_of_le (by have := Zlt _ _ hw404_0; first | rwa [Zab] at this | exact this) GW386.out)) | (dsimp only; exact Nat.ne_of_lt (Nat.lt_of_lt_of_le (by have := Zlt _ _ hw404_0; first | rwa [Zab] at this | exact this) GW386.out))) _).trans (hHeld.2.2))⟩ (fun hHeld => ?_)
                 clear hK K
                 refine done_ (done_of HT_.out (by kernel_rfl)) ?_
                 have hnb58 := NB386_385.out
                 have hnc58 := NB385_386.out
                 obtain ⟨hcz59_0, hcz59_1, hcz59_2, hcz59_3, hcz59_4⟩ := cz5 BK386.out
                 have hfz59_0 := Zkf BK386.out 0
                 have hfz59_1 := Zkf BK386.out 1
                 have hfz59_2 := Zkf BK386.out 2
                 have hfz59_3 := Zkf BK386.out 3
                 have hfz59_4 := Zkf BK386.out 4
                 obtain ⟨hcz60_0, hcz60_1, hcz60_2, hcz60_3, hcz60_4⟩ := cz5 BK385.out
                 have hfz60_0 := Zkf BK385.out 0
                 have hfz60_1 := Zkf BK385.out 1
                 have hfz60_2 := Zkf BK385.out 2
                 have hfz60_3 := Zkf BK385.out 3
                 have hfz60_4 := Zkf BK385.out 4
                 try go_wp2
                 (try (have e_ := hdv404.out; clear hdv404; subst e_))
                 (try (have e_ := hdv403.out; clear hdv403; subst e_))
                 (try (have e_ := hdv402.out; clear hdv402; subst e_))
                 refine bodyPost_ret (results_ct rfl _ _ gb385 44 #[.int .i64 x387000_1, .int .i64 0, .string (rdOf ByteArray.empty (l0.drop 1) 0), .string (rdOf ByteArray.empty (l0.drop 1) 1), .string (rdOf ByteArray.empty (l0.drop 1) 2)] (0, 0) _ rfl zc_ Tryd.underlying44 rfl (by kernel_rfl)) rfl ?_
                 exact ⟨by first | rfl | (simp [*] <;> rfl), hb_⟩
               rw [if_pos c45] at H
               have c45b0 : (t392.toList == ([121] : List UInt8)) = true := beq_iff_eq.mpr c45
               have c45b1 : (t392.toList != ([121] : List UInt8)) = false := bne_eq_false_iff_eq.mpr c45
               clear c45
               by_cases c46 : 0 < ((l0.drop 1).length : Int)
               rotate_left
               · rw [if_neg c46] at H
                 exact absurd H (by simp)
               rw [if_pos c46] at H
               have c46b0 := decide_eq_true c46
               have c46b1 : decide (0 < (l0.drop 1).length) = true := decide_eq_true (by omega)
               clear c46
               simp only [Option.some.injEq, Prod.mk.injEq] at H
               obtain ⟨rfl, rfl, rfl, rfl, rfl, rfl⟩ := H
               have p401 : 0 ≤ (0 : Int) := (by omega)
               have q401 : 0 < ((l0.drop 1).length : Int) := of_decide_eq_true (by first | (with_reducible assumption) | assumption)
               obtain ⟨ad401, e401, hx401_0⟩ := Kd.at_string HR393.out 0 p401 q401
               obtain ⟨dv401, hdv401⟩ : ∃ z_, Aside0 (z_ = (rdOf ByteArray.empty (l0.drop 1) 0)) := ⟨_, ⟨rfl⟩⟩
               (try rw [show ((1 : Int)).toNat = 1 from rfl] at hx401_0)
               rw [← hdv401.out] at hx401_0
               cases e401
               have qi401 : (0 < (l0.drop 1).length) = True := eq_true (by omega)
               have qi401y := qi401
               (try simp only [List.length_drop] at qi401y)
               (try rw [show ((0 : Int)).toNat = 0 from rfl] at hx401_0)
               (try rw [Addr.add_zero'] at hx401_0)
               replace hx401_0 := hx_ HB hx401_0 (Zlt _ _ hx401_0)
               replace p401 := eq_true p401
               replace q401 := eq_true q401
               have q401y := q401
               (try simp only [List.length_drop] at q401y)
               have hnb47 := NB386_385.out
               have hnc47 := NB385_386.out
               obtain ⟨hcz48_0, hcz48_1, hcz48_2, hcz48_3, hcz48_4⟩ := cz5 BK386.out
               have hfz48_0 := Zkf BK386.out 0
               have hfz48_1 := Zkf BK386.out 1
               have hfz48_2 := Zkf BK386.out 2
               have hfz48_3 := Zkf BK386.out 3
               have hfz48_4 := Zkf BK386.out 4
               obtain ⟨hcz49_0, hcz49_1, hcz49_2, hcz49_3, hcz49_4⟩ := cz5 BK385.out
               have hfz49_0 := Zkf BK385.out 0
               have hfz49_1 := Zkf BK385.out 1
               have hfz49_2 := Zkf BK385.out 2
               have hfz49_3 := Zkf BK385.out 3
               have hfz49_4 := Zkf BK385.out 4
               go_wp2
               (try (have e_ := hdv401.out; clear hdv401; subst e_))
               refine bodyPost_ret (results_ct rfl _ _ gb385 44 #[.int .i64 x387000_1, .int .i64 0, .string (⟨#[]⟩ : ByteArray), .string (⟨#[]⟩ : ByteArray), .string (rdOf ByteArray.empty (l0.drop 1) 0)] (0, 0) _ rfl zc_ Tryd.underlying44 rfl (by kernel_rfl)) rfl ?_
               exact ⟨by first | rfl | (simp [*] <;> rfl), hb_⟩
             rw [if_pos c40] at H
             have c40b0 : (t392.toList == ([99] : List UInt8)) = true := beq_iff_eq.mpr c40
             have c40b1 : (t392.toList != ([99] : List UInt8)) = false := bne_eq_false_iff_eq.mpr c40
             clear c40
             by_cases c41 : 0 < ((l0.drop 1).length : Int)
             rotate_left
             · rw [if_neg c41] at H
               exact absurd H (by simp)
             rw [if_pos c41] at H
             have c41b0 := decide_eq_true c41
             have c41b1 : decide (0 < (l0.drop 1).length) = true := decide_eq_true (by omega)
             clear c41
             simp only [Option.some.injEq, Prod.mk.injEq] at H
             obtain ⟨rfl, rfl, rfl, rfl, rfl, rfl⟩ := H
             have p400 : 0 ≤ (0 : Int) := (by omega)
             have q400 : 0 < ((l0.drop 1).length : Int) := of_decide_eq_true (by first | (with_reducible assumption) | assumption)
             obtain ⟨ad400, e400, hx400_0⟩ := Kd.at_string HR393.out 0 p400 q400
             obtain ⟨dv400, hdv400⟩ : ∃ z_, Aside0 (z_ = (rdOf ByteArray.empty (l0.drop 1) 0)) := ⟨_, ⟨rfl⟩⟩
             (try rw [show ((1 : Int)).toNat = 1 from rfl] at hx400_0)
             rw [← hdv400.out] at hx400_0
             cases e400
             have qi400 : (0 < (l0.drop 1).length) = True := eq_true (by omega)
             have qi400y := qi400
             (try simp only [List.length_drop] at qi400y)
             (try rw [show ((0 : Int)).toNat = 0 from rfl] at hx400_0)
             (try rw [Addr.add_zero'] at hx400_0)
             replace hx400_0 := hx_ HB hx400_0 (Zlt _ _ hx400_0)
             replace p400 := eq_true p400
             replace q400 := eq_true q400
             have q400y := q400
             (try simp only [List.length_drop] at q400y)
             have hnb42 := NB386_385.out
             have hnc42 := NB385_386.out
             obtain ⟨hcz43_0, hcz43_1, hcz43_2, hcz43_3, hcz43_4⟩ := cz5 BK386.out
             have hfz43_0 := Zkf BK386.out 0
             have hfz43_1 := Zkf BK386.out 1
             have hfz43_2 := Zkf BK386.out 2
             have hfz43_3 := Zkf BK386.out 3
             have hfz43_4 := Zkf BK386.out 4
             obtain ⟨hcz44_0, hcz44_1, hcz44_2, hcz44_3, hcz44_4⟩ := cz5 BK385.out
             have hfz44_0 := Zkf BK385.out 0
             have hfz44_1 := Zkf BK385.out 1
             have hfz44_2 := Zkf BK385.out 2
             have hfz44_3 := Zkf BK385.out 3
             have hfz44_4 := Zkf BK385.out 4
             go_wp2
             (try (have e_ := hdv400.out; clear hdv400; subst e_))
             refine bodyPost_ret (results_ct rfl _ _ gb385 44 #[.int .i64 x387000_1, .int .i64 0, .string (rdOf ByteArray.empty (l0.drop 1) 0), .string (⟨#[]⟩ : ByteArray), .string (⟨#[]⟩ : ByteArray)] (0, 0) _ rfl zc_ Tryd.underlying44 rfl (by kernel_rfl)) rfl ?_
             exact ⟨by first | rfl | (simp [*] <;> rfl), hb_⟩
           subst c33
           rw [if_pos rfl] at H
           by_cases c34 : 0 < ((l0.drop 1).length : Int)
           rotate_left
           · rw [if_neg c34] at H
             exact absurd H (by simp)
           rw [if_pos c34] at H
           have c34b0 := decide_eq_true c34
           have c34b1 : decide (0 < (l0.drop 1).length) = true := decide_eq_true (by omega)
           clear c34
           replace H := Option.bind_eq_some_iff.mp H
           obtain ⟨⟨t398, t399⟩, A350, H⟩ := H
           replace H : (some (x387000_1, t398, (⟨#[]⟩ : ByteArray), (⟨#[]⟩ : ByteArray), (⟨#[]⟩ : ByteArray), t399)) = some (r1, r2, r3, r4, r5, r6) := H
           have A35 := Zm A350
           clear A350
           simp only [Option.some.injEq, Prod.mk.injEq] at H
           obtain ⟨rfl, rfl, rfl, rfl, rfl, rfl⟩ := H
           have p397 : 0 ≤ (0 : Int) := (by omega)
           have q397 : 0 < ((l0.drop 1).length : Int) := of_decide_eq_true (by first | (with_reducible assumption) | assumption)
           obtain ⟨ad397, e397, hx397_0⟩ := Kd.at_string HR393.out 0 p397 q397
           obtain ⟨dv397, hdv397⟩ : ∃ z_, Aside0 (z_ = (rdOf ByteArray.empty (l0.drop 1) 0)) := ⟨_, ⟨rfl⟩⟩
           (try rw [show ((1 : Int)).toNat = 1 from rfl] at hx397_0)
           rw [← hdv397.out] at hx397_0
           (try rw [← hdv397.out] at A35)
           cases e397
           have qi397 : (0 < (l0.drop 1).length) = True := eq_true (by omega)
           have qi397y := qi397
           (try simp only [List.length_drop] at qi397y)
           (try rw [show ((0 : Int)).toNat = 0 from rfl] at hx397_0)
           (try rw [Addr.add_zero'] at hx397_0)
           replace hx397_0 := hx_ HB hx397_0 (Zlt _ _ hx397_0)
           replace p397 := eq_true p397
           replace q397 := eq_true q397
           have q397y := q397
           (try simp only [List.length_drop] at q397y)
           go_wp2_with (first | ((with_reducible refine gate_callee (f := 60) rfl ?_); refine ge_ (some 61) Tryd.func60 #[.string dv397] ?_; (with_reducible refine (impl_numberOf.calls _ _ _ _ A35.out).mono ?_); rintro e w36 ⟨rfl, hb⟩; refine ⟨_, rfl, ?_⟩; have n0_ := (⟨Zm (Zkb (pk BK385.out) hb), Zm (Zkb (pk BK386.out) hb), Zm (Zbt (bk HB.out) hb)⟩ : _ ∧ _ ∧ _); clear BK385 BK386 HB; obtain ⟨BK385, BK386, HB⟩ := n0_; (try clear hb); (try clear hb2); (try clear hk); (try clear hi); have hnb37 := NB386_385.out; have hnc37 := NB385_386.out; obtain ⟨hcz38_0, hcz38_1, hcz38_2, hcz38_3, hcz38_4⟩ := cz5 BK386.out; have hfz38_0 := Zkf BK386.out 0; have hfz38_1 := Zkf BK386.out 1; have hfz38_2 := Zkf BK386.out 2; have hfz38_3 := Zkf BK386.out 3; have hfz38_4 := Zkf BK386.out 4; obtain ⟨hcz39_0, hcz39_1, hcz39_2, hcz39_3, hcz39_4⟩ := cz5 BK385.out; have hfz39_0 := Zkf BK385.out 0; have hfz39_1 := Zkf BK385.out 1; have hfz39_2 := Zkf BK385.out 2; have hfz39_3 := Zkf BK385.out 3; have hfz39_4 := Zkf BK385.out 4))
           (try (have e_ := hdv397.out; clear hdv397; subst e_))
           refine bodyPost_ret (results_ct rfl _ _ gb385 44 #[.int .i64 x387000_1, .int .i64 t398, .string (⟨#[]⟩ : ByteArray), .string (⟨#[]⟩ : ByteArray), .string (⟨#[]⟩ : ByteArray)] (0, 0) _ rfl zc_ Tryd.underlying44 rfl (by kernel_rfl)) rfl ?_
           exact ⟨by first | rfl | (simp [*] <;> rfl), hb_⟩
       subst c27
       rw [if_pos rfl] at H
       simp only [Option.some.injEq, Prod.mk.injEq] at H
       obtain ⟨rfl, rfl, rfl, rfl, rfl, rfl⟩ := H
       have hnb28 := NB385_386.out
       have hnc28 := NB386_385.out
       obtain ⟨hcz29_0, hcz29_1, hcz29_2, hcz29_3, hcz29_4⟩ := cz5 BK385.out
       have hfz29_0 := Zkf BK385.out 0
       have hfz29_1 := Zkf BK385.out 1
       have hfz29_2 := Zkf BK385.out 2
       have hfz29_3 := Zkf BK385.out 3
       have hfz29_4 := Zkf BK385.out 4
       go_wp2
       refine bodyPost_ret (results_ct rfl _ _ gb385 44 #[.int .i64 0, .int .i64 0, .string (⟨#[]⟩ : ByteArray), .string (⟨#[]⟩ : ByteArray), .string (⟨#[]⟩ : ByteArray)] (0, 0) _ rfl zc_ Tryd.underlying44 rfl (by kernel_rfl)) rfl ?_
       exact ⟨by first | rfl | (simp [*] <;> rfl), hb_⟩
   rw [if_pos c9] at H
   have c9b0 := decide_eq_true c9
   clear c9
   by_cases c10 : 0 ≤ x16_1
   rotate_left
   · rw [if_neg c10] at H
     exact absurd H (by simp)
   rw [if_pos c10] at H
   have c10b0 := decide_eq_true c10
   clear c10
   by_cases c11 : x16_1 < (t387.length : Int)
   rotate_left
   · rw [if_neg c11] at H
     exact absurd H (by simp)
   rw [if_pos c11] at H
   have c11b0 := decide_eq_true c11
   clear c11
   by_cases c12 : 0 < (l0.length : Int)
   rotate_left
   · rw [if_neg c12] at H
     exact absurd H (by simp)
   rw [if_pos c12] at H
   have c12b0 := decide_eq_true c12
   have c12b1 : decide (0 < l0.length) = true := decide_eq_true (by omega)
   clear c12
   have HC13 := Zm H
   clear H
   have p390 : 0 ≤ (x16_1 : Int) := of_decide_eq_true (by first | (with_reducible assumption) | assumption)
   have q390 : x16_1 < (t387.length : Int) := of_decide_eq_true (by first | (with_reducible assumption) | assumption)
   obtain ⟨ad390, e390, hx390_0⟩ := Kd.at_string (Kd.R_reads' HO_14.out).2.2 x16_1 p390 q390
   cases e390
   replace p390 := eq_true p390
   replace q390 := eq_true q390
   have p391 : 0 ≤ (0 : Int) := (by omega)
   have q391 : 0 < (l0.length : Int) := of_decide_eq_true (by first | (with_reducible assumption) | assumption)
   obtain ⟨ad391, e391, hx391_0⟩ := Kd.at_string HR0.out 0 p391 q391
   cases e391
   have qi391 : (0 < l0.length) = True := eq_true (by omega)
   (try rw [show ((0 : Int)).toNat = 0 from rfl] at hx391_0)
   (try rw [Addr.add_zero'] at hx391_0)
   replace hx391_0 := hx_ HB hx391_0 (Zlt _ _ hx391_0)
   replace p391 := eq_true p391
   replace q391 := eq_true q391
   go_upto_if 25 with (fail)
   have H := HC13.out
   clear HC13
   by_cases c14 : (rdOf ByteArray.empty l0 0).toList = (rdOf ByteArray.empty t387 x16_1).toList
   rotate_left
   · rw [if_neg c14] at H
     have c14b0 : ((rdOf ByteArray.empty l0 0).toList == (rdOf ByteArray.empty t387 x16_1).toList) = false := beq_eq_false_iff_ne.mpr c14
     have c14b1 : ((rdOf ByteArray.empty l0 0).toList != (rdOf ByteArray.empty t387 x16_1).toList) = true := bne_iff_ne.mpr c14
     (first | rw [c14b0] | (simp only [i64_w, i32_w]; rw [c14b0]) | skip)
     have H' := Zm H
     clear H
     go_wp2
     go_roundg k1
     case measure => have := HK1.out; omega
     case rel => exact ⟨(wrap64 (x16_1 + 1)), (x387000_1), (by first | rfl | (simp; done) | (simp [*]; done)), H', ⟨by have := HK1.out; omega⟩, ⟨by (with_reducible repeat (first | apply Kd.R_alloc | apply Kd.R_drewN | apply Kd.R_drew)); exact HO_14.out⟩, ⟨pk BK385.out⟩, ⟨pk BK386.out⟩, ⟨bk HB.out⟩⟩
   rw [if_pos c14] at H
   have c14b0 : ((rdOf ByteArray.empty l0 0).toList == (rdOf ByteArray.empty t387 x16_1).toList) = true := beq_iff_eq.mpr c14
   have c14b1 : ((rdOf ByteArray.empty l0 0).toList != (rdOf ByteArray.empty t387 x16_1).toList) = false := bne_eq_false_iff_eq.mpr c14
   clear c14
   (first | rw [c14b0] | (simp only [i64_w, i32_w]; rw [c14b0]) | skip)
   have H' := Zm H
   clear H
   have hnb15 := NB386_385.out
   have hnc15 := NB385_386.out
   obtain ⟨hcz16_0, hcz16_1, hcz16_2, hcz16_3, hcz16_4⟩ := cz5 BK386.out
   have hfz16_0 := Zkf BK386.out 0
   have hfz16_1 := Zkf BK386.out 1
   have hfz16_2 := Zkf BK386.out 2
   have hfz16_3 := Zkf BK386.out 3
   have hfz16_4 := Zkf BK386.out 4
   go_wp2
   go_roundg k1
   case measure => have := HK1.out; omega
   case rel => exact ⟨(wrap64 (x16_1 + 1)), (wrap64 (x16_1 + 1)), (by first | rfl | (simp; done) | (simp [*]; done)), H', ⟨by have := HK1.out; omega⟩, ⟨by (with_reducible repeat (first | apply Kd.R_alloc | apply Kd.R_drewN | apply Kd.R_drew)); exact Kd.R_mono (Kd.R_far (p := ⟨gb386, 0, none⟩) (Kd.R_types HO_14.out BK386.out (by decide)) (fun _ hk => hk.2) (.int .i64 (wrap64 (x16_1 + 1)))) (fun _ hk => trivial)⟩, ⟨zc_⟩, ⟨zc_⟩, ⟨hb_⟩⟩
end Go.Proofs.YtdfnljchoomliaaDoor.PFnExactInsParse
