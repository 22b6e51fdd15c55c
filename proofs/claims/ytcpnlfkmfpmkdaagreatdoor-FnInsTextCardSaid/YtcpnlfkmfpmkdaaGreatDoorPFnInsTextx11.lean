/- Functions of the program as plain Lean functions, each with a proof that the program's call comes to the same; no condition. Written by a program of this session. -/
import Derived.Test.YtcpnlfkmfpmkdaaGreatDoorPFnInsTextx0
import Derived.Test.YtcpnlfkmfpmkdaaGreatDoorPFnInsTextx3
import Derived.Test.YtcpnlfkmfpmkdaaGreatDoorPFnInsTextx6
import Derived.Test.YtcpnlfkmfpmkdaaGreatDoorPFnInsTextx10
namespace Go.Proofs.YtcpnlfkmfpmkdaaGreatDoor.PFnInsText
open Go.RowKit Go.Proofs.YtcpnlfkmfpmkdaaGreatDoorW.PrintWords Go.Proofs.YtcpnlfkmfpmkdaaGreatDoorW.PrintLast Go.Proofs.YtcpnlfkmfpmkdaaGreatDoorW.PrintMore
open Go.Proofs.YtcpnlfkmfpmkdaaGreatDoorW.PrintWords renaming below_alloc → Zba, pw_below_drewN → Zbn, below_drew1 → Zbd, below_set → Zbs, below_size → Zbz, below_step → Zbt, blk_drewN → Zkn, blk_drew → Zkd, blk_alloc → Zka, blk_cell → Zkc, blk_frozen → Zkf, blk_far → Zkr, blk_put → Zkp, blk_below → Zkb, add_block → Zab
open Go.World renaming block_lt_of_cell? → Zlt
open Go.Proofs.YtcpnlfkmfpmkdaaGreatDoorW.PrintWords.Aside0 renaming mk → Zm
attribute [local go_sem] max2_int min2_int max_two min_two max_three min_three max_four min_four   -- for this text's walks alone
set_option linter.unusedVariables false
set_option linter.unusedSimpArgs false

/-! ### impl_insOf: function 46 -/
mutual
def impl_insOf.l0 : Nat → List ByteArray → List ByteArray → Int → Int → Int → Int → ByteArray → ByteArray → ByteArray → Option (Int × Int × ByteArray × ByteArray × ByteArray × Bool)
 | 0, _, _, _, _, _, _, _, _, _ => none
 | k + 1, x0, x14, x15, x16, x529000, x529001, x529002, x529003, x529004 => if x16 < x15 then (if 0 ≤ x16 then (if x16 < (x14.length : Int) then (if 0 < (x0.length : Int) then (if (rdOf ByteArray.empty x0 0).toList = (rdOf ByteArray.empty x14 x16).toList then (impl_insOf.l0 k x0 x14 x15 (wrap64 (x16 + 1)) (wrap64 (x16 + 1)) x529001 x529002 x529003 x529004) else (impl_insOf.l0 k x0 x14 x15 (wrap64 (x16 + 1)) x529000 x529001 x529002 x529003 x529004)) else (none)) else (none)) else (none)) else ((impl_OpForm.f x529000).bind fun t534 => (if 1 ≤ (x0.length : Int) then ((map_make46.f).bind fun t536 => ((map_look46.f t534).bind fun bt537 => (if bt537.2 = true then (impl_insOf.j1 k t534 (x0.drop 1) (((x0.drop 1).length : Int) != bt537.1) x529000 x529001 x529002 x529003 x529004) else (impl_insOf.j1 k t534 (x0.drop 1) true x529000 x529001 x529002 x529003 x529004)))) else (none)))
def impl_insOf.j1 : Nat → ByteArray → List ByteArray → Bool → Int → Int → ByteArray → ByteArray → ByteArray → Option (Int × Int × ByteArray × ByteArray × ByteArray × Bool)
 | 0, _, _, _, _, _, _, _, _ => none
 | k + 1, x7, x8, x50, x529000, x529001, x529002, x529003, x529004 => if x50 = true then (some (0, 0, (⟨#[]⟩ : ByteArray), (⟨#[]⟩ : ByteArray), (⟨#[]⟩ : ByteArray), false)) else (if x7.toList = ([110] : List UInt8) then (impl_insOf.j2 k x8 true x7 (x7.toList == ([110] : List UInt8)) x529000 x529001 x529002 x529003 x529004) else (if x7.toList = ([105] : List UInt8) then (impl_insOf.j2 k x8 true x7 (x7.toList == ([105] : List UInt8)) x529000 x529001 x529002 x529003 x529004) else (impl_insOf.j2 k x8 true x7 (x7.toList == ([116] : List UInt8)) x529000 x529001 x529002 x529003 x529004)))
def impl_insOf.j2 : Nat → List ByteArray → Bool → ByteArray → Bool → Int → Int → ByteArray → ByteArray → ByteArray → Option (Int × Int × ByteArray × ByteArray × ByteArray × Bool)
 | 0, _, _, _, _, _, _, _, _, _ => none
 | k + 1, x8, x12, x52, x53, x529000, x529001, x529002, x529003, x529004 => if x53 = true then (if 0 < (x8.length : Int) then ((impl_numberOf.f (rdOf ByteArray.empty x8 0)).bind fun bt540 => (some (x529000, bt540.1, x529002, x529003, x529004, bt540.2))) else (none)) else (if x52.toList = ([99] : List UInt8) then (if 0 < (x8.length : Int) then (some (x529000, x529001, rdOf ByteArray.empty x8 0, x529003, x529004, x12)) else (none)) else (if x52.toList = ([121] : List UInt8) then (if 0 < (x8.length : Int) then (some (x529000, x529001, x529002, x529003, rdOf ByteArray.empty x8 0, x12)) else (none)) else (if x52.toList = ([102] : List UInt8) then (if 0 < (x8.length : Int) then (if 1 < (x8.length : Int) then (if 2 < (x8.length : Int) then (some (x529000, x529001, rdOf ByteArray.empty x8 0, rdOf ByteArray.empty x8 1, rdOf ByteArray.empty x8 2, x12)) else (none)) else (none)) else (none)) else (if x52.toList = ([109] : List UInt8) then (if 0 < (x8.length : Int) then (if 1 < (x8.length : Int) then (if 2 < (x8.length : Int) then (some (x529000, x529001, rdOf ByteArray.empty x8 0, rdOf ByteArray.empty x8 1, rdOf ByteArray.empty x8 2, x12)) else (none)) else (none)) else (none)) else (some (x529000, x529001, x529002, x529003, x529004, x12))))))
end
def impl_insOf.f (k : Nat) (l0 : List ByteArray) : Option (Int × Int × ByteArray × ByteArray × ByteArray × Bool) := (impl_opNames.f).bind fun t529 => (impl_insOf.l0 k l0 t529 (t529.length : Int) 0 0 0 (⟨#[]⟩ : ByteArray) (⟨#[]⟩ : ByteArray) (⟨#[]⟩ : ByteArray))
def impl_insOf.T25 : Bool × List (List Nat × List Nat) := (true, [([], []), ([0], [0]), ([1], [1]), ([], []), ([3], [3]), ([4], [4]), ([], []), ([6], [6]), ([7], [7]), ([0, 1, 2], []), ([9, 2, 0, 1, 2], [2, 9]), ([0, 1, 2, 3, 4, 5, 9, 10], []), ([11, 5, 10, 0, 1, 2, 3, 4, 5, 9, 10], [5, 11]), ([0, 1, 2, 3, 4, 5, 6, 7, 8, 9, 10, 11, 12], []), ([13, 8, 12, 0, 1, 2, 3, 4, 5, 6, 7, 8, 9, 10, 11, 12], [8, 13])])
def impl_insOf.B25 : List Nat := [0, 1, 3, 0, 8, 24, 0, 64, 192, 7, 519, 1599, 3647, 8191, 16383]
theorem impl_insOf.tab25 : rtab .any (opsOf Tryz.f46 25) = impl_insOf.T25 := by kernel_rfl
theorem impl_insOf.bits25 : waitsOk impl_insOf.T25.2 impl_insOf.B25 = true := by kernel_rfl
set_option maxHeartbeats 8000000 in
set_option maxRecDepth 100000 in
theorem impl_insOf.calls (k : Nat) (A0 : Option Addr) (c0 : Nat) (l0 : List ByteArray) (r1 : Int) (r2 : Int) (r3 : ByteArray) (r4 : ByteArray) (r5 : ByteArray) (r6 : Bool) (w : World) (hr0 : Kd.C Kd.string w A0 l0.length l0) (hc0 : l0.length ≤ c0) (h : impl_insOf.f k l0 = some (r1, r2, r3, r4, r5, r6)) (htab : Tabs w := by exact tab_) :
 Calls Tryz.prog 46 #[.slice A0 l0.length c0] w fun e w' => e = .returned (.tuple #[.agg #[.int .i64 r1, .int .i64 r2, .string r3, .string r4, .string r5], .bool r6]) ∧ Below w.heap.size w w' := by
 have HTAB := Zm htab
 clear htab
 have hu44 := Tryz.underlying44; have HR0 := Zm hr0; have HC0 := Zm hc0; clear hr0 hc0; have HB := Zm (Below.refl w.heap.size w); have H : ((impl_opNames.f).bind fun t529 => (impl_insOf.l0 k l0 t529 (t529.length : Int) 0 0 0 (⟨#[]⟩ : ByteArray) (⟨#[]⟩ : ByteArray) (⟨#[]⟩ : ByteArray))) = some (r1, r2, r3, r4, r5, r6) := h; clear h; replace H := Option.bind_eq_some_iff.mp H; obtain ⟨t529, A20, H⟩ := H; replace H : (impl_insOf.l0 k l0 t529 (t529.length : Int) 0 0 0 (⟨#[]⟩ : ByteArray) (⟨#[]⟩ : ByteArray) (⟨#[]⟩ : ByteArray)) = some (r1, r2, r3, r4, r5, r6) := H; have A2 := Zm A20; clear A20; have H' := Zm H; clear H; go_enter Tryz.func46, Tryz.ntmps46; go_wp2_with (first | ((with_reducible refine gate_dst (N := 2) rfl ?_); (try (refine gate_guard (by rfl) ?_; dsimp only)); refine box_event ?hg (N := 2) ?hd (cs := #[.int .i64 0, .int .i64 0, .string (⟨#[]⟩ : ByteArray), .string (⟨#[]⟩ : ByteArray), .string (⟨#[]⟩ : ByteArray)]) (t := 44) ?hr ?_; (case hd => rfl); (case hg => rfl); (case hr => first | (go_simp; done) | (go_simp; rfl)); intro gb527 hg w3 hbox hb; have n0_ := (⟨Zm (Zbt (bk HB.out) hb), Zm (hbox), Zm ((by rw [hg]; exact (Zbz (bk HB.out)) : w.heap.size ≤ gb527)), Zm ((by rw [hg]; exact (Zbz (bk HB.out)) : w.heap.size ≤ gb527))⟩ : _ ∧ _ ∧ _ ∧ _); clear HB; obtain ⟨HB, BK527, GW527, GE527⟩ := n0_; clear hb hbox hg) | ((with_reducible refine gate_dst (N := 4) rfl ?_); (try (refine gate_guard (by rfl) ?_; dsimp only)); refine box_event ?hg (N := 4) ?hd (cs := #[.int .i64 0, .int .i64 0, .string (⟨#[]⟩ : ByteArray), .string (⟨#[]⟩ : ByteArray), .string (⟨#[]⟩ : ByteArray)]) (t := 44) ?hr ?_; (case hd => rfl); (case hg => rfl); (case hr => first | (go_simp; done) | (go_simp; rfl)); intro gb528 hg w4 hbox hb; have n0_ := (⟨Zm (Zkb (pk BK527.out) hb), Zm (Zbt (bk HB.out) hb), Zm (hbox), Zm ((by rw [hg]; exact (Zbz (bk HB.out)) : w.heap.size ≤ gb528)), Zm ((by rw [hg]; exact (Zbz (bk HB.out)) : w.heap.size ≤ gb528)), Zm ((by rw [hg]; exact Nat.ne_of_lt (blk_lt (pk BK527.out)) : gb527 ≠ gb528)), Zm ((by rw [hg]; exact Nat.ne_of_gt (blk_lt (pk BK527.out)) : gb528 ≠ gb527))⟩ : _ ∧ _ ∧ _ ∧ _ ∧ _ ∧ _ ∧ _); clear BK527 HB; obtain ⟨BK527, HB, BK528, GW528, GE528, NB527_528, NB528_527⟩ := n0_; clear hb hbox hg; have hnb5 := NB528_527.out; have hnc5 := NB527_528.out; obtain ⟨hcz6_0, hcz6_1, hcz6_2, hcz6_3, hcz6_4, hfz6_0, hfz6_1, hfz6_2, hfz6_3, hfz6_4⟩ := cf5 BK528.out) | ((with_reducible refine gate_callee (f := 60) rfl ?_); refine ge_ (some 14) Tryz.func60 #[] ?_; (with_reducible refine (impl_opNames.calls _ _ A2.out).mono ?_); rintro e w7 ⟨v530, rfl, ho0, hb⟩; refine ⟨_, rfl, ?_⟩; have n0_ := (⟨Zm (Kd.R_lower ho0 (Zbz hb_)), Zm (Zkb (g := gb527) (o := .cells #[.int .i64 0, .int .i64 0, .string (⟨#[]⟩ : ByteArray), .string (⟨#[]⟩ : ByteArray), .string (⟨#[]⟩ : ByteArray)] 44 (0, 0)) zc_ hb), Zm (Zkb (g := gb528) (o := .cells #[.int .i64 0, .int .i64 0, .string (⟨#[]⟩ : ByteArray), .string (⟨#[]⟩ : ByteArray), .string (⟨#[]⟩ : ByteArray)] 44 (0, 0)) zc_ hb), Zm (Zbt hb_ hb)⟩ : _ ∧ _ ∧ _ ∧ _); clear BK527 BK528 HB; obtain ⟨HO531, BK527, BK528, HB⟩ := n0_; (try clear hb); (try clear hb2); (try clear hk); (try clear hi); (try clear ho0); obtain ⟨Ao8, co8, eo8⟩ := Kd.R_slice HO531.out; subst eo8)); go_loopg [16] k (fun kq v16 w' => ∃ (x16_1 : Int) (x529000_1 : Int), v16 = .int .i64 x16_1 ∧ Aside0 (impl_insOf.l0 kq l0 t529 (t529.length : Int) x16_1 x529000_1 0 (⟨#[]⟩ : ByteArray) (⟨#[]⟩ : ByteArray) (⟨#[]⟩ : ByteArray) = some (r1, r2, r3, r4, r5, r6)) ∧ Aside0 (kq ≤ k) ∧ Aside0 (Kd.R Kd.string 9 w' w.heap.size (fun _ => True) (.slice Ao8 t529.length co8) t529) ∧ Aside0 (w'.heap[gb527]? = some (.cells #[.int .i64 0, .int .i64 0, .string (⟨#[]⟩ : ByteArray), .string (⟨#[]⟩ : ByteArray), .string (⟨#[]⟩ : ByteArray)] 44 (0, 0))) ∧ Aside0 (w'.heap[gb528]? = some (.cells #[.int .i64 x529000_1, .int .i64 0, .string (⟨#[]⟩ : ByteArray), .string (⟨#[]⟩ : ByteArray), .string (⟨#[]⟩ : ByteArray)] 44 (0, 0))) ∧ Aside0 (Below w.heap.size w w'))
 case atStart => exact ⟨(0), (0), (by first | rfl | (simp; done) | (simp [*]; done)), H', ⟨Nat.le_refl _⟩, ⟨by (with_reducible repeat (first | apply Kd.R_alloc | apply Kd.R_drewN | apply Kd.R_drew)); exact HO531.out⟩, ⟨pk BK527.out⟩, ⟨pk BK528.out⟩, ⟨bk HB.out⟩⟩
 case round =>
  clear H'; (try clear hcz6_0); (try clear hcz6_1); (try clear hcz6_2); (try clear hcz6_3); (try clear hcz6_4); (try clear hfz6_0); (try clear hfz6_1); (try clear hfz6_2); (try clear hfz6_3); (try clear hfz6_4); obtain ⟨x16_1, x529000_1, rfl, HA, HK1, HO_14, BK527, BK528, HB⟩ := hrel
  cases gk with
  | zero => exact absurd HA.out (by simp [impl_insOf.l0])
  | succ k1 =>
   have H := HA.out; clear HA; simp only [impl_insOf.l0] at H; by_cases c9 : x16_1 < (t529.length : Int); rotate_left
   · rw [if_neg c9] at H; have c9b0 := decide_eq_false c9; clear c9; replace H := Option.bind_eq_some_iff.mp H; obtain ⟨t534, A170, H⟩ := H; replace H : (if 1 ≤ (l0.length : Int) then ((map_make46.f).bind fun t536 => ((map_look46.f t534).bind fun bt537 => (if bt537.2 = true then (impl_insOf.j1 k1 t534 (l0.drop 1) (((l0.drop 1).length : Int) != bt537.1) x529000_1 0 (⟨#[]⟩ : ByteArray) (⟨#[]⟩ : ByteArray) (⟨#[]⟩ : ByteArray)) else (impl_insOf.j1 k1 t534 (l0.drop 1) true x529000_1 0 (⟨#[]⟩ : ByteArray) (⟨#[]⟩ : ByteArray) (⟨#[]⟩ : ByteArray))))) else (none)) = some (r1, r2, r3, r4, r5, r6) := H; have A17 := Zm A170; clear A170; by_cases c18 : 1 ≤ (l0.length : Int); rotate_left
     · rw [if_neg c18] at H; exact absurd H (by simp)

     rw [if_pos c18] at H
     have c18b0 := eq_true c18
     have c18b1 := decide_eq_true c18
     clear c18
     replace H := Option.bind_eq_some_iff.mp H
     obtain ⟨t536, A190, H⟩ := H
     replace H : ((map_look46.f t534).bind fun bt537 => (if bt537.2 = true then (impl_insOf.j1 k1 t534 (l0.drop 1) (((l0.drop 1).length : Int) != bt537.1) x529000_1 0 (⟨#[]⟩ : ByteArray) (⟨#[]⟩ : ByteArray) (⟨#[]⟩ : ByteArray)) else (impl_insOf.j1 k1 t534 (l0.drop 1) true x529000_1 0 (⟨#[]⟩ : ByteArray) (⟨#[]⟩ : ByteArray) (⟨#[]⟩ : ByteArray)))) = some (r1, r2, r3, r4, r5, r6) := H
     have A19 := Zm A190
     clear A190
     replace H := Option.bind_eq_some_iff.mp H
     obtain ⟨⟨t537, t538⟩, A200, H⟩ := H
     replace H : (if t538 = true then (impl_insOf.j1 k1 t534 (l0.drop 1) (((l0.drop 1).length : Int) != t537) x529000_1 0 (⟨#[]⟩ : ByteArray) (⟨#[]⟩ : ByteArray) (⟨#[]⟩ : ByteArray)) else (impl_insOf.j1 k1 t534 (l0.drop 1) true x529000_1 0 (⟨#[]⟩ : ByteArray) (⟨#[]⟩ : ByteArray) (⟨#[]⟩ : ByteArray))) = some (r1, r2, r3, r4, r5, r6) := H
     have A20 := Zm A200
     clear A200
     have HC21 := Zm H
     clear H
     try go_wp2
     have n0_ := (⟨Zm (Kd.R_drew HO_14.out), Zm (Zkd BK527.out), Zm (Zkd BK528.out), Zm (Zbd HB.out)⟩ : _ ∧ _ ∧ _ ∧ _)
     clear HO_14 BK527 BK528 HB
     obtain ⟨HO_14, BK527, BK528, HB⟩ := n0_
     obtain ⟨i023, hi023, _, hsz23, _⟩ := info_parts info9
     obtain ⟨A23, hcut23, hA23, hC23⟩ := print_drop_of (P := Tryz.prog) Value.string (⟨#[]⟩ : ByteArray) 72 9 .i64 Tryz.underlying72 hi023 hsz23 A0 c0 l0 1 (by omega) (of_decide_eq_true (by first | (with_reducible assumption) | assumption)) HC0.out
     have HR535 := Zm (Kd.C_of_reads (h1 := fun _ => rfl) (hA23 _ (Kd.reads_of_C HR0.out)))
     have HC535 := Zm hC23
     clear hA23 hC23 hi023 hsz23
     refine start_ (n := 7) (S := fun w' => w'.cell? ⟨gb528, 0, none⟩ = some (.int .i64 x529000_1) ∧ w'.cell? ⟨gb528, 1, none⟩ = some (.int .i64 0) ∧ w'.cell? ⟨gb528, 2, none⟩ = some (.string (⟨#[]⟩ : ByteArray)) ∧ w'.cell? ⟨gb528, 3, none⟩ = some (.string (⟨#[]⟩ : ByteArray)) ∧ w'.cell? ⟨gb528, 4, none⟩ = some (.string (⟨#[]⟩ : ByteArray))) (ds := []) #[false, false, false, false, false, false, false] (by kernel_rfl) rfl rfl ⟨(Zkc BK528.out 0).trans rfl, (Zkc BK528.out 1).trans rfl, (Zkc BK528.out 2).trans rfl, (Zkc BK528.out 3).trans rfl, (Zkc BK528.out 4).trans rfl⟩ (fun hHeld => ?_)
     generalize wr.drew = w22 at HO_14 BK527 BK528 HB HR535 hHeld ⊢
     refine pure_ (i := 0) (N := some 30) (v := ?_) (a' := ?_) #[true, false, false, false, false, false, false] rfl rfl (by kernel_rfl) (fun _ _ _ h => h) (Or.inl ⟨by rfl, ?_⟩) ?_ ?_
     rotate_left
     · intro w'
       go_simp
       with_reducible rfl
     rotate_left
     · simp only [Act.put, List.setIfInBounds_toArray, List.set_cons_zero, List.set_cons_succ, i64_w, i32_w]
       rfl
     refine pure_ (i := 3) (N := some 33) (v := ?_) (a' := ?_) #[true, false, false, true, false, false, false] rfl rfl (by kernel_rfl) (fun _ _ _ h => h) (Or.inl ⟨by rfl, ?_⟩) ?_ ?_
     rotate_left
     · intro w'
       go_simp
       with_reducible rfl
     rotate_left
     · simp only [Act.put, List.setIfInBounds_toArray, List.set_cons_zero, List.set_cons_succ, i64_w, i32_w]
       rfl
     refine pure_ (i := 4) (N := some 34) (v := ?_) (a' := ?_) #[true, false, false, true, true, false, false] rfl rfl (by kernel_rfl) (fun _ _ _ h => h) (Or.inl ⟨by rfl, ?_⟩) ?_ ?_
     rotate_left
     · intro w'
       go_simp
       with_reducible rfl
     rotate_left
     · simp only [Act.put, List.setIfInBounds_toArray, List.set_cons_zero, List.set_cons_succ, i64_w, i32_w]
       rfl
     refine take_ (i := 1) (N := some 31) (v := ?_) (a' := ?_) #[true, true, false, true, true, false, false] rfl rfl (by kernel_rfl) (fun _ _ _ h => h) (Or.inl ⟨by rfl, ?_⟩) hHeld ?_ ?_
     rotate_left
     · rintro w' ⟨s0, s1, s2, s3, s4⟩
       go_simp
       with_reducible rfl
     rotate_left
     · simp only [Act.put, List.setIfInBounds_toArray, List.set_cons_zero, List.set_cons_succ, i64_w, i32_w]
       rfl
     refine one_ (i := 2) (N := some 32) #[true, true, true, true, true, false, false] rfl rfl (by kernel_rfl) (by decide) (fun K hK => ?_)
     refine goes_ Tryz.func48 (by kernel_rfl) rfl #[.int .i64 x529000_1] (by rfl) rfl rfl (by (try simp only [List.map_toArray, List.map_cons, List.map_nil]); first | done | rfl | (simp only [List.length_drop, List.length_take]; rfl)) ?_
     with_reducible refine (impl_OpForm.calls x529000_1 t534 _ A17.out).mono ?_
     rintro e w24 ⟨rfl, hb⟩
     refine ⟨_, rfl, ?_⟩
     have n0_ := Zm (Kd.R_below (by (with_reducible repeat (first | apply Kd.R_alloc | apply Kd.R_drewN | apply Kd.R_drew)); exact HO_14.out) hb)
     have n1_ := Zm (Zkb (pk BK527.out) hb)
     have n2_ := Zm (Zkb (pk BK528.out) hb)
     have n3_ := Zm (Zbt (bk HB.out) hb)
     clear HO_14
     clear BK527
     clear BK528
     clear HB
     have HO_14 := n0_
     have BK527 := n1_
     have BK528 := n2_
     have HB := n3_
     clear n0_ n1_ n2_ n3_
     refine hK.out _ _ ⟨(Zkc BK528.out 0).trans rfl, (Zkc BK528.out 1).trans rfl, (Zkc BK528.out 2).trans rfl, (Zkc BK528.out 3).trans rfl, (Zkc BK528.out 4).trans rfl⟩ (fun hHeld => ?_)
     clear hK K
     refine norm_ (a' := ?_) ?_ ?_
     rotate_left
     · show Act.put _ (some 32) _ = _
       simp only [Act.put, List.setIfInBounds_toArray, List.set_cons_zero, List.set_cons_succ, i64_w, i32_w]
       rfl
     refine pure_ (i := 5) (N := some 7) (v := ?_) (a' := ?_) #[true, true, true, true, true, true, false] rfl rfl (by kernel_rfl) (fun _ _ _ h => h) (Or.inl ⟨by rfl, ?_⟩) ?_ ?_
     rotate_left
     · intro w'
       go_simp
       with_reducible rfl
     rotate_left
     · simp only [Act.put, List.setIfInBounds_toArray, List.set_cons_zero, List.set_cons_succ, i64_w, i32_w]
       rfl
     refine pure_ (i := 6) (N := some 8) (v := ?_) (a' := ?_) #[true, true, true, true, true, true, true] rfl rfl (by kernel_rfl) (fun _ _ _ h => h) (Or.inl ⟨by rfl, ?_⟩) ?_ ?_
     rotate_left
     · intro w'
       go_simp
       with_reducible rfl
     rotate_left
     · simp only [Act.put, List.setIfInBounds_toArray, List.set_cons_zero, List.set_cons_succ, i64_w, i32_w]
       rfl
     refine done_ (by kernel_rfl) ?_
     go_upto_region 11 with (first | ((with_reducible refine map46_walk (X := 35) ?q ?_); (case q => exact ⟨rfl, rfl, rfl, rfl, rfl, rfl, rfl, rfl, rfl, rfl, rfl, rfl, rfl, rfl, rfl, rfl, rfl, rfl, rfl, rfl, rfl, rfl, rfl, rfl, rfl, rfl, rfl, rfl⟩); intro w25 hmap hb; have HMAP := Zm hmap; clear hmap; have n0_ := (⟨Zm (Kd.R_below (by (with_reducible repeat (first | apply Kd.R_alloc | apply Kd.R_drewN | apply Kd.R_drew)); exact HO_14.out) hb), Zm (Zkb (pk BK527.out) hb), Zm (Zkb (pk BK528.out) hb), Zm (Zbt (bk HB.out) hb)⟩ : _ ∧ _ ∧ _ ∧ _); clear HO_14 BK527 BK528 HB; obtain ⟨HO_14, BK527, BK528, HB⟩ := n0_; (try clear hb); (try clear hb2); (try clear hk); (try clear hi)) | ((with_reducible refine map46_look HMAP.out _ A20.out ?q ?_); (case q => exact ⟨rfl, rfl⟩)))
     (try simp only [Act.put, List.setIfInBounds_toArray, List.set_cons_zero, List.set_cons_succ])
     go_cut [50] (fun v50 wc => ∃ (kq : Nat) (x50_20 : Bool), v50 = .bool x50_20 ∧ Aside0 (impl_insOf.j1 kq t534 (l0.drop 1) x50_20 x529000_1 0 (⟨#[]⟩ : ByteArray) (⟨#[]⟩ : ByteArray) (⟨#[]⟩ : ByteArray) = some (r1, r2, r3, r4, r5, r6)) ∧ Aside0 (kq ≤ k1) ∧ Aside0 (wc.heap[gb527]? = some (.cells #[.int .i64 0, .int .i64 0, .string (⟨#[]⟩ : ByteArray), .string (⟨#[]⟩ : ByteArray), .string (⟨#[]⟩ : ByteArray)] 44 (0, 0))) ∧ Aside0 (wc.heap[gb528]? = some (.cells #[.int .i64 x529000_1, .int .i64 0, .string (⟨#[]⟩ : ByteArray), .string (⟨#[]⟩ : ByteArray), .string (⟨#[]⟩ : ByteArray)] 44 (0, 0))) ∧ Aside0 (Below w.heap.size w wc))
     case first =>
      have H := HC21.out
      clear HC21
      by_cases c26 : t538 = true
      rotate_left
      · replace c26 := Bool.eq_false_iff.mpr c26
        subst c26
        rw [if_neg (show ¬ (false = true) by decide)] at H
        have H' := Zm H
        clear H
        go_wp2
        go_meet
        case rel => exact ⟨_, (true), (by first | rfl | (simp; done) | (simp [*]; done)), H', ⟨by have := HK1.out; first | omega | exact Nat.le_refl _⟩, ⟨pk BK527.out⟩, ⟨pk BK528.out⟩, ⟨bk HB.out⟩⟩
      subst c26
      rw [if_pos rfl] at H
      have H' := Zm H
      clear H
      go_wp2
      go_meet
      case rel => exact ⟨_, ((((l0.drop 1).length : Int) != t537)), (by first | rfl | (simp; done) | (simp [*]; done)), H', ⟨by have := HK1.out; first | omega | exact Nat.le_refl _⟩, ⟨pk BK527.out⟩, ⟨pk BK528.out⟩, ⟨bk HB.out⟩⟩
     case rest =>
      clear HC21
      (try clear c9); (try clear c9b0); (try clear c18); (try clear c18b0); (try clear c18b1); (try clear hcz6_0); (try clear hcz6_1); (try clear hcz6_2); (try clear hcz6_3); (try clear hcz6_4); (try clear hfz6_0); (try clear hfz6_1); (try clear hfz6_2); (try clear hfz6_3); (try clear hfz6_4)
      obtain ⟨kq, x50_20, rfl, HA, HJ20, BK527, BK528, HB⟩ := hcut
      cases kq with
      | zero => exact absurd HA.out (by simp [impl_insOf.j1])
      | succ kj20 =>
       have H := HA.out
       clear HA
       simp only [impl_insOf.j1] at H
       by_cases c27 : x50_20 = true
       rotate_left
       · replace c27 := Bool.eq_false_iff.mpr c27
         subst c27
         rw [if_neg (show ¬ (false = true) by decide)] at H
         have HC30 := Zm H
         clear H
         go_upto_if 53 with (fail)
         go_cut [53] (fun v53 wc => ∃ (kq : Nat) (x53_29 : Bool), v53 = .bool x53_29 ∧ Aside0 (impl_insOf.j2 kq (l0.drop 1) true t534 x53_29 x529000_1 0 (⟨#[]⟩ : ByteArray) (⟨#[]⟩ : ByteArray) (⟨#[]⟩ : ByteArray) = some (r1, r2, r3, r4, r5, r6)) ∧ Aside0 (kq ≤ kj20) ∧ Aside0 (wc.heap[gb527]? = some (.cells #[.int .i64 0, .int .i64 0, .string (⟨#[]⟩ : ByteArray), .string (⟨#[]⟩ : ByteArray), .string (⟨#[]⟩ : ByteArray)] 44 (0, 0))) ∧ Aside0 (wc.heap[gb528]? = some (.cells #[.int .i64 x529000_1, .int .i64 0, .string (⟨#[]⟩ : ByteArray), .string (⟨#[]⟩ : ByteArray), .string (⟨#[]⟩ : ByteArray)] 44 (0, 0))) ∧ Aside0 (Below w.heap.size w wc))
         case first =>
          have H := HC30.out
          clear HC30
          by_cases c31 : t534.toList = ([110] : List UInt8)
          rotate_left
          · rw [if_neg c31] at H
            have c31b0 : (t534.toList == ([110] : List UInt8)) = false := beq_eq_false_iff_ne.mpr c31
            have c31b1 : (t534.toList != ([110] : List UInt8)) = true := bne_iff_ne.mpr c31
            (first | rw [c31b0] | (simp only [i64_w, i32_w]; rw [c31b0]) | skip)
            by_cases c32 : t534.toList = ([105] : List UInt8)
            rotate_left
            · rw [if_neg c32] at H
              have c32b0 : (t534.toList == ([105] : List UInt8)) = false := beq_eq_false_iff_ne.mpr c32
              have c32b1 : (t534.toList != ([105] : List UInt8)) = true := bne_iff_ne.mpr c32
              have H' := Zm H
              clear H
              go_wp2
              go_meet
              case rel => exact ⟨_, ((t534.toList == ([116] : List UInt8))), (by first | rfl | (simp; done) | (simp [*]; done)), H', ⟨by have := HK1.out; have := HJ20.out; first | omega | exact Nat.le_refl _⟩, ⟨pk BK527.out⟩, ⟨pk BK528.out⟩, ⟨bk HB.out⟩⟩
            rw [if_pos c32] at H
            have c32b0 : (t534.toList == ([105] : List UInt8)) = true := beq_iff_eq.mpr c32
            have c32b1 : (t534.toList != ([105] : List UInt8)) = false := bne_eq_false_iff_eq.mpr c32
            clear c32
            have H' := Zm H
            clear H
            go_wp2
            go_meet
            case rel => exact ⟨_, ((t534.toList == ([105] : List UInt8))), (by first | rfl | (simp; done) | (simp [*]; done)), H', ⟨by have := HK1.out; have := HJ20.out; first | omega | exact Nat.le_refl _⟩, ⟨pk BK527.out⟩, ⟨pk BK528.out⟩, ⟨bk HB.out⟩⟩
          rw [if_pos c31] at H
          have c31b0 : (t534.toList == ([110] : List UInt8)) = true := beq_iff_eq.mpr c31
          have c31b1 : (t534.toList != ([110] : List UInt8)) = false := bne_eq_false_iff_eq.mpr c31
          clear c31
          (first | rw [c31b0] | (simp only [i64_w, i32_w]; rw [c31b0]) | skip)
          have H' := Zm H
          clear H
          go_wp2
          go_meet
          case rel => exact ⟨_, ((t534.toList == ([110] : List UInt8))), (by first | rfl | (simp; done) | (simp [*]; done)), H', ⟨by have := HK1.out; have := HJ20.out; first | omega | exact Nat.le_refl _⟩, ⟨pk BK527.out⟩, ⟨pk BK528.out⟩, ⟨bk HB.out⟩⟩
         case rest =>
          clear HC30
          (try clear c9); (try clear c9b0); (try clear c18); (try clear c18b0); (try clear c18b1); (try clear c27); (try clear hcz6_0); (try clear hcz6_1); (try clear hcz6_2); (try clear hcz6_3); (try clear hcz6_4); (try clear hfz6_0); (try clear hfz6_1); (try clear hfz6_2); (try clear hfz6_3); (try clear hfz6_4)
          obtain ⟨kq, x53_29, rfl, HA, HJ29, BK527, BK528, HB⟩ := hcut
          cases kq with
          | zero => exact absurd HA.out (by simp [impl_insOf.j2])
          | succ kj29 =>
           have H := HA.out
           clear HA
           simp only [impl_insOf.j2] at H
           by_cases c33 : x53_29 = true
           rotate_left
           · replace c33 := Bool.eq_false_iff.mpr c33
             subst c33
             rw [if_neg (show ¬ (false = true) by decide)] at H
             by_cases c40 : t534.toList = ([99] : List UInt8)
             rotate_left
             · rw [if_neg c40] at H
               have c40b0 : (t534.toList == ([99] : List UInt8)) = false := beq_eq_false_iff_ne.mpr c40
               have c40b1 : (t534.toList != ([99] : List UInt8)) = true := bne_iff_ne.mpr c40
               by_cases c45 : t534.toList = ([121] : List UInt8)
               rotate_left
               · rw [if_neg c45] at H
                 have c45b0 : (t534.toList == ([121] : List UInt8)) = false := beq_eq_false_iff_ne.mpr c45
                 have c45b1 : (t534.toList != ([121] : List UInt8)) = true := bne_iff_ne.mpr c45
                 by_cases c50 : t534.toList = ([102] : List UInt8)
                 rotate_left
                 · rw [if_neg c50] at H
                   have c50b0 : (t534.toList == ([102] : List UInt8)) = false := beq_eq_false_iff_ne.mpr c50
                   have c50b1 : (t534.toList != ([102] : List UInt8)) = true := bne_iff_ne.mpr c50
                   by_cases c61 : t534.toList = ([109] : List UInt8)
                   rotate_left
                   · rw [if_neg c61] at H
                     have c61b0 : (t534.toList == ([109] : List UInt8)) = false := beq_eq_false_iff_ne.mpr c61
                     have c61b1 : (t534.toList != ([109] : List UInt8)) = true := bne_iff_ne.mpr c61
                     simp only [Option.some.injEq, Prod.mk.injEq] at H
                     obtain ⟨rfl, rfl, rfl, rfl, rfl, rfl⟩ := H
                     have hnb72 := NB528_527.out
                     have hnc72 := NB527_528.out
                     obtain ⟨hcz73_0, hcz73_1, hcz73_2, hcz73_3, hcz73_4, hfz73_0, hfz73_1, hfz73_2, hfz73_3, hfz73_4⟩ := cf5 BK528.out
                     obtain ⟨hcz74_0, hcz74_1, hcz74_2, hcz74_3, hcz74_4, hfz74_0, hfz74_1, hfz74_2, hfz74_3, hfz74_4⟩ := cf5 BK527.out
                     go_wp2
                     refine bodyPost_ret (results_ct rfl _ _ gb527 44 #[.int .i64 x529000_1, .int .i64 0, .string (⟨#[]⟩ : ByteArray), .string (⟨#[]⟩ : ByteArray), .string (⟨#[]⟩ : ByteArray)] (0, 0) _ rfl zc_ Tryz.underlying44 rfl (by kernel_rfl)) rfl ?_
                     exact ⟨by first | rfl | (simp [*] <;> rfl), hb_⟩
                   rw [if_pos c61] at H
                   have c61b0 : (t534.toList == ([109] : List UInt8)) = true := beq_iff_eq.mpr c61
                   have c61b1 : (t534.toList != ([109] : List UInt8)) = false := bne_eq_false_iff_eq.mpr c61
                   clear c61
                   by_cases c62 : 0 < ((l0.drop 1).length : Int)
                   rotate_left
                   · rw [if_neg c62] at H
                     exact absurd H (by simp)
                   rw [if_pos c62] at H
                   have c62b0 := decide_eq_true c62
                   have c62b1 : decide (0 < (l0.drop 1).length) = true := decide_eq_true (by omega)
                   clear c62
                   by_cases c63 : 1 < ((l0.drop 1).length : Int)
                   rotate_left
                   · rw [if_neg c63] at H
                     exact absurd H (by simp)
                   rw [if_pos c63] at H
                   have c63b0 := decide_eq_true c63
                   have c63b1 : decide (1 < (l0.drop 1).length) = true := decide_eq_true (by omega)
                   clear c63
                   by_cases c64 : 2 < ((l0.drop 1).length : Int)
                   rotate_left
                   · rw [if_neg c64] at H
                     exact absurd H (by simp)
                   rw [if_pos c64] at H
                   have c64b0 := decide_eq_true c64
                   have c64b1 : decide (2 < (l0.drop 1).length) = true := decide_eq_true (by omega)
                   clear c64
                   simp only [Option.some.injEq, Prod.mk.injEq] at H
                   obtain ⟨rfl, rfl, rfl, rfl, rfl, rfl⟩ := H
                   try go_wp2
                   have n0_ := (⟨Zm (Zkd BK527.out), Zm (Zkd BK528.out), Zm (Zbd HB.out)⟩ : _ ∧ _ ∧ _)
                   clear BK527 BK528 HB
                   obtain ⟨BK527, BK528, HB⟩ := n0_
                   have p547 : 0 ≤ (0 : Int) := (by omega)
                   have q547 : 0 < ((l0.drop 1).length : Int) := of_decide_eq_true (by first | (with_reducible assumption) | assumption)
                   obtain ⟨ad547, e547, hx547_0⟩ := Kd.at_string HR535.out 0 p547 q547
                   obtain ⟨dv547, hdv547⟩ : ∃ z_, Aside0 (z_ = (rdOf ByteArray.empty (l0.drop 1) 0)) := ⟨_, ⟨rfl⟩⟩
                   (try rw [show ((1 : Int)).toNat = 1 from rfl] at hx547_0)
                   rw [← hdv547.out] at hx547_0
                   have hw547_0 := hx547_0
                   (try rw [show ((0 : Int)).toNat = 0 from rfl] at hw547_0)
                   (try rw [show 0 * 1 = 0 from rfl] at hw547_0)
                   (try rw [Addr.add_zero'] at hw547_0)
                   cases e547
                   have qi547 : (0 < (l0.drop 1).length) = True := eq_true (by omega)
                   have qi547y := qi547
                   (try simp only [List.length_drop] at qi547y)
                   (try rw [show ((0 : Int)).toNat = 0 from rfl] at hx547_0)
                   (try rw [Addr.add_zero'] at hx547_0)
                   replace hx547_0 := hx_ HB hx547_0 (Zlt _ _ hx547_0)
                   replace p547 := eq_true p547
                   replace q547 := eq_true q547
                   have q547y := q547
                   (try simp only [List.length_drop] at q547y)
                   have p548 : 0 ≤ (1 : Int) := (by omega)
                   have q548 : 1 < ((l0.drop 1).length : Int) := of_decide_eq_true (by first | (with_reducible assumption) | assumption)
                   obtain ⟨ad548, e548, hx548_0⟩ := Kd.at_string HR535.out 1 p548 q548
                   obtain ⟨dv548, hdv548⟩ : ∃ z_, Aside0 (z_ = (rdOf ByteArray.empty (l0.drop 1) 1)) := ⟨_, ⟨rfl⟩⟩
                   (try rw [show ((1 : Int)).toNat = 1 from rfl] at hx548_0)
                   rw [← hdv548.out] at hx548_0
                   have hw548_0 := hx548_0
                   (try rw [show ((1 : Int)).toNat = 1 from rfl] at hw548_0)
                   (try rw [show 1 * 1 = 1 from rfl] at hw548_0)
                   (try simp only [Nat.reduceMul, Nat.reduceEqDiff, Go.Addr.add, ↓reduceIte] at hw548_0)
                   obtain rfl : ad547 = ad548 := (by injection e548)
                   (try simp only [show (1 : Int).toNat = 1 from rfl, Nat.reduceMul, Nat.reduceEqDiff, Go.Addr.add, ↓reduceIte] at hx548_0)
                   have qi548 : (1 < (l0.drop 1).length) = True := eq_true (by omega)
                   have qi548y := qi548
                   (try simp only [List.length_drop] at qi548y)
                   (try rw [show ((1 : Int)).toNat = 1 from rfl] at hx548_0)
                   replace hx548_0 := hx_ HB hx548_0 (Zlt _ _ hx548_0)
                   replace p548 := eq_true p548
                   replace q548 := eq_true q548
                   have q548y := q548
                   (try simp only [List.length_drop] at q548y)
                   have p549 : 0 ≤ (2 : Int) := (by omega)
                   have q549 : 2 < ((l0.drop 1).length : Int) := of_decide_eq_true (by first | (with_reducible assumption) | assumption)
                   obtain ⟨ad549, e549, hx549_0⟩ := Kd.at_string HR535.out 2 p549 q549
                   obtain ⟨dv549, hdv549⟩ : ∃ z_, Aside0 (z_ = (rdOf ByteArray.empty (l0.drop 1) 2)) := ⟨_, ⟨rfl⟩⟩
                   (try rw [show ((1 : Int)).toNat = 1 from rfl] at hx549_0)
                   rw [← hdv549.out] at hx549_0
                   have hw549_0 := hx549_0
                   (try rw [show ((2 : Int)).toNat = 2 from rfl] at hw549_0)
                   (try rw [show 2 * 1 = 2 from rfl] at hw549_0)
                   (try simp only [Nat.reduceMul, Nat.reduceEqDiff, Go.Addr.add, ↓reduceIte] at hw549_0)
                   obtain rfl : ad547 = ad549 := (by injection e549)
                   (try simp only [show (2 : Int).toNat = 2 from rfl, Nat.reduceMul, Nat.reduceEqDiff, Go.Addr.add, ↓reduceIte] at hx549_0)
                   have qi549 : (2 < (l0.drop 1).length) = True := eq_true (by omega)
                   have qi549y := qi549
                   (try simp only [List.length_drop] at qi549y)
                   (try rw [show ((2 : Int)).toNat = 2 from rfl] at hx549_0)
                   replace hx549_0 := hx_ HB hx549_0 (Zlt _ _ hx549_0)
                   replace p549 := eq_true p549
                   replace q549 := eq_true q549
                   have q549y := q549
                   (try simp only [List.length_drop] at q549y)
                   refine start_ (n := 15) (S := fun w' => w'.cell? ad547 = some (.string dv547) ∧ w'.cell? ⟨ad547.block, ad547.off + 1, none⟩ = some (.string dv548) ∧ w'.cell? ⟨ad547.block, ad547.off + 2, none⟩ = some (.string dv549)) (ds := []) #[false, false, false, false, false, false, false, false, false, false, false, false, false, false, false] (by kernel_rfl) rfl rfl ⟨((HB.out.cell (Zlt _ _ hw547_0)).trans hw547_0), ((HB.out.cell (Zlt _ _ hw548_0)).trans hw548_0), ((HB.out.cell (Zlt _ _ hw549_0)).trans hw549_0)⟩ (fun hHeld => ?_); refine with_tabW impl_insOf.tab25 impl_insOf.bits25 (fun HT_ HW_ => ?_)
                   generalize wc.drew = w65 at BK527 BK528 HB hx547_0 hx548_0 hx549_0 hHeld ⊢
                   refine pure_ (i := 0) (N := some 80) (v := ?_) (a' := ?_) #[true, false, false, false, false, false, false, false, false, false, false, false, false, false, false] rfl rfl (any_of HT_.out (by kernel_rfl)) (fun _ _ _ h => h) (Or.inl ⟨by rfl, ?_⟩) ?_ ?_
                   rotate_left
                   · intro w'
                     go_simp
                     with_reducible rfl
                   rotate_left
                   · simp only [Act.put, List.setIfInBounds_toArray, List.set_cons_zero, List.set_cons_succ, i64_w, i32_w]
                     rfl
                   refine pure_ (i := 1) (N := some 81) (v := ?_) (a' := ?_) #[true, true, false, false, false, false, false, false, false, false, false, false, false, false, false] rfl rfl (any_of HT_.out (by kernel_rfl)) (fun _ _ _ h => h) (Or.inl ⟨by rfl, ?_⟩) ?_ ?_
                   rotate_left
                   · intro w'
                     go_simp
                     with_reducible rfl
                   rotate_left
                   · simp only [Act.put, List.setIfInBounds_toArray, List.set_cons_zero, List.set_cons_succ, i64_w, i32_w]
                     rfl
                   refine pure_ (i := 3) (N := some 83) (v := ?_) (a' := ?_) #[true, true, false, true, false, false, false, false, false, false, false, false, false, false, false] rfl rfl (any_of HT_.out (by kernel_rfl)) (fun _ _ _ h => h) (Or.inl ⟨by rfl, ?_⟩) ?_ ?_
                   rotate_left
                   · intro w'
                     go_simp
                     with_reducible rfl
                   rotate_left
                   · simp only [Act.put, List.setIfInBounds_toArray, List.set_cons_zero, List.set_cons_succ, i64_w, i32_w]
                     rfl
                   refine pure_ (i := 4) (N := some 84) (v := ?_) (a' := ?_) #[true, true, false, true, true, false, false, false, false, false, false, false, false, false, false] rfl rfl (any_of HT_.out (by kernel_rfl)) (fun _ _ _ h => h) (Or.inl ⟨by rfl, ?_⟩) ?_ ?_
                   rotate_left
                   · intro w'
                     go_simp
                     with_reducible rfl
                   rotate_left
                   · simp only [Act.put, List.setIfInBounds_toArray, List.set_cons_zero, List.set_cons_succ, i64_w, i32_w]
                     rfl
                   refine pure_ (i := 6) (N := some 86) (v := ?_) (a' := ?_) #[true, true, false, true, true, false, true, false, false, false, false, false, false, false, false] rfl rfl (any_of HT_.out (by kernel_rfl)) (fun _ _ _ h => h) (Or.inl ⟨by rfl, ?_⟩) ?_ ?_
                   rotate_left
                   · intro w'
                     go_simp
                     with_reducible rfl
                   rotate_left
                   · simp only [Act.put, List.setIfInBounds_toArray, List.set_cons_zero, List.set_cons_succ, i64_w, i32_w]
                     rfl
                   refine pure_ (i := 7) (N := some 87) (v := ?_) (a' := ?_) #[true, true, false, true, true, false, true, true, false, false, false, false, false, false, false] rfl rfl (any_of HT_.out (by kernel_rfl)) (fun _ _ _ h => h) (Or.inl ⟨by rfl, ?_⟩) ?_ ?_
                   rotate_left
                   · intro w'
                     go_simp
                     with_reducible rfl
                   rotate_left
                   · simp only [Act.put, List.setIfInBounds_toArray, List.set_cons_zero, List.set_cons_succ, i64_w, i32_w]
                     rfl
                   refine take_ (i := 2) (N := some 82) (v := ?_) (a' := ?_) #[true, true, true, true, true, false, true, true, false, false, false, false, false, false, false] rfl rfl (take_ofW HT_.out HW_.out (by kernel_rfl)) (fun _ _ _ h => h) (Or.inl ⟨by rfl, ?_⟩) hHeld ?_ ?_
                   rotate_left
                   · rintro w' ⟨s0, s1, s2⟩
                     go_simp
                     with_reducible rfl
                   rotate_left
                   · simp only [Act.put, List.setIfInBounds_toArray, List.set_cons_zero, List.set_cons_succ, i64_w, i32_w]
                     rfl
                   refine pure_ (i := 9) (N := some 89) (v := ?_) (a' := ?_) #[true, true, true, true, true, false, true, true, false, true, false, false, false, false, false] rfl rfl (any_of HT_.out (by kernel_rfl)) (fun _ _ _ h => h) (Or.inl ⟨by rfl, ?_⟩) ?_ ?_
                   rotate_left
                   · intro w'
                     go_simp
                     with_reducible rfl
                   rotate_left
                   · simp only [Act.put, List.setIfInBounds_toArray, List.set_cons_zero, List.set_cons_succ, i64_w, i32_w]
                     rfl
                   refine take_ (i := 5) (N := some 85) (v := ?_) (a' := ?_) #[true, true, true, true, true, true, true, true, false, true, false, false, false, false, false] rfl rfl (take_ofW HT_.out HW_.out (by kernel_rfl)) (fun _ _ _ h => h) (Or.inl ⟨by rfl, ?_⟩) hHeld ?_ ?_
                   rotate_left
                   · rintro w' ⟨s0, s1, s2⟩
                     go_simp
                     with_reducible rfl
                   rotate_left
                   · simp only [Act.put, List.setIfInBounds_toArray, List.set_cons_zero, List.set_cons_succ, i64_w, i32_w]
                     rfl
                   refine take_ (i := 8) (N := some 88) (v := ?_) (a' := ?_) #[true, true, true, true, true, true, true, true, true, true, false, false, false, false, false] rfl rfl (take_ofW HT_.out HW_.out (by kernel_rfl)) (fun _ _ _ h => h) (Or.inl ⟨by rfl, ?_⟩) hHeld ?_ ?_
                   rotate_left
                   · rintro w' ⟨s0, s1, s2⟩
                     go_simp
                     with_reducible rfl
                   rotate_left
                   · simp only [Act.put, List.setIfInBounds_toArray, List.set_cons_zero, List.set_cons_succ, i64_w, i32_w]
                     rfl
                   refine one_ (i := 10) (N := none) #[true, true, true, true, true, true, true, true, true, true, true, false, false, false, false] rfl rfl (one_of HT_.out (by kernel_rfl)) (by decide) (fun K hK => ?_)
                   have hs66 : w65.cell? ⟨gb528, 2, none⟩ = some (.string (⟨#[]⟩ : ByteArray)) := (Zkc BK528.out 2).trans rfl
                   have hfs66 := Zkf BK528.out 2
                   have hns66_0 := NB527_528.out
                   have hms66_0 := NB528_527.out
                   refine skip_ (w1 := ?_) (by rfl) rfl ?_ ?_
                   rotate_left
                   · go_simp
                     rfl
                   refine hK.out _ _ ⟨((cell_far (p := ⟨gb528, _, none⟩) (by first | exact Nat.ne_of_lt (Nat.lt_of_lt_of_le (by have := Zlt _ _ hw547_0; first | rwa [Zab] at this | exact this) GW528.out) | (rw [Zab]; exact Nat.ne_of_lt (Nat.lt_of_lt_of_le (by have := Zlt _ _ hw547_0; first | rwa [Zab] at this | exact this) GW528.out)) | (show (Addr.add _ _).block ≠ _; rw [Zab]; exact Nat.ne_of_lt (Nat.lt_of_lt_of_le (by have := Zlt _ _ hw547_0; first | rwa [Zab] at this | exact this) GW528.out)) | (dsimp only; exact Nat.ne_of_lt (Nat.lt_of_lt_of_le (by have := Zlt _ _ hw547_0; first | rwa [Zab] at this | exact this) GW528.out))) _).trans (hHeld.1)), ((cell_far (p := ⟨gb528, _, none⟩) (by first | exact Nat.ne_of_lt (Nat.lt_of_lt_of_le (by have := Zlt _ _ hw548_0; first | rwa [Zab] at this | exact this) GW528.out) | (rw [Zab]; exact Nat.ne_of_lt (Nat.lt_of_lt_of_le (by have := Zlt _ _ hw548_0; first | rwa [Zab] at this | exact this) GW528.out)) | (show (Addr.add _ _).block ≠ _; rw [Zab]; exact Nat.ne_of_lt (Nat.lt_of_lt_of_le (by have := Zlt _ _ hw548_0; first | rwa [Zab] at this | exact this) GW528.out)) | (dsimp only; exact Nat.ne_of_lt (Nat.lt_of_lt_of_le (by have := Zlt _ _ hw548_0; first | rwa [Zab] at this | exact this) GW528.out))) _).trans (hHeld.2.1)), ((cell_far (p := ⟨gb528, _, none⟩) (by first | exact Nat.ne_of_lt (Nat.lt_of_lt_of_le (by have := Zlt _ _ hw549_0; first | rwa [Zab] at this | exact this) GW528.out) | (rw [Zab]; exact Nat.ne_of_lt (Nat.lt_of_lt_of_le (by have := Zlt _ _ hw549_0; first | rwa [Zab] at this | exact this) GW528.out)) | (show (Addr.add _ _).block ≠ _; rw [Zab]; exact Nat.ne_of_lt (Nat.lt_of_lt_of_le (by have := Zlt _ _ hw549_0; first | rwa [Zab] at this | exact this) GW528.out)) | (dsimp only; exact Nat.ne_of_lt (Nat.lt_of_lt_of_le (by have := Zlt _ _ hw549_0; first | rwa [Zab] at this | exact this) GW528.out))) _).trans (hHeld.2.2))⟩ (fun hHeld => ?_)
                   clear hK K
                   refine pure_ (i := 11) (N := some 90) (v := ?_) (a' := ?_) #[true, true, true, true, true, true, true, true, true, true, true, true, false, false, false] rfl rfl (any_of HT_.out (by kernel_rfl)) (fun _ _ _ h => h) (Or.inl ⟨by rfl, ?_⟩) ?_ ?_
                   rotate_left
                   · intro w'
                     go_simp
                     with_reducible rfl
                   rotate_left
                   · simp only [Act.put, List.setIfInBounds_toArray, List.set_cons_zero, List.set_cons_succ, i64_w, i32_w]
                     rfl
                   refine one_ (i := 12) (N := none) #[true, true, true, true, true, true, true, true, true, true, true, true, true, false, false] rfl rfl (one_of HT_.out (by kernel_rfl)) (by decide) (fun K hK => ?_)
                   have hs67 : w65.cell? ⟨gb528, 3, none⟩ = some (.string (⟨#[]⟩ : ByteArray)) := (Zkc BK528.out 3).trans rfl
                   have hfs67 := Zkf BK528.out 3
                   have hns67_0 := NB527_528.out
                   have hms67_0 := NB528_527.out
                   refine skip_ (w1 := ?_) (by rfl) rfl ?_ ?_
                   rotate_left
                   · go_simp
                     rfl
                   refine hK.out _ _ ⟨((cell_far (p := ⟨gb528, _, none⟩) (by first | exact Nat.ne_of_lt (Nat.lt_of_lt_of_le (by have := Zlt _ _ hw547_0; first | rwa [Zab] at this | exact this) GW528.out) | (rw [Zab]; exact Nat.ne_of_lt (Nat.lt_of_lt_of_le (by have := Zlt _ _ hw547_0; first | rwa [Zab] at this | exact this) GW528.out)) | (show (Addr.add _ _).block ≠ _; rw [Zab]; exact Nat.ne_of_lt (Nat.lt_of_lt_of_le (by have := Zlt _ _ hw547_0; first | rwa [Zab] at this | exact this) GW528.out)) | (dsimp only; exact Nat.ne_of_lt (Nat.lt_of_lt_of_le (by have := Zlt _ _ hw547_0; first | rwa [Zab] at this | exact this) GW528.out))) _).trans (hHeld.1)), ((cell_far (p := ⟨gb528, _, none⟩) (by first | exact Nat.ne_of_lt (Nat.lt_of_lt_of_le (by have := Zlt _ _ hw548_0; first | rwa [Zab] at this | exact this) GW528.out) | (rw [Zab]; exact Nat.ne_of_lt (Nat.lt_of_lt_of_le (by have := Zlt _ _ hw548_0; first | rwa [Zab] at this | exact this) GW528.out)) | (show (Addr.add _ _).block ≠ _; rw [Zab]; exact Nat.ne_of_lt (Nat.lt_of_lt_of_le (by have := Zlt _ _ hw548_0; first | rwa [Zab] at this | exact this) GW528.out)) | (dsimp only; exact Nat.ne_of_lt (Nat.lt_of_lt_of_le (by have := Zlt _ _ hw548_0; first | rwa [Zab] at this | exact this) GW528.out))) _).trans (hHeld.2.1)), ((cell_far (p := ⟨gb528, _, none⟩) (by first | exact Nat.ne_of_lt (Nat.lt_of_lt_of_le (by have := Zlt _ _ hw549_0; first | rwa [Zab] at this | exact this) GW528.out) | (rw [Zab]; exact Nat.ne_of_lt (Nat.lt_of_lt_of_le (by have := Zlt _ _ hw549_0; first | rwa [Zab] at this | exact this) GW528.out)) | (show (Addr.add _ _).block ≠ _; rw [Zab]; exact Nat.ne_of_lt (Nat.lt_of_lt_of_le (by have := Zlt _ _ hw549_0; first | rwa [Zab] at this | exact this) GW528.out)) | (dsimp only; exact Nat.ne_of_lt (Nat.lt_of_lt_of_le (by have := Zlt _ _ hw549_0; first | rwa [Zab] at this | exact this) GW528.out))) _).trans (hHeld.2.2))⟩ (fun hHeld => ?_)
                   clear hK K
                   refine pure_ (i := 13) (N := some 91) (v := ?_) (a' := ?_) #[true, true, true, true, true, true, true, true, true, true, true, true, true, true, false] rfl rfl (any_of HT_.out (by kernel_rfl)) (fun _ _ _ h => h) (Or.inl ⟨by rfl, ?_⟩) ?_ ?_
                   rotate_left
                   · intro w'
                     go_simp
                     with_reducible rfl
                   rotate_left
                   · simp only [Act.put, List.setIfInBounds_toArray, List.set_cons_zero, List.set_cons_succ, i64_w, i32_w]
                     rfl
                   refine one_ (i := 14) (N := none) #[true, true, true, true, true, true, true, true, true, true, true, true, true, true, true] rfl rfl (one_of HT_.out (by kernel_rfl)) (by decide) (fun K hK => ?_)
                   have hs68 : w65.cell? ⟨gb528, 4, none⟩ = some (.string (⟨#[]⟩ : ByteArray)) := (Zkc BK528.out 4).trans rfl
                   have hfs68 := Zkf BK528.out 4
                   have hns68_0 := NB527_528.out
                   have hms68_0 := NB528_527.out
                   refine skip_ (w1 := ?_) (by rfl) rfl ?_ ?_
                   rotate_left
                   · go_simp
                     rfl
                   refine hK.out _ _ ⟨((cell_far (p := ⟨gb528, _, none⟩) (by first | exact Nat.ne_of_lt (Nat.lt_of_lt_of_le (by have := Zlt _ _ hw547_0; first | rwa [Zab] at this | exact this) GW528.out) | (rw [Zab]; exact Nat.ne_of_lt (Nat.lt_of_lt_of_le (by have := Zlt _ _ hw547_0; first | rwa [Zab] at this | exact this) GW528.out)) | (show (Addr.add _ _).block ≠ _; rw [Zab]; exact Nat.ne_of_lt (Nat.lt_of_lt_of_le (by have := Zlt _ _ hw547_0; first | rwa [Zab] at this | exact this) GW528.out)) | (dsimp only; exact Nat.ne_of_lt (Nat.lt_of_lt_of_le (by have := Zlt _ _ hw547_0; first | rwa [Zab] at this | exact this) GW528.out))) _).trans (hHeld.1)), ((cell_far (p := ⟨gb528, _, none⟩) (by first | exact Nat.ne_of_lt (Nat.lt_of_lt_of_le (by have := Zlt _ _ hw548_0; first | rwa [Zab] at this | exact this) GW528.out) | (rw [Zab]; exact Nat.ne_of_lt (Nat.lt_of_lt_of_le (by have := Zlt _ _ hw548_0; first | rwa [Zab] at this | exact this) GW528.out)) | (show (Addr.add _ _).block ≠ _; rw [Zab]; exact Nat.ne_of_lt (Nat.lt_of_lt_of_le (by have := Zlt _ _ hw548_0; first | rwa [Zab] at this | exact this) GW528.out)) | (dsimp only; exact Nat.ne_of_lt (Nat.lt_of_lt_of_le (by have := Zlt _ _ hw548_0; first | rwa [Zab] at this | exact this) GW528.out))) _).trans (hHeld.2.1)), ((cell_far (p := ⟨gb528, _, none⟩) (by first | exact Nat.ne_of_lt (Nat.lt_of_lt_of_le (by have := Zlt _ _ hw549_0; first | rwa [Zab] at this | exact this) GW528.out) | (rw [Zab]; exact Nat.ne_of_lt (Nat.lt_of_lt_of_le (by have := Zlt _ _ hw549_0; first | rwa [Zab] at this | exact this) GW528.out)) | (show (Addr.add _ _).block ≠ _; rw [Zab]; exact Nat.ne_of_lt (Nat.lt_of_lt_of_le (by have := Zlt _ _ hw549_0; first | rwa [Zab] at this | exact this) GW528.out)) | (dsimp only; exact Nat.ne_of_lt (Nat.lt_of_lt_of_le (by have := Zlt _ _ hw549_0; first | rwa [Zab] at this | exact this) GW528.out))) _).trans (hHeld.2.2))⟩ (fun hHeld => ?_)
                   clear hK K
                   refine done_ (done_of HT_.out (by kernel_rfl)) ?_
                   have hnb69 := NB528_527.out
                   have hnc69 := NB527_528.out
                   obtain ⟨hcz70_0, hcz70_1, hcz70_2, hcz70_3, hcz70_4, hfz70_0, hfz70_1, hfz70_2, hfz70_3, hfz70_4⟩ := cf5 BK528.out
                   obtain ⟨hcz71_0, hcz71_1, hcz71_2, hcz71_3, hcz71_4, hfz71_0, hfz71_1, hfz71_2, hfz71_3, hfz71_4⟩ := cf5 BK527.out
                   try go_wp2
                   (try (have e_ := hdv549.out; clear hdv549; subst e_))
                   (try (have e_ := hdv548.out; clear hdv548; subst e_))
                   (try (have e_ := hdv547.out; clear hdv547; subst e_))
                   refine bodyPost_ret (results_ct rfl _ _ gb527 44 #[.int .i64 x529000_1, .int .i64 0, .string (rdOf ByteArray.empty (l0.drop 1) 0), .string (rdOf ByteArray.empty (l0.drop 1) 1), .string (rdOf ByteArray.empty (l0.drop 1) 2)] (0, 0) _ rfl zc_ Tryz.underlying44 rfl (by kernel_rfl)) rfl ?_
                   exact ⟨by first | rfl | (simp [*] <;> rfl), hb_⟩
                 rw [if_pos c50] at H
                 have c50b0 : (t534.toList == ([102] : List UInt8)) = true := beq_iff_eq.mpr c50
                 have c50b1 : (t534.toList != ([102] : List UInt8)) = false := bne_eq_false_iff_eq.mpr c50
                 clear c50
                 by_cases c51 : 0 < ((l0.drop 1).length : Int)
                 rotate_left
                 · rw [if_neg c51] at H
                   exact absurd H (by simp)
                 rw [if_pos c51] at H
                 have c51b0 := decide_eq_true c51
                 have c51b1 : decide (0 < (l0.drop 1).length) = true := decide_eq_true (by omega)
                 clear c51
                 by_cases c52 : 1 < ((l0.drop 1).length : Int)
                 rotate_left
                 · rw [if_neg c52] at H
                   exact absurd H (by simp)
                 rw [if_pos c52] at H
                 have c52b0 := decide_eq_true c52
                 have c52b1 : decide (1 < (l0.drop 1).length) = true := decide_eq_true (by omega)
                 clear c52
                 by_cases c53 : 2 < ((l0.drop 1).length : Int)
                 rotate_left
                 · rw [if_neg c53] at H
                   exact absurd H (by simp)
                 rw [if_pos c53] at H
                 have c53b0 := decide_eq_true c53
                 have c53b1 : decide (2 < (l0.drop 1).length) = true := decide_eq_true (by omega)
                 clear c53
                 simp only [Option.some.injEq, Prod.mk.injEq] at H
                 obtain ⟨rfl, rfl, rfl, rfl, rfl, rfl⟩ := H
                 try go_wp2
                 have n0_ := (⟨Zm (Zkd BK527.out), Zm (Zkd BK528.out), Zm (Zbd HB.out)⟩ : _ ∧ _ ∧ _)
                 clear BK527 BK528 HB
                 obtain ⟨BK527, BK528, HB⟩ := n0_
                 have p544 : 0 ≤ (0 : Int) := (by omega)
                 have q544 : 0 < ((l0.drop 1).length : Int) := of_decide_eq_true (by first | (with_reducible assumption) | assumption)
                 obtain ⟨ad544, e544, hx544_0⟩ := Kd.at_string HR535.out 0 p544 q544
                 obtain ⟨dv544, hdv544⟩ : ∃ z_, Aside0 (z_ = (rdOf ByteArray.empty (l0.drop 1) 0)) := ⟨_, ⟨rfl⟩⟩
                 (try rw [show ((1 : Int)).toNat = 1 from rfl] at hx544_0)
                 rw [← hdv544.out] at hx544_0
                 have hw544_0 := hx544_0
                 (try rw [show ((0 : Int)).toNat = 0 from rfl] at hw544_0)
                 (try rw [show 0 * 1 = 0 from rfl] at hw544_0)
                 (try rw [Addr.add_zero'] at hw544_0)
                 cases e544
                 have qi544 : (0 < (l0.drop 1).length) = True := eq_true (by omega)
                 have qi544y := qi544
                 (try simp only [List.length_drop] at qi544y)
                 (try rw [show ((0 : Int)).toNat = 0 from rfl] at hx544_0)
                 (try rw [Addr.add_zero'] at hx544_0)
                 replace hx544_0 := hx_ HB hx544_0 (Zlt _ _ hx544_0)
                 replace p544 := eq_true p544
                 replace q544 := eq_true q544
                 have q544y := q544
                 (try simp only [List.length_drop] at q544y)
                 have p545 : 0 ≤ (1 : Int) := (by omega)
                 have q545 : 1 < ((l0.drop 1).length : Int) := of_decide_eq_true (by first | (with_reducible assumption) | assumption)
                 obtain ⟨ad545, e545, hx545_0⟩ := Kd.at_string HR535.out 1 p545 q545
                 obtain ⟨dv545, hdv545⟩ : ∃ z_, Aside0 (z_ = (rdOf ByteArray.empty (l0.drop 1) 1)) := ⟨_, ⟨rfl⟩⟩
                 (try rw [show ((1 : Int)).toNat = 1 from rfl] at hx545_0)
                 rw [← hdv545.out] at hx545_0
                 have hw545_0 := hx545_0
                 (try rw [show ((1 : Int)).toNat = 1 from rfl] at hw545_0)
                 (try rw [show 1 * 1 = 1 from rfl] at hw545_0)
                 (try simp only [Nat.reduceMul, Nat.reduceEqDiff, Go.Addr.add, ↓reduceIte] at hw545_0)
                 obtain rfl : ad544 = ad545 := (by injection e545)
                 (try simp only [show (1 : Int).toNat = 1 from rfl, Nat.reduceMul, Nat.reduceEqDiff, Go.Addr.add, ↓reduceIte] at hx545_0)
                 have qi545 : (1 < (l0.drop 1).length) = True := eq_true (by omega)
                 have qi545y := qi545
                 (try simp only [List.length_drop] at qi545y)
                 (try rw [show ((1 : Int)).toNat = 1 from rfl] at hx545_0)
                 replace hx545_0 := hx_ HB hx545_0 (Zlt _ _ hx545_0)
                 replace p545 := eq_true p545
                 replace q545 := eq_true q545
                 have q545y := q545
                 (try simp only [List.length_drop] at q545y)
                 have p546 : 0 ≤ (2 : Int) := (by omega)
                 have q546 : 2 < ((l0.drop 1).length : Int) := of_decide_eq_true (by first | (with_reducible assumption) | assumption)
                 obtain ⟨ad546, e546, hx546_0⟩ := Kd.at_string HR535.out 2 p546 q546
                 obtain ⟨dv546, hdv546⟩ : ∃ z_, Aside0 (z_ = (rdOf ByteArray.empty (l0.drop 1) 2)) := ⟨_, ⟨rfl⟩⟩
                 (try rw [show ((1 : Int)).toNat = 1 from rfl] at hx546_0)
                 rw [← hdv546.out] at hx546_0
                 have hw546_0 := hx546_0
                 (try rw [show ((2 : Int)).toNat = 2 from rfl] at hw546_0)
                 (try rw [show 2 * 1 = 2 from rfl] at hw546_0)
                 (try simp only [Nat.reduceMul, Nat.reduceEqDiff, Go.Addr.add, ↓reduceIte] at hw546_0)
                 obtain rfl : ad544 = ad546 := (by injection e546)
                 (try simp only [show (2 : Int).toNat = 2 from rfl, Nat.reduceMul, Nat.reduceEqDiff, Go.Addr.add, ↓reduceIte] at hx546_0)
                 have qi546 : (2 < (l0.drop 1).length) = True := eq_true (by omega)
                 have qi546y := qi546
                 (try simp only [List.length_drop] at qi546y)
                 (try rw [show ((2 : Int)).toNat = 2 from rfl] at hx546_0)
                 replace hx546_0 := hx_ HB hx546_0 (Zlt _ _ hx546_0)
                 replace p546 := eq_true p546
                 replace q546 := eq_true q546
                 have q546y := q546
                 (try simp only [List.length_drop] at q546y)
                 refine start_ (n := 15) (S := fun w' => w'.cell? ad544 = some (.string dv544) ∧ w'.cell? ⟨ad544.block, ad544.off + 1, none⟩ = some (.string dv545) ∧ w'.cell? ⟨ad544.block, ad544.off + 2, none⟩ = some (.string dv546)) (ds := []) #[false, false, false, false, false, false, false, false, false, false, false, false, false, false, false] (by kernel_rfl) rfl rfl ⟨((HB.out.cell (Zlt _ _ hw544_0)).trans hw544_0), ((HB.out.cell (Zlt _ _ hw545_0)).trans hw545_0), ((HB.out.cell (Zlt _ _ hw546_0)).trans hw546_0)⟩ (fun hHeld => ?_); refine with_tabW impl_insOf.tab25 impl_insOf.bits25 (fun HT_ HW_ => ?_)
                 generalize wc.drew = w54 at BK527 BK528 HB hx544_0 hx545_0 hx546_0 hHeld ⊢
                 refine pure_ (i := 0) (N := some 80) (v := ?_) (a' := ?_) #[true, false, false, false, false, false, false, false, false, false, false, false, false, false, false] rfl rfl (any_of HT_.out (by kernel_rfl)) (fun _ _ _ h => h) (Or.inl ⟨by rfl, ?_⟩) ?_ ?_
                 rotate_left
                 · intro w'
                   go_simp
                   with_reducible rfl
                 rotate_left
                 · simp only [Act.put, List.setIfInBounds_toArray, List.set_cons_zero, List.set_cons_succ, i64_w, i32_w]
                   rfl
                 refine pure_ (i := 1) (N := some 81) (v := ?_) (a' := ?_) #[true, true, false, false, false, false, false, false, false, false, false, false, false, false, false] rfl rfl (any_of HT_.out (by kernel_rfl)) (fun _ _ _ h => h) (Or.inl ⟨by rfl, ?_⟩) ?_ ?_
                 rotate_left
                 · intro w'
                   go_simp
                   with_reducible rfl
                 rotate_left
                 · simp only [Act.put, List.setIfInBounds_toArray, List.set_cons_zero, List.set_cons_succ, i64_w, i32_w]
                   rfl
                 refine pure_ (i := 3) (N := some 83) (v := ?_) (a' := ?_) #[true, true, false, true, false, false, false, false, false, false, false, false, false, false, false] rfl rfl (any_of HT_.out (by kernel_rfl)) (fun _ _ _ h => h) (Or.inl ⟨by rfl, ?_⟩) ?_ ?_
                 rotate_left
                 · intro w'
                   go_simp
                   with_reducible rfl
                 rotate_left
                 · simp only [Act.put, List.setIfInBounds_toArray, List.set_cons_zero, List.set_cons_succ, i64_w, i32_w]
                   rfl
                 refine pure_ (i := 4) (N := some 84) (v := ?_) (a' := ?_) #[true, true, false, true, true, false, false, false, false, false, false, false, false, false, false] rfl rfl (any_of HT_.out (by kernel_rfl)) (fun _ _ _ h => h) (Or.inl ⟨by rfl, ?_⟩) ?_ ?_
                 rotate_left
                 · intro w'
                   go_simp
                   with_reducible rfl
                 rotate_left
                 · simp only [Act.put, List.setIfInBounds_toArray, List.set_cons_zero, List.set_cons_succ, i64_w, i32_w]
                   rfl
                 refine pure_ (i := 6) (N := some 86) (v := ?_) (a' := ?_) #[true, true, false, true, true, false, true, false, false, false, false, false, false, false, false] rfl rfl (any_of HT_.out (by kernel_rfl)) (fun _ _ _ h => h) (Or.inl ⟨by rfl, ?_⟩) ?_ ?_
                 rotate_left
                 · intro w'
                   go_simp
                   with_reducible rfl
                 rotate_left
                 · simp only [Act.put, List.setIfInBounds_toArray, List.set_cons_zero, List.set_cons_succ, i64_w, i32_w]
                   rfl
                 refine pure_ (i := 7) (N := some 87) (v := ?_) (a' := ?_) #[true, true, false, true, true, false, true, true, false, false, false, false, false, false, false] rfl rfl (any_of HT_.out (by kernel_rfl)) (fun _ _ _ h => h) (Or.inl ⟨by rfl, ?_⟩) ?_ ?_
                 rotate_left
                 · intro w'
                   go_simp
                   with_reducible rfl
                 rotate_left
                 · simp only [Act.put, List.setIfInBounds_toArray, List.set_cons_zero, List.set_cons_succ, i64_w, i32_w]
                   rfl
                 refine take_ (i := 2) (N := some 82) (v := ?_) (a' := ?_) #[true, true, true, true, true, false, true, true, false, false, false, false, false, false, false] rfl rfl (take_ofW HT_.out HW_.out (by kernel_rfl)) (fun _ _ _ h => h) (Or.inl ⟨by rfl, ?_⟩) hHeld ?_ ?_
                 rotate_left
                 · rintro w' ⟨s0, s1, s2⟩
                   go_simp
                   with_reducible rfl
                 rotate_left
                 · simp only [Act.put, List.setIfInBounds_toArray, List.set_cons_zero, List.set_cons_succ, i64_w, i32_w]
                   rfl
                 refine pure_ (i := 9) (N := some 89) (v := ?_) (a' := ?_) #[true, true, true, true, true, false, true, true, false, true, false, false, false, false, false] rfl rfl (any_of HT_.out (by kernel_rfl)) (fun _ _ _ h => h) (Or.inl ⟨by rfl, ?_⟩) ?_ ?_
                 rotate_left
                 · intro w'
                   go_simp
                   with_reducible rfl
                 rotate_left
                 · simp only [Act.put, List.setIfInBounds_toArray, List.set_cons_zero, List.set_cons_succ, i64_w, i32_w]
                   rfl
                 refine take_ (i := 5) (N := some 85) (v := ?_) (a' := ?_) #[true, true, true, true, true, true, true, true, false, true, false, false, false, false, false] rfl rfl (take_ofW HT_.out HW_.out (by kernel_rfl)) (fun _ _ _ h => h) (Or.inl ⟨by rfl, ?_⟩) hHeld ?_ ?_
                 rotate_left
                 · rintro w' ⟨s0, s1, s2⟩
                   go_simp
                   with_reducible rfl
                 rotate_left
                 · simp only [Act.put, List.setIfInBounds_toArray, List.set_cons_zero, List.set_cons_succ, i64_w, i32_w]
                   rfl
                 refine take_ (i := 8) (N := some 88) (v := ?_) (a' := ?_) #[true, true, true, true, true, true, true, true, true, true, false, false, false, false, false] rfl rfl (take_ofW HT_.out HW_.out (by kernel_rfl)) (fun _ _ _ h => h) (Or.inl ⟨by rfl, ?_⟩) hHeld ?_ ?_
                 rotate_left
                 · rintro w' ⟨s0, s1, s2⟩
                   go_simp
                   with_reducible rfl
                 rotate_left
                 · simp only [Act.put, List.setIfInBounds_toArray, List.set_cons_zero, List.set_cons_succ, i64_w, i32_w]
                   rfl
                 refine one_ (i := 10) (N := none) #[true, true, true, true, true, true, true, true, true, true, true, false, false, false, false] rfl rfl (one_of HT_.out (by kernel_rfl)) (by decide) (fun K hK => ?_)
                 have hs55 : w54.cell? ⟨gb528, 2, none⟩ = some (.string (⟨#[]⟩ : ByteArray)) := (Zkc BK528.out 2).trans rfl
                 have hfs55 := Zkf BK528.out 2
                 have hns55_0 := NB527_528.out
                 have hms55_0 := NB528_527.out
                 refine skip_ (w1 := ?_) (by rfl) rfl ?_ ?_
                 rotate_left
                 · go_simp
                   rfl
                 refine hK.out _ _ ⟨((cell_far (p := ⟨gb528, _, none⟩) (by first | exact Nat.ne_of_lt (Nat.lt_of_lt_of_le (by have := Zlt _ _ hw544_0; first | rwa [Zab] at this | exact this) GW528.out) | (rw [Zab]; exact Nat.ne_of_lt (Nat.lt_of_lt_of_le (by have := Zlt _ _ hw544_0; first | rwa [Zab] at this | exact this) GW528.out)) | (show (Addr.add _ _).block ≠ _; rw [Zab]; exact Nat.ne_of_lt (Nat.lt_of_lt_of_le (by have := Zlt _ _ hw544_0; first | rwa [Zab] at this | exact this) GW528.out)) | (dsimp only; exact Nat.ne_of_lt (Nat.lt_of_lt_of_le (by have := Zlt _ _ hw544_0; first | rwa [Zab] at this | exact this) GW528.out))) _).trans (hHeld.1)), ((cell_far (p := ⟨gb528, _, none⟩) (by first | exact Nat.ne_of_lt (Nat.lt_of_lt_of_le (by have := Zlt _ _ hw545_0; first | rwa [Zab] at this | exact this) GW528.out) | (rw [Zab]; exact Nat.ne_of_lt (Nat.lt_of_lt_of_le (by have := Zlt _ _ hw545_0; first | rwa [Zab] at this | exact this) GW528.out)) | (show (Addr.add _ _).block ≠ _; rw [Zab]; exact Nat.ne_of_lt (Nat.lt_of_lt_of_le (by have := Zlt _ _ hw545_0; first | rwa [Zab] at this | exact this) GW528.out)) | (dsimp only; exact Nat.ne_of_lt (Nat.lt_of_lt_of_le (by have := Zlt _ _ hw545_0; first | rwa [Zab] at this | exact this) GW528.out))) _).trans (hHeld.2.1)), ((cell_far (p := ⟨gb528, _, none⟩) (by first | exact Nat.ne_of_lt (Nat.lt_of_lt_of_le (by have := Zlt _ _ hw546_0; first | rwa [Zab] at this | exact this) GW528.out) | (rw [Zab]; exact Nat.ne_of_lt (Nat.lt_of_lt_of_le (by have := Zlt _ _ hw546_0; first | rwa [Zab] at this | exact this) GW528.out)) | (show (Addr.add _ _).block ≠ _; rw [Zab]; exact Nat.ne_of_lt (Nat.lt_of_lt_of_le (by have := Zlt _ _ hw546_0; first | rwa [Zab] at this | exact this) GW528.out)) | (dsimp only; exact Nat.ne_of_lt (Nat.lt_of_lt_of_le (by have := Zlt _ _ hw546_0; first | rwa [Zab] at this | exact this) GW528.out))) _).trans (hHeld.2.2))⟩ (fun hHeld => ?_)
                 clear hK K
                 refine pure_ (i := 11) (N := some 90) (v := ?_) (a' := ?_) #[true, true, true, true, true, true, true, true, true, true, true, true, false, false, false] rfl rfl (any_of HT_.out (by kernel_rfl)) (fun _ _ _ h => h) (Or.inl ⟨by rfl, ?_⟩) ?_ ?_
                 rotate_left
                 · intro w'
                   go_simp
                   with_reducible rfl
                 rotate_left
                 · simp only [Act.put, List.setIfInBounds_toArray, List.set_cons_zero, List.set_cons_succ, i64_w, i32_w]
                   rfl
                 refine one_ (i := 12) (N := none) #[true, true, true, true, true, true, true, true, true, true, true, true, true, false, false] rfl rfl (one_of HT_.out (by kernel_rfl)) (by decide) (fun K hK => ?_)
                 have hs56 : w54.cell? ⟨gb528, 3, none⟩ = some (.string (⟨#[]⟩ : ByteArray)) := (Zkc BK528.out 3).trans rfl
                 have hfs56 := Zkf BK528.out 3
                 have hns56_0 := NB527_528.out
                 have hms56_0 := NB528_527.out
                 refine skip_ (w1 := ?_) (by rfl) rfl ?_ ?_
                 rotate_left
                 · go_simp
                   rfl
                 refine hK.out _ _ ⟨((cell_far (p := ⟨gb528, _, none⟩) (by first | exact Nat.ne_of_lt (Nat.lt_of_lt_of_le (by have := Zlt _ _ hw544_0; first | rwa [Zab] at this | exact this) GW528.out) | (rw [Zab]; exact Nat.ne_of_lt (Nat.lt_of_lt_of_le (by have := Zlt _ _ hw544_0; first | rwa [Zab] at this | exact this) GW528.out)) | (show (Addr.add _ _).block ≠ _; rw [Zab]; exact Nat.ne_of_lt (Nat.lt_of_lt_of_le (by have := Zlt _ _ hw544_0; first | rwa [Zab] at this | exact this) GW528.out)) | (dsimp only; exact Nat.ne_of_lt (Nat.lt_of_lt_of_le (by have := Zlt _ _ hw544_0; first | rwa [Zab] at this | exact this) GW528.out))) _).trans (hHeld.1)), ((cell_far (p := ⟨gb528, _, none⟩) (by first | exact Nat.ne_of_lt (Nat.lt_of_lt_of_le (by have := Zlt _ _ hw545_0; first | rwa [Zab] at this | exact this) GW528.out) | (rw [Zab]; exact Nat.ne_of_lt (Nat.lt_of_lt_of_le (by have := Zlt _ _ hw545_0; first | rwa [Zab] at this | exact this) GW528.out)) | (show (Addr.add _ _).block ≠ _; rw [Zab]; exact Nat.ne_of_lt (Nat.lt_of_lt_of_le (by have := Zlt _ _ hw545_0; first | rwa [Zab] at this | exact this) GW528.out)) | (dsimp only; exact Nat.ne_of_lt (Nat.lt_of_lt_of_le (by have := Zlt _ _ hw545_0; first | rwa [Zab] at this | exact this) GW528.out))) _).trans (hHeld.2.1)), ((cell_far (p := ⟨gb528, _, none⟩) (by first | exact Nat.ne_of_lt (Nat.lt_of_lt_of_le (by have := Zlt _ _ hw546_0; first | rwa [Zab] at this | exact this) GW528.out) | (rw [Zab]; exact Nat.ne_of_lt (Nat.lt_of_lt_of_le (by have := Zlt _ _ hw546_0; first | rwa [Zab] at this | exact this) GW528.out)) | (show (Addr.add _ _).block ≠ _; rw [Zab]; exact Nat.ne_of_lt (Nat.lt_of_lt_of_le (by have := Zlt _ _ hw546_0; first | rwa [Zab] at this | exact this) GW528.out)) | (dsimp only; exact Nat.ne_of_lt (Nat.lt_of_lt_of_le (by have := Zlt _ _ hw546_0; first | rwa [Zab] at this | exact this) GW528.out))) _).trans (hHeld.2.2))⟩ (fun hHeld => ?_)
                 clear hK K
                 refine pure_ (i := 13) (N := some 91) (v := ?_) (a' := ?_) #[true, true, true, true, true, true, true, true, true, true, true, true, true, true, false] rfl rfl (any_of HT_.out (by kernel_rfl)) (fun _ _ _ h => h) (Or.inl ⟨by rfl, ?_⟩) ?_ ?_
                 rotate_left
                 · intro w'
                   go_simp
                   with_reducible rfl
                 rotate_left
                 · simp only [Act.put, List.setIfInBounds_toArray, List.set_cons_zero, List.set_cons_succ, i64_w, i32_w]
                   rfl
                 refine one_ (i := 14) (N := none) #[true, true, true, true, true, true, true, true, true, true, true, true, true, true, true] rfl rfl (one_of HT_.out (by kernel_rfl)) (by decide) (fun K hK => ?_)
                 have hs57 : w54.cell? ⟨gb528, 4, none⟩ = some (.string (⟨#[]⟩ : ByteArray)) := (Zkc BK528.out 4).trans rfl
                 have hfs57 := Zkf BK528.out 4
                 have hns57_0 := NB527_528.out
                 have hms57_0 := NB528_527.out
                 refine skip_ (w1 := ?_) (by rfl) rfl ?_ ?_
                 rotate_left
                 · go_simp
                   rfl
                 refine hK.out _ _ ⟨((cell_far (p := ⟨gb528, _, none⟩) (by first | exact Nat.ne_of_lt (Nat.lt_of_lt_of_le (by have := Zlt _ _ hw544_0; first | rwa [Zab] at this | exact this) GW528.out) | (rw [Zab]; exact Nat.ne_of_lt (Nat.lt_of_lt_of_le (by have := Zlt _ _ hw544_0; first | rwa [Zab] at this | exact this) GW528.out)) | (show (Addr.add _ _).block ≠ _; rw [Zab]; exact Nat.ne_of_lt (Nat.lt_of_lt_of_le (by have := Zlt _ _ hw544_0; first | rwa [Zab] at this | exact this) GW528.out)) | (dsimp only; exact Nat.ne_of_lt (Nat.lt_of_lt_of_le (by have := Zlt _ _ hw544_0; first | rwa [Zab] at this | exact this) GW528.out))) _).trans (hHeld.1)), ((cell_far (p := ⟨gb528, _, none⟩) (by first | exact Nat.ne_of_lt (Nat.lt_of_lt_of_le (by have := Zlt _ _ hw545_0; first | rwa [Zab] at this | exact this) GW528.out) | (rw [Zab]; exact Nat.ne_of_lt (Nat.lt_of_lt_of_le (by have := Zlt _ _ hw545_0; first | rwa [Zab] at this | exact this) GW528.out)) | (show (Addr.add _ _).block ≠ _; rw [Zab]; exact Nat.ne_of_lt (Nat.lt_of_lt_of_le (by have := Zlt _ _ hw545_0; first | rwa [Zab] at this | exact this) GW528.out)) | (dsimp only; exact Nat.ne_of_lt (Nat.lt_of_lt_of_le (by have := Zlt _ _ hw545_0; first | rwa [Zab] at this | exact this) GW528.out))) _).trans (hHeld.2.1)), ((cell_far (p := ⟨gb528, _, none⟩) (by first | exact Nat.ne_of_lt (Nat.lt_of_lt_of_le (by have := Zlt _ _ hw546_0; first | rwa [Zab] at this | exact this) GW528.out) | (rw [Zab]; exact Nat.ne_of_lt (Nat.lt_of_lt_of_le (by have := Zlt _ _ hw546_0; first | rwa [Zab] at this | exact this) GW528.out)) | (show (Addr.add _ _).block ≠ _; rw [Zab]; exact Nat.ne_of_lt (Nat.lt_of_lt_of_le (by have := Zlt _ _ hw546_0; first | rwa [Zab] at this | exact this) GW528.out)) | (dsimp only; exact Nat.ne_of_lt (Nat.lt_of_lt_of_le (by have := Zlt _ _ hw546_0; first | rwa [Zab] at this | exact this) GW528.out))) _).trans (hHeld.2.2))⟩ (fun hHeld => ?_)
                 clear hK K
                 refine done_ (done_of HT_.out (by kernel_rfl)) ?_
                 have hnb58 := NB528_527.out
                 have hnc58 := NB527_528.out
                 obtain ⟨hcz59_0, hcz59_1, hcz59_2, hcz59_3, hcz59_4, hfz59_0, hfz59_1, hfz59_2, hfz59_3, hfz59_4⟩ := cf5 BK528.out
                 obtain ⟨hcz60_0, hcz60_1, hcz60_2, hcz60_3, hcz60_4, hfz60_0, hfz60_1, hfz60_2, hfz60_3, hfz60_4⟩ := cf5 BK527.out
                 try go_wp2
                 (try (have e_ := hdv546.out; clear hdv546; subst e_))
                 (try (have e_ := hdv545.out; clear hdv545; subst e_))
                 (try (have e_ := hdv544.out; clear hdv544; subst e_))
                 refine bodyPost_ret (results_ct rfl _ _ gb527 44 #[.int .i64 x529000_1, .int .i64 0, .string (rdOf ByteArray.empty (l0.drop 1) 0), .string (rdOf ByteArray.empty (l0.drop 1) 1), .string (rdOf ByteArray.empty (l0.drop 1) 2)] (0, 0) _ rfl zc_ Tryz.underlying44 rfl (by kernel_rfl)) rfl ?_
                 exact ⟨by first | rfl | (simp [*] <;> rfl), hb_⟩
               rw [if_pos c45] at H
               have c45b0 : (t534.toList == ([121] : List UInt8)) = true := beq_iff_eq.mpr c45
               have c45b1 : (t534.toList != ([121] : List UInt8)) = false := bne_eq_false_iff_eq.mpr c45
               clear c45
               by_cases c46 : 0 < ((l0.drop 1).length : Int)
               rotate_left
               · rw [if_neg c46] at H
                 exact absurd H (by simp)
               rw [if_pos c46] at H
               have c46b0 := decide_eq_true c46
               have c46b1 : decide (0 < (l0.drop 1).length) = true := decide_eq_true (by omega)
               clear c46
               simp only [Option.some.injEq, Prod.mk.injEq] at H
               obtain ⟨rfl, rfl, rfl, rfl, rfl, rfl⟩ := H
               have p543 : 0 ≤ (0 : Int) := (by omega)
               have q543 : 0 < ((l0.drop 1).length : Int) := of_decide_eq_true (by first | (with_reducible assumption) | assumption)
               obtain ⟨ad543, e543, hx543_0⟩ := Kd.at_string HR535.out 0 p543 q543
               obtain ⟨dv543, hdv543⟩ : ∃ z_, Aside0 (z_ = (rdOf ByteArray.empty (l0.drop 1) 0)) := ⟨_, ⟨rfl⟩⟩
               (try rw [show ((1 : Int)).toNat = 1 from rfl] at hx543_0)
               rw [← hdv543.out] at hx543_0
               cases e543
               have qi543 : (0 < (l0.drop 1).length) = True := eq_true (by omega)
               have qi543y := qi543
               (try simp only [List.length_drop] at qi543y)
               (try rw [show ((0 : Int)).toNat = 0 from rfl] at hx543_0)
               (try rw [Addr.add_zero'] at hx543_0)
               replace hx543_0 := hx_ HB hx543_0 (Zlt _ _ hx543_0)
               replace p543 := eq_true p543
               replace q543 := eq_true q543
               have q543y := q543
               (try simp only [List.length_drop] at q543y)
               have hnb47 := NB528_527.out
               have hnc47 := NB527_528.out
               obtain ⟨hcz48_0, hcz48_1, hcz48_2, hcz48_3, hcz48_4, hfz48_0, hfz48_1, hfz48_2, hfz48_3, hfz48_4⟩ := cf5 BK528.out
               obtain ⟨hcz49_0, hcz49_1, hcz49_2, hcz49_3, hcz49_4, hfz49_0, hfz49_1, hfz49_2, hfz49_3, hfz49_4⟩ := cf5 BK527.out
               go_wp2
               (try (have e_ := hdv543.out; clear hdv543; subst e_))
               refine bodyPost_ret (results_ct rfl _ _ gb527 44 #[.int .i64 x529000_1, .int .i64 0, .string (⟨#[]⟩ : ByteArray), .string (⟨#[]⟩ : ByteArray), .string (rdOf ByteArray.empty (l0.drop 1) 0)] (0, 0) _ rfl zc_ Tryz.underlying44 rfl (by kernel_rfl)) rfl ?_
               exact ⟨by first | rfl | (simp [*] <;> rfl), hb_⟩
             rw [if_pos c40] at H
             have c40b0 : (t534.toList == ([99] : List UInt8)) = true := beq_iff_eq.mpr c40
             have c40b1 : (t534.toList != ([99] : List UInt8)) = false := bne_eq_false_iff_eq.mpr c40
             clear c40
             by_cases c41 : 0 < ((l0.drop 1).length : Int)
             rotate_left
             · rw [if_neg c41] at H
               exact absurd H (by simp)
             rw [if_pos c41] at H
             have c41b0 := decide_eq_true c41
             have c41b1 : decide (0 < (l0.drop 1).length) = true := decide_eq_true (by omega)
             clear c41
             simp only [Option.some.injEq, Prod.mk.injEq] at H
             obtain ⟨rfl, rfl, rfl, rfl, rfl, rfl⟩ := H
             have p542 : 0 ≤ (0 : Int) := (by omega)
             have q542 : 0 < ((l0.drop 1).length : Int) := of_decide_eq_true (by first | (with_reducible assumption) | assumption)
             obtain ⟨ad542, e542, hx542_0⟩ := Kd.at_string HR535.out 0 p542 q542
             obtain ⟨dv542, hdv542⟩ : ∃ z_, Aside0 (z_ = (rdOf ByteArray.empty (l0.drop 1) 0)) := ⟨_, ⟨rfl⟩⟩
             (try rw [show ((1 : Int)).toNat = 1 from rfl] at hx542_0)
             rw [← hdv542.out] at hx542_0
             cases e542
             have qi542 : (0 < (l0.drop 1).length) = True := eq_true (by omega)
             have qi542y := qi542
             (try simp only [List.length_drop] at qi542y)
             (try rw [show ((0 : Int)).toNat = 0 from rfl] at hx542_0)
             (try rw [Addr.add_zero'] at hx542_0)
             replace hx542_0 := hx_ HB hx542_0 (Zlt _ _ hx542_0)
             replace p542 := eq_true p542
             replace q542 := eq_true q542
             have q542y := q542
             (try simp only [List.length_drop] at q542y)
             have hnb42 := NB528_527.out
             have hnc42 := NB527_528.out
             obtain ⟨hcz43_0, hcz43_1, hcz43_2, hcz43_3, hcz43_4, hfz43_0, hfz43_1, hfz43_2, hfz43_3, hfz43_4⟩ := cf5 BK528.out
             obtain ⟨hcz44_0, hcz44_1, hcz44_2, hcz44_3, hcz44_4, hfz44_0, hfz44_1, hfz44_2, hfz44_3, hfz44_4⟩ := cf5 BK527.out
             go_wp2
             (try (have e_ := hdv542.out; clear hdv542; subst e_))
             refine bodyPost_ret (results_ct rfl _ _ gb527 44 #[.int .i64 x529000_1, .int .i64 0, .string (rdOf ByteArray.empty (l0.drop 1) 0), .string (⟨#[]⟩ : ByteArray), .string (⟨#[]⟩ : ByteArray)] (0, 0) _ rfl zc_ Tryz.underlying44 rfl (by kernel_rfl)) rfl ?_
             exact ⟨by first | rfl | (simp [*] <;> rfl), hb_⟩
           subst c33
           rw [if_pos rfl] at H
           by_cases c34 : 0 < ((l0.drop 1).length : Int)
           rotate_left
           · rw [if_neg c34] at H
             exact absurd H (by simp)
           rw [if_pos c34] at H
           have c34b0 := decide_eq_true c34
           have c34b1 : decide (0 < (l0.drop 1).length) = true := decide_eq_true (by omega)
           clear c34
           replace H := Option.bind_eq_some_iff.mp H
           obtain ⟨⟨t540, t541⟩, A350, H⟩ := H
           replace H : (some (x529000_1, t540, (⟨#[]⟩ : ByteArray), (⟨#[]⟩ : ByteArray), (⟨#[]⟩ : ByteArray), t541)) = some (r1, r2, r3, r4, r5, r6) := H
           have A35 := Zm A350
           clear A350
           simp only [Option.some.injEq, Prod.mk.injEq] at H
           obtain ⟨rfl, rfl, rfl, rfl, rfl, rfl⟩ := H
           have p539 : 0 ≤ (0 : Int) := (by omega)
           have q539 : 0 < ((l0.drop 1).length : Int) := of_decide_eq_true (by first | (with_reducible assumption) | assumption)
           obtain ⟨ad539, e539, hx539_0⟩ := Kd.at_string HR535.out 0 p539 q539
           obtain ⟨dv539, hdv539⟩ : ∃ z_, Aside0 (z_ = (rdOf ByteArray.empty (l0.drop 1) 0)) := ⟨_, ⟨rfl⟩⟩
           (try rw [show ((1 : Int)).toNat = 1 from rfl] at hx539_0)
           rw [← hdv539.out] at hx539_0
           (try rw [← hdv539.out] at A35)
           cases e539
           have qi539 : (0 < (l0.drop 1).length) = True := eq_true (by omega)
           have qi539y := qi539
           (try simp only [List.length_drop] at qi539y)
           (try rw [show ((0 : Int)).toNat = 0 from rfl] at hx539_0)
           (try rw [Addr.add_zero'] at hx539_0)
           replace hx539_0 := hx_ HB hx539_0 (Zlt _ _ hx539_0)
           replace p539 := eq_true p539
           replace q539 := eq_true q539
           have q539y := q539
           (try simp only [List.length_drop] at q539y)
           go_wp2_with (first | ((with_reducible refine gate_callee (f := 87) rfl ?_); refine ge_ (some 61) Tryz.func87 #[.string dv539] ?_; (with_reducible refine (impl_numberOf.calls _ _ _ _ A35.out).mono ?_); rintro e w36 ⟨rfl, hb⟩; refine ⟨_, rfl, ?_⟩; have n0_ := (⟨Zm (Zkb (pk BK527.out) hb), Zm (Zkb (pk BK528.out) hb), Zm (Zbt (bk HB.out) hb)⟩ : _ ∧ _ ∧ _); clear BK527 BK528 HB; obtain ⟨BK527, BK528, HB⟩ := n0_; (try clear hb); (try clear hb2); (try clear hk); (try clear hi); have hnb37 := NB528_527.out; have hnc37 := NB527_528.out; obtain ⟨hcz38_0, hcz38_1, hcz38_2, hcz38_3, hcz38_4, hfz38_0, hfz38_1, hfz38_2, hfz38_3, hfz38_4⟩ := cf5 BK528.out; obtain ⟨hcz39_0, hcz39_1, hcz39_2, hcz39_3, hcz39_4, hfz39_0, hfz39_1, hfz39_2, hfz39_3, hfz39_4⟩ := cf5 BK527.out))
           (try (have e_ := hdv539.out; clear hdv539; subst e_))
           refine bodyPost_ret (results_ct rfl _ _ gb527 44 #[.int .i64 x529000_1, .int .i64 t540, .string (⟨#[]⟩ : ByteArray), .string (⟨#[]⟩ : ByteArray), .string (⟨#[]⟩ : ByteArray)] (0, 0) _ rfl zc_ Tryz.underlying44 rfl (by kernel_rfl)) rfl ?_
           exact ⟨by first | rfl | (simp [*] <;> rfl), hb_⟩
       subst c27
       rw [if_pos rfl] at H
       simp only [Option.some.injEq, Prod.mk.injEq] at H
       obtain ⟨rfl, rfl, rfl, rfl, rfl, rfl⟩ := H
       have hnb28 := NB527_528.out
       have hnc28 := NB528_527.out
       obtain ⟨hcz29_0, hcz29_1, hcz29_2, hcz29_3, hcz29_4, hfz29_0, hfz29_1, hfz29_2, hfz29_3, hfz29_4⟩ := cf5 BK527.out
       go_wp2
       refine bodyPost_ret (results_ct rfl _ _ gb527 44 #[.int .i64 0, .int .i64 0, .string (⟨#[]⟩ : ByteArray), .string (⟨#[]⟩ : ByteArray), .string (⟨#[]⟩ : ByteArray)] (0, 0) _ rfl zc_ Tryz.underlying44 rfl (by kernel_rfl)) rfl ?_
       exact ⟨by first | rfl | (simp [*] <;> rfl), hb_⟩
   rw [if_pos c9] at H
   have c9b0 := decide_eq_true c9
   clear c9
   by_cases c10 : 0 ≤ x16_1
   rotate_left
   · rw [if_neg c10] at H
     exact absurd H (by simp)
   rw [if_pos c10] at H
   have c10b0 := decide_eq_true c10
   clear c10
   by_cases c11 : x16_1 < (t529.length : Int)
   rotate_left
   · rw [if_neg c11] at H
     exact absurd H (by simp)
   rw [if_pos c11] at H
   have c11b0 := decide_eq_true c11
   clear c11
   by_cases c12 : 0 < (l0.length : Int)
   rotate_left
   · rw [if_neg c12] at H
     exact absurd H (by simp)
   rw [if_pos c12] at H
   have c12b0 := decide_eq_true c12
   have c12b1 : decide (0 < l0.length) = true := decide_eq_true (by omega)
   clear c12
   have HC13 := Zm H
   clear H
   have p532 : 0 ≤ (x16_1 : Int) := of_decide_eq_true (by first | (with_reducible assumption) | assumption)
   have q532 : x16_1 < (t529.length : Int) := of_decide_eq_true (by first | (with_reducible assumption) | assumption)
   obtain ⟨ad532, e532, hx532_0⟩ := Kd.at_string (Kd.R_reads' HO_14.out).2.2 x16_1 p532 q532
   cases e532
   replace p532 := eq_true p532
   replace q532 := eq_true q532
   have p533 : 0 ≤ (0 : Int) := (by omega)
   have q533 : 0 < (l0.length : Int) := of_decide_eq_true (by first | (with_reducible assumption) | assumption)
   obtain ⟨ad533, e533, hx533_0⟩ := Kd.at_string HR0.out 0 p533 q533
   cases e533
   have qi533 : (0 < l0.length) = True := eq_true (by omega)
   (try rw [show ((0 : Int)).toNat = 0 from rfl] at hx533_0)
   (try rw [Addr.add_zero'] at hx533_0)
   replace hx533_0 := hx_ HB hx533_0 (Zlt _ _ hx533_0)
   replace p533 := eq_true p533
   replace q533 := eq_true q533
   go_upto_if 25 with (fail)
   have H := HC13.out
   clear HC13
   by_cases c14 : (rdOf ByteArray.empty l0 0).toList = (rdOf ByteArray.empty t529 x16_1).toList
   rotate_left
   · rw [if_neg c14] at H
     have c14b0 : ((rdOf ByteArray.empty l0 0).toList == (rdOf ByteArray.empty t529 x16_1).toList) = false := beq_eq_false_iff_ne.mpr c14
     have c14b1 : ((rdOf ByteArray.empty l0 0).toList != (rdOf ByteArray.empty t529 x16_1).toList) = true := bne_iff_ne.mpr c14
     (first | rw [c14b0] | (simp only [i64_w, i32_w]; rw [c14b0]) | skip)
     have H' := Zm H
     clear H
     go_wp2
     go_roundg k1
     case measure => have := HK1.out; omega
     case rel => exact ⟨(wrap64 (x16_1 + 1)), (x529000_1), (by first | rfl | (simp; done) | (simp [*]; done)), H', ⟨by have := HK1.out; omega⟩, ⟨by (with_reducible repeat (first | apply Kd.R_alloc | apply Kd.R_drewN | apply Kd.R_drew)); exact HO_14.out⟩, ⟨pk BK527.out⟩, ⟨pk BK528.out⟩, ⟨bk HB.out⟩⟩
   rw [if_pos c14] at H
   have c14b0 : ((rdOf ByteArray.empty l0 0).toList == (rdOf ByteArray.empty t529 x16_1).toList) = true := beq_iff_eq.mpr c14
   have c14b1 : ((rdOf ByteArray.empty l0 0).toList != (rdOf ByteArray.empty t529 x16_1).toList) = false := bne_eq_false_iff_eq.mpr c14
   clear c14
   (first | rw [c14b0] | (simp only [i64_w, i32_w]; rw [c14b0]) | skip)
   have H' := Zm H
   clear H
   have hnb15 := NB528_527.out
   have hnc15 := NB527_528.out
   obtain ⟨hcz16_0, hcz16_1, hcz16_2, hcz16_3, hcz16_4, hfz16_0, hfz16_1, hfz16_2, hfz16_3, hfz16_4⟩ := cf5 BK528.out
   go_wp2
   go_roundg k1
   case measure => have := HK1.out; omega
   case rel => exact ⟨(wrap64 (x16_1 + 1)), (wrap64 (x16_1 + 1)), (by first | rfl | (simp; done) | (simp [*]; done)), H', ⟨by have := HK1.out; omega⟩, ⟨by (with_reducible repeat (first | apply Kd.R_alloc | apply Kd.R_drewN | apply Kd.R_drew)); exact Kd.R_mono (Kd.R_far (p := ⟨gb528, 0, none⟩) (Kd.R_types HO_14.out BK528.out (by decide)) (fun _ hk => hk.2) (.int .i64 (wrap64 (x16_1 + 1)))) (fun _ hk => trivial)⟩, ⟨zc_⟩, ⟨zc_⟩, ⟨hb_⟩⟩
end Go.Proofs.YtcpnlfkmfpmkdaaGreatDoor.PFnInsText
