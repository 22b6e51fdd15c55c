/- Functions of the program as plain Lean functions, each with a proof that the program's call comes to the same; no condition. Written by a program of this session. -/
import Derived.Test.YtcpnlfkmfpmkdaaGreatDoorPFnInsTextx0
import Derived.Test.YtcpnlfkmfpmkdaaGreatDoorPFnInsTextx3
import Derived.Test.YtcpnlfkmfpmkdaaGreatDoorPFnInsTextx4
namespace Go.Proofs.YtcpnlfkmfpmkdaaGreatDoor.PFnInsText
open Go.RowKit Go.Proofs.YtcpnlfkmfpmkdaaGreatDoorW.PrintWords Go.Proofs.YtcpnlfkmfpmkdaaGreatDoorW.PrintLast Go.Proofs.YtcpnlfkmfpmkdaaGreatDoorW.PrintMore
open Go.Proofs.YtcpnlfkmfpmkdaaGreatDoorW.PrintWords renaming below_alloc → Zba, pw_below_drewN → Zbn, below_drew1 → Zbd, below_set → Zbs, below_size → Zbz, below_step → Zbt, blk_drewN → Zkn, blk_drew → Zkd, blk_alloc → Zka, blk_cell → Zkc, blk_frozen → Zkf, blk_far → Zkr, blk_put → Zkp, blk_below → Zkb
open Go.Proofs.YtcpnlfkmfpmkdaaGreatDoorW.PrintWords.Aside0 renaming mk → Zm
attribute [local go_sem] max2_int min2_int max_two min_two max_three min_three max_four min_four   -- for this text's walks alone
set_option linter.unusedVariables false
set_option linter.unusedSimpArgs false

/-! ### impl_descRead: function 93 -/
mutual
def impl_descRead.j2 : Nat → ByteArray → ByteArray → Int → Bool → List ByteArray → ByteArray → Option (List ByteArray × ByteArray × Int × Int)
 | 0, _, _, _, _, _, _ => none
 | k + 1, x0, x347000, x347001, x347002, x348000, x348001 => (impl_reader_take.f x347000 x347001 x347002 86).bind fun bt362 => (if bt362.1 = true then (if bt362.2.2.2 = true then (some (([] : List ByteArray), (⟨#[]⟩ : ByteArray), bt362.2.2.1, 3)) else ((impl_length.f x0).bind fun t366 => (if bt362.2.2.1 < t366 then (some (([] : List ByteArray), (⟨#[]⟩ : ByteArray), bt362.2.2.1, 3)) else (some (x348000, (⟨#[86]⟩ : ByteArray), 0, 0))))) else (if bt362.2.2.2 = true then (some (([] : List ByteArray), (⟨#[]⟩ : ByteArray), bt362.2.2.1, 3)) else ((impl_reader_kind.f k bt362.2.1 bt362.2.2.1 bt362.2.2.2).bind fun bt367 => (if bt367.2.2.2 = true then (some (([] : List ByteArray), (⟨#[]⟩ : ByteArray), bt367.2.2.1, 3)) else ((impl_length.f x0).bind fun t371 => (if bt367.2.2.1 < t371 then (some (([] : List ByteArray), (⟨#[]⟩ : ByteArray), bt367.2.2.1, 3)) else (some (x348000, bt367.1, 0, 0))))))))
def impl_descRead.l0 : Nat → ByteArray → ByteArray → Int → Bool → List ByteArray → ByteArray → Option (List ByteArray × ByteArray × Int × Int)
 | 0, _, _, _, _, _, _ => none
 | k + 1, x0, x347000, x347001, x347002, x348000, x348001 => if x347002 = true then (impl_descRead.j1 k x0 false x347000 x347001 x347002 x348000 x348001) else ((impl_reader_take.f x347000 x347001 x347002 41).bind fun bt351 => (impl_descRead.j1 k x0 (!bt351.1) bt351.2.1 bt351.2.2.1 bt351.2.2.2 x348000 x348001))
def impl_descRead.j1 : Nat → ByteArray → Bool → ByteArray → Int → Bool → List ByteArray → ByteArray → Option (List ByteArray × ByteArray × Int × Int)
 | 0, _, _, _, _, _, _, _ => none
 | k + 1, x0, x20, x347000, x347001, x347002, x348000, x348001 => if x20 = true then (if (x348000.length : Int) = 8 then (impl_descRead.j2 k x0 x347000 x347001 true x348000 x348001) else ((impl_reader_kind.f k x347000 x347001 x347002).bind fun bt355 => (if x348000.length < 8796093022208 then (impl_descRead.l0 k x0 bt355.2.1 bt355.2.2.1 bt355.2.2.2 (x348000 ++ [bt355.1]) x348001) else (none)))) else (impl_descRead.j2 k x0 x347000 x347001 x347002 x348000 x348001)
end
def impl_descRead.f (k : Nat) (a0 : ByteArray) : Option (List ByteArray × ByteArray × Int × Int) := (impl_reader_want.f a0 0 false 40).bind fun bt348 => (impl_descRead.l0 k a0 bt348.1 bt348.2.1 bt348.2.2 ([] : List ByteArray) (⟨#[]⟩ : ByteArray))
theorem impl_descRead.mono_l : ∀ k, (∀ y0 y1 y2 y3 y4 y5, LeO (impl_descRead.j2 k y0 y1 y2 y3 y4 y5) (impl_descRead.j2 (k + 1) y0 y1 y2 y3 y4 y5)) ∧ (∀ y0 y1 y2 y3 y4 y5, LeO (impl_descRead.l0 k y0 y1 y2 y3 y4 y5) (impl_descRead.l0 (k + 1) y0 y1 y2 y3 y4 y5)) ∧ (∀ y0 y1 y2 y3 y4 y5 y6, LeO (impl_descRead.j1 k y0 y1 y2 y3 y4 y5 y6) (impl_descRead.j1 (k + 1) y0 y1 y2 y3 y4 y5 y6))
 | 0 => ⟨fun _ _ _ _ _ _ r h => by simp [impl_descRead.j2] at h, fun _ _ _ _ _ _ r h => by simp [impl_descRead.l0] at h, fun _ _ _ _ _ _ _ r h => by simp [impl_descRead.j1] at h⟩
 | k + 1 => by
  obtain ⟨ih0, ih1, ih2⟩ := impl_descRead.mono_l k; refine ⟨?_, ?_, ?_⟩
  · intro y0 y1 y2 y3 y4 y5; unfold impl_descRead.j2
    repeat' first
    | (with_reducible exact ih0 _ _ _ _ _ _)
    | (with_reducible exact ih1 _ _ _ _ _ _)
    | (with_reducible exact ih2 _ _ _ _ _ _ _)
    | (with_reducible exact impl_reader_kind.mono _ _ _ _)
    | (with_reducible exact LeO.refl _)
    | (with_reducible exact LeO.none _)
    | (with_reducible refine LeO.ite ?_ ?_)
    | (with_reducible refine LeO.bind ?_ (fun _ => ?_))
    | exact ih0 _ _ _ _ _ _
    | exact ih1 _ _ _ _ _ _
    | exact ih2 _ _ _ _ _ _ _
    | exact impl_reader_kind.mono _ _ _ _
    | exact LeO.none _
    | refine LeO.ite ?_ ?_
    | refine LeO.bind ?_ (fun _ => ?_)
  · intro y0 y1 y2 y3 y4 y5; unfold impl_descRead.l0
    repeat' first
    | (with_reducible exact ih0 _ _ _ _ _ _)
    | (with_reducible exact ih1 _ _ _ _ _ _)
    | (with_reducible exact ih2 _ _ _ _ _ _ _)
    | (with_reducible exact impl_reader_kind.mono _ _ _ _)
    | (with_reducible exact LeO.refl _)
    | (with_reducible exact LeO.none _)
    | (with_reducible refine LeO.ite ?_ ?_)
    | (with_reducible refine LeO.bind ?_ (fun _ => ?_))
    | exact ih0 _ _ _ _ _ _
    | exact ih1 _ _ _ _ _ _
    | exact ih2 _ _ _ _ _ _ _
    | exact impl_reader_kind.mono _ _ _ _
    | exact LeO.none _
    | refine LeO.ite ?_ ?_
    | refine LeO.bind ?_ (fun _ => ?_)
  · intro y0 y1 y2 y3 y4 y5 y6; unfold impl_descRead.j1
    repeat' first
    | (with_reducible exact ih0 _ _ _ _ _ _)
    | (with_reducible exact ih1 _ _ _ _ _ _)
    | (with_reducible exact ih2 _ _ _ _ _ _ _)
    | (with_reducible exact impl_reader_kind.mono _ _ _ _)
    | (with_reducible exact LeO.refl _)
    | (with_reducible exact LeO.none _)
    | (with_reducible refine LeO.ite ?_ ?_)
    | (with_reducible refine LeO.bind ?_ (fun _ => ?_))
    | exact ih0 _ _ _ _ _ _
    | exact ih1 _ _ _ _ _ _
    | exact ih2 _ _ _ _ _ _ _
    | exact impl_reader_kind.mono _ _ _ _
    | exact LeO.none _
    | refine LeO.ite ?_ ?_
    | refine LeO.bind ?_ (fun _ => ?_)
theorem impl_descRead.mono : ∀ a0 k, LeO (impl_descRead.f k a0) (impl_descRead.f (k + 1) a0) := by
 intro a0 k; obtain ⟨ih0, ih1, ih2⟩ := impl_descRead.mono_l k; unfold impl_descRead.f
 repeat' first
  | (with_reducible exact ih0 _ _ _ _ _ _)
  | (with_reducible exact ih1 _ _ _ _ _ _)
  | (with_reducible exact ih2 _ _ _ _ _ _ _)
  | (with_reducible exact impl_reader_kind.mono _ _ _ _)
  | (with_reducible exact LeO.refl _)
  | (with_reducible exact LeO.none _)
  | (with_reducible refine LeO.ite ?_ ?_)
  | (with_reducible refine LeO.bind ?_ (fun _ => ?_))
  | exact ih0 _ _ _ _ _ _
  | exact ih1 _ _ _ _ _ _
  | exact ih2 _ _ _ _ _ _ _
  | exact impl_reader_kind.mono _ _ _ _
  | exact LeO.none _
  | refine LeO.ite ?_ ?_
  | refine LeO.bind ?_ (fun _ => ?_)
def impl_descRead.T6 : Bool × List (List Nat × List Nat) := (true, [([], []), ([0], [0]), ([], []), ([2], [2]), ([3], [3]), ([1, 4, 3], [1, 4]), ([0, 1, 2, 3, 4, 5], []), ([6, 5, 5, 0, 1, 2, 3, 4, 5], [5, 6])])
def impl_descRead.B6 : List Nat := [0, 1, 0, 4, 12, 31, 63, 127]
theorem impl_descRead.tab6 : rtab .any (opsOf Tryz.f93 6) = impl_descRead.T6 := by kernel_rfl
theorem impl_descRead.bits6 : waitsOk impl_descRead.T6.2 impl_descRead.B6 = true := by kernel_rfl
def impl_descRead.T11 : Bool × List (List Nat × List Nat) := (true, [([], []), ([0], [0]), ([1], [1]), ([2], [2]), ([3], [3]), ([4], [4]), ([5, 4], [4, 5]), ([6, 4], [4, 6]), ([7, 4], [4, 7]), ([4], [4]), ([9, 4, 4], [4, 9]), ([8, 10, 4], [4, 8, 10]), ([4, 11], [4, 11])])
def impl_descRead.B11 : List Nat := [0, 1, 3, 7, 15, 31, 63, 127, 255, 31, 543, 2047, 4095]
theorem impl_descRead.tab11 : rtab .any (opsOf Tryz.f93 11) = impl_descRead.T11 := by kernel_rfl
theorem impl_descRead.bits11 : waitsOk impl_descRead.T11.2 impl_descRead.B11 = true := by kernel_rfl
set_option maxHeartbeats 8000000 in
set_option maxRecDepth 100000 in
theorem impl_descRead.calls (k : Nat) (a0 : ByteArray) (r1 : List ByteArray) (r2 : ByteArray) (r3 : Int) (r4 : Int) (w : World) (h : impl_descRead.f k a0 = some (r1, r2, r3, r4)) :
 Calls Tryz.prog 93 #[.string a0] w fun e w' => ∃ v0_ : Value, e = .returned (.agg #[v0_, .string r2, .int .i64 r3, .int .i64 r4]) ∧ Kd.R Kd.string 9 w' w.heap.size (fun _ => True) v0_ r1 ∧ Below w.heap.size w w' := by
 have hu76 := Tryz.underlying76; have hu131 := Tryz.underlying131; have hu74 := Tryz.underlying74; have HB := Zm (Below.refl w.heap.size w); have H : ((impl_reader_want.f a0 0 false 40).bind fun bt348 => (impl_descRead.l0 k a0 bt348.1 bt348.2.1 bt348.2.2 ([] : List ByteArray) (⟨#[]⟩ : ByteArray))) = some (r1, r2, r3, r4) := h; clear h; replace H := Option.bind_eq_some_iff.mp H; obtain ⟨⟨t348, t349, t350⟩, A20, H⟩ := H; replace H : (impl_descRead.l0 k a0 t348 t349 t350 ([] : List ByteArray) (⟨#[]⟩ : ByteArray)) = some (r1, r2, r3, r4) := H; have A2 := Zm A20; clear A20; have HC3 := Zm H; clear H; go_enter Tryz.func93, Tryz.ntmps93; go_upto_block 0 with (first | ((with_reducible refine gate_dst (N := 2) rfl ?_); refine box_event ?hg (N := 2) ?hd (cs := #[.slice none 0 0, .string (⟨#[]⟩ : ByteArray), .int .i64 0, .int .i64 0]) (t := 76) ?hr ?_; (case hd => rfl); (case hg => rfl); (case hr => first | (go_simp; done) | (go_simp; rfl)); intro gb345 hg w4 hbox hb; have n0_ := (⟨Zm (Zbt (bk HB.out) hb), Zm (hbox), Zm ((by rw [hg]; exact (Zbz (bk HB.out)) : w.heap.size ≤ gb345)), Zm ((by rw [hg]; exact (Zbz (bk HB.out)) : w.heap.size ≤ gb345))⟩ : _ ∧ _ ∧ _ ∧ _); clear HB; obtain ⟨HB, BK345, GW345, GE345⟩ := n0_; clear hb hbox hg) | ((with_reducible refine gate_dst (N := 7) rfl ?_); refine box_event ?hg (N := 7) ?hd (cs := #[.string a0, .int .i64 0, .bool false]) (t := 131) ?hr ?_; (case hd => rfl); (case hg => rfl); (case hr => first | (go_simp; done) | (go_simp; rfl)); intro gb346 hg w5 hbox hb; have n0_ := (⟨Zm (Zkb (pk BK345.out) hb), Zm (Zbt (bk HB.out) hb), Zm ((by rw [hg]; exact (Zbz (bk HB.out)) : w.heap.size ≤ gb346)), Zm ((by rw [hg]; exact (Zbz (bk HB.out)) : w.heap.size ≤ gb346)), Zm ((show IsS131 w w5 gb346 a0 0 false from ⟨hbox, (by rw [hg]; exact (Zbz (bk HB.out)) : w.heap.size ≤ gb346)⟩)), Zm ((by rw [hg]; exact Nat.ne_of_lt (blk_lt (pk BK345.out)) : gb345 ≠ gb346)), Zm ((by rw [hg]; exact Nat.ne_of_gt (blk_lt (pk BK345.out)) : gb346 ≠ gb345))⟩ : _ ∧ _ ∧ _ ∧ _ ∧ _ ∧ _ ∧ _); clear BK345 HB; obtain ⟨BK345, HB, GW346, GE346, HI346, NB345_346, NB346_345⟩ := n0_; clear hb hbox hg) | ((with_reducible refine gate_dst (N := 4) rfl ?_); refine box_event ?hg (N := 4) ?hd (cs := #[.slice none 0 0, .string (⟨#[]⟩ : ByteArray)]) (t := 74) ?hr ?_; (case hd => rfl); (case hg => rfl); (case hr => first | (go_simp; done) | (go_simp; rfl)); intro gb347 hg w6 hbox hb; have n0_ := (⟨Zm (Zkb (pk BK345.out) hb), Zm (IsS131.below (by repeat (first | (with_reducible first | exact HI346.out | apply IsS131.alloc | apply IsS131.drewN | apply IsS131.drew | apply IsS131.set_0 | apply IsS131.set_1 | apply IsS131.set_2 | refine IsS131.far ?_ NB346_345.out _) | exact HI346.out)) hb), Zm (Zbt (bk HB.out) hb), Zm (hbox), Zm ((by rw [hg]; exact (Zbz (bk HB.out)) : w.heap.size ≤ gb347)), Zm ((by rw [hg]; exact (Zbz (bk HB.out)) : w.heap.size ≤ gb347)), Zm ((by rw [hg]; exact Nat.ne_of_lt (blk_lt (pk BK345.out)) : gb345 ≠ gb347)), Zm ((by rw [hg]; exact Nat.ne_of_gt (blk_lt (pk BK345.out)) : gb347 ≠ gb345)), Zm ((by rw [hg]; exact Nat.ne_of_lt (IsS131.lt (show IsS131 w _ gb346 a0 0 false from by repeat (first | (with_reducible first | exact HI346.out | apply IsS131.alloc | apply IsS131.drewN | apply IsS131.drew | apply IsS131.set_0 | apply IsS131.set_1 | apply IsS131.set_2 | refine IsS131.far ?_ NB346_345.out _) | exact HI346.out))) : gb346 ≠ gb347)), Zm ((by rw [hg]; exact Nat.ne_of_gt (IsS131.lt (show IsS131 w _ gb346 a0 0 false from by repeat (first | (with_reducible first | exact HI346.out | apply IsS131.alloc | apply IsS131.drewN | apply IsS131.drew | apply IsS131.set_0 | apply IsS131.set_1 | apply IsS131.set_2 | refine IsS131.far ?_ NB346_345.out _) | exact HI346.out))) : gb347 ≠ gb346))⟩ : _ ∧ _ ∧ _ ∧ _ ∧ _ ∧ _ ∧ _ ∧ _ ∧ _ ∧ _); clear BK345 HI346 HB; obtain ⟨BK345, HI346, HB, BK347, GW347, GE347, NB345_347, NB347_345, NB346_347, NB347_346⟩ := n0_; clear hb hbox hg; have hnb7 := NB347_345.out; have hnc7 := NB345_347.out; have hnb8 := NB347_346.out; have hnc8 := NB346_347.out; obtain ⟨hcz9_0, hcz9_1, hfz9_0, hfz9_1⟩ := cf2 BK347.out) | ((with_reducible refine gate_callee (f := 120) rfl ?_); refine ge_ (some 10) Tryz.func120 #[.pointer (some ⟨gb346, 0, none⟩), .int .u8 40] ?_; (with_reducible refine (impl_reader_want.calls gb346 _ _ _ _ _ _ _ w _ ?side1 ?side2 A2.out).mono ?_); (case side1 => repeat (first | (with_reducible first | exact HI346.out | apply IsS131.alloc | apply IsS131.drewN | apply IsS131.drew | apply IsS131.set_0 | apply IsS131.set_1 | apply IsS131.set_2 | refine IsS131.far ?_ NB346_345.out _ | refine IsS131.far ?_ NB346_347.out _) | exact HI346.out)); (case side2 => repeat (first | (with_reducible first | exact HB.out | apply Zba | apply Zbn | apply Zbd | refine Zbs ?_ (IsS131.ge HI346.out) | refine Zbs ?_ GE345.out | refine Zbs ?_ GE347.out) | exact HB.out)); rintro e w10 ⟨rfl, hi, hb, hk⟩; refine ⟨_, rfl, ?_⟩; have n0_ := (⟨Zm (KeepBut.blk hk (g' := gb345) (o := .cells #[.slice none 0 0, .string (⟨#[]⟩ : ByteArray), .int .i64 0, .int .i64 0] 76 (0, 0)) zc_ NB345_346.out (by simp)), Zm (KeepBut.blk hk (g' := gb347) (o := .cells #[.slice none 0 0, .string (⟨#[]⟩ : ByteArray)] 74 (0, 0)) zc_ NB347_346.out (by simp)), Zm (hb), Zm (hi)⟩ : _ ∧ _ ∧ _ ∧ _); clear BK345 BK347 HB HI346; obtain ⟨BK345, BK347, HB, HI346⟩ := n0_; (try clear hb); (try clear hb2); (try clear hk); (try clear hi))); (try simp only [Act.put, List.setIfInBounds_toArray, List.set_cons_zero, List.set_cons_succ]); go_cut [] (fun wc => ∃ (kq : Nat) (x347000_2 : ByteArray) (x347001_2 : Int) (x347002_2 : Bool) (x348000_2 : List ByteArray) (u348000 : Value), Aside0 (impl_descRead.j2 kq a0 x347000_2 x347001_2 x347002_2 x348000_2 (⟨#[]⟩ : ByteArray) = some (r1, r2, r3, r4)) ∧ Aside0 (kq ≤ k) ∧ Aside0 (Kd.R Kd.string 9 wc w.heap.size (fun _ => True) u348000 x348000_2) ∧ Aside0 (wc.heap[gb345]? = some (.cells #[(.slice none 0 0), .string (⟨#[]⟩ : ByteArray), .int .i64 0, .int .i64 0] 76 (0, 0))) ∧ Aside0 (wc.heap[gb347]? = some (.cells #[u348000, .string (⟨#[]⟩ : ByteArray)] 74 (0, 0))) ∧ Aside0 (IsS131 w wc gb346 x347000_2 x347001_2 x347002_2) ∧ Aside0 (Below w.heap.size w wc))
 case first =>
  have H := HC3.out; clear HC3; have H' := Zm H; clear H; go_wp2; go_loopg [] k (fun kq w' => ∃ (x347000_1 : ByteArray) (x347001_1 : Int) (x347002_1 : Bool) (x348000_1 : List ByteArray) (u348000 : Value), Aside0 (impl_descRead.l0 kq a0 x347000_1 x347001_1 x347002_1 x348000_1 (⟨#[]⟩ : ByteArray) = some (r1, r2, r3, r4)) ∧ Aside0 (kq ≤ k) ∧ Aside0 (Kd.R Kd.string 9 w' w.heap.size (fun _ => True) u348000 x348000_1) ∧ Aside0 (w'.heap[gb345]? = some (.cells #[(.slice none 0 0), .string (⟨#[]⟩ : ByteArray), .int .i64 0, .int .i64 0] 76 (0, 0))) ∧ Aside0 (w'.heap[gb347]? = some (.cells #[u348000, .string (⟨#[]⟩ : ByteArray)] 74 (0, 0))) ∧ Aside0 (IsS131 w w' gb346 x347000_1 x347001_1 x347002_1) ∧ Aside0 (Below w.heap.size w w'))
  case atStart => exact ⟨(t348), (t349), (t350), (([] : List ByteArray)), (.slice none 0 0), H', ⟨Nat.le_refl _⟩, ⟨by first | exact Kd.R_nil _ _ _ _ _ | exact Kd.N_nil _ _ _ _ _ | exact Kd.V_nil _ _ _ _ _ | exact Kd.Q_nil _ _ _ _ _ | exact Kd.S_nil _ _ _ _ _⟩, ⟨pk BK345.out⟩, ⟨pk BK347.out⟩, ⟨by repeat (first | (with_reducible first | exact HI346.out | apply IsS131.alloc | apply IsS131.drewN | apply IsS131.drew | apply IsS131.set_0 | apply IsS131.set_1 | apply IsS131.set_2 | refine IsS131.far ?_ NB346_345.out _ | refine IsS131.far ?_ NB346_347.out _) | exact HI346.out)⟩, ⟨bk HB.out⟩⟩
  case round =>
   clear H'; (try clear hcz9_0); (try clear hcz9_1); (try clear hfz9_0); (try clear hfz9_1); obtain ⟨x347000_1, x347001_1, x347002_1, x348000_1, u348000, HA, HK1, HO_348000, BK345, BK347, HI346, HB⟩ := hrel
   cases gk with
   | zero => exact absurd HA.out (by simp [impl_descRead.l0])
   | succ k1 =>
    have H := HA.out; clear HA; simp only [impl_descRead.l0] at H; have HC11 := Zm H; clear H; go_upto_region 3 with (fail); go_cut [20] (fun v20 wc => ∃ (kq : Nat) (x20_10 : Bool) (x347000_10 : ByteArray) (x347001_10 : Int) (x347002_10 : Bool), v20 = .bool x20_10 ∧ Aside0 (impl_descRead.j1 kq a0 x20_10 x347000_10 x347001_10 x347002_10 x348000_1 (⟨#[]⟩ : ByteArray) = some (r1, r2, r3, r4)) ∧ Aside0 (kq ≤ k1) ∧ Aside0 (Kd.R Kd.string 9 wc w.heap.size (fun _ => True) u348000 x348000_1) ∧ Aside0 (wc.heap[gb345]? = some (.cells #[(.slice none 0 0), .string (⟨#[]⟩ : ByteArray), .int .i64 0, .int .i64 0] 76 (0, 0))) ∧ Aside0 (wc.heap[gb347]? = some (.cells #[u348000, .string (⟨#[]⟩ : ByteArray)] 74 (0, 0))) ∧ Aside0 (IsS131 w wc gb346 x347000_10 x347001_10 x347002_10) ∧ Aside0 (Below w.heap.size w wc))
    case first =>
     have H := HC11.out; clear HC11; by_cases c12 : x347002_1 = true; rotate_left
     · replace c12 := Bool.eq_false_iff.mpr c12; subst c12; rw [if_neg (show ¬ (false = true) by decide)] at H; replace H := Option.bind_eq_some_iff.mp H; obtain ⟨⟨t351, t352, t353, t354⟩, A140, H⟩ := H; replace H : (impl_descRead.j1 k1 a0 (!t351) t352 t353 t354 x348000_1 (⟨#[]⟩ : ByteArray)) = some (r1, r2, r3, r4) := H; have A14 := Zm A140; clear A140; have H' := Zm H; clear H; obtain ⟨HGz15, hgz15⟩ := HI346.out; have hcz15_0 := cellS131_0 HGz15; have hcz15_1 := cellS131_1 HGz15; have hcz15_2 := cellS131_2 HGz15; have hfz15_0 := Zkf HGz15 0; have hfz15_1 := Zkf HGz15 1; have hfz15_2 := Zkf HGz15 2; clear HGz15 hgz15; go_wp2_with (first | (go_at_call 118; (first | (with_reducible refine (impl_reader_take.calls gb346 _ _ _ _ _ _ _ _ w _ ?side1 ?side2 A14.out).mono ?_) | (with_reducible refine (calls_of_args ?_ (impl_reader_take.calls gb346 _ _ _ _ _ _ _ _ w _ ?side1 ?side2 A14.out)).mono ?_; focus (simp [*]; done))); (case side1 => repeat (first | (with_reducible first | exact HI346.out | apply IsS131.alloc | apply IsS131.drewN | apply IsS131.drew | apply IsS131.set_0 | apply IsS131.set_1 | apply IsS131.set_2 | refine IsS131.far ?_ NB346_345.out _ | refine IsS131.far ?_ NB346_347.out _) | exact HI346.out)); (case side2 => exact bk HB.out); rintro e w16 ⟨rfl, hi, hb, hk⟩; have n0_ := (⟨Zm (Kd.R_mono (Kd.R_keep (IsS131.apart (show IsS131 w _ gb346 x347000_1 x347001_1 false from by repeat (first | (with_reducible first | exact HI346.out | apply IsS131.alloc | apply IsS131.drewN | apply IsS131.drew | apply IsS131.set_0 | apply IsS131.set_1 | apply IsS131.set_2 | refine IsS131.far ?_ NB346_345.out _ | refine IsS131.far ?_ NB346_347.out _) | exact HI346.out)) (by (with_reducible repeat (first | apply Kd.R_alloc | apply Kd.R_drewN | apply Kd.R_drew)); exact HO_348000.out) (by decide)) hk (fun _ h => h.2)) (fun _ h => h.1)), Zm (KeepBut.blk hk (pk BK345.out) NB345_346.out (by simp)), Zm (KeepBut.blk hk (pk BK347.out) NB347_346.out (by simp)), Zm (hb), Zm (hi)⟩ : _ ∧ _ ∧ _ ∧ _ ∧ _); clear HO_348000 BK345 BK347 HB HI346; obtain ⟨HO_348000, BK345, BK347, HB, HI346⟩ := n0_; (try clear hb); (try clear hb2); (try clear hk); (try clear hi))); go_meet
       case rel => exact ⟨_, (!t351), (t352), (t353), (t354), (by first | rfl | (simp; done) | (simp [*]; done)), H', ⟨by have := HK1.out; first | omega | exact Nat.le_refl _⟩, ⟨by (with_reducible repeat (first | apply Kd.R_alloc | apply Kd.R_drewN | apply Kd.R_drew)); exact HO_348000.out⟩, ⟨pk BK345.out⟩, ⟨pk BK347.out⟩, ⟨by repeat (first | (with_reducible first | exact HI346.out | apply IsS131.alloc | apply IsS131.drewN | apply IsS131.drew | apply IsS131.set_0 | apply IsS131.set_1 | apply IsS131.set_2 | refine IsS131.far ?_ NB346_345.out _ | refine IsS131.far ?_ NB346_347.out _) | exact HI346.out)⟩, ⟨bk HB.out⟩⟩
     subst c12; rw [if_pos rfl] at H; have H' := Zm H; clear H; obtain ⟨HGz13, hgz13⟩ := HI346.out; have hcz13_0 := cellS131_0 HGz13; have hcz13_1 := cellS131_1 HGz13; have hcz13_2 := cellS131_2 HGz13; have hfz13_0 := Zkf HGz13 0; have hfz13_1 := Zkf HGz13 1; have hfz13_2 := Zkf HGz13 2; clear HGz13 hgz13; go_wp2; go_meet
     case rel => exact ⟨_, (false), (x347000_1), (x347001_1), (true), (by first | rfl | (simp; done) | (simp [*]; done)), H', ⟨by have := HK1.out; first | omega | exact Nat.le_refl _⟩, ⟨by (with_reducible repeat (first | apply Kd.R_alloc | apply Kd.R_drewN | apply Kd.R_drew)); exact HO_348000.out⟩, ⟨pk BK345.out⟩, ⟨pk BK347.out⟩, ⟨by repeat (first | (with_reducible first | exact HI346.out | apply IsS131.alloc | apply IsS131.drewN | apply IsS131.drew | apply IsS131.set_0 | apply IsS131.set_1 | apply IsS131.set_2 | refine IsS131.far ?_ NB346_345.out _ | refine IsS131.far ?_ NB346_347.out _) | exact HI346.out)⟩, ⟨bk HB.out⟩⟩
    case rest =>
     clear HC11; (try clear hcz9_0); (try clear hcz9_1); (try clear hfz9_0); (try clear hfz9_1); obtain ⟨kq, x20_10, x347000_10, x347001_10, x347002_10, rfl, HA, HJ10, HO_348000, BK345, BK347, HI346, HB⟩ := hcut
     cases kq with
     | zero => exact absurd HA.out (by simp [impl_descRead.j1])
     | succ kj10 =>
      have H := HA.out; clear HA; simp only [impl_descRead.j1] at H; by_cases c17 : x20_10 = true; rotate_left
      · replace c17 := Bool.eq_false_iff.mpr c17; subst c17; rw [if_neg (show ¬ (false = true) by decide)] at H; have H' := Zm H; clear H; go_wp2; go_meet
        case rel => exact ⟨_, (x347000_10), (x347001_10), (x347002_10), (x348000_1), (u348000), H', ⟨by have := HK1.out; have := HJ10.out; first | omega | exact Nat.le_refl _⟩, ⟨by (with_reducible repeat (first | apply Kd.R_alloc | apply Kd.R_drewN | apply Kd.R_drew)); exact HO_348000.out⟩, ⟨pk BK345.out⟩, ⟨pk BK347.out⟩, ⟨by repeat (first | (with_reducible first | exact HI346.out | apply IsS131.alloc | apply IsS131.drewN | apply IsS131.drew | apply IsS131.set_0 | apply IsS131.set_1 | apply IsS131.set_2 | refine IsS131.far ?_ NB346_345.out _ | refine IsS131.far ?_ NB346_347.out _) | exact HI346.out)⟩, ⟨bk HB.out⟩⟩
      subst c17; rw [if_pos rfl] at H; by_cases c18 : (x348000_1.length : Int) = 8; rotate_left
      · rw [if_neg c18] at H; have c18b0 : ((x348000_1.length : Int) == 8) = false := beq_eq_false_iff_ne.mpr c18; have c18b1 : ((x348000_1.length : Int) != 8) = true := bne_iff_ne.mpr c18; replace H := Option.bind_eq_some_iff.mp H; obtain ⟨⟨t355, t356, t357, t358⟩, A240, H⟩ := H; replace H : (if x348000_1.length < 8796093022208 then (impl_descRead.l0 kj10 a0 t356 t357 t358 (x348000_1 ++ [t355]) (⟨#[]⟩ : ByteArray)) else (none)) = some (r1, r2, r3, r4) := H; have A24 := Zm A240; clear A240; by_cases c25 : x348000_1.length < 8796093022208; rotate_left
        · rw [if_neg c25] at H; exact absurd H (by simp)
        rw [if_pos c25] at H; have LMc25 := Zm c25; clear c25; obtain ⟨y359, hy359⟩ : ∃ y_ : List ByteArray, y_ = (x348000_1 ++ [t355]) := ⟨_, rfl⟩; replace H : (impl_descRead.l0 kj10 a0 t356 t357 t358 y359 (⟨#[]⟩ : ByteArray)) = some (r1, r2, r3, r4) := by first | (rw [hy359]; with_reducible exact H) | (have H2_ := (Option.bind_some _ _).symm.trans H; rw [hy359]; with_reducible exact H2_) | (have H2_ := (Option.bind_some _ _).symm.trans H; with_reducible exact H2_) | with_reducible exact H | (rw [hy359]; exact H) | exact H
        have Ny359 := Zm hy359; clear hy359; have H' := Zm H; clear H; have hnb26 := NB347_345.out; have hnc26 := NB345_347.out; have hnb27 := NB347_346.out; have hnc27 := NB346_347.out; obtain ⟨hcz28_0, hcz28_1, hfz28_0, hfz28_1⟩ := cf2 BK347.out; obtain ⟨Ao29, co29, eo29⟩ := Kd.R_slice HO_348000.out; subst eo29; try go_wp2
        have n0_ := (⟨Zm (Kd.R_drew HO_348000.out), Zm (Zkd BK345.out), Zm (Zkd BK347.out), Zm (IsS131.drew HI346.out), Zm (Zbd HB.out)⟩ : _ ∧ _ ∧ _ ∧ _ ∧ _); clear HO_348000 BK345 BK347 HI346 HB; obtain ⟨HO_348000, BK345, BK347, HI346, HB⟩ := n0_; refine start_ (n := 8) (S := fun w' => w'.cell? ⟨gb347, 0, none⟩ = some (.slice Ao29 x348000_1.length co29) ∧ w'.cell? ⟨gb347, 1, none⟩ = some (.string (⟨#[]⟩ : ByteArray))) (ds := [7]) #[false, false, false, false, false, false, false, false] (by kernel_rfl) rfl rfl ⟨(Zkc BK347.out 0).trans rfl, (Zkc BK347.out 1).trans rfl⟩ (fun hHeld => ?_); refine with_tabW impl_descRead.tab6 impl_descRead.bits6 (fun HT_ HW_ => ?_); generalize wc.drew = w30 at HO_348000 BK345 BK347 HI346 HB hHeld ⊢; refine pure_ (i := 0) (N := some 28) (v := ?_) (a' := ?_) #[true, false, false, false, false, false, false, false] rfl rfl (any_of HT_.out (by kernel_rfl)) (fun _ _ _ h => h) (Or.inl ⟨by rfl, ?_⟩) ?_ ?_; rotate_left
        · intro w'; go_simp; with_reducible rfl
        rotate_left
        · simp only [Act.put, List.setIfInBounds_toArray, List.set_cons_zero, List.set_cons_succ, i64_w, i32_w]; rfl
        refine pure_ (i := 2) (N := some 30) (v := ?_) (a' := ?_) #[true, false, true, false, false, false, false, false] rfl rfl (any_of HT_.out (by kernel_rfl)) (fun _ _ _ h => h) (Or.inl ⟨by rfl, ?_⟩) ?_ ?_; rotate_left
        · intro w'; go_simp; with_reducible rfl
        rotate_left
        · simp only [Act.put, List.setIfInBounds_toArray, List.set_cons_zero, List.set_cons_succ, i64_w, i32_w]; rfl
        refine take_ (i := 1) (N := some 29) (v := ?_) (a' := ?_) #[true, true, true, false, false, false, false, false] rfl rfl (take_ofW HT_.out HW_.out (by kernel_rfl)) (fun _ _ _ h => h) (Or.inl ⟨by rfl, ?_⟩) hHeld ?_ ?_; rotate_left
        · rintro w' ⟨s0, s1⟩; go_simp; with_reducible rfl
        rotate_left
        · simp only [Act.put, List.setIfInBounds_toArray, List.set_cons_zero, List.set_cons_succ, i64_w, i32_w]; rfl
        refine one_ (i := 3) (N := some 31) #[true, true, true, true, false, false, false, false] rfl rfl (one_of HT_.out (by kernel_rfl)) (by decide) (fun K hK => ?_); refine goes_ Tryz.func92 (by kernel_rfl) rfl #[.pointer (some ⟨gb346, 0, none⟩)] (by rfl) rfl rfl (by (try simp only [List.map_toArray, List.map_cons, List.map_nil]); first | done | rfl | (simp only [List.length_drop, List.length_take]; rfl)) ?_; with_reducible refine (impl_reader_kind.calls kj10 gb346 x347000_10 x347001_10 x347002_10 t355 t356 t357 t358 w _ ?side1 ?side2 A24.out).mono ?_
        (case side1 => repeat (first | (with_reducible first | exact HI346.out | apply IsS131.alloc | apply IsS131.drewN | apply IsS131.drew | apply IsS131.set_0 | apply IsS131.set_1 | apply IsS131.set_2 | refine IsS131.far ?_ NB346_345.out _ | refine IsS131.far ?_ NB346_347.out _) | exact HI346.out)); (case side2 => exact bk HB.out); rintro e w31 ⟨rfl, hi, hb, hk⟩; refine ⟨_, rfl, ?_⟩; have n0_ := Zm (Kd.R_mono (Kd.R_keep (IsS131.apart (show IsS131 w _ gb346 x347000_10 x347001_10 x347002_10 from by repeat (first | (with_reducible first | exact HI346.out | apply IsS131.alloc | apply IsS131.drewN | apply IsS131.drew | apply IsS131.set_0 | apply IsS131.set_1 | apply IsS131.set_2 | refine IsS131.far ?_ NB346_345.out _ | refine IsS131.far ?_ NB346_347.out _) | exact HI346.out)) (by (with_reducible repeat (first | apply Kd.R_alloc | apply Kd.R_drewN | apply Kd.R_drew)); exact HO_348000.out) (by decide)) hk (fun _ h => h.2)) (fun _ h => h.1)); have n1_ := Zm (KeepBut.blk hk (pk BK345.out) NB345_346.out (by simp)); have n2_ := Zm (KeepBut.blk hk (pk BK347.out) NB347_346.out (by simp)); have n3_ := Zm (hb); have n4_ := Zm (hi); clear HO_348000; clear BK345; clear BK347; clear HB; clear HI346; have HO_348000 := n0_; have BK345 := n1_; have BK347 := n2_; have HB := n3_; have HI346 := n4_; clear n0_ n1_ n2_ n3_ n4_; refine hK.out _ _ ⟨(Zkc BK347.out 0).trans rfl, (Zkc BK347.out 1).trans rfl⟩ (fun hHeld => ?_); clear hK K; refine norm_ (a' := ?_) ?_ ?_; rotate_left
        · show Act.put _ (some 31) _ = _; simp only [Act.put, List.setIfInBounds_toArray, List.set_cons_zero, List.set_cons_succ, i64_w, i32_w]; rfl
        refine one_ (i := 4) (N := some 32) #[true, true, true, true, true, false, false, false] rfl rfl (one_of HT_.out (by kernel_rfl)) (by decide) (fun K hK => ?_); refine value_ (w1 := ?_) (v := ?_) (by rfl) rfl ?_ ?_; rotate_left 2
        · go_simp; constructor
          · rfl
          · rfl
        refine hK.out _ _ ⟨(Zkc (Zka BK347.out _) 0).trans rfl, (Zkc (Zka BK347.out _) 1).trans rfl⟩ (fun hHeld => ?_); clear hK K; refine norm_ (a' := ?_) ?_ ?_; rotate_left
        · show Act.put _ (some 32) _ = _; simp only [Act.put, List.setIfInBounds_toArray, List.set_cons_zero, List.set_cons_succ, i64_w, i32_w]; rfl
        refine one_ (i := 5) (N := some 33) #[true, true, true, true, true, true, false, false] rfl rfl (one_of HT_.out (by kernel_rfl)) (by decide) (fun K hK => ?_); refine Kd.R_append_step Kd.string (w0 := w) w.heap.size (by rfl) (.tmp 29) (.tmp 32) 72 9 (.string ⟨#[]⟩) 16 rfl Tryz.underlying72 info9 rfl (by decide) (by omega) (.slice Ao29 x348000_1.length co29) x348000_1 t355 [.string t355] (fun _ => True) (fun _ => False) rfl rfl ?aP (fun _ hk => hk.elim) ?aF ?aO ?aB ?aS ?aL ?_; (case aP => exact rfl); (case aB => exact (bk HB.out)); (case aF => exact (fun _ _ => trivial)); (case aO => exact (by (with_reducible repeat (first | apply Kd.R_alloc | apply Kd.R_drewN | apply Kd.R_drew)); exact HO_348000.out)); (case aS => exact (Zbz (bk HB.out))); (case aL => have := LMc25.out; omega); intro v360 w32 ho hb hg hat; rw [← Ny359.out] at ho; have n0_ := Zm (blk_grown (pk BK345.out) hg (Kd.R_ne HO_348000.out BK345.out (by decide))); have n1_ := Zm (blk_grown (pk BK347.out) hg (Kd.R_ne HO_348000.out BK347.out (by decide))); have n2_ := Zm (IsS131.grown (by repeat (first | (with_reducible first | exact HI346.out | apply IsS131.alloc | apply IsS131.drewN | apply IsS131.drew | apply IsS131.set_0 | apply IsS131.set_1 | apply IsS131.set_2 | refine IsS131.far ?_ NB346_345.out _ | refine IsS131.far ?_ NB346_347.out _) | exact HI346.out)) hg (IsS131.own_ne HI346.out HO_348000.out (by decide))); have n3_ := Zm (hb); have n4_ := Zm (ho); clear BK345; clear BK347; clear HI346; clear HB; clear HO_348000; have BK345 := n0_; have BK347 := n1_; have HI346 := n2_; have HB := n3_; have HO361 := n4_; clear n0_ n1_ n2_ n3_ n4_; clear ho hb hg hat; obtain ⟨Ao33, co33, eo33⟩ := Kd.R_slice HO361.out; (first | subst eo33 | (injection eo33 with f1_ f2_ f3_; have f4_ := f1_.symm; have f5_ := f3_.symm; clear f1_ f2_ f3_; subst f4_; subst f5_)); refine hK.out _ _ ⟨(Zkc BK347.out 0).trans rfl, (Zkc BK347.out 1).trans rfl⟩ (fun hHeld => ?_); clear hK K; refine norm_ (a' := ?_) ?_ ?_; rotate_left
        · show Act.put _ (some 33) _ = _; simp only [Act.put, List.setIfInBounds_toArray, List.set_cons_zero, List.set_cons_succ, i64_w, i32_w]; rfl
        refine pure_ (i := 6) (N := some 34) (v := ?_) (a' := ?_) #[true, true, true, true, true, true, true, false] rfl rfl (any_of HT_.out (by kernel_rfl)) (fun _ _ _ h => h) (Or.inl ⟨by rfl, ?_⟩) ?_ ?_; rotate_left
        · intro w'; go_simp; with_reducible rfl
        rotate_left
        · simp only [Act.put, List.setIfInBounds_toArray, List.set_cons_zero, List.set_cons_succ, i64_w, i32_w]; rfl
        refine last_ (i := 7) (N := none) #[true, true, true, true, true, true, true, true] rfl rfl (one_of HT_.out (by kernel_rfl)) (by decide) (fun K hK => ?_); have hs34 : w32.cell? ⟨gb347, 0, none⟩ = some (.slice Ao29 x348000_1.length co29) := (Zkc BK347.out 0).trans rfl; have hfs34 := Zkf BK347.out 0; have hns34_0 := NB345_347.out; have hms34_0 := NB347_345.out; refine skip_ (w1 := ?_) (by rfl) rfl ?_ ?_; rotate_left
        · go_simp; rfl
        refine hK.out _ _ ?_; clear hK K; refine done_ (done_of HT_.out (by kernel_rfl)) ?_; try go_wp2
        go_roundg kj10
        case measure => have := HK1.out; have := HJ10.out; omega
        case rel => exact ⟨(t356), (t357), (t358), (y359), (.slice Ao33 y359.length co33), H', ⟨by have := HK1.out; have := HJ10.out; omega⟩, ⟨by (with_reducible repeat (first | apply Kd.R_alloc | apply Kd.R_drewN | apply Kd.R_drew)); exact Kd.R_mono (Kd.R_far (p := ⟨gb347, 0, none⟩) (Kd.R_types HO361.out BK347.out (by decide)) (fun _ hk => hk.2) (.slice Ao33 y359.length co33)) (fun _ hk => trivial)⟩, ⟨zc_⟩, ⟨zc_⟩, ⟨by repeat (first | (with_reducible first | exact HI346.out | apply IsS131.alloc | apply IsS131.drewN | apply IsS131.drew | apply IsS131.set_0 | apply IsS131.set_1 | apply IsS131.set_2 | refine IsS131.far ?_ NB346_345.out _ | refine IsS131.far ?_ NB346_347.out _) | exact HI346.out)⟩, ⟨by repeat (first | (with_reducible first | exact HB.out | apply Zba | apply Zbn | apply Zbd | refine Zbs ?_ (IsS131.ge HI346.out) | refine Zbs ?_ GE345.out | refine Zbs ?_ GE347.out) | exact HB.out)⟩⟩
      rw [if_pos c18] at H; have c18b0 : ((x348000_1.length : Int) == 8) = true := beq_iff_eq.mpr c18; have c18b1 : ((x348000_1.length : Int) != 8) = false := bne_eq_false_iff_eq.mpr c18; clear c18; have H' := Zm H; clear H; have hnb19 := NB347_345.out; have hnc19 := NB345_347.out; have hnb20 := NB347_346.out; have hnc20 := NB346_347.out; obtain ⟨hcz21_0, hcz21_1, hfz21_0, hfz21_1⟩ := cf2 BK347.out; obtain ⟨Ao22, co22, eo22⟩ := Kd.R_slice HO_348000.out; subst eo22; obtain ⟨HGz23, hgz23⟩ := HI346.out; have hcz23_0 := cellS131_0 HGz23; have hcz23_1 := cellS131_1 HGz23; have hcz23_2 := cellS131_2 HGz23; have hfz23_0 := Zkf HGz23 0; have hfz23_1 := Zkf HGz23 1; have hfz23_2 := Zkf HGz23 2; clear HGz23 hgz23; go_wp2; go_meet
      case rel => exact ⟨_, (x347000_10), (x347001_10), (true), (x348000_1), (.slice Ao22 x348000_1.length co22), H', ⟨by have := HK1.out; have := HJ10.out; first | omega | exact Nat.le_refl _⟩, ⟨by (with_reducible repeat (first | apply Kd.R_alloc | apply Kd.R_drewN | apply Kd.R_drew)); exact Kd.R_mono (Kd.R_far (p := ⟨gb346, 2, none⟩) (IsS131.apart HI346.out HO_348000.out (by decide)) (fun _ hk => hk.2) (.bool true)) (fun _ hk => trivial)⟩, ⟨zc_⟩, ⟨zc_⟩, ⟨by repeat (first | (with_reducible first | exact HI346.out | apply IsS131.alloc | apply IsS131.drewN | apply IsS131.drew | apply IsS131.set_0 | apply IsS131.set_1 | apply IsS131.set_2 | refine IsS131.far ?_ NB346_345.out _ | refine IsS131.far ?_ NB346_347.out _) | exact HI346.out)⟩, ⟨by repeat (first | (with_reducible first | exact HB.out | apply Zba | apply Zbn | apply Zbd | refine Zbs ?_ (IsS131.ge HI346.out) | refine Zbs ?_ GE345.out | refine Zbs ?_ GE347.out) | exact HB.out)⟩⟩
 case rest =>
  clear HC3; (try clear hcz9_0); (try clear hcz9_1); (try clear hfz9_0); (try clear hfz9_1); obtain ⟨kq, x347000_2, x347001_2, x347002_2, x348000_2, u348000, HA, HJ2, HO_348000, BK345, BK347, HI346, HB⟩ := hcut
  cases kq with
  | zero => exact absurd HA.out (by simp [impl_descRead.j2])
  | succ kj2 =>
   have H := HA.out; clear HA; simp only [impl_descRead.j2] at H; replace H := Option.bind_eq_some_iff.mp H; obtain ⟨⟨t362, t363, t364, t365⟩, A350, H⟩ := H; replace H : (if t362 = true then (if t365 = true then (some (([] : List ByteArray), (⟨#[]⟩ : ByteArray), t364, 3)) else ((impl_length.f a0).bind fun t366 => (if t364 < t366 then (some (([] : List ByteArray), (⟨#[]⟩ : ByteArray), t364, 3)) else (some (x348000_2, (⟨#[86]⟩ : ByteArray), 0, 0))))) else (if t365 = true then (some (([] : List ByteArray), (⟨#[]⟩ : ByteArray), t364, 3)) else ((impl_reader_kind.f kj2 t363 t364 t365).bind fun bt367 => (if bt367.2.2.2 = true then (some (([] : List ByteArray), (⟨#[]⟩ : ByteArray), bt367.2.2.1, 3)) else ((impl_length.f a0).bind fun t371 => (if bt367.2.2.1 < t371 then (some (([] : List ByteArray), (⟨#[]⟩ : ByteArray), bt367.2.2.1, 3)) else (some (x348000_2, bt367.1, 0, 0)))))))) = some (r1, r2, r3, r4) := H; have A35 := Zm A350; clear A350; have HC36 := Zm H; clear H; go_upto_if 36 with (first | ((with_reducible refine gate_callee (f := 118) rfl ?_); refine ge_ (some 36) Tryz.func118 #[.pointer (some ⟨gb346, 0, none⟩), .int .u8 86] ?_; (with_reducible refine (impl_reader_take.calls gb346 _ _ _ _ _ _ _ _ w _ ?side1 ?side2 A35.out).mono ?_); (case side1 => repeat (first | (with_reducible first | exact HI346.out | apply IsS131.alloc | apply IsS131.drewN | apply IsS131.drew | apply IsS131.set_0 | apply IsS131.set_1 | apply IsS131.set_2 | refine IsS131.far ?_ NB346_345.out _ | refine IsS131.far ?_ NB346_347.out _) | exact HI346.out)); (case side2 => exact bk HB.out); rintro e w37 ⟨rfl, hi, hb, hk⟩; refine ⟨_, rfl, ?_⟩; have n0_ := (⟨Zm (Kd.R_mono (Kd.R_keep (IsS131.apart (show IsS131 w _ gb346 x347000_2 x347001_2 x347002_2 from by repeat (first | (with_reducible first | exact HI346.out | apply IsS131.alloc | apply IsS131.drewN | apply IsS131.drew | apply IsS131.set_0 | apply IsS131.set_1 | apply IsS131.set_2 | refine IsS131.far ?_ NB346_345.out _ | refine IsS131.far ?_ NB346_347.out _) | exact HI346.out)) (by (with_reducible repeat (first | apply Kd.R_alloc | apply Kd.R_drewN | apply Kd.R_drew)); exact HO_348000.out) (by decide)) hk (fun _ h => h.2)) (fun _ h => h.1)), Zm (KeepBut.blk hk (pk BK345.out) NB345_346.out (by simp)), Zm (KeepBut.blk hk (pk BK347.out) NB347_346.out (by simp)), Zm (hb), Zm (hi)⟩ : _ ∧ _ ∧ _ ∧ _ ∧ _); clear HO_348000 BK345 BK347 HB HI346; obtain ⟨HO_348000, BK345, BK347, HB, HI346⟩ := n0_; (try clear hb); (try clear hb2); (try clear hk); (try clear hi))); have H := HC36.out; clear HC36; by_cases c38 : t362 = true; rotate_left
   · replace c38 := Bool.eq_false_iff.mpr c38; subst c38; rw [if_neg (show ¬ (false = true) by decide)] at H; by_cases c66 : t365 = true; rotate_left
     · replace c66 := Bool.eq_false_iff.mpr c66; subst c66; rw [if_neg (show ¬ (false = true) by decide)] at H; replace H := Option.bind_eq_some_iff.mp H; obtain ⟨⟨t367, t368, t369, t370⟩, A730, H⟩ := H; replace H : (if t370 = true then (some (([] : List ByteArray), (⟨#[]⟩ : ByteArray), t369, 3)) else ((impl_length.f a0).bind fun t371 => (if t369 < t371 then (some (([] : List ByteArray), (⟨#[]⟩ : ByteArray), t369, 3)) else (some (x348000_2, t367, 0, 0))))) = some (r1, r2, r3, r4) := H; have A73 := Zm A730; clear A730; by_cases c74 : t370 = true; rotate_left
       · replace c74 := Bool.eq_false_iff.mpr c74; subst c74; rw [if_neg (show ¬ (false = true) by decide)] at H; replace H := Option.bind_eq_some_iff.mp H; obtain ⟨t371, A850, H⟩ := H; replace H : (if t369 < t371 then (some (([] : List ByteArray), (⟨#[]⟩ : ByteArray), t369, 3)) else (some (x348000_2, t367, 0, 0))) = some (r1, r2, r3, r4) := H; have A85 := Zm A850; clear A850; have HC86 := Zm H; clear H; obtain ⟨HGz87, hgz87⟩ := HI346.out; have hcz87_0 := cellS131_0 HGz87; have hcz87_1 := cellS131_1 HGz87; have hcz87_2 := cellS131_2 HGz87; have hfz87_0 := Zkf HGz87 0; have hfz87_1 := Zkf HGz87 1; have hfz87_2 := Zkf HGz87 2; clear HGz87 hgz87; try go_wp2_with (first | ((with_reducible refine gate_callee (f := 92) rfl ?_); refine ge_ (some 44) Tryz.func92 #[.pointer (some ⟨gb346, 0, none⟩)] ?_; (with_reducible refine (impl_reader_kind.calls _ gb346 _ _ _ _ _ _ _ w _ ?side1 ?side2 A73.out).mono ?_); (case side1 => repeat (first | (with_reducible first | exact HI346.out | apply IsS131.alloc | apply IsS131.drewN | apply IsS131.drew | apply IsS131.set_0 | apply IsS131.set_1 | apply IsS131.set_2 | refine IsS131.far ?_ NB346_345.out _ | refine IsS131.far ?_ NB346_347.out _) | exact HI346.out)); (case side2 => exact bk HB.out); rintro e w88 ⟨rfl, hi, hb, hk⟩; refine ⟨_, rfl, ?_⟩; have n0_ := (⟨Zm (Kd.R_mono (Kd.R_keep (IsS131.apart (show IsS131 w _ gb346 t363 t364 false from by repeat (first | (with_reducible first | exact HI346.out | apply IsS131.alloc | apply IsS131.drewN | apply IsS131.drew | apply IsS131.set_0 | apply IsS131.set_1 | apply IsS131.set_2 | refine IsS131.far ?_ NB346_345.out _ | refine IsS131.far ?_ NB346_347.out _) | exact HI346.out)) (by (with_reducible repeat (first | apply Kd.R_alloc | apply Kd.R_drewN | apply Kd.R_drew)); exact HO_348000.out) (by decide)) hk (fun _ h => h.2)) (fun _ h => h.1)), Zm (KeepBut.blk hk (pk BK345.out) NB345_346.out (by simp)), Zm (KeepBut.blk hk (pk BK347.out) NB347_346.out (by simp)), Zm (hb), Zm (hi)⟩ : _ ∧ _ ∧ _ ∧ _ ∧ _); clear HO_348000 BK345 BK347 HB HI346; obtain ⟨HO_348000, BK345, BK347, HB, HI346⟩ := n0_; (try clear hb); (try clear hb2); (try clear hk); (try clear hi); have hnb89 := NB347_345.out; have hnc89 := NB345_347.out; have hnb90 := NB347_346.out; have hnc90 := NB346_347.out; obtain ⟨hcz91_0, hcz91_1, hfz91_0, hfz91_1⟩ := cf2 BK347.out))
         have n0_ : Aside0 (Kd.R Kd.string 9 (w88.setCell ⟨gb347, 1, none⟩ (.string t367)) w.heap.size (fun _ => True) u348000 x348000_2) := ⟨by (with_reducible repeat (first | apply Kd.R_alloc | apply Kd.R_drewN | apply Kd.R_drew)); exact Kd.R_mono (Kd.R_far (p := ⟨gb347, 1, none⟩) (Kd.R_types HO_348000.out BK347.out (by decide)) (fun _ hk => hk.2) (.string t367)) (fun _ hk => trivial)⟩; have n1_ : Aside0 ((w88.setCell ⟨gb347, 1, none⟩ (.string t367)).heap[gb345]? = some (.cells #[.slice none 0 0, .string (⟨#[]⟩ : ByteArray), .int .i64 0, .int .i64 0] 76 (0, 0))) := ⟨zc_⟩; have n2_ : Aside0 ((w88.setCell ⟨gb347, 1, none⟩ (.string t367)).heap[gb347]? = some (.cells #[u348000, .string t367] 74 (0, 0))) := ⟨zc_⟩; have n3_ : Aside0 (IsS131 w (w88.setCell ⟨gb347, 1, none⟩ (.string t367)) gb346 t368 t369 false) := ⟨by repeat (first | (with_reducible first | exact HI346.out | apply IsS131.alloc | apply IsS131.drewN | apply IsS131.drew | apply IsS131.set_0 | apply IsS131.set_1 | apply IsS131.set_2 | refine IsS131.far ?_ NB346_345.out _ | refine IsS131.far ?_ NB346_347.out _) | exact HI346.out)⟩; have n4_ : Aside0 (Below w.heap.size w (w88.setCell ⟨gb347, 1, none⟩ (.string t367))) := ⟨by repeat (first | (with_reducible first | exact HB.out | apply Zba | apply Zbn | apply Zbd | refine Zbs ?_ (IsS131.ge HI346.out) | refine Zbs ?_ GE345.out | refine Zbs ?_ GE347.out) | exact HB.out)⟩; (try clear HO_348000); (try clear BK345); (try clear BK347); (try clear HI346); (try clear HB); generalize (w88.setCell ⟨gb347, 1, none⟩ (.string t367)) = w92 at n0_ n1_ n2_ n3_ n4_ ⊢; have HO_348000 := n0_; have BK345 := n1_; have BK347 := n2_; have HI346 := n3_; have HB := n4_; clear n0_ n1_ n2_ n3_ n4_; have n0_ := (⟨Zm (Kd.R_drew HO_348000.out), Zm (Zkd BK345.out), Zm (Zkd BK347.out), Zm (IsS131.drew HI346.out), Zm (Zbd HB.out)⟩ : _ ∧ _ ∧ _ ∧ _ ∧ _); clear HO_348000 BK345 BK347 HI346 HB; obtain ⟨HO_348000, BK345, BK347, HI346, HB⟩ := n0_; refine start_ (n := 13) (S := fun w' => w'.cell? ⟨gb346, 0, none⟩ = some (.string t368) ∧ w'.cell? ⟨gb346, 1, none⟩ = some (.int .i64 t369) ∧ w'.cell? ⟨gb346, 2, none⟩ = some (.bool false)) (ds := []) #[false, false, false, false, false, false, false, false, false, false, false, false, false] (by kernel_rfl) rfl rfl ⟨cellS131_0 HI346.out.1, cellS131_1 HI346.out.1, cellS131_2 HI346.out.1⟩ (fun hHeld => ?_); refine with_tabW impl_descRead.tab11 impl_descRead.bits11 (fun HT_ HW_ => ?_); generalize w92.drew = w93 at HO_348000 BK345 BK347 HI346 HB hHeld ⊢; refine pure_ (i := 0) (N := some 46) (v := ?_) (a' := ?_) #[true, false, false, false, false, false, false, false, false, false, false, false, false] rfl rfl (any_of HT_.out (by kernel_rfl)) (fun _ _ _ h => h) (Or.inl ⟨by rfl, ?_⟩) ?_ ?_; rotate_left
         · intro w'; go_simp; with_reducible rfl
         rotate_left
         · simp only [Act.put, List.setIfInBounds_toArray, List.set_cons_zero, List.set_cons_succ, i64_w, i32_w]; rfl
         refine pure_ (i := 1) (N := some 47) (v := ?_) (a' := ?_) #[true, true, false, false, false, false, false, false, false, false, false, false, false] rfl rfl (any_of HT_.out (by kernel_rfl)) (fun _ _ _ h => h) (Or.inl ⟨by rfl, ?_⟩) ?_ ?_; rotate_left
         · intro w'; go_simp; with_reducible rfl
         rotate_left
         · simp only [Act.put, List.setIfInBounds_toArray, List.set_cons_zero, List.set_cons_succ, i64_w, i32_w]; rfl
         refine pure_ (i := 2) (N := some 48) (v := ?_) (a' := ?_) #[true, true, true, false, false, false, false, false, false, false, false, false, false] rfl rfl (any_of HT_.out (by kernel_rfl)) (fun _ _ _ h => h) (Or.inl ⟨by rfl, ?_⟩) ?_ ?_; rotate_left
         · intro w'; go_simp; with_reducible rfl
         rotate_left
         · simp only [Act.put, List.setIfInBounds_toArray, List.set_cons_zero, List.set_cons_succ, i64_w, i32_w]; rfl
         refine take_ (i := 3) (N := some 49) (v := ?_) (a' := ?_) #[true, true, true, true, false, false, false, false, false, false, false, false, false] rfl rfl (take_ofW HT_.out HW_.out (by kernel_rfl)) (fun _ _ _ h => h) (Or.inl ⟨by rfl, ?_⟩) hHeld ?_ ?_; rotate_left
         · rintro w' ⟨s0, s1, s2⟩; go_simp; with_reducible rfl
         rotate_left
         · simp only [Act.put, List.setIfInBounds_toArray, List.set_cons_zero, List.set_cons_succ, i64_w, i32_w]; rfl
         refine pure_ (i := 4) (N := some 50) (v := ?_) (a' := ?_) #[true, true, true, true, true, false, false, false, false, false, false, false, false] rfl rfl (any_of HT_.out (by kernel_rfl)) (fun _ _ _ h => h) (Or.inl ⟨by rfl, ?_⟩) ?_ ?_; rotate_left
         · intro w'; go_simp; with_reducible rfl
         rotate_left
         · simp only [Act.put, List.setIfInBounds_toArray, List.set_cons_zero, List.set_cons_succ, i64_w, i32_w]; rfl
         refine pure_ (i := 5) (N := some 51) (v := ?_) (a' := ?_) #[true, true, true, true, true, true, false, false, false, false, false, false, false] rfl rfl (any_of HT_.out (by kernel_rfl)) (fun _ _ _ h => h) (Or.inl ⟨by rfl, ?_⟩) ?_ ?_; rotate_left
         · intro w'; go_simp; with_reducible rfl
         rotate_left
         · simp only [Act.put, List.setIfInBounds_toArray, List.set_cons_zero, List.set_cons_succ, i64_w, i32_w]; rfl
         refine pure_ (i := 6) (N := some 52) (v := ?_) (a' := ?_) #[true, true, true, true, true, true, true, false, false, false, false, false, false] rfl rfl (any_of HT_.out (by kernel_rfl)) (fun _ _ _ h => h) (Or.inl ⟨by rfl, ?_⟩) ?_ ?_; rotate_left
         · intro w'; go_simp; with_reducible rfl
         rotate_left
         · simp only [Act.put, List.setIfInBounds_toArray, List.set_cons_zero, List.set_cons_succ, i64_w, i32_w]; rfl
         refine pure_ (i := 7) (N := some 53) (v := ?_) (a' := ?_) #[true, true, true, true, true, true, true, true, false, false, false, false, false] rfl rfl (any_of HT_.out (by kernel_rfl)) (fun _ _ _ h => h) (Or.inl ⟨by rfl, ?_⟩) ?_ ?_; rotate_left
         · intro w'; go_simp; with_reducible rfl
         rotate_left
         · simp only [Act.put, List.setIfInBounds_toArray, List.set_cons_zero, List.set_cons_succ, i64_w, i32_w]; rfl
         refine pure_ (i := 9) (N := some 55) (v := ?_) (a' := ?_) #[true, true, true, true, true, true, true, true, false, true, false, false, false] rfl rfl (any_of HT_.out (by kernel_rfl)) (fun _ _ _ h => h) (Or.inl ⟨by rfl, ?_⟩) ?_ ?_; rotate_left
         · intro w'; go_simp; with_reducible rfl
         rotate_left
         · simp only [Act.put, List.setIfInBounds_toArray, List.set_cons_zero, List.set_cons_succ, i64_w, i32_w]; rfl
         refine take_ (i := 8) (N := some 54) (v := ?_) (a' := ?_) #[true, true, true, true, true, true, true, true, true, true, false, false, false] rfl rfl (take_ofW HT_.out HW_.out (by kernel_rfl)) (fun _ _ _ h => h) (Or.inl ⟨by rfl, ?_⟩) hHeld ?_ ?_; rotate_left
         · rintro w' ⟨s0, s1, s2⟩; go_simp; with_reducible rfl
         rotate_left
         · simp only [Act.put, List.setIfInBounds_toArray, List.set_cons_zero, List.set_cons_succ, i64_w, i32_w]; rfl
         refine one_ (i := 10) (N := some 56) #[true, true, true, true, true, true, true, true, true, true, true, false, false] rfl rfl (one_of HT_.out (by kernel_rfl)) (by decide) (fun K hK => ?_); refine goes_ Tryz.func91 (by kernel_rfl) rfl #[.string a0] (by rfl) rfl rfl (by (try simp only [List.map_toArray, List.map_cons, List.map_nil]); first | done | rfl | (simp only [List.length_drop, List.length_take]; rfl)) ?_; with_reducible refine (impl_length.calls a0 t371 _ A85.out).mono ?_
         rintro e w' ⟨rfl, ⟨nd, rfl⟩⟩; refine ⟨_, rfl, ?_⟩; refine hK.out _ _ ⟨cellS131_0 HI346.out.1, cellS131_1 HI346.out.1, cellS131_2 HI346.out.1⟩ (fun hHeld => ?_); clear hK K; refine norm_ (a' := ?_) ?_ ?_; rotate_left
         · show Act.put _ (some 56) _ = _; simp only [Act.put, List.setIfInBounds_toArray, List.set_cons_zero, List.set_cons_succ, i64_w, i32_w]; rfl
         refine pure_ (i := 11) (N := some 57) (v := ?_) (a' := ?_) #[true, true, true, true, true, true, true, true, true, true, true, true, false] rfl rfl (any_of HT_.out (by kernel_rfl)) (fun _ _ _ h => h) (Or.inl ⟨by rfl, ?_⟩) ?_ ?_; rotate_left
         · intro w'; go_simp; with_reducible rfl
         rotate_left
         · simp only [Act.put, List.setIfInBounds_toArray, List.set_cons_zero, List.set_cons_succ, i64_w, i32_w]; rfl
         refine pure_ (i := 12) (N := some 58) (v := ?_) (a' := ?_) #[true, true, true, true, true, true, true, true, true, true, true, true, true] rfl rfl (any_of HT_.out (by kernel_rfl)) (fun _ _ _ h => h) (Or.inl ⟨by rfl, ?_⟩) ?_ ?_; rotate_left
         · intro w'; go_simp; with_reducible rfl
         rotate_left
         · simp only [Act.put, List.setIfInBounds_toArray, List.set_cons_zero, List.set_cons_succ, i64_w, i32_w]; rfl
         refine done_ (done_of HT_.out (by kernel_rfl)) ?_; go_upto_if 58 with (fail); have H := HC86.out; clear HC86; by_cases c94 : t369 < t371; rotate_left
         · rw [if_neg c94] at H; have c94b0 := decide_eq_false c94; clear c94; (first | rw [c94b0] | (simp only [i64_w, i32_w]; rw [c94b0]) | skip); simp only [Option.some.injEq, Prod.mk.injEq] at H; obtain ⟨rfl, rfl, rfl, rfl⟩ := H; have hnb99 := NB347_345.out; have hnc99 := NB345_347.out; have hnb100 := NB347_346.out; have hnc100 := NB346_347.out; obtain ⟨hcz101_0, hcz101_1, hfz101_0, hfz101_1⟩ := cf2 BK347.out; obtain ⟨Ao102, co102, eo102⟩ := Kd.R_slice HO_348000.out; subst eo102; have hnb103 := NB345_346.out; have hnc103 := NB346_345.out; obtain ⟨hcz104_0, hcz104_1, hcz104_2, hcz104_3, hfz104_0, hfz104_1, hfz104_2, hfz104_3⟩ := cf4 BK345.out; go_wp2; refine bodyPost_ret (results_cell_row rfl _ _ gb345 76 #[.slice Ao102 x348000_2.length co102, .string t367, .int .i64 0, .int .i64 0] (0, 0) _ rfl zc_ Tryz.underlying76 rfl (by kernel_rfl)) rfl ?_; exact ⟨_, by first | rfl | (simp [*] <;> rfl), by (with_reducible repeat (first | apply Kd.R_alloc | apply Kd.R_drewN | apply Kd.R_drew)); exact Kd.R_mono (Kd.R_far (p := ⟨gb345, 3, none⟩) (Kd.R_far (p := ⟨gb345, 2, none⟩) (Kd.R_far (p := ⟨gb345, 1, none⟩) (Kd.R_far (p := ⟨gb345, 0, none⟩) (Kd.R_types HO_348000.out BK345.out (by decide)) (fun _ hk => hk.2) (.slice Ao102 x348000_2.length co102)) (fun _ hk => hk.2) (.string t367)) (fun _ hk => hk.2) (.int .i64 0)) (fun _ hk => hk.2) (.int .i64 0)) (fun _ hk => trivial), by repeat (first | (with_reducible first | exact HB.out | apply Zba | apply Zbn | apply Zbd | refine Zbs ?_ (IsS131.ge HI346.out) | refine Zbs ?_ GE345.out | refine Zbs ?_ GE347.out) | exact HB.out)⟩

         rw [if_pos c94] at H
         have c94b0 := decide_eq_true c94
         clear c94
         (first | rw [c94b0] | (simp only [i64_w, i32_w]; rw [c94b0]) | skip)
         simp only [Option.some.injEq, Prod.mk.injEq] at H
         obtain ⟨rfl, rfl, rfl, rfl⟩ := H
         obtain ⟨HGz95, hgz95⟩ := HI346.out
         have hcz95_0 := cellS131_0 HGz95
         have hcz95_1 := cellS131_1 HGz95
         have hcz95_2 := cellS131_2 HGz95
         have hfz95_0 := Zkf HGz95 0
         have hfz95_1 := Zkf HGz95 1
         have hfz95_2 := Zkf HGz95 2
         clear HGz95 hgz95
         have hnb96 := NB345_347.out
         have hnc96 := NB347_345.out
         have hnb97 := NB345_346.out
         have hnc97 := NB346_345.out
         obtain ⟨hcz98_0, hcz98_1, hcz98_2, hcz98_3, hfz98_0, hfz98_1, hfz98_2, hfz98_3⟩ := cf4 BK345.out
         go_wp2
         refine bodyPost_ret (results_cell_row rfl _ _ gb345 76 #[.slice none 0 0, .string (⟨#[]⟩ : ByteArray), .int .i64 t369, .int .i64 3] (0, 0) _ rfl zc_ Tryz.underlying76 rfl (by kernel_rfl)) rfl ?_
         exact ⟨_, by first | rfl | (simp [*] <;> rfl), by first | exact Kd.R_nil _ _ _ _ _ | exact Kd.N_nil _ _ _ _ _ | exact Kd.V_nil _ _ _ _ _ | exact Kd.Q_nil _ _ _ _ _ | exact Kd.S_nil _ _ _ _ _, by repeat (first | (with_reducible first | exact HB.out | apply Zba | apply Zbn | apply Zbd | refine Zbs ?_ (IsS131.ge HI346.out) | refine Zbs ?_ GE345.out | refine Zbs ?_ GE347.out) | exact HB.out)⟩
       subst c74
       rw [if_pos rfl] at H
       simp only [Option.some.injEq, Prod.mk.injEq] at H
       obtain ⟨rfl, rfl, rfl, rfl⟩ := H
       obtain ⟨HGz75, hgz75⟩ := HI346.out
       have hcz75_0 := cellS131_0 HGz75
       have hcz75_1 := cellS131_1 HGz75
       have hcz75_2 := cellS131_2 HGz75
       have hfz75_0 := Zkf HGz75 0
       have hfz75_1 := Zkf HGz75 1
       have hfz75_2 := Zkf HGz75 2
       clear HGz75 hgz75
       try go_wp2_with (first | ((with_reducible refine gate_callee (f := 92) rfl ?_); refine ge_ (some 44) Tryz.func92 #[.pointer (some ⟨gb346, 0, none⟩)] ?_; (with_reducible refine (impl_reader_kind.calls _ gb346 _ _ _ _ _ _ _ w _ ?side1 ?side2 A73.out).mono ?_); (case side1 => repeat (first | (with_reducible first | exact HI346.out | apply IsS131.alloc | apply IsS131.drewN | apply IsS131.drew | apply IsS131.set_0 | apply IsS131.set_1 | apply IsS131.set_2 | refine IsS131.far ?_ NB346_345.out _ | refine IsS131.far ?_ NB346_347.out _) | exact HI346.out)); (case side2 => exact bk HB.out); rintro e w76 ⟨rfl, hi, hb, hk⟩; refine ⟨_, rfl, ?_⟩; have n0_ := (⟨Zm (Kd.R_mono (Kd.R_keep (IsS131.apart (show IsS131 w _ gb346 t363 t364 false from by repeat (first | (with_reducible first | exact HI346.out | apply IsS131.alloc | apply IsS131.drewN | apply IsS131.drew | apply IsS131.set_0 | apply IsS131.set_1 | apply IsS131.set_2 | refine IsS131.far ?_ NB346_345.out _ | refine IsS131.far ?_ NB346_347.out _) | exact HI346.out)) (by (with_reducible repeat (first | apply Kd.R_alloc | apply Kd.R_drewN | apply Kd.R_drew)); exact HO_348000.out) (by decide)) hk (fun _ h => h.2)) (fun _ h => h.1)), Zm (KeepBut.blk hk (pk BK345.out) NB345_346.out (by simp)), Zm (KeepBut.blk hk (pk BK347.out) NB347_346.out (by simp)), Zm (hb), Zm (hi)⟩ : _ ∧ _ ∧ _ ∧ _ ∧ _); clear HO_348000 BK345 BK347 HB HI346; obtain ⟨HO_348000, BK345, BK347, HB, HI346⟩ := n0_; (try clear hb); (try clear hb2); (try clear hk); (try clear hi); have hnb77 := NB347_345.out; have hnc77 := NB345_347.out; have hnb78 := NB347_346.out; have hnc78 := NB346_347.out; obtain ⟨hcz79_0, hcz79_1, hfz79_0, hfz79_1⟩ := cf2 BK347.out))
       have n0_ : Aside0 (Kd.R Kd.string 9 (w76.setCell ⟨gb347, 1, none⟩ (.string t367)) w.heap.size (fun _ => True) u348000 x348000_2) := ⟨by (with_reducible repeat (first | apply Kd.R_alloc | apply Kd.R_drewN | apply Kd.R_drew)); exact Kd.R_mono (Kd.R_far (p := ⟨gb347, 1, none⟩) (Kd.R_types HO_348000.out BK347.out (by decide)) (fun _ hk => hk.2) (.string t367)) (fun _ hk => trivial)⟩
       have n1_ : Aside0 ((w76.setCell ⟨gb347, 1, none⟩ (.string t367)).heap[gb345]? = some (.cells #[.slice none 0 0, .string (⟨#[]⟩ : ByteArray), .int .i64 0, .int .i64 0] 76 (0, 0))) := ⟨zc_⟩
       have n2_ : Aside0 ((w76.setCell ⟨gb347, 1, none⟩ (.string t367)).heap[gb347]? = some (.cells #[u348000, .string t367] 74 (0, 0))) := ⟨zc_⟩
       have n3_ : Aside0 (IsS131 w (w76.setCell ⟨gb347, 1, none⟩ (.string t367)) gb346 t368 t369 true) := ⟨by repeat (first | (with_reducible first | exact HI346.out | apply IsS131.alloc | apply IsS131.drewN | apply IsS131.drew | apply IsS131.set_0 | apply IsS131.set_1 | apply IsS131.set_2 | refine IsS131.far ?_ NB346_345.out _ | refine IsS131.far ?_ NB346_347.out _) | exact HI346.out)⟩
       have n4_ : Aside0 (Below w.heap.size w (w76.setCell ⟨gb347, 1, none⟩ (.string t367))) := ⟨by repeat (first | (with_reducible first | exact HB.out | apply Zba | apply Zbn | apply Zbd | refine Zbs ?_ (IsS131.ge HI346.out) | refine Zbs ?_ GE345.out | refine Zbs ?_ GE347.out) | exact HB.out)⟩
       (try clear HO_348000)
       (try clear BK345)
       (try clear BK347)
       (try clear HI346)
       (try clear HB)
       generalize (w76.setCell ⟨gb347, 1, none⟩ (.string t367)) = w80 at n0_ n1_ n2_ n3_ n4_ ⊢
       have HO_348000 := n0_
       have BK345 := n1_
       have BK347 := n2_
       have HI346 := n3_
       have HB := n4_
       clear n0_ n1_ n2_ n3_ n4_
       have n0_ := (⟨Zm (Kd.R_drew HO_348000.out), Zm (Zkd BK345.out), Zm (Zkd BK347.out), Zm (IsS131.drew HI346.out), Zm (Zbd HB.out)⟩ : _ ∧ _ ∧ _ ∧ _ ∧ _)
       clear HO_348000 BK345 BK347 HI346 HB
       obtain ⟨HO_348000, BK345, BK347, HI346, HB⟩ := n0_
       refine start_ (n := 13) (S := fun w' => w'.cell? ⟨gb346, 0, none⟩ = some (.string t368) ∧ w'.cell? ⟨gb346, 1, none⟩ = some (.int .i64 t369) ∧ w'.cell? ⟨gb346, 2, none⟩ = some (.bool true)) (ds := []) #[false, false, false, false, false, false, false, false, false, false, false, false, false] (by kernel_rfl) rfl rfl ⟨cellS131_0 HI346.out.1, cellS131_1 HI346.out.1, cellS131_2 HI346.out.1⟩ (fun hHeld => ?_); refine with_tabW impl_descRead.tab11 impl_descRead.bits11 (fun HT_ HW_ => ?_)
       generalize w80.drew = w81 at HO_348000 BK345 BK347 HI346 HB hHeld ⊢
       refine pure_ (i := 0) (N := some 46) (v := ?_) (a' := ?_) #[true, false, false, false, false, false, false, false, false, false, false, false, false] rfl rfl (any_of HT_.out (by kernel_rfl)) (fun _ _ _ h => h) (Or.inl ⟨by rfl, ?_⟩) ?_ ?_
       rotate_left
       · intro w'
         go_simp
         with_reducible rfl
       rotate_left
       · simp only [Act.put, List.setIfInBounds_toArray, List.set_cons_zero, List.set_cons_succ, i64_w, i32_w]
         rfl
       refine pure_ (i := 1) (N := some 47) (v := ?_) (a' := ?_) #[true, true, false, false, false, false, false, false, false, false, false, false, false] rfl rfl (any_of HT_.out (by kernel_rfl)) (fun _ _ _ h => h) (Or.inl ⟨by rfl, ?_⟩) ?_ ?_
       rotate_left
       · intro w'
         go_simp
         with_reducible rfl
       rotate_left
       · simp only [Act.put, List.setIfInBounds_toArray, List.set_cons_zero, List.set_cons_succ, i64_w, i32_w]
         rfl
       refine pure_ (i := 2) (N := some 48) (v := ?_) (a' := ?_) #[true, true, true, false, false, false, false, false, false, false, false, false, false] rfl rfl (any_of HT_.out (by kernel_rfl)) (fun _ _ _ h => h) (Or.inl ⟨by rfl, ?_⟩) ?_ ?_
       rotate_left
       · intro w'
         go_simp
         with_reducible rfl
       rotate_left
       · simp only [Act.put, List.setIfInBounds_toArray, List.set_cons_zero, List.set_cons_succ, i64_w, i32_w]
         rfl
       refine take_ (i := 3) (N := some 49) (v := ?_) (a' := ?_) #[true, true, true, true, false, false, false, false, false, false, false, false, false] rfl rfl (take_ofW HT_.out HW_.out (by kernel_rfl)) (fun _ _ _ h => h) (Or.inl ⟨by rfl, ?_⟩) hHeld ?_ ?_
       rotate_left
       · rintro w' ⟨s0, s1, s2⟩
         go_simp
         with_reducible rfl
       rotate_left
       · simp only [Act.put, List.setIfInBounds_toArray, List.set_cons_zero, List.set_cons_succ, i64_w, i32_w]
         rfl
       refine pure_ (i := 4) (N := some 50) (v := ?_) (a' := ?_) #[true, true, true, true, true, false, false, false, false, false, false, false, false] rfl rfl (any_of HT_.out (by kernel_rfl)) (fun _ _ _ h => h) (Or.inl ⟨by rfl, ?_⟩) ?_ ?_
       rotate_left
       · intro w'
         go_simp
         with_reducible rfl
       rotate_left
       · simp only [Act.put, List.setIfInBounds_toArray, List.set_cons_zero, List.set_cons_succ, i64_w, i32_w]
         rfl
       refine pure_ (i := 5) (N := some 51) (v := undef) (a' := ?_) #[true, true, true, true, true, true, false, false, false, false, false, false, false] rfl rfl (any_of HT_.out (by kernel_rfl)) (fun _ _ _ h => h) (Or.inr ⟨by rfl, rfl⟩) ?_ ?_
       rotate_left
       · simp only [Act.put, List.setIfInBounds_toArray, List.set_cons_zero, List.set_cons_succ, i64_w, i32_w]
         rfl
       refine pure_ (i := 6) (N := some 52) (v := undef) (a' := ?_) #[true, true, true, true, true, true, true, false, false, false, false, false, false] rfl rfl (any_of HT_.out (by kernel_rfl)) (fun _ _ _ h => h) (Or.inr ⟨by rfl, rfl⟩) ?_ ?_
       rotate_left
       · simp only [Act.put, List.setIfInBounds_toArray, List.set_cons_zero, List.set_cons_succ, i64_w, i32_w]
         rfl
       refine pure_ (i := 7) (N := some 53) (v := undef) (a' := ?_) #[true, true, true, true, true, true, true, true, false, false, false, false, false] rfl rfl (any_of HT_.out (by kernel_rfl)) (fun _ _ _ h => h) (Or.inr ⟨by rfl, rfl⟩) ?_ ?_
       rotate_left
       · simp only [Act.put, List.setIfInBounds_toArray, List.set_cons_zero, List.set_cons_succ, i64_w, i32_w]
         rfl
       refine pure_ (i := 8) (N := some 54) (v := undef) (a' := ?_) #[true, true, true, true, true, true, true, true, true, false, false, false, false] rfl rfl (any_of HT_.out (by kernel_rfl)) (fun _ _ _ h => h) (Or.inr ⟨by rfl, rfl⟩) ?_ ?_
       rotate_left
       · simp only [Act.put, List.setIfInBounds_toArray, List.set_cons_zero, List.set_cons_succ, i64_w, i32_w]
         rfl
       refine pure_ (i := 9) (N := some 55) (v := undef) (a' := ?_) #[true, true, true, true, true, true, true, true, true, true, false, false, false] rfl rfl (any_of HT_.out (by kernel_rfl)) (fun _ _ _ h => h) (Or.inr ⟨by rfl, rfl⟩) ?_ ?_
       rotate_left
       · simp only [Act.put, List.setIfInBounds_toArray, List.set_cons_zero, List.set_cons_succ, i64_w, i32_w]
         rfl
       refine pure_ (i := 10) (N := some 56) (v := undef) (a' := ?_) #[true, true, true, true, true, true, true, true, true, true, true, false, false] rfl rfl (any_of HT_.out (by kernel_rfl)) (fun _ _ _ h => h) (Or.inr ⟨by rfl, rfl⟩) ?_ ?_
       rotate_left
       · simp only [Act.put, List.setIfInBounds_toArray, List.set_cons_zero, List.set_cons_succ, i64_w, i32_w]
         rfl
       refine pure_ (i := 11) (N := some 57) (v := undef) (a' := ?_) #[true, true, true, true, true, true, true, true, true, true, true, true, false] rfl rfl (any_of HT_.out (by kernel_rfl)) (fun _ _ _ h => h) (Or.inr ⟨by rfl, rfl⟩) ?_ ?_
       rotate_left
       · simp only [Act.put, List.setIfInBounds_toArray, List.set_cons_zero, List.set_cons_succ, i64_w, i32_w]
         rfl
       refine pure_ (i := 12) (N := some 58) (v := ?_) (a' := ?_) #[true, true, true, true, true, true, true, true, true, true, true, true, true] rfl rfl (any_of HT_.out (by kernel_rfl)) (fun _ _ _ h => h) (Or.inl ⟨by rfl, ?_⟩) ?_ ?_
       rotate_left
       · intro w'
         go_simp
         with_reducible rfl
       rotate_left
       · simp only [Act.put, List.setIfInBounds_toArray, List.set_cons_zero, List.set_cons_succ, i64_w, i32_w]
         rfl
       refine done_ (done_of HT_.out (by kernel_rfl)) ?_
       obtain ⟨HGz82, hgz82⟩ := HI346.out
       have hcz82_0 := cellS131_0 HGz82
       have hcz82_1 := cellS131_1 HGz82
       have hcz82_2 := cellS131_2 HGz82
       have hfz82_0 := Zkf HGz82 0
       have hfz82_1 := Zkf HGz82 1
       have hfz82_2 := Zkf HGz82 2
       clear HGz82 hgz82
       have hnb83 := NB345_346.out
       have hnc83 := NB346_345.out
       obtain ⟨hcz84_0, hcz84_1, hcz84_2, hcz84_3, hfz84_0, hfz84_1, hfz84_2, hfz84_3⟩ := cf4 BK345.out
       try go_wp2
       refine bodyPost_ret (results_cell_row rfl _ _ gb345 76 #[.slice none 0 0, .string (⟨#[]⟩ : ByteArray), .int .i64 t369, .int .i64 3] (0, 0) _ rfl zc_ Tryz.underlying76 rfl (by kernel_rfl)) rfl ?_
       exact ⟨_, by first | rfl | (simp [*] <;> rfl), by first | exact Kd.R_nil _ _ _ _ _ | exact Kd.N_nil _ _ _ _ _ | exact Kd.V_nil _ _ _ _ _ | exact Kd.Q_nil _ _ _ _ _ | exact Kd.S_nil _ _ _ _ _, by repeat (first | (with_reducible first | exact HB.out | apply Zba | apply Zbn | apply Zbd | refine Zbs ?_ (IsS131.ge HI346.out) | refine Zbs ?_ GE345.out | refine Zbs ?_ GE347.out) | exact HB.out)⟩
     subst c66
     rw [if_pos rfl] at H
     simp only [Option.some.injEq, Prod.mk.injEq] at H
     obtain ⟨rfl, rfl, rfl, rfl⟩ := H
     obtain ⟨HGz67, hgz67⟩ := HI346.out
     have hcz67_0 := cellS131_0 HGz67
     have hcz67_1 := cellS131_1 HGz67
     have hcz67_2 := cellS131_2 HGz67
     have hfz67_0 := Zkf HGz67 0
     have hfz67_1 := Zkf HGz67 1
     have hfz67_2 := Zkf HGz67 2
     clear HGz67 hgz67
     (try clear HO_348000)
     try go_wp2
     have n0_ := (⟨Zm (Zkd BK345.out), Zm (Zkd BK347.out), Zm (IsS131.drew HI346.out), Zm (Zbd HB.out)⟩ : _ ∧ _ ∧ _ ∧ _)
     clear BK345 BK347 HI346 HB
     obtain ⟨BK345, BK347, HI346, HB⟩ := n0_
     refine start_ (n := 13) (S := fun w' => w'.cell? ⟨gb346, 0, none⟩ = some (.string t363) ∧ w'.cell? ⟨gb346, 1, none⟩ = some (.int .i64 t364) ∧ w'.cell? ⟨gb346, 2, none⟩ = some (.bool true)) (ds := []) #[false, false, false, false, false, false, false, false, false, false, false, false, false] (by kernel_rfl) rfl rfl ⟨cellS131_0 HI346.out.1, cellS131_1 HI346.out.1, cellS131_2 HI346.out.1⟩ (fun hHeld => ?_); refine with_tabW impl_descRead.tab11 impl_descRead.bits11 (fun HT_ HW_ => ?_)
     generalize w37.drew = w68 at BK345 BK347 HI346 HB hHeld ⊢
     refine pure_ (i := 0) (N := some 46) (v := ?_) (a' := ?_) #[true, false, false, false, false, false, false, false, false, false, false, false, false] rfl rfl (any_of HT_.out (by kernel_rfl)) (fun _ _ _ h => h) (Or.inl ⟨by rfl, ?_⟩) ?_ ?_
     rotate_left
     · intro w'
       go_simp
       with_reducible rfl
     rotate_left
     · simp only [Act.put, List.setIfInBounds_toArray, List.set_cons_zero, List.set_cons_succ, i64_w, i32_w]
       rfl
     refine pure_ (i := 1) (N := some 47) (v := ?_) (a' := ?_) #[true, true, false, false, false, false, false, false, false, false, false, false, false] rfl rfl (any_of HT_.out (by kernel_rfl)) (fun _ _ _ h => h) (Or.inl ⟨by rfl, ?_⟩) ?_ ?_
     rotate_left
     · intro w'
       go_simp
       with_reducible rfl
     rotate_left
     · simp only [Act.put, List.setIfInBounds_toArray, List.set_cons_zero, List.set_cons_succ, i64_w, i32_w]
       rfl
     refine pure_ (i := 2) (N := some 48) (v := ?_) (a' := ?_) #[true, true, true, false, false, false, false, false, false, false, false, false, false] rfl rfl (any_of HT_.out (by kernel_rfl)) (fun _ _ _ h => h) (Or.inl ⟨by rfl, ?_⟩) ?_ ?_
     rotate_left
     · intro w'
       go_simp
       with_reducible rfl
     rotate_left
     · simp only [Act.put, List.setIfInBounds_toArray, List.set_cons_zero, List.set_cons_succ, i64_w, i32_w]
       rfl
     refine take_ (i := 3) (N := some 49) (v := ?_) (a' := ?_) #[true, true, true, true, false, false, false, false, false, false, false, false, false] rfl rfl (take_ofW HT_.out HW_.out (by kernel_rfl)) (fun _ _ _ h => h) (Or.inl ⟨by rfl, ?_⟩) hHeld ?_ ?_
     rotate_left
     · rintro w' ⟨s0, s1, s2⟩
       go_simp
       with_reducible rfl
     rotate_left
     · simp only [Act.put, List.setIfInBounds_toArray, List.set_cons_zero, List.set_cons_succ, i64_w, i32_w]
       rfl
     refine pure_ (i := 4) (N := some 50) (v := ?_) (a' := ?_) #[true, true, true, true, true, false, false, false, false, false, false, false, false] rfl rfl (any_of HT_.out (by kernel_rfl)) (fun _ _ _ h => h) (Or.inl ⟨by rfl, ?_⟩) ?_ ?_
     rotate_left
     · intro w'
       go_simp
       with_reducible rfl
     rotate_left
     · simp only [Act.put, List.setIfInBounds_toArray, List.set_cons_zero, List.set_cons_succ, i64_w, i32_w]
       rfl
     refine pure_ (i := 5) (N := some 51) (v := undef) (a' := ?_) #[true, true, true, true, true, true, false, false, false, false, false, false, false] rfl rfl (any_of HT_.out (by kernel_rfl)) (fun _ _ _ h => h) (Or.inr ⟨by rfl, rfl⟩) ?_ ?_
     rotate_left
     · simp only [Act.put, List.setIfInBounds_toArray, List.set_cons_zero, List.set_cons_succ, i64_w, i32_w]
       rfl
     refine pure_ (i := 6) (N := some 52) (v := undef) (a' := ?_) #[true, true, true, true, true, true, true, false, false, false, false, false, false] rfl rfl (any_of HT_.out (by kernel_rfl)) (fun _ _ _ h => h) (Or.inr ⟨by rfl, rfl⟩) ?_ ?_
     rotate_left
     · simp only [Act.put, List.setIfInBounds_toArray, List.set_cons_zero, List.set_cons_succ, i64_w, i32_w]
       rfl
     refine pure_ (i := 7) (N := some 53) (v := undef) (a' := ?_) #[true, true, true, true, true, true, true, true, false, false, false, false, false] rfl rfl (any_of HT_.out (by kernel_rfl)) (fun _ _ _ h => h) (Or.inr ⟨by rfl, rfl⟩) ?_ ?_
     rotate_left
     · simp only [Act.put, List.setIfInBounds_toArray, List.set_cons_zero, List.set_cons_succ, i64_w, i32_w]
       rfl
     refine pure_ (i := 8) (N := some 54) (v := undef) (a' := ?_) #[true, true, true, true, true, true, true, true, true, false, false, false, false] rfl rfl (any_of HT_.out (by kernel_rfl)) (fun _ _ _ h => h) (Or.inr ⟨by rfl, rfl⟩) ?_ ?_
     rotate_left
     · simp only [Act.put, List.setIfInBounds_toArray, List.set_cons_zero, List.set_cons_succ, i64_w, i32_w]
       rfl
     refine pure_ (i := 9) (N := some 55) (v := undef) (a' := ?_) #[true, true, true, true, true, true, true, true, true, true, false, false, false] rfl rfl (any_of HT_.out (by kernel_rfl)) (fun _ _ _ h => h) (Or.inr ⟨by rfl, rfl⟩) ?_ ?_
     rotate_left
     · simp only [Act.put, List.setIfInBounds_toArray, List.set_cons_zero, List.set_cons_succ, i64_w, i32_w]
       rfl
     refine pure_ (i := 10) (N := some 56) (v := undef) (a' := ?_) #[true, true, true, true, true, true, true, true, true, true, true, false, false] rfl rfl (any_of HT_.out (by kernel_rfl)) (fun _ _ _ h => h) (Or.inr ⟨by rfl, rfl⟩) ?_ ?_
     rotate_left
     · simp only [Act.put, List.setIfInBounds_toArray, List.set_cons_zero, List.set_cons_succ, i64_w, i32_w]
       rfl
     refine pure_ (i := 11) (N := some 57) (v := undef) (a' := ?_) #[true, true, true, true, true, true, true, true, true, true, true, true, false] rfl rfl (any_of HT_.out (by kernel_rfl)) (fun _ _ _ h => h) (Or.inr ⟨by rfl, rfl⟩) ?_ ?_
     rotate_left
     · simp only [Act.put, List.setIfInBounds_toArray, List.set_cons_zero, List.set_cons_succ, i64_w, i32_w]
       rfl
     refine pure_ (i := 12) (N := some 58) (v := ?_) (a' := ?_) #[true, true, true, true, true, true, true, true, true, true, true, true, true] rfl rfl (any_of HT_.out (by kernel_rfl)) (fun _ _ _ h => h) (Or.inl ⟨by rfl, ?_⟩) ?_ ?_
     rotate_left
     · intro w'
       go_simp
       with_reducible rfl
     rotate_left
     · simp only [Act.put, List.setIfInBounds_toArray, List.set_cons_zero, List.set_cons_succ, i64_w, i32_w]
       rfl
     refine done_ (done_of HT_.out (by kernel_rfl)) ?_
     obtain ⟨HGz69, hgz69⟩ := HI346.out
     have hcz69_0 := cellS131_0 HGz69
     have hcz69_1 := cellS131_1 HGz69
     have hcz69_2 := cellS131_2 HGz69
     have hfz69_0 := Zkf HGz69 0
     have hfz69_1 := Zkf HGz69 1
     have hfz69_2 := Zkf HGz69 2
     clear HGz69 hgz69
     have hnb70 := NB345_347.out
     have hnc70 := NB347_345.out
     have hnb71 := NB345_346.out
     have hnc71 := NB346_345.out
     obtain ⟨hcz72_0, hcz72_1, hcz72_2, hcz72_3, hfz72_0, hfz72_1, hfz72_2, hfz72_3⟩ := cf4 BK345.out
     try go_wp2
     refine bodyPost_ret (results_cell_row rfl _ _ gb345 76 #[.slice none 0 0, .string (⟨#[]⟩ : ByteArray), .int .i64 t364, .int .i64 3] (0, 0) _ rfl zc_ Tryz.underlying76 rfl (by kernel_rfl)) rfl ?_
     exact ⟨_, by first | rfl | (simp [*] <;> rfl), by first | exact Kd.R_nil _ _ _ _ _ | exact Kd.N_nil _ _ _ _ _ | exact Kd.V_nil _ _ _ _ _ | exact Kd.Q_nil _ _ _ _ _ | exact Kd.S_nil _ _ _ _ _, by repeat (first | (with_reducible first | exact HB.out | apply Zba | apply Zbn | apply Zbd | refine Zbs ?_ (IsS131.ge HI346.out) | refine Zbs ?_ GE345.out | refine Zbs ?_ GE347.out) | exact HB.out)⟩
   subst c38
   rw [if_pos rfl] at H
   by_cases c39 : t365 = true
   rotate_left
   · replace c39 := Bool.eq_false_iff.mpr c39
     subst c39
     rw [if_neg (show ¬ (false = true) by decide)] at H
     replace H := Option.bind_eq_some_iff.mp H
     obtain ⟨t366, A480, H⟩ := H
     replace H : (if t364 < t366 then (some (([] : List ByteArray), (⟨#[]⟩ : ByteArray), t364, 3)) else (some (x348000_2, (⟨#[86]⟩ : ByteArray), 0, 0))) = some (r1, r2, r3, r4) := H
     have A48 := Zm A480
     clear A480
     have HC49 := Zm H
     clear H
     have hnb50 := NB347_345.out
     have hnc50 := NB345_347.out
     have hnb51 := NB347_346.out
     have hnc51 := NB346_347.out
     obtain ⟨hcz52_0, hcz52_1, hfz52_0, hfz52_1⟩ := cf2 BK347.out
     try go_wp2
     have n0_ : Aside0 (Kd.R Kd.string 9 (w37.setCell ⟨gb347, 1, none⟩ (.string (⟨#[86]⟩ : ByteArray))) w.heap.size (fun _ => True) u348000 x348000_2) := ⟨by (with_reducible repeat (first | apply Kd.R_alloc | apply Kd.R_drewN | apply Kd.R_drew)); exact Kd.R_mono (Kd.R_far (p := ⟨gb347, 1, none⟩) (Kd.R_types HO_348000.out BK347.out (by decide)) (fun _ hk => hk.2) (.string (⟨#[86]⟩ : ByteArray))) (fun _ hk => trivial)⟩
     have n1_ : Aside0 ((w37.setCell ⟨gb347, 1, none⟩ (.string (⟨#[86]⟩ : ByteArray))).heap[gb345]? = some (.cells #[.slice none 0 0, .string (⟨#[]⟩ : ByteArray), .int .i64 0, .int .i64 0] 76 (0, 0))) := ⟨zc_⟩
     have n2_ : Aside0 ((w37.setCell ⟨gb347, 1, none⟩ (.string (⟨#[86]⟩ : ByteArray))).heap[gb347]? = some (.cells #[u348000, .string (⟨#[86]⟩ : ByteArray)] 74 (0, 0))) := ⟨zc_⟩
     have n3_ : Aside0 (IsS131 w (w37.setCell ⟨gb347, 1, none⟩ (.string (⟨#[86]⟩ : ByteArray))) gb346 t363 t364 false) := ⟨by repeat (first | (with_reducible first | exact HI346.out | apply IsS131.alloc | apply IsS131.drewN | apply IsS131.drew | apply IsS131.set_0 | apply IsS131.set_1 | apply IsS131.set_2 | refine IsS131.far ?_ NB346_345.out _ | refine IsS131.far ?_ NB346_347.out _) | exact HI346.out)⟩
     have n4_ : Aside0 (Below w.heap.size w (w37.setCell ⟨gb347, 1, none⟩ (.string (⟨#[86]⟩ : ByteArray)))) := ⟨by repeat (first | (with_reducible first | exact HB.out | apply Zba | apply Zbn | apply Zbd | refine Zbs ?_ (IsS131.ge HI346.out) | refine Zbs ?_ GE345.out | refine Zbs ?_ GE347.out) | exact HB.out)⟩
     (try clear HO_348000)
     (try clear BK345)
     (try clear BK347)
     (try clear HI346)
     (try clear HB)
     generalize (w37.setCell ⟨gb347, 1, none⟩ (.string (⟨#[86]⟩ : ByteArray))) = w53 at n0_ n1_ n2_ n3_ n4_ ⊢
     have HO_348000 := n0_
     have BK345 := n1_
     have BK347 := n2_
     have HI346 := n3_
     have HB := n4_
     clear n0_ n1_ n2_ n3_ n4_
     have n0_ := (⟨Zm (Kd.R_drew HO_348000.out), Zm (Zkd BK345.out), Zm (Zkd BK347.out), Zm (IsS131.drew HI346.out), Zm (Zbd HB.out)⟩ : _ ∧ _ ∧ _ ∧ _ ∧ _)
     clear HO_348000 BK345 BK347 HI346 HB
     obtain ⟨HO_348000, BK345, BK347, HI346, HB⟩ := n0_
     refine start_ (n := 13) (S := fun w' => w'.cell? ⟨gb346, 0, none⟩ = some (.string t363) ∧ w'.cell? ⟨gb346, 1, none⟩ = some (.int .i64 t364) ∧ w'.cell? ⟨gb346, 2, none⟩ = some (.bool false)) (ds := []) #[false, false, false, false, false, false, false, false, false, false, false, false, false] (by kernel_rfl) rfl rfl ⟨cellS131_0 HI346.out.1, cellS131_1 HI346.out.1, cellS131_2 HI346.out.1⟩ (fun hHeld => ?_); refine with_tabW impl_descRead.tab11 impl_descRead.bits11 (fun HT_ HW_ => ?_)
     generalize w53.drew = w54 at HO_348000 BK345 BK347 HI346 HB hHeld ⊢
     refine pure_ (i := 0) (N := some 46) (v := ?_) (a' := ?_) #[true, false, false, false, false, false, false, false, false, false, false, false, false] rfl rfl (any_of HT_.out (by kernel_rfl)) (fun _ _ _ h => h) (Or.inl ⟨by rfl, ?_⟩) ?_ ?_
     rotate_left
     · intro w'
       go_simp
       with_reducible rfl
     rotate_left
     · simp only [Act.put, List.setIfInBounds_toArray, List.set_cons_zero, List.set_cons_succ, i64_w, i32_w]
       rfl
     refine pure_ (i := 1) (N := some 47) (v := ?_) (a' := ?_) #[true, true, false, false, false, false, false, false, false, false, false, false, false] rfl rfl (any_of HT_.out (by kernel_rfl)) (fun _ _ _ h => h) (Or.inl ⟨by rfl, ?_⟩) ?_ ?_
     rotate_left
     · intro w'
       go_simp
       with_reducible rfl
     rotate_left
     · simp only [Act.put, List.setIfInBounds_toArray, List.set_cons_zero, List.set_cons_succ, i64_w, i32_w]
       rfl
     refine pure_ (i := 2) (N := some 48) (v := ?_) (a' := ?_) #[true, true, true, false, false, false, false, false, false, false, false, false, false] rfl rfl (any_of HT_.out (by kernel_rfl)) (fun _ _ _ h => h) (Or.inl ⟨by rfl, ?_⟩) ?_ ?_
     rotate_left
     · intro w'
       go_simp
       with_reducible rfl
     rotate_left
     · simp only [Act.put, List.setIfInBounds_toArray, List.set_cons_zero, List.set_cons_succ, i64_w, i32_w]
       rfl
     refine take_ (i := 3) (N := some 49) (v := ?_) (a' := ?_) #[true, true, true, true, false, false, false, false, false, false, false, false, false] rfl rfl (take_ofW HT_.out HW_.out (by kernel_rfl)) (fun _ _ _ h => h) (Or.inl ⟨by rfl, ?_⟩) hHeld ?_ ?_
     rotate_left
     · rintro w' ⟨s0, s1, s2⟩
       go_simp
       with_reducible rfl
     rotate_left
     · simp only [Act.put, List.setIfInBounds_toArray, List.set_cons_zero, List.set_cons_succ, i64_w, i32_w]
       rfl
     refine pure_ (i := 4) (N := some 50) (v := ?_) (a' := ?_) #[true, true, true, true, true, false, false, false, false, false, false, false, false] rfl rfl (any_of HT_.out (by kernel_rfl)) (fun _ _ _ h => h) (Or.inl ⟨by rfl, ?_⟩) ?_ ?_
     rotate_left
     · intro w'
       go_simp
       with_reducible rfl
     rotate_left
     · simp only [Act.put, List.setIfInBounds_toArray, List.set_cons_zero, List.set_cons_succ, i64_w, i32_w]
       rfl
     refine pure_ (i := 5) (N := some 51) (v := ?_) (a' := ?_) #[true, true, true, true, true, true, false, false, false, false, false, false, false] rfl rfl (any_of HT_.out (by kernel_rfl)) (fun _ _ _ h => h) (Or.inl ⟨by rfl, ?_⟩) ?_ ?_
     rotate_left
     · intro w'
       go_simp
       with_reducible rfl
     rotate_left
     · simp only [Act.put, List.setIfInBounds_toArray, List.set_cons_zero, List.set_cons_succ, i64_w, i32_w]
       rfl
     refine pure_ (i := 6) (N := some 52) (v := ?_) (a' := ?_) #[true, true, true, true, true, true, true, false, false, false, false, false, false] rfl rfl (any_of HT_.out (by kernel_rfl)) (fun _ _ _ h => h) (Or.inl ⟨by rfl, ?_⟩) ?_ ?_
     rotate_left
     · intro w'
       go_simp
       with_reducible rfl
     rotate_left
     · simp only [Act.put, List.setIfInBounds_toArray, List.set_cons_zero, List.set_cons_succ, i64_w, i32_w]
       rfl
     refine pure_ (i := 7) (N := some 53) (v := ?_) (a' := ?_) #[true, true, true, true, true, true, true, true, false, false, false, false, false] rfl rfl (any_of HT_.out (by kernel_rfl)) (fun _ _ _ h => h) (Or.inl ⟨by rfl, ?_⟩) ?_ ?_
     rotate_left
     · intro w'
       go_simp
       with_reducible rfl
     rotate_left
     · simp only [Act.put, List.setIfInBounds_toArray, List.set_cons_zero, List.set_cons_succ, i64_w, i32_w]
       rfl
     refine pure_ (i := 9) (N := some 55) (v := ?_) (a' := ?_) #[true, true, true, true, true, true, true, true, false, true, false, false, false] rfl rfl (any_of HT_.out (by kernel_rfl)) (fun _ _ _ h => h) (Or.inl ⟨by rfl, ?_⟩) ?_ ?_
     rotate_left
     · intro w'
       go_simp
       with_reducible rfl
     rotate_left
     · simp only [Act.put, List.setIfInBounds_toArray, List.set_cons_zero, List.set_cons_succ, i64_w, i32_w]
       rfl
     refine take_ (i := 8) (N := some 54) (v := ?_) (a' := ?_) #[true, true, true, true, true, true, true, true, true, true, false, false, false] rfl rfl (take_ofW HT_.out HW_.out (by kernel_rfl)) (fun _ _ _ h => h) (Or.inl ⟨by rfl, ?_⟩) hHeld ?_ ?_
     rotate_left
     · rintro w' ⟨s0, s1, s2⟩
       go_simp
       with_reducible rfl
     rotate_left
     · simp only [Act.put, List.setIfInBounds_toArray, List.set_cons_zero, List.set_cons_succ, i64_w, i32_w]
       rfl
     refine one_ (i := 10) (N := some 56) #[true, true, true, true, true, true, true, true, true, true, true, false, false] rfl rfl (one_of HT_.out (by kernel_rfl)) (by decide) (fun K hK => ?_)
     refine goes_ Tryz.func91 (by kernel_rfl) rfl #[.string a0] (by rfl) rfl rfl (by (try simp only [List.map_toArray, List.map_cons, List.map_nil]); first | done | rfl | (simp only [List.length_drop, List.length_take]; rfl)) ?_
     with_reducible refine (impl_length.calls a0 t366 _ A48.out).mono ?_
     rintro e w' ⟨rfl, ⟨nd, rfl⟩⟩
     refine ⟨_, rfl, ?_⟩
     refine hK.out _ _ ⟨cellS131_0 HI346.out.1, cellS131_1 HI346.out.1, cellS131_2 HI346.out.1⟩ (fun hHeld => ?_)
     clear hK K
     refine norm_ (a' := ?_) ?_ ?_
     rotate_left
     · show Act.put _ (some 56) _ = _
       simp only [Act.put, List.setIfInBounds_toArray, List.set_cons_zero, List.set_cons_succ, i64_w, i32_w]
       rfl
     refine pure_ (i := 11) (N := some 57) (v := ?_) (a' := ?_) #[true, true, true, true, true, true, true, true, true, true, true, true, false] rfl rfl (any_of HT_.out (by kernel_rfl)) (fun _ _ _ h => h) (Or.inl ⟨by rfl, ?_⟩) ?_ ?_
     rotate_left
     · intro w'
       go_simp
       with_reducible rfl
     rotate_left
     · simp only [Act.put, List.setIfInBounds_toArray, List.set_cons_zero, List.set_cons_succ, i64_w, i32_w]
       rfl
     refine pure_ (i := 12) (N := some 58) (v := ?_) (a' := ?_) #[true, true, true, true, true, true, true, true, true, true, true, true, true] rfl rfl (any_of HT_.out (by kernel_rfl)) (fun _ _ _ h => h) (Or.inl ⟨by rfl, ?_⟩) ?_ ?_
     rotate_left
     · intro w'
       go_simp
       with_reducible rfl
     rotate_left
     · simp only [Act.put, List.setIfInBounds_toArray, List.set_cons_zero, List.set_cons_succ, i64_w, i32_w]
       rfl
     refine done_ (done_of HT_.out (by kernel_rfl)) ?_
     go_upto_if 58 with (fail)
     have H := HC49.out
     clear HC49
     by_cases c55 : t364 < t366
     rotate_left
     · rw [if_neg c55] at H
       have c55b0 := decide_eq_false c55
       clear c55
       (first | rw [c55b0] | (simp only [i64_w, i32_w]; rw [c55b0]) | skip)
       simp only [Option.some.injEq, Prod.mk.injEq] at H
       obtain ⟨rfl, rfl, rfl, rfl⟩ := H
       have hnb60 := NB347_345.out
       have hnc60 := NB345_347.out
       have hnb61 := NB347_346.out
       have hnc61 := NB346_347.out
       obtain ⟨hcz62_0, hcz62_1, hfz62_0, hfz62_1⟩ := cf2 BK347.out
       obtain ⟨Ao63, co63, eo63⟩ := Kd.R_slice HO_348000.out
       subst eo63
       have hnb64 := NB345_346.out
       have hnc64 := NB346_345.out
       obtain ⟨hcz65_0, hcz65_1, hcz65_2, hcz65_3, hfz65_0, hfz65_1, hfz65_2, hfz65_3⟩ := cf4 BK345.out
       go_wp2
       refine bodyPost_ret (results_cell_row rfl _ _ gb345 76 #[.slice Ao63 x348000_2.length co63, .string (⟨#[86]⟩ : ByteArray), .int .i64 0, .int .i64 0] (0, 0) _ rfl zc_ Tryz.underlying76 rfl (by kernel_rfl)) rfl ?_
       exact ⟨_, by first | rfl | (simp [*] <;> rfl), by (with_reducible repeat (first | apply Kd.R_alloc | apply Kd.R_drewN | apply Kd.R_drew)); exact Kd.R_mono (Kd.R_far (p := ⟨gb345, 3, none⟩) (Kd.R_far (p := ⟨gb345, 2, none⟩) (Kd.R_far (p := ⟨gb345, 1, none⟩) (Kd.R_far (p := ⟨gb345, 0, none⟩) (Kd.R_types HO_348000.out BK345.out (by decide)) (fun _ hk => hk.2) (.slice Ao63 x348000_2.length co63)) (fun _ hk => hk.2) (.string (⟨#[86]⟩ : ByteArray))) (fun _ hk => hk.2) (.int .i64 0)) (fun _ hk => hk.2) (.int .i64 0)) (fun _ hk => trivial), by repeat (first | (with_reducible first | exact HB.out | apply Zba | apply Zbn | apply Zbd | refine Zbs ?_ (IsS131.ge HI346.out) | refine Zbs ?_ GE345.out | refine Zbs ?_ GE347.out) | exact HB.out)⟩
     rw [if_pos c55] at H
     have c55b0 := decide_eq_true c55
     clear c55
     (first | rw [c55b0] | (simp only [i64_w, i32_w]; rw [c55b0]) | skip)
     simp only [Option.some.injEq, Prod.mk.injEq] at H
     obtain ⟨rfl, rfl, rfl, rfl⟩ := H
     obtain ⟨HGz56, hgz56⟩ := HI346.out
     have hcz56_0 := cellS131_0 HGz56
     have hcz56_1 := cellS131_1 HGz56
     have hcz56_2 := cellS131_2 HGz56
     have hfz56_0 := Zkf HGz56 0
     have hfz56_1 := Zkf HGz56 1
     have hfz56_2 := Zkf HGz56 2
     clear HGz56 hgz56
     have hnb57 := NB345_347.out
     have hnc57 := NB347_345.out
     have hnb58 := NB345_346.out
     have hnc58 := NB346_345.out
     obtain ⟨hcz59_0, hcz59_1, hcz59_2, hcz59_3, hfz59_0, hfz59_1, hfz59_2, hfz59_3⟩ := cf4 BK345.out
     go_wp2
     refine bodyPost_ret (results_cell_row rfl _ _ gb345 76 #[.slice none 0 0, .string (⟨#[]⟩ : ByteArray), .int .i64 t364, .int .i64 3] (0, 0) _ rfl zc_ Tryz.underlying76 rfl (by kernel_rfl)) rfl ?_
     exact ⟨_, by first | rfl | (simp [*] <;> rfl), by first | exact Kd.R_nil _ _ _ _ _ | exact Kd.N_nil _ _ _ _ _ | exact Kd.V_nil _ _ _ _ _ | exact Kd.Q_nil _ _ _ _ _ | exact Kd.S_nil _ _ _ _ _, by repeat (first | (with_reducible first | exact HB.out | apply Zba | apply Zbn | apply Zbd | refine Zbs ?_ (IsS131.ge HI346.out) | refine Zbs ?_ GE345.out | refine Zbs ?_ GE347.out) | exact HB.out)⟩
   subst c39
   rw [if_pos rfl] at H
   simp only [Option.some.injEq, Prod.mk.injEq] at H
   obtain ⟨rfl, rfl, rfl, rfl⟩ := H
   have hnb40 := NB347_345.out
   have hnc40 := NB345_347.out
   have hnb41 := NB347_346.out
   have hnc41 := NB346_347.out
   obtain ⟨hcz42_0, hcz42_1, hfz42_0, hfz42_1⟩ := cf2 BK347.out
   try go_wp2
   have n0_ : Aside0 (Kd.R Kd.string 9 (w37.setCell ⟨gb347, 1, none⟩ (.string (⟨#[86]⟩ : ByteArray))) w.heap.size (fun _ => True) u348000 x348000_2) := ⟨by (with_reducible repeat (first | apply Kd.R_alloc | apply Kd.R_drewN | apply Kd.R_drew)); exact Kd.R_mono (Kd.R_far (p := ⟨gb347, 1, none⟩) (Kd.R_types HO_348000.out BK347.out (by decide)) (fun _ hk => hk.2) (.string (⟨#[86]⟩ : ByteArray))) (fun _ hk => trivial)⟩
   have n1_ : Aside0 ((w37.setCell ⟨gb347, 1, none⟩ (.string (⟨#[86]⟩ : ByteArray))).heap[gb345]? = some (.cells #[.slice none 0 0, .string (⟨#[]⟩ : ByteArray), .int .i64 0, .int .i64 0] 76 (0, 0))) := ⟨zc_⟩
   have n2_ : Aside0 ((w37.setCell ⟨gb347, 1, none⟩ (.string (⟨#[86]⟩ : ByteArray))).heap[gb347]? = some (.cells #[u348000, .string (⟨#[86]⟩ : ByteArray)] 74 (0, 0))) := ⟨zc_⟩
   have n3_ : Aside0 (IsS131 w (w37.setCell ⟨gb347, 1, none⟩ (.string (⟨#[86]⟩ : ByteArray))) gb346 t363 t364 true) := ⟨by repeat (first | (with_reducible first | exact HI346.out | apply IsS131.alloc | apply IsS131.drewN | apply IsS131.drew | apply IsS131.set_0 | apply IsS131.set_1 | apply IsS131.set_2 | refine IsS131.far ?_ NB346_345.out _ | refine IsS131.far ?_ NB346_347.out _) | exact HI346.out)⟩
   have n4_ : Aside0 (Below w.heap.size w (w37.setCell ⟨gb347, 1, none⟩ (.string (⟨#[86]⟩ : ByteArray)))) := ⟨by repeat (first | (with_reducible first | exact HB.out | apply Zba | apply Zbn | apply Zbd | refine Zbs ?_ (IsS131.ge HI346.out) | refine Zbs ?_ GE345.out | refine Zbs ?_ GE347.out) | exact HB.out)⟩
   (try clear HO_348000)
   (try clear BK345)
   (try clear BK347)
   (try clear HI346)
   (try clear HB)
   generalize (w37.setCell ⟨gb347, 1, none⟩ (.string (⟨#[86]⟩ : ByteArray))) = w43 at n0_ n1_ n2_ n3_ n4_ ⊢
   have HO_348000 := n0_
   have BK345 := n1_
   have BK347 := n2_
   have HI346 := n3_
   have HB := n4_
   clear n0_ n1_ n2_ n3_ n4_
   have n0_ := (⟨Zm (Kd.R_drew HO_348000.out), Zm (Zkd BK345.out), Zm (Zkd BK347.out), Zm (IsS131.drew HI346.out), Zm (Zbd HB.out)⟩ : _ ∧ _ ∧ _ ∧ _ ∧ _)
   clear HO_348000 BK345 BK347 HI346 HB
   obtain ⟨HO_348000, BK345, BK347, HI346, HB⟩ := n0_
   refine start_ (n := 13) (S := fun w' => w'.cell? ⟨gb346, 0, none⟩ = some (.string t363) ∧ w'.cell? ⟨gb346, 1, none⟩ = some (.int .i64 t364) ∧ w'.cell? ⟨gb346, 2, none⟩ = some (.bool true)) (ds := []) #[false, false, false, false, false, false, false, false, false, false, false, false, false] (by kernel_rfl) rfl rfl ⟨cellS131_0 HI346.out.1, cellS131_1 HI346.out.1, cellS131_2 HI346.out.1⟩ (fun hHeld => ?_); refine with_tabW impl_descRead.tab11 impl_descRead.bits11 (fun HT_ HW_ => ?_)
   generalize w43.drew = w44 at HO_348000 BK345 BK347 HI346 HB hHeld ⊢
   refine pure_ (i := 0) (N := some 46) (v := ?_) (a' := ?_) #[true, false, false, false, false, false, false, false, false, false, false, false, false] rfl rfl (any_of HT_.out (by kernel_rfl)) (fun _ _ _ h => h) (Or.inl ⟨by rfl, ?_⟩) ?_ ?_
   rotate_left
   · intro w'
     go_simp
     with_reducible rfl
   rotate_left
   · simp only [Act.put, List.setIfInBounds_toArray, List.set_cons_zero, List.set_cons_succ, i64_w, i32_w]
     rfl
   refine pure_ (i := 1) (N := some 47) (v := ?_) (a' := ?_) #[true, true, false, false, false, false, false, false, false, false, false, false, false] rfl rfl (any_of HT_.out (by kernel_rfl)) (fun _ _ _ h => h) (Or.inl ⟨by rfl, ?_⟩) ?_ ?_
   rotate_left
   · intro w'
     go_simp
     with_reducible rfl
   rotate_left
   · simp only [Act.put, List.setIfInBounds_toArray, List.set_cons_zero, List.set_cons_succ, i64_w, i32_w]
     rfl
   refine pure_ (i := 2) (N := some 48) (v := ?_) (a' := ?_) #[true, true, true, false, false, false, false, false, false, false, false, false, false] rfl rfl (any_of HT_.out (by kernel_rfl)) (fun _ _ _ h => h) (Or.inl ⟨by rfl, ?_⟩) ?_ ?_
   rotate_left
   · intro w'
     go_simp
     with_reducible rfl
   rotate_left
   · simp only [Act.put, List.setIfInBounds_toArray, List.set_cons_zero, List.set_cons_succ, i64_w, i32_w]
     rfl
   refine take_ (i := 3) (N := some 49) (v := ?_) (a' := ?_) #[true, true, true, true, false, false, false, false, false, false, false, false, false] rfl rfl (take_ofW HT_.out HW_.out (by kernel_rfl)) (fun _ _ _ h => h) (Or.inl ⟨by rfl, ?_⟩) hHeld ?_ ?_
   rotate_left
   · rintro w' ⟨s0, s1, s2⟩
     go_simp
     with_reducible rfl
   rotate_left
   · simp only [Act.put, List.setIfInBounds_toArray, List.set_cons_zero, List.set_cons_succ, i64_w, i32_w]
     rfl
   refine pure_ (i := 4) (N := some 50) (v := ?_) (a' := ?_) #[true, true, true, true, true, false, false, false, false, false, false, false, false] rfl rfl (any_of HT_.out (by kernel_rfl)) (fun _ _ _ h => h) (Or.inl ⟨by rfl, ?_⟩) ?_ ?_
   rotate_left
   · intro w'
     go_simp
     with_reducible rfl
   rotate_left
   · simp only [Act.put, List.setIfInBounds_toArray, List.set_cons_zero, List.set_cons_succ, i64_w, i32_w]
     rfl
   refine pure_ (i := 5) (N := some 51) (v := undef) (a' := ?_) #[true, true, true, true, true, true, false, false, false, false, false, false, false] rfl rfl (any_of HT_.out (by kernel_rfl)) (fun _ _ _ h => h) (Or.inr ⟨by rfl, rfl⟩) ?_ ?_
   rotate_left
   · simp only [Act.put, List.setIfInBounds_toArray, List.set_cons_zero, List.set_cons_succ, i64_w, i32_w]
     rfl
   refine pure_ (i := 6) (N := some 52) (v := undef) (a' := ?_) #[true, true, true, true, true, true, true, false, false, false, false, false, false] rfl rfl (any_of HT_.out (by kernel_rfl)) (fun _ _ _ h => h) (Or.inr ⟨by rfl, rfl⟩) ?_ ?_
   rotate_left
   · simp only [Act.put, List.setIfInBounds_toArray, List.set_cons_zero, List.set_cons_succ, i64_w, i32_w]
     rfl
   refine pure_ (i := 7) (N := some 53) (v := undef) (a' := ?_) #[true, true, true, true, true, true, true, true, false, false, false, false, false] rfl rfl (any_of HT_.out (by kernel_rfl)) (fun _ _ _ h => h) (Or.inr ⟨by rfl, rfl⟩) ?_ ?_
   rotate_left
   · simp only [Act.put, List.setIfInBounds_toArray, List.set_cons_zero, List.set_cons_succ, i64_w, i32_w]
     rfl
   refine pure_ (i := 8) (N := some 54) (v := undef) (a' := ?_) #[true, true, true, true, true, true, true, true, true, false, false, false, false] rfl rfl (any_of HT_.out (by kernel_rfl)) (fun _ _ _ h => h) (Or.inr ⟨by rfl, rfl⟩) ?_ ?_
   rotate_left
   · simp only [Act.put, List.setIfInBounds_toArray, List.set_cons_zero, List.set_cons_succ, i64_w, i32_w]
     rfl
   refine pure_ (i := 9) (N := some 55) (v := undef) (a' := ?_) #[true, true, true, true, true, true, true, true, true, true, false, false, false] rfl rfl (any_of HT_.out (by kernel_rfl)) (fun _ _ _ h => h) (Or.inr ⟨by rfl, rfl⟩) ?_ ?_
   rotate_left
   · simp only [Act.put, List.setIfInBounds_toArray, List.set_cons_zero, List.set_cons_succ, i64_w, i32_w]
     rfl
   refine pure_ (i := 10) (N := some 56) (v := undef) (a' := ?_) #[true, true, true, true, true, true, true, true, true, true, true, false, false] rfl rfl (any_of HT_.out (by kernel_rfl)) (fun _ _ _ h => h) (Or.inr ⟨by rfl, rfl⟩) ?_ ?_
   rotate_left
   · simp only [Act.put, List.setIfInBounds_toArray, List.set_cons_zero, List.set_cons_succ, i64_w, i32_w]
     rfl
   refine pure_ (i := 11) (N := some 57) (v := undef) (a' := ?_) #[true, true, true, true, true, true, true, true, true, true, true, true, false] rfl rfl (any_of HT_.out (by kernel_rfl)) (fun _ _ _ h => h) (Or.inr ⟨by rfl, rfl⟩) ?_ ?_
   rotate_left
   · simp only [Act.put, List.setIfInBounds_toArray, List.set_cons_zero, List.set_cons_succ, i64_w, i32_w]
     rfl
   refine pure_ (i := 12) (N := some 58) (v := ?_) (a' := ?_) #[true, true, true, true, true, true, true, true, true, true, true, true, true] rfl rfl (any_of HT_.out (by kernel_rfl)) (fun _ _ _ h => h) (Or.inl ⟨by rfl, ?_⟩) ?_ ?_
   rotate_left
   · intro w'
     go_simp
     with_reducible rfl
   rotate_left
   · simp only [Act.put, List.setIfInBounds_toArray, List.set_cons_zero, List.set_cons_succ, i64_w, i32_w]
     rfl
   refine done_ (done_of HT_.out (by kernel_rfl)) ?_
   obtain ⟨HGz45, hgz45⟩ := HI346.out
   have hcz45_0 := cellS131_0 HGz45
   have hcz45_1 := cellS131_1 HGz45
   have hcz45_2 := cellS131_2 HGz45
   have hfz45_0 := Zkf HGz45 0
   have hfz45_1 := Zkf HGz45 1
   have hfz45_2 := Zkf HGz45 2
   clear HGz45 hgz45
   have hnb46 := NB345_346.out
   have hnc46 := NB346_345.out
   obtain ⟨hcz47_0, hcz47_1, hcz47_2, hcz47_3, hfz47_0, hfz47_1, hfz47_2, hfz47_3⟩ := cf4 BK345.out
   try go_wp2
   refine bodyPost_ret (results_cell_row rfl _ _ gb345 76 #[.slice none 0 0, .string (⟨#[]⟩ : ByteArray), .int .i64 t364, .int .i64 3] (0, 0) _ rfl zc_ Tryz.underlying76 rfl (by kernel_rfl)) rfl ?_
   exact ⟨_, by first | rfl | (simp [*] <;> rfl), by first | exact Kd.R_nil _ _ _ _ _ | exact Kd.N_nil _ _ _ _ _ | exact Kd.V_nil _ _ _ _ _ | exact Kd.Q_nil _ _ _ _ _ | exact Kd.S_nil _ _ _ _ _, by repeat (first | (with_reducible first | exact HB.out | apply Zba | apply Zbn | apply Zbd | refine Zbs ?_ (IsS131.ge HI346.out) | refine Zbs ?_ GE345.out | refine Zbs ?_ GE347.out) | exact HB.out)⟩
end Go.Proofs.YtcpnlfkmfpmkdaaGreatDoor.PFnInsText
