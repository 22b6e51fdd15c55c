/- Functions of the program as plain Lean functions, each with a proof that the program's call comes to the same; no condition. Written by a program of this session. -/
import Derived.Test.YtlflbmbcjjegaaaPFnExactClassRightx0
import Derived.Test.YtlflbmbcjjegaaaPFnExactClassRightx12
import Derived.Test.YtlflbmbcjjegaaaPFnExactClassRightx15
import Derived.Test.YtlflbmbcjjegaaaPFnExactClassRightx17
namespace Go.Proofs.Ytlflbmbcjjegaaa.PFnExactClassRight
open Go.RowKit Go.Proofs.YtlflbmbcjjegaaaW.PrintWords Go.Proofs.YtlflbmbcjjegaaaW.PrintLast Go.Proofs.YtlflbmbcjjegaaaW.PrintMore
open Go.Proofs.YtlflbmbcjjegaaaW.PrintWords renaming below_alloc → Zba, pw_below_drewN → Zbn, below_drew1 → Zbd, below_set → Zbs, below_size → Zbz, below_step → Zbt, blk_drewN → Zkn, blk_drew → Zkd, blk_alloc → Zka, blk_frozen → Zkf, blk_far → Zkr, blk_put → Zkp, blk_below → Zkb
open Go.World renaming block_lt_of_cell? → Zlt
open Go.Proofs.YtlflbmbcjjegaaaW.PrintWords.Aside0 renaming mk → Zm
attribute [local go_sem] max2_int min2_int max_two min_two max_three min_three max_four min_four   -- for this text's walks alone
set_option linter.unusedVariables false
set_option linter.unusedSimpArgs false

/-! ### impl_Method: function 166 -/
def impl_Method.l0 : Nat → List (S84) → Int → Int → ByteArray → ByteArray → Option (Int)
 | 0, _, _, _, _, _ => none
 | k + 1, x0, x7, x8, x37000, x38000 => if x8 < x7 then (if 0 ≤ x8 then (if x8 < (x0.length : Int) then ((impl_Class_methodAt_1.f ((rd_T84 x0 x8).f0) ((rd_T84 x0 x8).f1) ((rd_T84 x0 x8).f2) ((rd_T84 x0 x8).f3) ((rd_T84 x0 x8).f4) ((rd_T84 x0 x8).f5) ((rd_T84 x0 x8).f6) ((rd_T84 x0 x8).f7) ((rd_T84 x0 x8).f8) x37000 x38000).bind fun t532 => (if t532 = true then (some x8) else (impl_Method.l0 k x0 x7 (wrap64 (x8 + 1)) x37000 x38000))) else (none)) else (none)) else (some (-1))
def impl_Method.f (k : Nat) (l0 : List (S84)) (s1_0 : ByteArray) (s1_1 : ByteArray) : Option (Int) := impl_Method.l0 k l0 (l0.length : Int) 0 s1_0 s1_1
set_option maxHeartbeats 8000000 in
set_option maxRecDepth 100000 in
theorem impl_Method.calls (k : Nat) (A0 : Option Addr) (c0 : Nat) (l0 : List (S84)) (gb36 : Nat) (s1_0 : ByteArray) (gb37 : Nat) (s1_1 : ByteArray) (r : Int) (w : World) (hr0 : Kd.C k84 w A0 l0.length l0) (hc0 : l0.length ≤ c0) (hb36 : w.heap[gb36]? = some (.cells #[.string s1_0] 9 (0, 0))) (hb37 : w.heap[gb37]? = some (.cells #[.string s1_1] 9 (0, 0))) (hn36_37 : gb36 ≠ gb37) (h : impl_Method.f k l0 s1_0 s1_1 = some r) :
 Calls Try.prog 166 #[.slice A0 l0.length c0, .func (.func 167) #[] #[.pointer (some ⟨gb36, 0, none⟩), .pointer (some ⟨gb37, 0, none⟩)]] w fun e w' => e = .returned (.int .i64 r) ∧ Below w.heap.size w w' := by
 have hu84 := Try.underlying84; have HR0 := Zm hr0; have HC0 := Zm hc0; clear hr0 hc0; have BK36 := Zm hb36; clear hb36; have NB36_37 := Zm hn36_37; have NB37_36 := Zm (Ne.symm hn36_37); clear hn36_37; have BK37 := Zm hb37; clear hb37; have HB := Zm (Below.refl w.heap.size w); have H : (impl_Method.l0 k l0 (l0.length : Int) 0 s1_0 s1_1) = some r := h; clear h; have H' := Zm H; clear H; go_enter Try.func166, Try.ntmps166; go_wp2; go_loopg [8] k (fun kq v8 w' => ∃ (x8_1 : Int), v8 = .int .i64 x8_1 ∧ Aside0 (impl_Method.l0 kq l0 (l0.length : Int) x8_1 s1_0 s1_1 = some r) ∧ Aside0 (kq ≤ k) ∧ Aside0 (w'.heap[gb36]? = some (.cells #[.string s1_0] 9 (0, 0))) ∧ Aside0 (w'.heap[gb37]? = some (.cells #[.string s1_1] 9 (0, 0))) ∧ Aside0 (Below w.heap.size w w'))
 case atStart => exact ⟨(0), (by first | rfl | (simp; done) | (simp [*]; done)), H', ⟨Nat.le_refl _⟩, ⟨pk BK36.out⟩, ⟨pk BK37.out⟩, ⟨bk HB.out⟩⟩
 case round =>
  clear H'; obtain ⟨x8_1, rfl, HA, HK1, BK36, BK37, HB⟩ := hrel
  cases gk with
  | zero => exact absurd HA.out (by simp [impl_Method.l0])
  | succ k1 =>
   have H := HA.out; clear HA; simp only [impl_Method.l0] at H; by_cases c3 : x8_1 < (l0.length : Int); rotate_left
   · rw [if_neg c3] at H; have c3b0 := decide_eq_false c3; clear c3; obtain rfl := Option.some.inj H; go_wp2; go_ret; exact fin_ HB

   rw [if_pos c3] at H
   have c3b0 := decide_eq_true c3
   clear c3
   by_cases c4 : 0 ≤ x8_1
   rotate_left
   · rw [if_neg c4] at H
     exact absurd H (by simp)
   rw [if_pos c4] at H
   have c4b0 := decide_eq_true c4
   clear c4
   by_cases c5 : x8_1 < (l0.length : Int)
   rotate_left
   · rw [if_neg c5] at H
     exact absurd H (by simp)
   rw [if_pos c5] at H
   have c5b0 := decide_eq_true c5
   clear c5
   replace H := Option.bind_eq_some_iff.mp H
   obtain ⟨t532, A60, H⟩ := H
   (try dsimp only at H)
   have A6 := Zm A60
   clear A60
   have HC7 := Zm H
   clear H
   have p531 : 0 ≤ (x8_1 : Int) := of_decide_eq_true (by first | (with_reducible assumption) | assumption)
   have q531 : x8_1 < (l0.length : Int) := of_decide_eq_true (by first | (with_reducible assumption) | assumption)
   obtain ⟨ad531, A531_7, c531_7, A531_8, c531_8, e531, hx531_0, hx531_1, hx531_2, hx531_3, hx531_4, hx531_5, hx531_6, hx531_7, hx531_8, hl531_7, hi531_7, hl531_8, hi531_8⟩ := at_T84 HR0.out x8_1 p531 q531
   cases e531
   replace hx531_0 := hx_ HB hx531_0 (Zlt _ _ hx531_0)
   replace hx531_1 := hx_ HB hx531_1 (Zlt _ _ hx531_1)
   replace hx531_2 := hx_ HB hx531_2 (Zlt _ _ hx531_2)
   replace hx531_3 := hx_ HB hx531_3 (Zlt _ _ hx531_3)
   replace hx531_4 := hx_ HB hx531_4 (Zlt _ _ hx531_4)
   replace hx531_5 := hx_ HB hx531_5 (Zlt _ _ hx531_5)
   replace hx531_6 := hx_ HB hx531_6 (Zlt _ _ hx531_6)
   replace hx531_7 := hx_ HB hx531_7 (Zlt _ _ hx531_7)
   replace hx531_8 := hx_ HB hx531_8 (Zlt _ _ hx531_8)
   have HR531_7 := Zm hi531_7
   have HC531_7 := Zm hl531_7
   clear hi531_7 hl531_7
   have HR531_8 := Zm hi531_8
   have HC531_8 := Zm hl531_8
   clear hi531_8 hl531_8
   replace p531 := eq_true p531
   replace q531 := eq_true q531
   go_upto_if 16 with (first | (go_at_call 167; (first | (with_reducible refine (impl_Class_methodAt_1.calls _ _ _ _ _ _ _ _ _ _ _ _ _ gb36 _ gb37 _ _ _ ?side1 ?side2 ?side3 ?side4 ?side5 ?side6 ?side7 A6.out).mono ?_) | (with_reducible refine (calls_of_args ?_ (impl_Class_methodAt_1.calls _ _ _ _ _ _ _ _ _ _ _ _ _ gb36 _ gb37 _ _ _ ?side1 ?side2 ?side3 ?side4 ?side5 ?side6 ?side7 A6.out)).mono ?_; focus (simp [*]; done))); (case side1 => exact pc (Kd.C_below HR531_7.out HB.out)); (case side2 => exact HC531_7.out); (case side3 => exact pc (Kd.C_below HR531_8.out HB.out)); (case side4 => exact HC531_8.out); (case side5 => (with_reducible repeat (first | refine Zkn ?_ _ | refine Zkd ?_ | refine Zka ?_ _)); exact BK36.out); (case side6 => (with_reducible repeat (first | refine Zkn ?_ _ | refine Zkd ?_ | refine Zka ?_ _)); exact BK37.out); (case side7 => exact NB36_37.out); rintro e w8 ⟨rfl, hb⟩; have n0_ := (⟨Zm (Zkb (pk BK36.out) hb), Zm (Zkb (pk BK37.out) hb), Zm (Zbt (bk HB.out) hb)⟩ : _ ∧ _ ∧ _); clear BK36 BK37 HB; obtain ⟨BK36, BK37, HB⟩ := n0_; (try clear hb); (try clear hb2); (try clear hk); (try clear hi)))
   have H := HC7.out
   clear HC7
   by_cases c9 : t532 = true
   rotate_left
   · replace c9 := Bool.eq_false_iff.mpr c9
     subst c9
     rw [if_neg (show ¬ (false = true) by decide)] at H
     have H' := Zm H
     clear H
     go_wp2
     go_roundg k1
     case measure => have := HK1.out; omega
     case rel => exact ⟨(wrap64 (x8_1 + 1)), (by first | rfl | (simp; done) | (simp [*]; done)), H', ⟨by have := HK1.out; omega⟩, ⟨pk BK36.out⟩, ⟨pk BK37.out⟩, ⟨bk HB.out⟩⟩
   subst c9
   rw [if_pos rfl] at H
   obtain rfl := Option.some.inj H
   go_wp2
   go_ret
   exact fin_ HB
/-! ### impl_Class_methodAt: function 114 -/
def impl_Class_methodAt.f (k : Nat) (a0_0 : ByteArray) (a0_1 : ByteArray) (a0_2 : Bool) (a0_3 : Bool) (l0_4 : List (S123)) (l0_5 : List (S84)) (a1 : ByteArray) (a2 : ByteArray) : Option (Int) := (impl_Method.f k l0_5 a1 a2).bind fun t536 => (some t536)
set_option maxHeartbeats 8000000 in
set_option maxRecDepth 100000 in
theorem impl_Class_methodAt.calls (k : Nat) (a0_0 : ByteArray) (a0_1 : ByteArray) (a0_2 : Bool) (a0_3 : Bool) (A0_4 : Option Addr) (c0_4 : Nat) (l0_4 : List (S123)) (A0_5 : Option Addr) (c0_5 : Nat) (l0_5 : List (S84)) (a1 : ByteArray) (a2 : ByteArray) (r : Int) (w : World) (hr0_4 : Kd.C k123 w A0_4 l0_4.length l0_4) (hc0_4 : l0_4.length ≤ c0_4) (hr0_5 : Kd.C k84 w A0_5 l0_5.length l0_5) (hc0_5 : l0_5.length ≤ c0_5) (h : impl_Class_methodAt.f k a0_0 a0_1 a0_2 a0_3 l0_4 l0_5 a1 a2 = some r) :
 Calls Try.prog 114 #[.agg #[.string a0_0, .string a0_1, .bool a0_2, .bool a0_3, .slice A0_4 l0_4.length c0_4, .slice A0_5 l0_5.length c0_5], .string a1, .string a2] w fun e w' => e = .returned (.int .i64 r) ∧ Below w.heap.size w w' := by
 have hu51 := Try.underlying51; have HR0_4 := Zm hr0_4; have HC0_4 := Zm hc0_4; clear hr0_4 hc0_4; have HR0_5 := Zm hr0_5; have HC0_5 := Zm hc0_5; clear hr0_5 hc0_5; have HB := Zm (Below.refl w.heap.size w); have H : ((impl_Method.f k l0_5 a1 a2).bind fun t536 => (some t536)) = some r := h; clear h; replace H := Option.bind_eq_some_iff.mp H; obtain ⟨t536, A40, H⟩ := H; (try dsimp only at H); have A4 := Zm A40; clear A40; obtain rfl := Option.some.inj H; go_enter Try.func114, Try.ntmps114; go_wp2_with (first | ((with_reducible refine gate_dst (N := 3) rfl ?_); refine box_event ?hg (N := 3) ?hd (cs := #[.string a0_0, .string a0_1, .bool a0_2, .bool a0_3, .slice A0_4 l0_4.length c0_4, .slice A0_5 l0_5.length c0_5]) (t := 51) ?hr ?_; (case hd => rfl); (case hg => rfl); (case hr => first | (go_simp; done) | (go_simp; rfl)); intro gb533 hg w5 hbox hb; have n0_ := (⟨Zm (Zbt (bk HB.out) hb), Zm (hbox), Zm ((by rw [hg]; exact (Zbz (bk HB.out)) : w.heap.size ≤ gb533)), Zm ((by rw [hg]; exact (Zbz (bk HB.out)) : w.heap.size ≤ gb533))⟩ : _ ∧ _ ∧ _ ∧ _); clear HB; obtain ⟨HB, BK533, GW533, GE533⟩ := n0_; clear hb hbox hg) | ((with_reducible refine gate_dst (N := 4) rfl ?_); refine box_event ?hg (N := 4) ?hd (cs := #[.string a1]) (t := 9) ?hr ?_; (case hd => rfl); (case hg => rfl); (case hr => first | (go_simp; done) | (go_simp; rfl)); intro gb534 hg w6 hbox hb; have n0_ := (⟨Zm (Zkb (pk BK533.out) hb), Zm (Zbt (bk HB.out) hb), Zm (hbox), Zm ((by rw [hg]; exact (Zbz (bk HB.out)) : w.heap.size ≤ gb534)), Zm ((by rw [hg]; exact (Zbz (bk HB.out)) : w.heap.size ≤ gb534)), Zm ((by rw [hg]; exact Nat.ne_of_lt (blk_lt (pk BK533.out)) : gb533 ≠ gb534)), Zm ((by rw [hg]; exact Nat.ne_of_gt (blk_lt (pk BK533.out)) : gb534 ≠ gb533))⟩ : _ ∧ _ ∧ _ ∧ _ ∧ _ ∧ _ ∧ _); clear BK533 HB; obtain ⟨BK533, HB, BK534, GW534, GE534, NB533_534, NB534_533⟩ := n0_; clear hb hbox hg) | ((with_reducible refine gate_dst (N := 5) rfl ?_); refine box_event ?hg (N := 5) ?hd (cs := #[.string a2]) (t := 9) ?hr ?_; (case hd => rfl); (case hg => rfl); (case hr => first | (go_simp; done) | (go_simp; rfl)); intro gb535 hg w7 hbox hb; have n0_ := (⟨Zm (Zkb (pk BK533.out) hb), Zm (Zkb (pk BK534.out) hb), Zm (Zbt (bk HB.out) hb), Zm (hbox), Zm ((by rw [hg]; exact (Zbz (bk HB.out)) : w.heap.size ≤ gb535)), Zm ((by rw [hg]; exact (Zbz (bk HB.out)) : w.heap.size ≤ gb535)), Zm ((by rw [hg]; exact Nat.ne_of_lt (blk_lt (pk BK533.out)) : gb533 ≠ gb535)), Zm ((by rw [hg]; exact Nat.ne_of_gt (blk_lt (pk BK533.out)) : gb535 ≠ gb533)), Zm ((by rw [hg]; exact Nat.ne_of_lt (blk_lt (pk BK534.out)) : gb534 ≠ gb535)), Zm ((by rw [hg]; exact Nat.ne_of_gt (blk_lt (pk BK534.out)) : gb535 ≠ gb534))⟩ : _ ∧ _ ∧ _ ∧ _ ∧ _ ∧ _ ∧ _ ∧ _ ∧ _ ∧ _); clear BK533 BK534 HB; obtain ⟨BK533, BK534, HB, BK535, GW535, GE535, NB533_535, NB535_533, NB534_535, NB535_534⟩ := n0_; clear hb hbox hg; have hnb8 := NB533_534.out; have hnc8 := NB534_533.out; have hnb9 := NB533_535.out; have hnc9 := NB535_533.out; obtain ⟨hcz10_0, hcz10_1, hcz10_2, hcz10_3, hcz10_4, hcz10_5⟩ := cz6 BK533.out; (try clear BK533)) | (go_at_call 166; (first | (with_reducible refine (impl_Method.calls _ _ _ _ gb534 _ gb535 _ _ _ ?side1 ?side2 ?side3 ?side4 ?side5 A4.out).mono ?_) | (with_reducible refine (calls_of_args ?_ (impl_Method.calls _ _ _ _ gb534 _ gb535 _ _ _ ?side1 ?side2 ?side3 ?side4 ?side5 A4.out)).mono ?_; focus (simp [*]; done))); (case side1 => exact pc (Kd.C_below HR0_5.out HB.out)); (case side2 => exact HC0_5.out); (case side3 => (with_reducible repeat (first | refine Zkn ?_ _ | refine Zkd ?_ | refine Zka ?_ _)); exact BK534.out); (case side4 => (with_reducible repeat (first | refine Zkn ?_ _ | refine Zkd ?_ | refine Zka ?_ _)); exact BK535.out); (case side5 => exact NB534_535.out); rintro e w11 ⟨rfl, hb⟩; have n0_ := (⟨Zm (Zkb (pk BK534.out) hb), Zm (Zkb (pk BK535.out) hb), Zm (Zbt (bk HB.out) hb)⟩ : _ ∧ _ ∧ _); clear BK534 BK535 HB; obtain ⟨BK534, BK535, HB⟩ := n0_; (try clear hb); (try clear hb2); (try clear hk); (try clear hi))); go_ret; exact fin_ HB

/-! ### impl_ClassRight: function 39 -/
mutual
def impl_ClassRight.j0 : Nat → Bool → ByteArray → ByteArray → Bool → Bool → List (S123) → List (S84) → Option (Bool)
 | 0, _, _, _, _, _, _, _ => none
 | k + 1, x43, x538000, x538001, x538002, x538003, x538004, x538005 => if x43 = true then (some false) else (impl_ClassRight.l0 k x538004 (x538004.length : Int) 0 x538000 x538001 x538002 x538003 x538004 x538005)
def impl_ClassRight.l0 : Nat → List (S123) → Int → Int → ByteArray → ByteArray → Bool → Bool → List (S123) → List (S84) → Option (Bool)
 | 0, _, _, _, _, _, _, _, _, _ => none
 | k + 1, x45, x46, x47, x538000, x538001, x538002, x538003, x538004, x538005 => if x47 < x46 then (if 0 ≤ x47 then (if x47 < (x45.length : Int) then ((impl_NameRight.f k ((rd_T123 x45 x47).f0)).bind fun t542 => (if t542 = true then ((impl_typeRight.f k ((rd_T123 x45 x47).f1)).bind fun t543 => (if t543 = true then ((impl_Class_fieldAt.f k x538000 x538001 x538002 x538003 x538004 x538005 ((rd_T123 x45 x47).f0)).bind fun t544 => (if t544 = x47 then (impl_ClassRight.l0 k x45 x46 (wrap64 (x47 + 1)) x538000 x538001 x538002 x538003 x538004 x538005) else (some false))) else (some false))) else (some false))) else (none)) else (none)) else (impl_ClassRight.l1 k x538005 (x538005.length : Int) 0 x538000 x538001 x538002 x538003 x538004 x538005)
def impl_ClassRight.l1 : Nat → List (S84) → Int → Int → ByteArray → ByteArray → Bool → Bool → List (S123) → List (S84) → Option (Bool)
 | 0, _, _, _, _, _, _, _, _, _ => none
 | k + 1, x72, x73, x74, x538000, x538001, x538002, x538003, x538004, x538005 => if x74 < x73 then (if 0 ≤ x74 then (if x74 < (x72.length : Int) then ((impl_MethodRight.f k ((rd_T84 x72 x74).f0) ((rd_T84 x72 x74).f1) ((rd_T84 x72 x74).f2) ((rd_T84 x72 x74).f3) ((rd_T84 x72 x74).f4) ((rd_T84 x72 x74).f5) ((rd_T84 x72 x74).f6) ((rd_T84 x72 x74).f7) ((rd_T84 x72 x74).f8)).bind fun t547 => (if t547 = true then (if (rd_T84 x72 x74).f3 = true then (if x538003 = true then ((impl_Class_methodAt.f k x538000 x538001 x538002 x538003 x538004 x538005 ((rd_T84 x72 x74).f0) ((rd_T84 x72 x74).f1)).bind fun t548 => (if t548 = x74 then (impl_ClassRight.l1 k x72 x73 (wrap64 (x74 + 1)) x538000 x538001 x538002 x538003 x538004 x538005) else (some false))) else (some false)) else ((impl_Class_methodAt.f k x538000 x538001 x538002 x538003 x538004 x538005 ((rd_T84 x72 x74).f0) ((rd_T84 x72 x74).f1)).bind fun t549 => (if t549 = x74 then (impl_ClassRight.l1 k x72 x73 (wrap64 (x74 + 1)) x538000 x538001 x538002 x538003 x538004 x538005) else (some false)))) else (some false))) else (none)) else (none)) else (some true)
end
def impl_ClassRight.f (k : Nat) (a0_0 : ByteArray) (a0_1 : ByteArray) (a0_2 : Bool) (a0_3 : Bool) (l0_4 : List (S123)) (l0_5 : List (S84)) : Option (Bool) := (impl_NameRight.f k a0_0).bind fun t538 => (if t538 = true then ((impl_NameRight.f k a0_1).bind fun t539 => (if t539 = true then (if a0_0.toList = a0_1.toList then (impl_ClassRight.j0 k true a0_0 a0_1 a0_2 a0_3 l0_4 l0_5) else (if a0_2 = true then (if a0_3 = true then (impl_ClassRight.j0 k true a0_0 a0_1 a0_2 a0_3 l0_4 l0_5) else (if (l0_4.length : Int) > 8 then (impl_ClassRight.j0 k true a0_0 a0_1 a0_2 a0_3 l0_4 l0_5) else (impl_ClassRight.j0 k (decide ((l0_5.length : Int) > 10)) a0_0 a0_1 a0_2 a0_3 l0_4 l0_5))) else (if (l0_4.length : Int) > 8 then (impl_ClassRight.j0 k true a0_0 a0_1 a0_2 a0_3 l0_4 l0_5) else (impl_ClassRight.j0 k (decide ((l0_5.length : Int) > 10)) a0_0 a0_1 a0_2 a0_3 l0_4 l0_5)))) else (impl_ClassRight.j0 k true a0_0 a0_1 a0_2 a0_3 l0_4 l0_5))) else (impl_ClassRight.j0 k true a0_0 a0_1 a0_2 a0_3 l0_4 l0_5))
set_option maxHeartbeats 8000000 in
set_option maxRecDepth 100000 in
theorem impl_ClassRight.calls (k : Nat) (a0_0 : ByteArray) (a0_1 : ByteArray) (a0_2 : Bool) (a0_3 : Bool) (A0_4 : Option Addr) (c0_4 : Nat) (l0_4 : List (S123)) (A0_5 : Option Addr) (c0_5 : Nat) (l0_5 : List (S84)) (r : Bool) (w : World) (hr0_4 : Kd.C k123 w A0_4 l0_4.length l0_4) (hc0_4 : l0_4.length ≤ c0_4) (hr0_5 : Kd.C k84 w A0_5 l0_5.length l0_5) (hc0_5 : l0_5.length ≤ c0_5) (h : impl_ClassRight.f k a0_0 a0_1 a0_2 a0_3 l0_4 l0_5 = some r) :
 Calls Try.prog 39 #[.agg #[.string a0_0, .string a0_1, .bool a0_2, .bool a0_3, .slice A0_4 l0_4.length c0_4, .slice A0_5 l0_5.length c0_5]] w fun e w' => e = .returned (.bool r) ∧ Below w.heap.size w w' := by
 have hu51 := Try.underlying51; have hu123 := Try.underlying123; have hu84 := Try.underlying84; have HR0_4 := Zm hr0_4; have HC0_4 := Zm hc0_4; clear hr0_4 hc0_4; have HR0_5 := Zm hr0_5; have HC0_5 := Zm hc0_5; clear hr0_5 hc0_5; have HB := Zm (Below.refl w.heap.size w); have H : ((impl_NameRight.f k a0_0).bind fun t538 => (if t538 = true then ((impl_NameRight.f k a0_1).bind fun t539 => (if t539 = true then (if a0_0.toList = a0_1.toList then (impl_ClassRight.j0 k true a0_0 a0_1 a0_2 a0_3 l0_4 l0_5) else (if a0_2 = true then (if a0_3 = true then (impl_ClassRight.j0 k true a0_0 a0_1 a0_2 a0_3 l0_4 l0_5) else (if (l0_4.length : Int) > 8 then (impl_ClassRight.j0 k true a0_0 a0_1 a0_2 a0_3 l0_4 l0_5) else (impl_ClassRight.j0 k (decide ((l0_5.length : Int) > 10)) a0_0 a0_1 a0_2 a0_3 l0_4 l0_5))) else (if (l0_4.length : Int) > 8 then (impl_ClassRight.j0 k true a0_0 a0_1 a0_2 a0_3 l0_4 l0_5) else (impl_ClassRight.j0 k (decide ((l0_5.length : Int) > 10)) a0_0 a0_1 a0_2 a0_3 l0_4 l0_5)))) else (impl_ClassRight.j0 k true a0_0 a0_1 a0_2 a0_3 l0_4 l0_5))) else (impl_ClassRight.j0 k true a0_0 a0_1 a0_2 a0_3 l0_4 l0_5))) = some r := h; clear h; have HC2 := Zm H; clear H; go_enter Try.func39, Try.ntmps39; go_upto_region 1 with (first | ((with_reducible refine gate_dst (N := 1) rfl ?_); (try (refine gate_guard (by rfl) ?_; dsimp only)); refine box_event ?hg (N := 1) ?hd (cs := #[.string a0_0, .string a0_1, .bool a0_2, .bool a0_3, .slice A0_4 l0_4.length c0_4, .slice A0_5 l0_5.length c0_5]) (t := 51) ?hr ?_; (case hd => rfl); (case hg => rfl); (case hr => first | (go_simp; done) | (go_simp; rfl)); intro gb537 hg w3 hbox hb; have n0_ := (⟨Zm (Zbt (bk HB.out) hb), Zm (hbox), Zm ((by rw [hg]; exact (Zbz (bk HB.out)) : w.heap.size ≤ gb537)), Zm ((by rw [hg]; exact (Zbz (bk HB.out)) : w.heap.size ≤ gb537))⟩ : _ ∧ _ ∧ _ ∧ _); clear HB; obtain ⟨HB, BK537, GW537, GE537⟩ := n0_; clear hb hbox hg)); (try simp only [Act.put, List.setIfInBounds_toArray, List.set_cons_zero, List.set_cons_succ]); go_cut [43] (fun v43 wc => ∃ (kq : Nat) (x43_1 : Bool), v43 = .bool x43_1 ∧ Aside0 (impl_ClassRight.j0 kq x43_1 a0_0 a0_1 a0_2 a0_3 l0_4 l0_5 = some r) ∧ Aside0 (kq ≤ k) ∧ Aside0 (wc.heap[gb537]? = some (.cells #[.string a0_0, .string a0_1, .bool a0_2, .bool a0_3, (.slice A0_4 l0_4.length c0_4), (.slice A0_5 l0_5.length c0_5)] 51 (0, 0))) ∧ Aside0 (Below w.heap.size w wc))
 case first =>
  have H := HC2.out; clear HC2; replace H := Option.bind_eq_some_iff.mp H; obtain ⟨t538, A40, H⟩ := H; (try dsimp only at H); have A4 := Zm A40; clear A40; by_cases c5 : t538 = true; rotate_left
  · replace c5 := Bool.eq_false_iff.mpr c5; subst c5; rw [if_neg (show ¬ (false = true) by decide)] at H; have H' := Zm H; clear H; obtain ⟨hcz20_0, hcz20_1, hcz20_2, hcz20_3, hcz20_4, hcz20_5⟩ := cz6 BK537.out; go_wp2_with (first | ((with_reducible refine gate_callee (f := 111) rfl ?_); refine ge_ (some 9) Try.func111 #[.string a0_0] ?_; (with_reducible refine (impl_NameRight.calls _ _ _ _ A4.out).mono ?_); rintro e w' ⟨rfl, ⟨nd, rfl⟩⟩; refine ⟨_, rfl, ?_⟩)); go_meet
    case rel => exact ⟨_, (true), (by first | rfl | (simp; done) | (simp [*]; done)), H', ⟨by first | omega | exact Nat.le_refl _⟩, ⟨pk BK537.out⟩, ⟨bk HB.out⟩⟩
  subst c5; rw [if_pos rfl] at H; replace H := Option.bind_eq_some_iff.mp H; obtain ⟨t539, A60, H⟩ := H; (try dsimp only at H); have A6 := Zm A60; clear A60; by_cases c7 : t539 = true; rotate_left
  · replace c7 := Bool.eq_false_iff.mpr c7; subst c7; rw [if_neg (show ¬ (false = true) by decide)] at H; have H' := Zm H; clear H; obtain ⟨hcz19_0, hcz19_1, hcz19_2, hcz19_3, hcz19_4, hcz19_5⟩ := cz6 BK537.out; go_wp2_with (first | ((with_reducible refine gate_callee (f := 111) rfl ?_); refine ge_ (some 9) Try.func111 #[.string a0_0] ?_; (with_reducible refine (impl_NameRight.calls _ _ _ _ A4.out).mono ?_); rintro e w' ⟨rfl, ⟨nd, rfl⟩⟩; refine ⟨_, rfl, ?_⟩) | (go_at_call 111; (first | (with_reducible refine (impl_NameRight.calls _ _ _ _ A6.out).mono ?_) | (with_reducible refine (calls_of_args ?_ (impl_NameRight.calls _ _ _ _ A6.out)).mono ?_; focus (simp [*]; done))); rintro e w' ⟨rfl, ⟨nd, rfl⟩⟩)); go_meet
    case rel => exact ⟨_, (true), (by first | rfl | (simp; done) | (simp [*]; done)), H', ⟨by first | omega | exact Nat.le_refl _⟩, ⟨pk BK537.out⟩, ⟨bk HB.out⟩⟩
  subst c7; rw [if_pos rfl] at H; by_cases c8 : a0_0.toList = a0_1.toList; rotate_left
  · rw [if_neg c8] at H; have c8b0 : (a0_0.toList == a0_1.toList) = false := beq_eq_false_iff_ne.mpr c8; have c8b1 : (a0_0.toList != a0_1.toList) = true := bne_iff_ne.mpr c8; (first | rw [c8b0] | (simp only [i64_w, i32_w]; rw [c8b0]) | skip); by_cases c10 : a0_2 = true; rotate_left
    · replace c10 := Bool.eq_false_iff.mpr c10; subst c10; rw [if_neg (show ¬ (false = true) by decide)] at H; by_cases c16 : (l0_4.length : Int) > 8; rotate_left
      · rw [if_neg c16] at H; have c16b0 : decide (8 < (l0_4.length : Int)) = false := decide_eq_false c16; have c16b1 : decide (8 < l0_4.length) = false := decide_eq_false (by omega); clear c16; have H' := Zm H; clear H; obtain ⟨hcz18_0, hcz18_1, hcz18_2, hcz18_3, hcz18_4, hcz18_5⟩ := cz6 BK537.out; go_wp2_with (first | ((with_reducible refine gate_callee (f := 111) rfl ?_); refine ge_ (some 9) Try.func111 #[.string a0_0] ?_; (with_reducible refine (impl_NameRight.calls _ _ _ _ A4.out).mono ?_); rintro e w' ⟨rfl, ⟨nd, rfl⟩⟩; refine ⟨_, rfl, ?_⟩) | (go_at_call 111; (first | (with_reducible refine (impl_NameRight.calls _ _ _ _ A6.out).mono ?_) | (with_reducible refine (calls_of_args ?_ (impl_NameRight.calls _ _ _ _ A6.out)).mono ?_; focus (simp [*]; done))); rintro e w' ⟨rfl, ⟨nd, rfl⟩⟩)); go_meet
        case rel => exact ⟨_, (decide ((l0_5.length : Int) > 10)), (by first | rfl | (simp; done) | (simp [*]; done)), H', ⟨by first | omega | exact Nat.le_refl _⟩, ⟨pk BK537.out⟩, ⟨bk HB.out⟩⟩
      rw [if_pos c16] at H; have c16b0 : decide (8 < (l0_4.length : Int)) = true := decide_eq_true c16; have c16b1 : decide (8 < l0_4.length) = true := decide_eq_true (by omega); clear c16; have H' := Zm H; clear H; obtain ⟨hcz17_0, hcz17_1, hcz17_2, hcz17_3, hcz17_4, hcz17_5⟩ := cz6 BK537.out; go_wp2_with (first | ((with_reducible refine gate_callee (f := 111) rfl ?_); refine ge_ (some 9) Try.func111 #[.string a0_0] ?_; (with_reducible refine (impl_NameRight.calls _ _ _ _ A4.out).mono ?_); rintro e w' ⟨rfl, ⟨nd, rfl⟩⟩; refine ⟨_, rfl, ?_⟩) | (go_at_call 111; (first | (with_reducible refine (impl_NameRight.calls _ _ _ _ A6.out).mono ?_) | (with_reducible refine (calls_of_args ?_ (impl_NameRight.calls _ _ _ _ A6.out)).mono ?_; focus (simp [*]; done))); rintro e w' ⟨rfl, ⟨nd, rfl⟩⟩)); go_meet
      case rel => exact ⟨_, (true), (by first | rfl | (simp; done) | (simp [*]; done)), H', ⟨by first | omega | exact Nat.le_refl _⟩, ⟨pk BK537.out⟩, ⟨bk HB.out⟩⟩
    subst c10; rw [if_pos rfl] at H; by_cases c11 : a0_3 = true; rotate_left
    · replace c11 := Bool.eq_false_iff.mpr c11; subst c11; rw [if_neg (show ¬ (false = true) by decide)] at H; by_cases c13 : (l0_4.length : Int) > 8; rotate_left
      · rw [if_neg c13] at H; have c13b0 : decide (8 < (l0_4.length : Int)) = false := decide_eq_false c13; have c13b1 : decide (8 < l0_4.length) = false := decide_eq_false (by omega); clear c13; have H' := Zm H; clear H; obtain ⟨hcz15_0, hcz15_1, hcz15_2, hcz15_3, hcz15_4, hcz15_5⟩ := cz6 BK537.out; go_wp2_with (first | ((with_reducible refine gate_callee (f := 111) rfl ?_); refine ge_ (some 9) Try.func111 #[.string a0_0] ?_; (with_reducible refine (impl_NameRight.calls _ _ _ _ A4.out).mono ?_); rintro e w' ⟨rfl, ⟨nd, rfl⟩⟩; refine ⟨_, rfl, ?_⟩) | (go_at_call 111; (first | (with_reducible refine (impl_NameRight.calls _ _ _ _ A6.out).mono ?_) | (with_reducible refine (calls_of_args ?_ (impl_NameRight.calls _ _ _ _ A6.out)).mono ?_; focus (simp [*]; done))); rintro e w' ⟨rfl, ⟨nd, rfl⟩⟩)); go_meet
        case rel => exact ⟨_, (decide ((l0_5.length : Int) > 10)), (by first | rfl | (simp; done) | (simp [*]; done)), H', ⟨by first | omega | exact Nat.le_refl _⟩, ⟨pk BK537.out⟩, ⟨bk HB.out⟩⟩
      rw [if_pos c13] at H; have c13b0 : decide (8 < (l0_4.length : Int)) = true := decide_eq_true c13; have c13b1 : decide (8 < l0_4.length) = true := decide_eq_true (by omega); clear c13; have H' := Zm H; clear H; obtain ⟨hcz14_0, hcz14_1, hcz14_2, hcz14_3, hcz14_4, hcz14_5⟩ := cz6 BK537.out; go_wp2_with (first | ((with_reducible refine gate_callee (f := 111) rfl ?_); refine ge_ (some 9) Try.func111 #[.string a0_0] ?_; (with_reducible refine (impl_NameRight.calls _ _ _ _ A4.out).mono ?_); rintro e w' ⟨rfl, ⟨nd, rfl⟩⟩; refine ⟨_, rfl, ?_⟩) | (go_at_call 111; (first | (with_reducible refine (impl_NameRight.calls _ _ _ _ A6.out).mono ?_) | (with_reducible refine (calls_of_args ?_ (impl_NameRight.calls _ _ _ _ A6.out)).mono ?_; focus (simp [*]; done))); rintro e w' ⟨rfl, ⟨nd, rfl⟩⟩)); go_meet
      case rel => exact ⟨_, (true), (by first | rfl | (simp; done) | (simp [*]; done)), H', ⟨by first | omega | exact Nat.le_refl _⟩, ⟨pk BK537.out⟩, ⟨bk HB.out⟩⟩
    subst c11; rw [if_pos rfl] at H; have H' := Zm H; clear H; obtain ⟨hcz12_0, hcz12_1, hcz12_2, hcz12_3, hcz12_4, hcz12_5⟩ := cz6 BK537.out; go_wp2_with (first | ((with_reducible refine gate_callee (f := 111) rfl ?_); refine ge_ (some 9) Try.func111 #[.string a0_0] ?_; (with_reducible refine (impl_NameRight.calls _ _ _ _ A4.out).mono ?_); rintro e w' ⟨rfl, ⟨nd, rfl⟩⟩; refine ⟨_, rfl, ?_⟩) | (go_at_call 111; (first | (with_reducible refine (impl_NameRight.calls _ _ _ _ A6.out).mono ?_) | (with_reducible refine (calls_of_args ?_ (impl_NameRight.calls _ _ _ _ A6.out)).mono ?_; focus (simp [*]; done))); rintro e w' ⟨rfl, ⟨nd, rfl⟩⟩)); go_meet
    case rel => exact ⟨_, (true), (by first | rfl | (simp; done) | (simp [*]; done)), H', ⟨by first | omega | exact Nat.le_refl _⟩, ⟨pk BK537.out⟩, ⟨bk HB.out⟩⟩
  rw [if_pos c8] at H; have c8b0 : (a0_0.toList == a0_1.toList) = true := beq_iff_eq.mpr c8; have c8b1 : (a0_0.toList != a0_1.toList) = false := bne_eq_false_iff_eq.mpr c8; clear c8; (first | rw [c8b0] | (simp only [i64_w, i32_w]; rw [c8b0]) | skip); have H' := Zm H; clear H; obtain ⟨hcz9_0, hcz9_1, hcz9_2, hcz9_3, hcz9_4, hcz9_5⟩ := cz6 BK537.out; go_wp2_with (first | ((with_reducible refine gate_callee (f := 111) rfl ?_); refine ge_ (some 9) Try.func111 #[.string a0_0] ?_; (with_reducible refine (impl_NameRight.calls _ _ _ _ A4.out).mono ?_); rintro e w' ⟨rfl, ⟨nd, rfl⟩⟩; refine ⟨_, rfl, ?_⟩) | (go_at_call 111; (first | (with_reducible refine (impl_NameRight.calls _ _ _ _ A6.out).mono ?_) | (with_reducible refine (calls_of_args ?_ (impl_NameRight.calls _ _ _ _ A6.out)).mono ?_; focus (simp [*]; done))); rintro e w' ⟨rfl, ⟨nd, rfl⟩⟩)); go_meet
  case rel => exact ⟨_, (true), (by first | rfl | (simp; done) | (simp [*]; done)), H', ⟨by first | omega | exact Nat.le_refl _⟩, ⟨pk BK537.out⟩, ⟨bk HB.out⟩⟩
 case rest =>
  clear HC2; obtain ⟨kq, x43_1, rfl, HA, HJ1, BK537, HB⟩ := hcut
  cases kq with
  | zero => exact absurd HA.out (by simp [impl_ClassRight.j0])
  | succ kj1 =>
   have H := HA.out; clear HA; simp only [impl_ClassRight.j0] at H; by_cases c21 : x43_1 = true; rotate_left
   · replace c21 := Bool.eq_false_iff.mpr c21; subst c21; rw [if_neg (show ¬ (false = true) by decide)] at H; have H' := Zm H; clear H; obtain ⟨hcz22_0, hcz22_1, hcz22_2, hcz22_3, hcz22_4, hcz22_5⟩ := cz6 BK537.out; go_wp2; go_loopg [47] kj1 (fun kq v47 w' => ∃ (x47_2 : Int), v47 = .int .i64 x47_2 ∧ Aside0 (impl_ClassRight.l0 kq l0_4 (l0_4.length : Int) x47_2 a0_0 a0_1 a0_2 a0_3 l0_4 l0_5 = some r) ∧ Aside0 (kq ≤ kj1) ∧ Aside0 (w'.heap[gb537]? = some (.cells #[.string a0_0, .string a0_1, .bool a0_2, .bool a0_3, (.slice A0_4 l0_4.length c0_4), (.slice A0_5 l0_5.length c0_5)] 51 (0, 0))) ∧ Aside0 (Below w.heap.size w w'))
     case atStart => exact ⟨(0), (by first | rfl | (simp; done) | (simp [*]; done)), H', ⟨Nat.le_refl _⟩, ⟨pk BK537.out⟩, ⟨bk HB.out⟩⟩
     case round =>
      clear H'; (try clear c21); (try clear hcz22_0); (try clear hcz22_1); (try clear hcz22_2); (try clear hcz22_3); (try clear hcz22_4); (try clear hcz22_5); obtain ⟨x47_2, rfl, HA, HK2, BK537, HB⟩ := hrel
      cases gk with
      | zero => exact absurd HA.out (by simp [impl_ClassRight.l0])
      | succ k2 =>
       have H := HA.out; clear HA; simp only [impl_ClassRight.l0] at H; by_cases c23 : x47_2 < (l0_4.length : Int); rotate_left
       · rw [if_neg c23] at H; have c23b0 := decide_eq_false c23; clear c23; have H' := Zm H; clear H; obtain ⟨hcz45_0, hcz45_1, hcz45_2, hcz45_3, hcz45_4, hcz45_5⟩ := cz6 BK537.out; go_wp2; go_loopg [74] k2 (fun kq v74 w' => ∃ (x74_3 : Int), v74 = .int .i64 x74_3 ∧ Aside0 (impl_ClassRight.l1 kq l0_5 (l0_5.length : Int) x74_3 a0_0 a0_1 a0_2 a0_3 l0_4 l0_5 = some r) ∧ Aside0 (kq ≤ k2) ∧ Aside0 (w'.heap[gb537]? = some (.cells #[.string a0_0, .string a0_1, .bool a0_2, .bool a0_3, (.slice A0_4 l0_4.length c0_4), (.slice A0_5 l0_5.length c0_5)] 51 (0, 0))) ∧ Aside0 (Below w.heap.size w w'))
         case atStart => exact ⟨(0), (by first | rfl | (simp; done) | (simp [*]; done)), H', ⟨Nat.le_refl _⟩, ⟨pk BK537.out⟩, ⟨bk HB.out⟩⟩
         case round =>
          clear H'; (try clear c21); (try clear c23); (try clear c23b0); (try clear hcz22_0); (try clear hcz22_1); (try clear hcz22_2); (try clear hcz22_3); (try clear hcz22_4); (try clear hcz22_5); (try clear hcz45_0); (try clear hcz45_1); (try clear hcz45_2); (try clear hcz45_3); (try clear hcz45_4); (try clear hcz45_5); obtain ⟨x74_3, rfl, HA, HK3, BK537, HB⟩ := hrel
          cases gk with
          | zero => exact absurd HA.out (by simp [impl_ClassRight.l1])
          | succ k3 =>
           have H := HA.out; clear HA; simp only [impl_ClassRight.l1] at H; by_cases c46 : x74_3 < (l0_5.length : Int); rotate_left
           · rw [if_neg c46] at H; have c46b0 := decide_eq_false c46; clear c46; obtain rfl := Option.some.inj H; go_wp2; go_ret; exact fin_ HB

           rw [if_pos c46] at H
           have c46b0 := decide_eq_true c46
           clear c46
           by_cases c47 : 0 ≤ x74_3
           rotate_left
           · rw [if_neg c47] at H
             exact absurd H (by simp)
           rw [if_pos c47] at H
           have c47b0 := decide_eq_true c47
           clear c47
           by_cases c48 : x74_3 < (l0_5.length : Int)
           rotate_left
           · rw [if_neg c48] at H
             exact absurd H (by simp)
           rw [if_pos c48] at H
           have c48b0 := decide_eq_true c48
           clear c48
           replace H := Option.bind_eq_some_iff.mp H
           obtain ⟨t547, A490, H⟩ := H
           (try dsimp only at H)
           have A49 := Zm A490
           clear A490
           by_cases c50 : t547 = true
           rotate_left
           · replace c50 := Bool.eq_false_iff.mpr c50
             subst c50
             rw [if_neg (show ¬ (false = true) by decide)] at H
             obtain rfl := Option.some.inj H
             have p545 : 0 ≤ (x74_3 : Int) := of_decide_eq_true (by first | (with_reducible assumption) | assumption)
             have q545 : x74_3 < (l0_5.length : Int) := of_decide_eq_true (by first | (with_reducible assumption) | assumption)
             obtain ⟨ad545, A545_7, c545_7, A545_8, c545_8, e545, hx545_0, hx545_1, hx545_2, hx545_3, hx545_4, hx545_5, hx545_6, hx545_7, hx545_8, hl545_7, hi545_7, hl545_8, hi545_8⟩ := at_T84 HR0_5.out x74_3 p545 q545
             cases e545
             replace hx545_0 := hx_ HB hx545_0 (Zlt _ _ hx545_0)
             replace hx545_1 := hx_ HB hx545_1 (Zlt _ _ hx545_1)
             replace hx545_2 := hx_ HB hx545_2 (Zlt _ _ hx545_2)
             replace hx545_3 := hx_ HB hx545_3 (Zlt _ _ hx545_3)
             replace hx545_4 := hx_ HB hx545_4 (Zlt _ _ hx545_4)
             replace hx545_5 := hx_ HB hx545_5 (Zlt _ _ hx545_5)
             replace hx545_6 := hx_ HB hx545_6 (Zlt _ _ hx545_6)
             replace hx545_7 := hx_ HB hx545_7 (Zlt _ _ hx545_7)
             replace hx545_8 := hx_ HB hx545_8 (Zlt _ _ hx545_8)
             have HR545_7 := Zm hi545_7
             have HC545_7 := Zm hl545_7
             clear hi545_7 hl545_7
             have HR545_8 := Zm hi545_8
             have HC545_8 := Zm hl545_8
             clear hi545_8 hl545_8
             replace p545 := eq_true p545
             replace q545 := eq_true q545
             (try clear BK537)
             go_wp2_with (first | ((with_reducible refine gate_dst (N := 6) rfl ?_); (try (refine gate_guard (by rfl) ?_; dsimp only)); refine box_event ?hg (N := 6) ?hd (cs := #[.string (⟨#[]⟩ : ByteArray), .string (⟨#[]⟩ : ByteArray), .bool false, .bool false, .bool false, .int .i64 0, .int .i64 0, .slice none 0 0, .slice none 0 0]) (t := 84) ?hr ?_; (case hd => rfl); (case hg => rfl); (case hr => first | (go_simp; done) | (go_simp; rfl)); intro gb546 hg w80 hbox hb; have n0_ := (⟨Zm (Zbt (bk HB.out) hb), Zm (hbox), Zm ((by rw [hg]; exact (Zbz (bk HB.out)) : w.heap.size ≤ gb546)), Zm ((by rw [hg]; exact (Zbz (bk HB.out)) : w.heap.size ≤ gb546))⟩ : _ ∧ _ ∧ _ ∧ _); clear HB; obtain ⟨HB, BK546, GW546, GE546⟩ := n0_; clear hb hbox hg; obtain ⟨hcz81_0, hcz81_1, hcz81_2, hcz81_3, hcz81_4, hcz81_5, hcz81_6, hcz81_7, hcz81_8⟩ := cz9 BK546.out; have hfz81_0 := Zkf BK546.out 0; have hfz81_1 := Zkf BK546.out 1; have hfz81_2 := Zkf BK546.out 2; have hfz81_3 := Zkf BK546.out 3; have hfz81_4 := Zkf BK546.out 4; have hfz81_5 := Zkf BK546.out 5; have hfz81_6 := Zkf BK546.out 6; have hfz81_7 := Zkf BK546.out 7; have hfz81_8 := Zkf BK546.out 8) | ((with_reducible refine gate_callee (f := 36) rfl ?_); refine ge_ (some 80) Try.func36 #[.agg #[.string ((rd_T84 l0_5 x74_3).f0), .string ((rd_T84 l0_5 x74_3).f1), .bool ((rd_T84 l0_5 x74_3).f2), .bool ((rd_T84 l0_5 x74_3).f3), .bool ((rd_T84 l0_5 x74_3).f4), .int .i64 ((rd_T84 l0_5 x74_3).f5), .int .i64 ((rd_T84 l0_5 x74_3).f6), .slice A545_7 ((rd_T84 l0_5 x74_3).f7).length c545_7, .slice A545_8 ((rd_T84 l0_5 x74_3).f8).length c545_8]] ?_; (with_reducible refine (impl_MethodRight.calls _ _ _ _ _ _ _ _ _ _ _ _ _ _ _ _ ?side1 ?side2 ?side3 ?side4 A49.out).mono ?_); (case side1 => exact Kd.C_below HR545_7.out hb_); (case side2 => exact HC545_7.out); (case side3 => exact Kd.C_below HR545_8.out hb_); (case side4 => exact HC545_8.out); rintro e w82 ⟨rfl, hb⟩; refine ⟨_, rfl, ?_⟩; have n0_ := (⟨Zm (Zkb (g := gb546) (o := .cells #[.string ((rd_T84 l0_5 x74_3).f0), .string ((rd_T84 l0_5 x74_3).f1), .bool ((rd_T84 l0_5 x74_3).f2), .bool ((rd_T84 l0_5 x74_3).f3), .bool ((rd_T84 l0_5 x74_3).f4), .int .i64 ((rd_T84 l0_5 x74_3).f5), .int .i64 ((rd_T84 l0_5 x74_3).f6), .slice A545_7 ((rd_T84 l0_5 x74_3).f7).length c545_7, .slice A545_8 ((rd_T84 l0_5 x74_3).f8).length c545_8] 84 (0, 0)) zc_ hb), Zm (Zbt hb_ hb)⟩ : _ ∧ _); clear BK546 HB; obtain ⟨BK546, HB⟩ := n0_; (try clear hb); (try clear hb2); (try clear hk); (try clear hi)))
             go_ret
             exact fin_ HB
           subst c50
           rw [if_pos rfl] at H
           obtain ⟨bq51, hbq51⟩ : ∃ b_ : Bool, b_ = ((rd_T84 l0_5 x74_3).f3) := ⟨_, rfl⟩
           (try rw [← hbq51] at A49)
           replace H : (if bq51 = true then (if a0_3 = true then ((impl_Class_methodAt.f k3 a0_0 a0_1 a0_2 a0_3 l0_4 l0_5 ((rd_T84 l0_5 x74_3).f0) ((rd_T84 l0_5 x74_3).f1)).bind fun t548 => (if t548 = x74_3 then (impl_ClassRight.l1 k3 l0_5 (l0_5.length : Int) (wrap64 (x74_3 + 1)) a0_0 a0_1 a0_2 a0_3 l0_4 l0_5) else (some false))) else (some false)) else ((impl_Class_methodAt.f k3 a0_0 a0_1 a0_2 a0_3 l0_4 l0_5 ((rd_T84 l0_5 x74_3).f0) ((rd_T84 l0_5 x74_3).f1)).bind fun t549 => (if t549 = x74_3 then (impl_ClassRight.l1 k3 l0_5 (l0_5.length : Int) (wrap64 (x74_3 + 1)) a0_0 a0_1 a0_2 a0_3 l0_4 l0_5) else (some false)))) = some r := by rw [← hbq51] at H; exact H
           have Nbq51 := Zm hbq51
           clear hbq51
           by_cases c52 : bq51 = true
           rotate_left
           · replace c52 := Bool.eq_false_iff.mpr c52
             subst c52
             rw [if_neg (show ¬ (false = true) by decide)] at H
             replace H := Option.bind_eq_some_iff.mp H
             obtain ⟨t549, A700, H⟩ := H
             (try dsimp only at H)
             have A70 := Zm A700
             clear A700
             have HC71 := Zm H
             clear H
             have p545 : 0 ≤ (x74_3 : Int) := of_decide_eq_true (by first | (with_reducible assumption) | assumption)
             have q545 : x74_3 < (l0_5.length : Int) := of_decide_eq_true (by first | (with_reducible assumption) | assumption)
             obtain ⟨ad545, A545_7, c545_7, A545_8, c545_8, e545, hx545_0, hx545_1, hx545_2, hx545_3, hx545_4, hx545_5, hx545_6, hx545_7, hx545_8, hl545_7, hi545_7, hl545_8, hi545_8⟩ := at_T84 HR0_5.out x74_3 p545 q545
             (try rw [← Nbq51.out] at hx545_2)
             (try rw [← Nbq51.out] at hx545_3)
             (try rw [← Nbq51.out] at hx545_4)
             cases e545
             replace hx545_0 := hx_ HB hx545_0 (Zlt _ _ hx545_0)
             replace hx545_1 := hx_ HB hx545_1 (Zlt _ _ hx545_1)
             replace hx545_2 := hx_ HB hx545_2 (Zlt _ _ hx545_2)
             replace hx545_3 := hx_ HB hx545_3 (Zlt _ _ hx545_3)
             replace hx545_4 := hx_ HB hx545_4 (Zlt _ _ hx545_4)
             replace hx545_5 := hx_ HB hx545_5 (Zlt _ _ hx545_5)
             replace hx545_6 := hx_ HB hx545_6 (Zlt _ _ hx545_6)
             replace hx545_7 := hx_ HB hx545_7 (Zlt _ _ hx545_7)
             replace hx545_8 := hx_ HB hx545_8 (Zlt _ _ hx545_8)
             have HR545_7 := Zm hi545_7
             have HC545_7 := Zm hl545_7
             clear hi545_7 hl545_7
             have HR545_8 := Zm hi545_8
             have HC545_8 := Zm hl545_8
             clear hi545_8 hl545_8
             replace p545 := eq_true p545
             replace q545 := eq_true q545
             go_upto_if 100 with (first | ((with_reducible refine gate_dst (N := 6) rfl ?_); (try (refine gate_guard (by rfl) ?_; dsimp only)); refine box_event ?hg (N := 6) ?hd (cs := #[.string (⟨#[]⟩ : ByteArray), .string (⟨#[]⟩ : ByteArray), .bool false, .bool false, .bool false, .int .i64 0, .int .i64 0, .slice none 0 0, .slice none 0 0]) (t := 84) ?hr ?_; (case hd => rfl); (case hg => rfl); (case hr => first | (go_simp; done) | (go_simp; rfl)); intro gb546 hg w72 hbox hb; have n0_ := (⟨Zm (Zkb (pk BK537.out) hb), Zm (Zbt (bk HB.out) hb), Zm (hbox), Zm ((by rw [hg]; exact (Zbz (bk HB.out)) : w.heap.size ≤ gb546)), Zm ((by rw [hg]; exact (Zbz (bk HB.out)) : w.heap.size ≤ gb546)), Zm ((by rw [hg]; exact Nat.ne_of_lt (blk_lt (pk BK537.out)) : gb537 ≠ gb546)), Zm ((by rw [hg]; exact Nat.ne_of_gt (blk_lt (pk BK537.out)) : gb546 ≠ gb537))⟩ : _ ∧ _ ∧ _ ∧ _ ∧ _ ∧ _ ∧ _); clear BK537 HB; obtain ⟨BK537, HB, BK546, GW546, GE546, NB537_546, NB546_537⟩ := n0_; clear hb hbox hg; have hnb73 := NB546_537.out; have hnc73 := NB537_546.out; obtain ⟨hcz74_0, hcz74_1, hcz74_2, hcz74_3, hcz74_4, hcz74_5, hcz74_6, hcz74_7, hcz74_8⟩ := cz9 BK546.out; have hfz74_0 := Zkf BK546.out 0; have hfz74_1 := Zkf BK546.out 1; have hfz74_2 := Zkf BK546.out 2; have hfz74_3 := Zkf BK546.out 3; have hfz74_4 := Zkf BK546.out 4; have hfz74_5 := Zkf BK546.out 5; have hfz74_6 := Zkf BK546.out 6; have hfz74_7 := Zkf BK546.out 7; have hfz74_8 := Zkf BK546.out 8) | ((with_reducible refine gate_callee (f := 36) rfl ?_); refine ge_ (some 80) Try.func36 #[.agg #[.string ((rd_T84 l0_5 x74_3).f0), .string ((rd_T84 l0_5 x74_3).f1), .bool ((rd_T84 l0_5 x74_3).f2), .bool false, .bool ((rd_T84 l0_5 x74_3).f4), .int .i64 ((rd_T84 l0_5 x74_3).f5), .int .i64 ((rd_T84 l0_5 x74_3).f6), .slice A545_7 ((rd_T84 l0_5 x74_3).f7).length c545_7, .slice A545_8 ((rd_T84 l0_5 x74_3).f8).length c545_8]] ?_; (with_reducible refine (impl_MethodRight.calls _ _ _ _ _ _ _ _ _ _ _ _ _ _ _ _ ?side1 ?side2 ?side3 ?side4 A49.out).mono ?_); (case side1 => exact Kd.C_below HR545_7.out hb_); (case side2 => exact HC545_7.out); (case side3 => exact Kd.C_below HR545_8.out hb_); (case side4 => exact HC545_8.out); rintro e w75 ⟨rfl, hb⟩; refine ⟨_, rfl, ?_⟩; have n0_ := (⟨Zm (Zkb (g := gb537) (o := .cells #[.string a0_0, .string a0_1, .bool a0_2, .bool a0_3, .slice A0_4 l0_4.length c0_4, .slice (some ad545) l0_5.length c0_5] 51 (0, 0)) zc_ hb), Zm (Zkb (g := gb546) (o := .cells #[.string ((rd_T84 l0_5 x74_3).f0), .string ((rd_T84 l0_5 x74_3).f1), .bool ((rd_T84 l0_5 x74_3).f2), .bool false, .bool ((rd_T84 l0_5 x74_3).f4), .int .i64 ((rd_T84 l0_5 x74_3).f5), .int .i64 ((rd_T84 l0_5 x74_3).f6), .slice A545_7 ((rd_T84 l0_5 x74_3).f7).length c545_7, .slice A545_8 ((rd_T84 l0_5 x74_3).f8).length c545_8] 84 (0, 0)) zc_ hb), Zm (Zbt hb_ hb)⟩ : _ ∧ _ ∧ _); clear BK537 BK546 HB; obtain ⟨BK537, BK546, HB⟩ := n0_; (try clear hb); (try clear hb2); (try clear hk); (try clear hi); obtain ⟨hcz76_0, hcz76_1, hcz76_2, hcz76_3, hcz76_4, hcz76_5, hcz76_6, hcz76_7, hcz76_8⟩ := cz9 BK546.out; have hfz76_0 := Zkf BK546.out 0; have hfz76_1 := Zkf BK546.out 1; have hfz76_2 := Zkf BK546.out 2; have hfz76_3 := Zkf BK546.out 3; have hfz76_4 := Zkf BK546.out 4; have hfz76_5 := Zkf BK546.out 5; have hfz76_6 := Zkf BK546.out 6; have hfz76_7 := Zkf BK546.out 7; have hfz76_8 := Zkf BK546.out 8; obtain ⟨hcz77_0, hcz77_1, hcz77_2, hcz77_3, hcz77_4, hcz77_5⟩ := cz6 BK537.out; have hfz77_5 := Zkf BK537.out 5) | (go_at_call 114; (first | (with_reducible refine (impl_Class_methodAt.calls _ _ _ _ _ _ _ _ _ _ _ _ _ _ _ ?side1 ?side2 ?side3 ?side4 A70.out).mono ?_) | (with_reducible refine (calls_of_args ?_ (impl_Class_methodAt.calls _ _ _ _ _ _ _ _ _ _ _ _ _ _ _ ?side1 ?side2 ?side3 ?side4 A70.out)).mono ?_; focus (simp [*]; done))); (case side1 => exact pc (Kd.C_below HR0_4.out HB.out)); (case side2 => exact HC0_4.out); (case side3 => exact pc (Kd.C_below HR0_5.out HB.out)); (case side4 => exact HC0_5.out); rintro e w78 ⟨rfl, hb⟩; have n0_ := (⟨Zm (Zkb (pk BK537.out) hb), Zm (Zkb (pk BK546.out) hb), Zm (Zbt (bk HB.out) hb)⟩ : _ ∧ _ ∧ _); clear BK537 BK546 HB; obtain ⟨BK537, BK546, HB⟩ := n0_; (try clear hb); (try clear hb2); (try clear hk); (try clear hi)))
             have H := HC71.out
             clear HC71
             by_cases c79 : t549 = x74_3
             rotate_left
             · rw [if_neg c79] at H
               have c79b0 : (t549 == x74_3) = false := beq_eq_false_iff_ne.mpr c79
               have c79b1 : (t549 != x74_3) = true := bne_iff_ne.mpr c79
               (first | rw [c79b0] | (simp only [i64_w, i32_w]; rw [c79b0]) | skip)
               obtain rfl := Option.some.inj H
               go_wp2
               go_ret
               exact fin_ HB
             rw [if_pos c79] at H
             have c79b0 : (t549 == x74_3) = true := beq_iff_eq.mpr c79
             have c79b1 : (t549 != x74_3) = false := bne_eq_false_iff_eq.mpr c79
             clear c79
             (first | rw [c79b0] | (simp only [i64_w, i32_w]; rw [c79b0]) | skip)
             have H' := Zm H
             clear H
             go_wp2
             go_roundg k3
             case measure => have := HJ1.out; have := HK2.out; have := HK3.out; omega
             case rel => exact ⟨(wrap64 (x74_3 + 1)), (by first | rfl | (simp; done) | (simp [*]; done)), H', ⟨by have := HJ1.out; have := HK2.out; have := HK3.out; omega⟩, ⟨pk BK537.out⟩, ⟨bk HB.out⟩⟩
           subst c52
           rw [if_pos rfl] at H
           by_cases c53 : a0_3 = true
           rotate_left
           · replace c53 := Bool.eq_false_iff.mpr c53
             subst c53
             rw [if_neg (show ¬ (false = true) by decide)] at H
             obtain rfl := Option.some.inj H
             have p545 : 0 ≤ (x74_3 : Int) := of_decide_eq_true (by first | (with_reducible assumption) | assumption)
             have q545 : x74_3 < (l0_5.length : Int) := of_decide_eq_true (by first | (with_reducible assumption) | assumption)
             obtain ⟨ad545, A545_7, c545_7, A545_8, c545_8, e545, hx545_0, hx545_1, hx545_2, hx545_3, hx545_4, hx545_5, hx545_6, hx545_7, hx545_8, hl545_7, hi545_7, hl545_8, hi545_8⟩ := at_T84 HR0_5.out x74_3 p545 q545
             (try rw [← Nbq51.out] at hx545_2)
             (try rw [← Nbq51.out] at hx545_3)
             (try rw [← Nbq51.out] at hx545_4)
             cases e545
             replace hx545_0 := hx_ HB hx545_0 (Zlt _ _ hx545_0)
             replace hx545_1 := hx_ HB hx545_1 (Zlt _ _ hx545_1)
             replace hx545_2 := hx_ HB hx545_2 (Zlt _ _ hx545_2)
             replace hx545_3 := hx_ HB hx545_3 (Zlt _ _ hx545_3)
             replace hx545_4 := hx_ HB hx545_4 (Zlt _ _ hx545_4)
             replace hx545_5 := hx_ HB hx545_5 (Zlt _ _ hx545_5)
             replace hx545_6 := hx_ HB hx545_6 (Zlt _ _ hx545_6)
             replace hx545_7 := hx_ HB hx545_7 (Zlt _ _ hx545_7)
             replace hx545_8 := hx_ HB hx545_8 (Zlt _ _ hx545_8)
             have HR545_7 := Zm hi545_7
             have HC545_7 := Zm hl545_7
             clear hi545_7 hl545_7
             have HR545_8 := Zm hi545_8
             have HC545_8 := Zm hl545_8
             clear hi545_8 hl545_8
             replace p545 := eq_true p545
             replace q545 := eq_true q545
             go_wp2_with (first | ((with_reducible refine gate_dst (N := 6) rfl ?_); (try (refine gate_guard (by rfl) ?_; dsimp only)); refine box_event ?hg (N := 6) ?hd (cs := #[.string (⟨#[]⟩ : ByteArray), .string (⟨#[]⟩ : ByteArray), .bool false, .bool false, .bool false, .int .i64 0, .int .i64 0, .slice none 0 0, .slice none 0 0]) (t := 84) ?hr ?_; (case hd => rfl); (case hg => rfl); (case hr => first | (go_simp; done) | (go_simp; rfl)); intro gb546 hg w64 hbox hb; have n0_ := (⟨Zm (Zkb (pk BK537.out) hb), Zm (Zbt (bk HB.out) hb), Zm (hbox), Zm ((by rw [hg]; exact (Zbz (bk HB.out)) : w.heap.size ≤ gb546)), Zm ((by rw [hg]; exact (Zbz (bk HB.out)) : w.heap.size ≤ gb546)), Zm ((by rw [hg]; exact Nat.ne_of_lt (blk_lt (pk BK537.out)) : gb537 ≠ gb546)), Zm ((by rw [hg]; exact Nat.ne_of_gt (blk_lt (pk BK537.out)) : gb546 ≠ gb537))⟩ : _ ∧ _ ∧ _ ∧ _ ∧ _ ∧ _ ∧ _); clear BK537 HB; obtain ⟨BK537, HB, BK546, GW546, GE546, NB537_546, NB546_537⟩ := n0_; clear hb hbox hg; have hnb65 := NB546_537.out; have hnc65 := NB537_546.out; obtain ⟨hcz66_0, hcz66_1, hcz66_2, hcz66_3, hcz66_4, hcz66_5, hcz66_6, hcz66_7, hcz66_8⟩ := cz9 BK546.out; have hfz66_0 := Zkf BK546.out 0; have hfz66_1 := Zkf BK546.out 1; have hfz66_2 := Zkf BK546.out 2; have hfz66_3 := Zkf BK546.out 3; have hfz66_4 := Zkf BK546.out 4; have hfz66_5 := Zkf BK546.out 5; have hfz66_6 := Zkf BK546.out 6; have hfz66_7 := Zkf BK546.out 7; have hfz66_8 := Zkf BK546.out 8) | ((with_reducible refine gate_callee (f := 36) rfl ?_); refine ge_ (some 80) Try.func36 #[.agg #[.string ((rd_T84 l0_5 x74_3).f0), .string ((rd_T84 l0_5 x74_3).f1), .bool ((rd_T84 l0_5 x74_3).f2), .bool true, .bool ((rd_T84 l0_5 x74_3).f4), .int .i64 ((rd_T84 l0_5 x74_3).f5), .int .i64 ((rd_T84 l0_5 x74_3).f6), .slice A545_7 ((rd_T84 l0_5 x74_3).f7).length c545_7, .slice A545_8 ((rd_T84 l0_5 x74_3).f8).length c545_8]] ?_; (with_reducible refine (impl_MethodRight.calls _ _ _ _ _ _ _ _ _ _ _ _ _ _ _ _ ?side1 ?side2 ?side3 ?side4 A49.out).mono ?_); (case side1 => exact Kd.C_below HR545_7.out hb_); (case side2 => exact HC545_7.out); (case side3 => exact Kd.C_below HR545_8.out hb_); (case side4 => exact HC545_8.out); rintro e w67 ⟨rfl, hb⟩; refine ⟨_, rfl, ?_⟩; have n0_ := (⟨Zm (Zkb (g := gb537) (o := .cells #[.string a0_0, .string a0_1, .bool a0_2, .bool false, .slice A0_4 l0_4.length c0_4, .slice (some ad545) l0_5.length c0_5] 51 (0, 0)) zc_ hb), Zm (Zkb (g := gb546) (o := .cells #[.string ((rd_T84 l0_5 x74_3).f0), .string ((rd_T84 l0_5 x74_3).f1), .bool ((rd_T84 l0_5 x74_3).f2), .bool true, .bool ((rd_T84 l0_5 x74_3).f4), .int .i64 ((rd_T84 l0_5 x74_3).f5), .int .i64 ((rd_T84 l0_5 x74_3).f6), .slice A545_7 ((rd_T84 l0_5 x74_3).f7).length c545_7, .slice A545_8 ((rd_T84 l0_5 x74_3).f8).length c545_8] 84 (0, 0)) zc_ hb), Zm (Zbt hb_ hb)⟩ : _ ∧ _ ∧ _); clear BK537 BK546 HB; obtain ⟨BK537, BK546, HB⟩ := n0_; (try clear hb); (try clear hb2); (try clear hk); (try clear hi); obtain ⟨hcz68_0, hcz68_1, hcz68_2, hcz68_3, hcz68_4, hcz68_5, hcz68_6, hcz68_7, hcz68_8⟩ := cz9 BK546.out; have hfz68_0 := Zkf BK546.out 0; have hfz68_1 := Zkf BK546.out 1; have hfz68_2 := Zkf BK546.out 2; have hfz68_3 := Zkf BK546.out 3; have hfz68_4 := Zkf BK546.out 4; have hfz68_5 := Zkf BK546.out 5; have hfz68_6 := Zkf BK546.out 6; have hfz68_7 := Zkf BK546.out 7; have hfz68_8 := Zkf BK546.out 8; obtain ⟨hcz69_0, hcz69_1, hcz69_2, hcz69_3, hcz69_4, hcz69_5⟩ := cz6 BK537.out; have hfz69_5 := Zkf BK537.out 5))
             go_ret
             exact fin_ HB
           subst c53
           rw [if_pos rfl] at H
           replace H := Option.bind_eq_some_iff.mp H
           obtain ⟨t548, A540, H⟩ := H
           (try dsimp only at H)
           have A54 := Zm A540
           clear A540
           have HC55 := Zm H
           clear H
           have p545 : 0 ≤ (x74_3 : Int) := of_decide_eq_true (by first | (with_reducible assumption) | assumption)
           have q545 : x74_3 < (l0_5.length : Int) := of_decide_eq_true (by first | (with_reducible assumption) | assumption)
           obtain ⟨ad545, A545_7, c545_7, A545_8, c545_8, e545, hx545_0, hx545_1, hx545_2, hx545_3, hx545_4, hx545_5, hx545_6, hx545_7, hx545_8, hl545_7, hi545_7, hl545_8, hi545_8⟩ := at_T84 HR0_5.out x74_3 p545 q545
           (try rw [← Nbq51.out] at hx545_2)
           (try rw [← Nbq51.out] at hx545_3)
           (try rw [← Nbq51.out] at hx545_4)
           cases e545
           replace hx545_0 := hx_ HB hx545_0 (Zlt _ _ hx545_0)
           replace hx545_1 := hx_ HB hx545_1 (Zlt _ _ hx545_1)
           replace hx545_2 := hx_ HB hx545_2 (Zlt _ _ hx545_2)
           replace hx545_3 := hx_ HB hx545_3 (Zlt _ _ hx545_3)
           replace hx545_4 := hx_ HB hx545_4 (Zlt _ _ hx545_4)
           replace hx545_5 := hx_ HB hx545_5 (Zlt _ _ hx545_5)
           replace hx545_6 := hx_ HB hx545_6 (Zlt _ _ hx545_6)
           replace hx545_7 := hx_ HB hx545_7 (Zlt _ _ hx545_7)
           replace hx545_8 := hx_ HB hx545_8 (Zlt _ _ hx545_8)
           have HR545_7 := Zm hi545_7
           have HC545_7 := Zm hl545_7
           clear hi545_7 hl545_7
           have HR545_8 := Zm hi545_8
           have HC545_8 := Zm hl545_8
           clear hi545_8 hl545_8
           replace p545 := eq_true p545
           replace q545 := eq_true q545
           go_upto_if 100 with (first | ((with_reducible refine gate_dst (N := 6) rfl ?_); (try (refine gate_guard (by rfl) ?_; dsimp only)); refine box_event ?hg (N := 6) ?hd (cs := #[.string (⟨#[]⟩ : ByteArray), .string (⟨#[]⟩ : ByteArray), .bool false, .bool false, .bool false, .int .i64 0, .int .i64 0, .slice none 0 0, .slice none 0 0]) (t := 84) ?hr ?_; (case hd => rfl); (case hg => rfl); (case hr => first | (go_simp; done) | (go_simp; rfl)); intro gb546 hg w56 hbox hb; have n0_ := (⟨Zm (Zkb (pk BK537.out) hb), Zm (Zbt (bk HB.out) hb), Zm (hbox), Zm ((by rw [hg]; exact (Zbz (bk HB.out)) : w.heap.size ≤ gb546)), Zm ((by rw [hg]; exact (Zbz (bk HB.out)) : w.heap.size ≤ gb546)), Zm ((by rw [hg]; exact Nat.ne_of_lt (blk_lt (pk BK537.out)) : gb537 ≠ gb546)), Zm ((by rw [hg]; exact Nat.ne_of_gt (blk_lt (pk BK537.out)) : gb546 ≠ gb537))⟩ : _ ∧ _ ∧ _ ∧ _ ∧ _ ∧ _ ∧ _); clear BK537 HB; obtain ⟨BK537, HB, BK546, GW546, GE546, NB537_546, NB546_537⟩ := n0_; clear hb hbox hg; have hnb57 := NB546_537.out; have hnc57 := NB537_546.out; obtain ⟨hcz58_0, hcz58_1, hcz58_2, hcz58_3, hcz58_4, hcz58_5, hcz58_6, hcz58_7, hcz58_8⟩ := cz9 BK546.out; have hfz58_0 := Zkf BK546.out 0; have hfz58_1 := Zkf BK546.out 1; have hfz58_2 := Zkf BK546.out 2; have hfz58_3 := Zkf BK546.out 3; have hfz58_4 := Zkf BK546.out 4; have hfz58_5 := Zkf BK546.out 5; have hfz58_6 := Zkf BK546.out 6; have hfz58_7 := Zkf BK546.out 7; have hfz58_8 := Zkf BK546.out 8) | ((with_reducible refine gate_callee (f := 36) rfl ?_); refine ge_ (some 80) Try.func36 #[.agg #[.string ((rd_T84 l0_5 x74_3).f0), .string ((rd_T84 l0_5 x74_3).f1), .bool ((rd_T84 l0_5 x74_3).f2), .bool true, .bool ((rd_T84 l0_5 x74_3).f4), .int .i64 ((rd_T84 l0_5 x74_3).f5), .int .i64 ((rd_T84 l0_5 x74_3).f6), .slice A545_7 ((rd_T84 l0_5 x74_3).f7).length c545_7, .slice A545_8 ((rd_T84 l0_5 x74_3).f8).length c545_8]] ?_; (with_reducible refine (impl_MethodRight.calls _ _ _ _ _ _ _ _ _ _ _ _ _ _ _ _ ?side1 ?side2 ?side3 ?side4 A49.out).mono ?_); (case side1 => exact Kd.C_below HR545_7.out hb_); (case side2 => exact HC545_7.out); (case side3 => exact Kd.C_below HR545_8.out hb_); (case side4 => exact HC545_8.out); rintro e w59 ⟨rfl, hb⟩; refine ⟨_, rfl, ?_⟩; have n0_ := (⟨Zm (Zkb (g := gb537) (o := .cells #[.string a0_0, .string a0_1, .bool a0_2, .bool true, .slice A0_4 l0_4.length c0_4, .slice (some ad545) l0_5.length c0_5] 51 (0, 0)) zc_ hb), Zm (Zkb (g := gb546) (o := .cells #[.string ((rd_T84 l0_5 x74_3).f0), .string ((rd_T84 l0_5 x74_3).f1), .bool ((rd_T84 l0_5 x74_3).f2), .bool true, .bool ((rd_T84 l0_5 x74_3).f4), .int .i64 ((rd_T84 l0_5 x74_3).f5), .int .i64 ((rd_T84 l0_5 x74_3).f6), .slice A545_7 ((rd_T84 l0_5 x74_3).f7).length c545_7, .slice A545_8 ((rd_T84 l0_5 x74_3).f8).length c545_8] 84 (0, 0)) zc_ hb), Zm (Zbt hb_ hb)⟩ : _ ∧ _ ∧ _); clear BK537 BK546 HB; obtain ⟨BK537, BK546, HB⟩ := n0_; (try clear hb); (try clear hb2); (try clear hk); (try clear hi); obtain ⟨hcz60_0, hcz60_1, hcz60_2, hcz60_3, hcz60_4, hcz60_5, hcz60_6, hcz60_7, hcz60_8⟩ := cz9 BK546.out; have hfz60_0 := Zkf BK546.out 0; have hfz60_1 := Zkf BK546.out 1; have hfz60_2 := Zkf BK546.out 2; have hfz60_3 := Zkf BK546.out 3; have hfz60_4 := Zkf BK546.out 4; have hfz60_5 := Zkf BK546.out 5; have hfz60_6 := Zkf BK546.out 6; have hfz60_7 := Zkf BK546.out 7; have hfz60_8 := Zkf BK546.out 8; obtain ⟨hcz61_0, hcz61_1, hcz61_2, hcz61_3, hcz61_4, hcz61_5⟩ := cz6 BK537.out; have hfz61_5 := Zkf BK537.out 5) | (go_at_call 114; (first | (with_reducible refine (impl_Class_methodAt.calls _ _ _ _ _ _ _ _ _ _ _ _ _ _ _ ?side1 ?side2 ?side3 ?side4 A54.out).mono ?_) | (with_reducible refine (calls_of_args ?_ (impl_Class_methodAt.calls _ _ _ _ _ _ _ _ _ _ _ _ _ _ _ ?side1 ?side2 ?side3 ?side4 A54.out)).mono ?_; focus (simp [*]; done))); (case side1 => exact pc (Kd.C_below HR0_4.out HB.out)); (case side2 => exact HC0_4.out); (case side3 => exact pc (Kd.C_below HR0_5.out HB.out)); (case side4 => exact HC0_5.out); rintro e w62 ⟨rfl, hb⟩; have n0_ := (⟨Zm (Zkb (pk BK537.out) hb), Zm (Zkb (pk BK546.out) hb), Zm (Zbt (bk HB.out) hb)⟩ : _ ∧ _ ∧ _); clear BK537 BK546 HB; obtain ⟨BK537, BK546, HB⟩ := n0_; (try clear hb); (try clear hb2); (try clear hk); (try clear hi)))
           have H := HC55.out
           clear HC55
           by_cases c63 : t548 = x74_3
           rotate_left
           · rw [if_neg c63] at H
             have c63b0 : (t548 == x74_3) = false := beq_eq_false_iff_ne.mpr c63
             have c63b1 : (t548 != x74_3) = true := bne_iff_ne.mpr c63
             (first | rw [c63b0] | (simp only [i64_w, i32_w]; rw [c63b0]) | skip)
             obtain rfl := Option.some.inj H
             go_wp2
             go_ret
             exact fin_ HB
           rw [if_pos c63] at H
           have c63b0 : (t548 == x74_3) = true := beq_iff_eq.mpr c63
           have c63b1 : (t548 != x74_3) = false := bne_eq_false_iff_eq.mpr c63
           clear c63
           (first | rw [c63b0] | (simp only [i64_w, i32_w]; rw [c63b0]) | skip)
           have H' := Zm H
           clear H
           go_wp2
           go_roundg k3
           case measure => have := HJ1.out; have := HK2.out; have := HK3.out; omega
           case rel => exact ⟨(wrap64 (x74_3 + 1)), (by first | rfl | (simp; done) | (simp [*]; done)), H', ⟨by have := HJ1.out; have := HK2.out; have := HK3.out; omega⟩, ⟨pk BK537.out⟩, ⟨bk HB.out⟩⟩
       rw [if_pos c23] at H
       have c23b0 := decide_eq_true c23
       clear c23
       by_cases c24 : 0 ≤ x47_2
       rotate_left
       · rw [if_neg c24] at H
         exact absurd H (by simp)
       rw [if_pos c24] at H
       have c24b0 := decide_eq_true c24
       clear c24
       by_cases c25 : x47_2 < (l0_4.length : Int)
       rotate_left
       · rw [if_neg c25] at H
         exact absurd H (by simp)
       rw [if_pos c25] at H
       have c25b0 := decide_eq_true c25
       clear c25
       replace H := Option.bind_eq_some_iff.mp H
       obtain ⟨t542, A260, H⟩ := H
       (try dsimp only at H)
       have A26 := Zm A260
       clear A260
       by_cases c27 : t542 = true
       rotate_left
       · replace c27 := Bool.eq_false_iff.mpr c27
         subst c27
         rw [if_neg (show ¬ (false = true) by decide)] at H
         obtain rfl := Option.some.inj H
         have p540 : 0 ≤ (x47_2 : Int) := of_decide_eq_true (by first | (with_reducible assumption) | assumption)
         have q540 : x47_2 < (l0_4.length : Int) := of_decide_eq_true (by first | (with_reducible assumption) | assumption)
         obtain ⟨ad540, e540, hx540_0, hx540_1, hx540_2⟩ := at_T123 HR0_4.out x47_2 p540 q540
         cases e540
         replace hx540_0 := hx_ HB hx540_0 (Zlt _ _ hx540_0)
         replace hx540_1 := hx_ HB hx540_1 (Zlt _ _ hx540_1)
         replace hx540_2 := hx_ HB hx540_2 (Zlt _ _ hx540_2)
         replace p540 := eq_true p540
         replace q540 := eq_true q540
         (try clear BK537)
         go_wp2_with (first | ((with_reducible refine gate_dst (N := 4) rfl ?_); (try (refine gate_guard (by rfl) ?_; dsimp only)); refine box_event ?hg (N := 4) ?hd (cs := #[.string (⟨#[]⟩ : ByteArray), .string (⟨#[]⟩ : ByteArray), .bool false]) (t := 123) ?hr ?_; (case hd => rfl); (case hg => rfl); (case hr => first | (go_simp; done) | (go_simp; rfl)); intro gb541 hg w43 hbox hb; have n0_ := (⟨Zm (Zbt (bk HB.out) hb), Zm (hbox), Zm ((by rw [hg]; exact (Zbz (bk HB.out)) : w.heap.size ≤ gb541)), Zm ((by rw [hg]; exact (Zbz (bk HB.out)) : w.heap.size ≤ gb541))⟩ : _ ∧ _ ∧ _ ∧ _); clear HB; obtain ⟨HB, BK541, GW541, GE541⟩ := n0_; clear hb hbox hg; obtain ⟨hcz44_0, hcz44_1, hcz44_2⟩ := cz3 BK541.out; have hfz44_0 := Zkf BK541.out 0; have hfz44_1 := Zkf BK541.out 1; have hfz44_2 := Zkf BK541.out 2) | ((with_reducible refine gate_callee (f := 111) rfl ?_); refine ge_ (some 54) Try.func111 #[.string ((rd_T123 l0_4 x47_2).f0)] ?_; (with_reducible refine (impl_NameRight.calls _ _ _ _ A26.out).mono ?_); rintro e w' ⟨rfl, ⟨nd, rfl⟩⟩; refine ⟨_, rfl, ?_⟩))
         go_ret
         exact ⟨by first | rfl | (simp [*] <;> rfl), hb_⟩
       subst c27
       rw [if_pos rfl] at H
       replace H := Option.bind_eq_some_iff.mp H
       obtain ⟨t543, A280, H⟩ := H
       (try dsimp only at H)
       have A28 := Zm A280
       clear A280
       by_cases c29 : t543 = true
       rotate_left
       · replace c29 := Bool.eq_false_iff.mpr c29
         subst c29
         rw [if_neg (show ¬ (false = true) by decide)] at H
         obtain rfl := Option.some.inj H
         have p540 : 0 ≤ (x47_2 : Int) := of_decide_eq_true (by first | (with_reducible assumption) | assumption)
         have q540 : x47_2 < (l0_4.length : Int) := of_decide_eq_true (by first | (with_reducible assumption) | assumption)
         obtain ⟨ad540, e540, hx540_0, hx540_1, hx540_2⟩ := at_T123 HR0_4.out x47_2 p540 q540
         cases e540
         replace hx540_0 := hx_ HB hx540_0 (Zlt _ _ hx540_0)
         replace hx540_1 := hx_ HB hx540_1 (Zlt _ _ hx540_1)
         replace hx540_2 := hx_ HB hx540_2 (Zlt _ _ hx540_2)
         replace p540 := eq_true p540
         replace q540 := eq_true q540
         (try clear BK537)
         go_wp2_with (first | ((with_reducible refine gate_dst (N := 4) rfl ?_); (try (refine gate_guard (by rfl) ?_; dsimp only)); refine box_event ?hg (N := 4) ?hd (cs := #[.string (⟨#[]⟩ : ByteArray), .string (⟨#[]⟩ : ByteArray), .bool false]) (t := 123) ?hr ?_; (case hd => rfl); (case hg => rfl); (case hr => first | (go_simp; done) | (go_simp; rfl)); intro gb541 hg w40 hbox hb; have n0_ := (⟨Zm (Zbt (bk HB.out) hb), Zm (hbox), Zm ((by rw [hg]; exact (Zbz (bk HB.out)) : w.heap.size ≤ gb541)), Zm ((by rw [hg]; exact (Zbz (bk HB.out)) : w.heap.size ≤ gb541))⟩ : _ ∧ _ ∧ _ ∧ _); clear HB; obtain ⟨HB, BK541, GW541, GE541⟩ := n0_; clear hb hbox hg; obtain ⟨hcz41_0, hcz41_1, hcz41_2⟩ := cz3 BK541.out; have hfz41_0 := Zkf BK541.out 0; have hfz41_1 := Zkf BK541.out 1; have hfz41_2 := Zkf BK541.out 2) | ((with_reducible refine gate_callee (f := 111) rfl ?_); refine ge_ (some 54) Try.func111 #[.string ((rd_T123 l0_4 x47_2).f0)] ?_; (with_reducible refine (impl_NameRight.calls _ _ _ _ A26.out).mono ?_); rintro e w' ⟨rfl, ⟨nd, rfl⟩⟩; refine ⟨_, rfl, ?_⟩) | (go_at_call 112; (first | (with_reducible refine (impl_typeRight.calls _ _ _ _ A28.out).mono ?_) | (with_reducible refine (calls_of_args ?_ (impl_typeRight.calls _ _ _ _ A28.out)).mono ?_; focus (simp [*]; done))); rintro e w42 ⟨rfl, hb⟩; have n0_ := (⟨Zm (Zkb (g := gb541) (o := .cells #[.string ((rd_T123 l0_4 x47_2).f0), .string ((rd_T123 l0_4 x47_2).f1), .bool ((rd_T123 l0_4 x47_2).f2)] 123 (0, 0)) zc_ hb), Zm (Zbt hb_ hb)⟩ : _ ∧ _); clear BK541 HB; obtain ⟨BK541, HB⟩ := n0_; (try clear hb); (try clear hb2); (try clear hk); (try clear hi)))
         go_ret
         exact fin_ HB
       subst c29
       rw [if_pos rfl] at H
       replace H := Option.bind_eq_some_iff.mp H
       obtain ⟨t544, A300, H⟩ := H
       (try dsimp only at H)
       have A30 := Zm A300
       clear A300
       have HC31 := Zm H
       clear H
       have p540 : 0 ≤ (x47_2 : Int) := of_decide_eq_true (by first | (with_reducible assumption) | assumption)
       have q540 : x47_2 < (l0_4.length : Int) := of_decide_eq_true (by first | (with_reducible assumption) | assumption)
       obtain ⟨ad540, e540, hx540_0, hx540_1, hx540_2⟩ := at_T123 HR0_4.out x47_2 p540 q540
       cases e540
       replace hx540_0 := hx_ HB hx540_0 (Zlt _ _ hx540_0)
       replace hx540_1 := hx_ HB hx540_1 (Zlt _ _ hx540_1)
       replace hx540_2 := hx_ HB hx540_2 (Zlt _ _ hx540_2)
       replace p540 := eq_true p540
       replace q540 := eq_true q540
       go_upto_if 69 with (first | ((with_reducible refine gate_dst (N := 4) rfl ?_); (try (refine gate_guard (by rfl) ?_; dsimp only)); refine box_event ?hg (N := 4) ?hd (cs := #[.string (⟨#[]⟩ : ByteArray), .string (⟨#[]⟩ : ByteArray), .bool false]) (t := 123) ?hr ?_; (case hd => rfl); (case hg => rfl); (case hr => first | (go_simp; done) | (go_simp; rfl)); intro gb541 hg w32 hbox hb; have n0_ := (⟨Zm (Zkb (pk BK537.out) hb), Zm (Zbt (bk HB.out) hb), Zm (hbox), Zm ((by rw [hg]; exact (Zbz (bk HB.out)) : w.heap.size ≤ gb541)), Zm ((by rw [hg]; exact (Zbz (bk HB.out)) : w.heap.size ≤ gb541)), Zm ((by rw [hg]; exact Nat.ne_of_lt (blk_lt (pk BK537.out)) : gb537 ≠ gb541)), Zm ((by rw [hg]; exact Nat.ne_of_gt (blk_lt (pk BK537.out)) : gb541 ≠ gb537))⟩ : _ ∧ _ ∧ _ ∧ _ ∧ _ ∧ _ ∧ _); clear BK537 HB; obtain ⟨BK537, HB, BK541, GW541, GE541, NB537_541, NB541_537⟩ := n0_; clear hb hbox hg; have hnb33 := NB541_537.out; have hnc33 := NB537_541.out; obtain ⟨hcz34_0, hcz34_1, hcz34_2⟩ := cz3 BK541.out; have hfz34_0 := Zkf BK541.out 0; have hfz34_1 := Zkf BK541.out 1; have hfz34_2 := Zkf BK541.out 2) | ((with_reducible refine gate_callee (f := 111) rfl ?_); refine ge_ (some 54) Try.func111 #[.string ((rd_T123 l0_4 x47_2).f0)] ?_; (with_reducible refine (impl_NameRight.calls _ _ _ _ A26.out).mono ?_); rintro e w' ⟨rfl, ⟨nd, rfl⟩⟩; refine ⟨_, rfl, ?_⟩) | (go_at_call 112; (first | (with_reducible refine (impl_typeRight.calls _ _ _ _ A28.out).mono ?_) | (with_reducible refine (calls_of_args ?_ (impl_typeRight.calls _ _ _ _ A28.out)).mono ?_; focus (simp [*]; done))); rintro e w35 ⟨rfl, hb⟩; have n0_ := (⟨Zm (Zkb (g := gb537) (o := .cells #[.string a0_0, .string a0_1, .bool a0_2, .bool a0_3, .slice (some ad540) l0_4.length c0_4, .slice A0_5 l0_5.length c0_5] 51 (0, 0)) zc_ hb), Zm (Zkb (g := gb541) (o := .cells #[.string ((rd_T123 l0_4 x47_2).f0), .string ((rd_T123 l0_4 x47_2).f1), .bool ((rd_T123 l0_4 x47_2).f2)] 123 (0, 0)) zc_ hb), Zm (Zbt hb_ hb)⟩ : _ ∧ _ ∧ _); clear BK537 BK541 HB; obtain ⟨BK537, BK541, HB⟩ := n0_; (try clear hb); (try clear hb2); (try clear hk); (try clear hi); obtain ⟨hcz36_0, hcz36_1, hcz36_2, hcz36_3, hcz36_4, hcz36_5⟩ := cz6 BK537.out; obtain ⟨hcz37_0, hcz37_1, hcz37_2⟩ := cz3 BK541.out; have hfz37_0 := Zkf BK541.out 0; have hfz37_1 := Zkf BK541.out 1; have hfz37_2 := Zkf BK541.out 2) | (go_at_call 113; (first | (with_reducible refine (impl_Class_fieldAt.calls _ _ _ _ _ _ _ _ _ _ _ _ _ _ ?side1 ?side2 ?side3 ?side4 A30.out).mono ?_) | (with_reducible refine (calls_of_args ?_ (impl_Class_fieldAt.calls _ _ _ _ _ _ _ _ _ _ _ _ _ _ ?side1 ?side2 ?side3 ?side4 A30.out)).mono ?_; focus (simp [*]; done))); (case side1 => exact pc (Kd.C_below HR0_4.out HB.out)); (case side2 => exact HC0_4.out); (case side3 => exact pc (Kd.C_below HR0_5.out HB.out)); (case side4 => exact HC0_5.out); rintro e w38 ⟨rfl, hb⟩; have n0_ := (⟨Zm (Zkb (pk BK537.out) hb), Zm (Zkb (pk BK541.out) hb), Zm (Zbt (bk HB.out) hb)⟩ : _ ∧ _ ∧ _); clear BK537 BK541 HB; obtain ⟨BK537, BK541, HB⟩ := n0_; (try clear hb); (try clear hb2); (try clear hk); (try clear hi)))
       have H := HC31.out
       clear HC31
       by_cases c39 : t544 = x47_2
       rotate_left
       · rw [if_neg c39] at H
         have c39b0 : (t544 == x47_2) = false := beq_eq_false_iff_ne.mpr c39
         have c39b1 : (t544 != x47_2) = true := bne_iff_ne.mpr c39
         (first | rw [c39b0] | (simp only [i64_w, i32_w]; rw [c39b0]) | skip)
         obtain rfl := Option.some.inj H
         go_wp2
         go_ret
         exact fin_ HB
       rw [if_pos c39] at H
       have c39b0 : (t544 == x47_2) = true := beq_iff_eq.mpr c39
       have c39b1 : (t544 != x47_2) = false := bne_eq_false_iff_eq.mpr c39
       clear c39
       (first | rw [c39b0] | (simp only [i64_w, i32_w]; rw [c39b0]) | skip)
       have H' := Zm H
       clear H
       go_wp2
       go_roundg k2
       case measure => have := HJ1.out; have := HK2.out; omega
       case rel => exact ⟨(wrap64 (x47_2 + 1)), (by first | rfl | (simp; done) | (simp [*]; done)), H', ⟨by have := HJ1.out; have := HK2.out; omega⟩, ⟨pk BK537.out⟩, ⟨bk HB.out⟩⟩
   subst c21
   rw [if_pos rfl] at H
   obtain rfl := Option.some.inj H
   go_wp2
   go_ret
   exact fin_ HB
end Go.Proofs.Ytlflbmbcjjegaaa.PFnExactClassRight
