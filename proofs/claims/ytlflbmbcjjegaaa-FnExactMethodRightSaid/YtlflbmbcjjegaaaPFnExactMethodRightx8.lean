/- Functions of the program as plain Lean functions, each with a proof that the program's call comes to the same; no condition. Written by a program of this session. -/
import Derived.Test.YtlflbmbcjjegaaaPFnExactMethodRightx0
import Derived.Test.YtlflbmbcjjegaaaPFnExactMethodRightx7
namespace Go.Proofs.Ytlflbmbcjjegaaa.PFnExactMethodRight
open Go.RowKit Go.Proofs.YtlflbmbcjjegaaaW.PrintWords Go.Proofs.YtlflbmbcjjegaaaW.PrintLast Go.Proofs.YtlflbmbcjjegaaaW.PrintMore
open Go.Proofs.YtlflbmbcjjegaaaW.PrintWords renaming below_alloc → Zba, pw_below_drewN → Zbn, below_drew1 → Zbd, below_set → Zbs, blk_frozen → Zkf
open Go.Proofs.YtlflbmbcjjegaaaW.PrintWords.Aside0 renaming mk → Zm
attribute [local go_sem] max2_int min2_int max_two min_two max_three min_three max_four min_four   -- for this text's walks alone
set_option linter.unusedVariables false
set_option linter.unusedSimpArgs false

/-! ### impl_reader_name: function 190 -/
def impl_reader_name.l0 : Nat → Int → ByteArray → Int → Bool → Option (ByteArray × Int × Bool)
 | 0, _, _, _, _ => none
 | k + 1, x2, x1000, x1001, x1002 => if x1002 = true then (if x1001 = x2 then ((impl_reader_want.f x1000 x1001 true 59).bind fun bt281 => (some (bt281.1, bt281.2.1, bt281.2.2))) else ((impl_reader_want.f x1000 x1001 x1002 59).bind fun bt284 => (some (bt284.1, bt284.2.1, bt284.2.2)))) else ((impl_length.f x1000).bind fun t287 => (if x1001 < t287 then (if x1001 < (wrap64 (x2 + 20)) then (if 0 ≤ x1001 then (if x1001 < (x1000.size : Int) then ((impl_isNameByte.f (bt x1000 x1001) (wrap64 (x1001 - x2))).bind fun t288 => (if t288 = true then (impl_reader_name.l0 k x2 x1000 (wrap64 (x1001 + 1)) x1002) else (if x1001 = x2 then ((impl_reader_want.f x1000 x1001 true 59).bind fun bt289 => (some (bt289.1, bt289.2.1, bt289.2.2))) else ((impl_reader_want.f x1000 x1001 x1002 59).bind fun bt292 => (some (bt292.1, bt292.2.1, bt292.2.2)))))) else (none)) else (none)) else (if x1001 = x2 then ((impl_reader_want.f x1000 x1001 true 59).bind fun bt295 => (some (bt295.1, bt295.2.1, bt295.2.2))) else ((impl_reader_want.f x1000 x1001 x1002 59).bind fun bt298 => (some (bt298.1, bt298.2.1, bt298.2.2))))) else (if x1001 = x2 then ((impl_reader_want.f x1000 x1001 true 59).bind fun bt301 => (some (bt301.1, bt301.2.1, bt301.2.2))) else ((impl_reader_want.f x1000 x1001 x1002 59).bind fun bt304 => (some (bt304.1, bt304.2.1, bt304.2.2))))))
def impl_reader_name.f (k : Nat) (s0_0 : ByteArray) (s0_1 : Int) (s0_2 : Bool) : Option (ByteArray × Int × Bool) := impl_reader_name.l0 k s0_1 s0_0 s0_1 s0_2
theorem impl_reader_name.mono_l : ∀ k, (∀ y0 y1 y2 y3, LeO (impl_reader_name.l0 k y0 y1 y2 y3) (impl_reader_name.l0 (k + 1) y0 y1 y2 y3))
 | 0 => fun _ _ _ _ r h => by simp [impl_reader_name.l0] at h
 | k + 1 => by
  have ih0 := impl_reader_name.mono_l k
  · intro y0 y1 y2 y3
    unfold impl_reader_name.l0
    repeat' first
    | (with_reducible exact ih0 _ _ _ _)
    | (with_reducible exact LeO.refl _)
    | (with_reducible exact LeO.none _)
    | (with_reducible refine LeO.ite ?_ ?_)
    | (with_reducible refine LeO.bind ?_ (fun _ => ?_))
    | exact ih0 _ _ _ _
    | exact LeO.none _
    | refine LeO.ite ?_ ?_
    | refine LeO.bind ?_ (fun _ => ?_)
theorem impl_reader_name.mono : ∀ a0 a1 a2 k, LeO (impl_reader_name.f k a0 a1 a2) (impl_reader_name.f (k + 1) a0 a1 a2) := by
 intro a0 a1 a2 k
 have ih0 := impl_reader_name.mono_l k
 unfold impl_reader_name.f
 repeat' first
  | (with_reducible exact ih0 _ _ _ _)
  | (with_reducible exact LeO.refl _)
  | (with_reducible exact LeO.none _)
  | (with_reducible refine LeO.ite ?_ ?_)
  | (with_reducible refine LeO.bind ?_ (fun _ => ?_))
  | exact ih0 _ _ _ _
  | exact LeO.none _
  | refine LeO.ite ?_ ?_
  | refine LeO.bind ?_ (fun _ => ?_)
set_option maxHeartbeats 8000000 in
set_option maxRecDepth 100000 in
theorem impl_reader_name.calls (k : Nat) (g : Nat) (s0_0 : ByteArray) (s0_1 : Int) (s0_2 : Bool) (r1 : ByteArray) (r2 : Int) (r3 : Bool) (w0 w : World) (hI : IsS216 w0 w g s0_0 s0_1 s0_2) (hB : Below w0.heap.size w0 w) (h : impl_reader_name.f k s0_0 s0_1 s0_2 = some (r1, r2, r3)) :
 Calls Try.prog 190 #[.pointer (some ⟨g, 0, none⟩)] w fun e w' => e = .returned (.tuple #[]) ∧ IsS216 w0 w' g r1 r2 r3 ∧ Below w0.heap.size w0 w' ∧ KeepBut w w' g none := by
 have HI0 := Zm hI
 have HK := Zm (KeepBut.refl w g none)
 have HL := Zm hB.size
 clear hI
 have HW0 := Zm hB.size
 have HB := Zm hB
 clear hB
 have H : (impl_reader_name.l0 k s0_1 s0_0 s0_1 s0_2) = some (r1, r2, r3) := h
 clear h
 have eta : ∀ (o : Option (ByteArray × Int × Bool)) (r : ByteArray × Int × Bool), (o.bind fun b => some (b.1, b.2.1, b.2.2)) = some r → o = some r := by
  intro o r h
  cases o with
  | none => exact h
  | some b => exact h
 have hg := IsS216.ge HI0.out
 have hu216 := Try.underlying216
 have hlen : ∀ W : World, Calls Try.prog 160 #[.string s0_0] W fun e W' => e = .returned (.int .i64 (s0_0.size : Int)) ∧ Drawn0 W W' := fun W => impl_length.calls s0_0 (s0_0.size : Int) W rfl
 have hlq : ∀ (W : World) (n : Nat), Calls Try.prog 160 #[.string s0_0] (W.drewN n) fun e w'' => e = .returned (.int .i64 (s0_0.size : Int)) ∧ ∃ m, w'' = W.drewN m := fun W n => Calls.quiet_of ((hlen (W.drewN n)).mono fun e W' ⟨he, ⟨m, hm⟩⟩ => ⟨he, m, hm⟩)
 have HH := Zm H
 clear H hlen
 obtain ⟨hb0, _⟩ := HI0.out
 have g1 := cellS216_1 hb0
 clear hb0
 go_enter Try.func190, Try.ntmps190
 go_wp2
 clear g1
 go_loopg [] k (fun kq w' => ∃ (x : Int), Aside0 (impl_reader_name.l0 kq s0_1 s0_0 x s0_2 = some (r1, r2, r3)) ∧ Aside0 (kq ≤ k) ∧ Aside0 (IsS216 w0 w' g s0_0 x s0_2) ∧ Aside0 (Below w0.heap.size w0 w') ∧ Aside0 (KeepBut w w' g none))
 case atStart => exact ⟨s0_1, HH, ⟨Nat.le_refl _⟩, HI0, HB, HK⟩
 case round =>
  clear HH HI0 HB HK
  obtain ⟨x, HA, HK1, HI, HB, HK⟩ := hrel
  cases gk with
  | zero => exact absurd HA.out (by simp [impl_reader_name.l0])
  | succ k1 =>
   have H := HA.out
   clear HA
   simp only [impl_reader_name.l0, impl_length.f, Option.bind_some] at H
   obtain ⟨hb, _⟩ := HI.out
   have f0 := cellS216_0 hb
   have f1 := cellS216_1 hb
   have f2 := cellS216_2 hb
   have z1 := Zkf hb 1
   have z2 := Zkf hb 2
   clear hb
   cases s0_2 with
   | true =>
    rw [if_pos rfl] at H
    clear hlq
    by_cases c9 : x = s0_1
    rotate_left
    · rw [if_neg c9] at H
      have c9b : (x == s0_1) = false := beq_eq_false_iff_ne.mpr c9
      have HW := Zm (eta _ _ H)
      clear H
      go_wp2
      go_quiet (fail)
      go_wp2_with (first | ((with_reducible refine gate_callee (f := 157) rfl ?_); refine goesL_ (some 68) rfl rfl Try.func157 (by kernel_rfl) rfl #[.pointer (some ⟨g, 0, none⟩), .int .u8 59] rfl (by (try simp only [List.map_toArray, List.map_cons, List.map_nil]); first | done | rfl) ?_; (with_reducible refine (impl_reader_want.calls g s0_0 x true 59 r1 r2 r3 w0 _ ?side1 ?side2 HW.out).mono ?_); (case side1 => (with_reducible repeat (first | exact HI.out | apply IsS216.drewN | apply IsS216.drew | apply IsS216.set_1 | apply IsS216.set_2))); (case side2 => (with_reducible repeat (first | exact HB.out | apply Zbn | apply Zbd | refine Zbs ?_ hg))); rintro e w5 ⟨rfl, hi, hb, hk⟩; refine ⟨_, rfl, ?_⟩; have HI2 := Zm hi; have HB2 := Zm hb; have HK2 := Zm (KeepBut.trans (by (with_reducible repeat (first | exact HK.out | apply KeepBut.set_ | apply keep_drewN | apply keep_drew))) hk (.inl rfl)); clear hi hb hk))
      first | go_end0 | ((try simp only [Exit.inBlock, Exit.then]); refine bodyPost_ret (results_none rfl _ _ _) rfl ?_)
      exact ⟨rfl, HI2.out, HB2.out, HK2.out⟩
    rw [if_pos c9] at H
    have c9b : (x == s0_1) = true := beq_iff_eq.mpr c9
    have HW := Zm (eta _ _ H)
    clear H c9
    go_wp2
    go_quiet (fail)
    go_wp2_with (first | ((with_reducible refine gate_callee (f := 157) rfl ?_); refine goesL_ (some 68) rfl rfl Try.func157 (by kernel_rfl) rfl #[.pointer (some ⟨g, 0, none⟩), .int .u8 59] rfl (by (try simp only [List.map_toArray, List.map_cons, List.map_nil]); first | done | rfl) ?_; (with_reducible refine (impl_reader_want.calls g s0_0 x true 59 r1 r2 r3 w0 _ ?side1 ?side2 HW.out).mono ?_); (case side1 => (with_reducible repeat (first | exact HI.out | apply IsS216.drewN | apply IsS216.drew | apply IsS216.set_1 | apply IsS216.set_2))); (case side2 => (with_reducible repeat (first | exact HB.out | apply Zbn | apply Zbd | refine Zbs ?_ hg))); rintro e w5 ⟨rfl, hi, hb, hk⟩; refine ⟨_, rfl, ?_⟩; have HI2 := Zm hi; have HB2 := Zm hb; have HK2 := Zm (KeepBut.trans (by (with_reducible repeat (first | exact HK.out | apply KeepBut.set_ | apply keep_drewN | apply keep_drew))) hk (.inl rfl)); clear hi hb hk))
    first | go_end0 | ((try simp only [Exit.inBlock, Exit.then]); refine bodyPost_ret (results_none rfl _ _ _) rfl ?_)
    exact ⟨rfl, HI2.out, HB2.out, HK2.out⟩
   | false =>
    rw [if_neg (by simp)] at H
    by_cases c1 : x < (s0_0.size : Int)
    rotate_left
    · rw [if_neg c1] at H
      have c1b : decide (x < (s0_0.size : Int)) = false := decide_eq_false c1
      clear c1
      by_cases c9 : x = s0_1
      rotate_left
      · rw [if_neg c9] at H
        have c9b : (x == s0_1) = false := beq_eq_false_iff_ne.mpr c9
        have HW := Zm (eta _ _ H)
        clear H
        go_wp2
        go_quiet ((go_at_call 160; exact hlq _ _))
        go_wp2_with (first | ((with_reducible refine gate_callee (f := 157) rfl ?_); refine goesL_ (some 68) rfl rfl Try.func157 (by kernel_rfl) rfl #[.pointer (some ⟨g, 0, none⟩), .int .u8 59] rfl (by (try simp only [List.map_toArray, List.map_cons, List.map_nil]); first | done | rfl) ?_; (with_reducible refine (impl_reader_want.calls g s0_0 x false 59 r1 r2 r3 w0 _ ?side1 ?side2 HW.out).mono ?_); (case side1 => (with_reducible repeat (first | exact HI.out | apply IsS216.drewN | apply IsS216.drew | apply IsS216.set_1 | apply IsS216.set_2))); (case side2 => (with_reducible repeat (first | exact HB.out | apply Zbn | apply Zbd | refine Zbs ?_ hg))); rintro e w5 ⟨rfl, hi, hb, hk⟩; refine ⟨_, rfl, ?_⟩; have HI2 := Zm hi; have HB2 := Zm hb; have HK2 := Zm (KeepBut.trans (by (with_reducible repeat (first | exact HK.out | apply KeepBut.set_ | apply keep_drewN | apply keep_drew))) hk (.inl rfl)); clear hi hb hk))
        first | go_end0 | ((try simp only [Exit.inBlock, Exit.then]); refine bodyPost_ret (results_none rfl _ _ _) rfl ?_)
        exact ⟨rfl, HI2.out, HB2.out, HK2.out⟩

      rw [if_pos c9] at H
      have c9b : (x == s0_1) = true := beq_iff_eq.mpr c9
      have HW := Zm (eta _ _ H)
      clear H c9
      go_wp2
      go_quiet ((go_at_call 160; exact hlq _ _))
      go_wp2_with (first | ((with_reducible refine gate_callee (f := 157) rfl ?_); refine goesL_ (some 68) rfl rfl Try.func157 (by kernel_rfl) rfl #[.pointer (some ⟨g, 0, none⟩), .int .u8 59] rfl (by (try simp only [List.map_toArray, List.map_cons, List.map_nil]); first | done | rfl) ?_; (with_reducible refine (impl_reader_want.calls g s0_0 x true 59 r1 r2 r3 w0 _ ?side1 ?side2 HW.out).mono ?_); (case side1 => (with_reducible repeat (first | exact HI.out | apply IsS216.drewN | apply IsS216.drew | apply IsS216.set_1 | apply IsS216.set_2))); (case side2 => (with_reducible repeat (first | exact HB.out | apply Zbn | apply Zbd | refine Zbs ?_ hg))); rintro e w5 ⟨rfl, hi, hb, hk⟩; refine ⟨_, rfl, ?_⟩; have HI2 := Zm hi; have HB2 := Zm hb; have HK2 := Zm (KeepBut.trans (by (with_reducible repeat (first | exact HK.out | apply KeepBut.set_ | apply keep_drewN | apply keep_drew))) hk (.inl rfl)); clear hi hb hk))
      first | go_end0 | ((try simp only [Exit.inBlock, Exit.then]); refine bodyPost_ret (results_none rfl _ _ _) rfl ?_)
      exact ⟨rfl, HI2.out, HB2.out, HK2.out⟩
    rw [if_pos c1] at H
    have c1b : decide (x < (s0_0.size : Int)) = true := decide_eq_true c1
    by_cases c2 : x < wrap64 (s0_1 + 20)
    rotate_left
    · rw [if_neg c2] at H
      have c2b : decide (x < wrap64 (s0_1 + 20)) = false := decide_eq_false c2
      have c2c : decide (x < IntKind.i64.wrap (s0_1 + 20)) = false := by rw [i64_w]; exact c2b
      clear c1 c2
      by_cases c9 : x = s0_1
      rotate_left
      · rw [if_neg c9] at H
        have c9b : (x == s0_1) = false := beq_eq_false_iff_ne.mpr c9
        have HW := Zm (eta _ _ H)
        clear H
        go_wp2
        go_quiet ((go_at_call 160; exact hlq _ _))
        go_wp2_with (first | ((with_reducible refine gate_callee (f := 157) rfl ?_); refine goesL_ (some 68) rfl rfl Try.func157 (by kernel_rfl) rfl #[.pointer (some ⟨g, 0, none⟩), .int .u8 59] rfl (by (try simp only [List.map_toArray, List.map_cons, List.map_nil]); first | done | rfl) ?_; (with_reducible refine (impl_reader_want.calls g s0_0 x false 59 r1 r2 r3 w0 _ ?side1 ?side2 HW.out).mono ?_); (case side1 => (with_reducible repeat (first | exact HI.out | apply IsS216.drewN | apply IsS216.drew | apply IsS216.set_1 | apply IsS216.set_2))); (case side2 => (with_reducible repeat (first | exact HB.out | apply Zbn | apply Zbd | refine Zbs ?_ hg))); rintro e w5 ⟨rfl, hi, hb, hk⟩; refine ⟨_, rfl, ?_⟩; have HI2 := Zm hi; have HB2 := Zm hb; have HK2 := Zm (KeepBut.trans (by (with_reducible repeat (first | exact HK.out | apply KeepBut.set_ | apply keep_drewN | apply keep_drew))) hk (.inl rfl)); clear hi hb hk))
        first | go_end0 | ((try simp only [Exit.inBlock, Exit.then]); refine bodyPost_ret (results_none rfl _ _ _) rfl ?_)
        exact ⟨rfl, HI2.out, HB2.out, HK2.out⟩
      rw [if_pos c9] at H
      have c9b : (x == s0_1) = true := beq_iff_eq.mpr c9
      have HW := Zm (eta _ _ H)
      clear H c9
      go_wp2
      go_quiet ((go_at_call 160; exact hlq _ _))
      go_wp2_with (first | ((with_reducible refine gate_callee (f := 157) rfl ?_); refine goesL_ (some 68) rfl rfl Try.func157 (by kernel_rfl) rfl #[.pointer (some ⟨g, 0, none⟩), .int .u8 59] rfl (by (try simp only [List.map_toArray, List.map_cons, List.map_nil]); first | done | rfl) ?_; (with_reducible refine (impl_reader_want.calls g s0_0 x true 59 r1 r2 r3 w0 _ ?side1 ?side2 HW.out).mono ?_); (case side1 => (with_reducible repeat (first | exact HI.out | apply IsS216.drewN | apply IsS216.drew | apply IsS216.set_1 | apply IsS216.set_2))); (case side2 => (with_reducible repeat (first | exact HB.out | apply Zbn | apply Zbd | refine Zbs ?_ hg))); rintro e w5 ⟨rfl, hi, hb, hk⟩; refine ⟨_, rfl, ?_⟩; have HI2 := Zm hi; have HB2 := Zm hb; have HK2 := Zm (KeepBut.trans (by (with_reducible repeat (first | exact HK.out | apply KeepBut.set_ | apply keep_drewN | apply keep_drew))) hk (.inl rfl)); clear hi hb hk))
      first | go_end0 | ((try simp only [Exit.inBlock, Exit.then]); refine bodyPost_ret (results_none rfl _ _ _) rfl ?_)
      exact ⟨rfl, HI2.out, HB2.out, HK2.out⟩
    rw [if_pos c2] at H
    have c2b : decide (x < wrap64 (s0_1 + 20)) = true := decide_eq_true c2
    have c2c : decide (x < IntKind.i64.wrap (s0_1 + 20)) = true := by rw [i64_w]; exact c2b
    by_cases c3 : 0 ≤ x
    rotate_left
    · rw [if_neg c3] at H
      exact absurd H (by simp)
    rw [if_pos c3, if_pos c1] at H
    have c3b : decide (0 ≤ x) = true := decide_eq_true c3
    obtain ⟨t, ht, H⟩ := Option.bind_eq_some_iff.mp H
    have hbt := bt_at s0_0 x
    have hnq : ∀ (W : World) (n : Nat), Calls Try.prog 163 #[.int .u8 (bt s0_0 x), .int .i64 (wrap64 (x - s0_1))] (W.drewN n) fun e w'' => e = .returned (.bool t) ∧ ∃ m, w'' = W.drewN m := fun W n => by
     exact Calls.quiet_of ((impl_isNameByte.calls (bt s0_0 x) (wrap64 (x - s0_1)) t (W.drewN n) ht).mono fun e W' ⟨he, ⟨m, hm⟩⟩ => ⟨he, m, hm⟩)
    clear ht c2
    cases t with
    | true =>
     rw [if_pos rfl] at H
     have H' := Zm H
     clear H
     go_wp2
     go_quiet (first | (go_at_call 160; exact hlq _ _) | (go_at_call 163; with_reducible exact hnq _ _))
     go_wp2
     go_roundg k1
     case measure => have := HK1.out; omega
     case rel => exact ⟨wrap64 (x + 1), H', ⟨by have := HK1.out; omega⟩, ⟨by (with_reducible repeat (first | exact HI.out | apply IsS216.drewN | apply IsS216.drew | apply IsS216.set_1 | apply IsS216.set_2))⟩, ⟨by (with_reducible repeat (first | exact HB.out | apply Zbn | apply Zbd | refine Zbs ?_ hg))⟩, ⟨by (with_reducible repeat (first | exact HK.out | apply KeepBut.set_ | apply keep_drewN | apply keep_drew))⟩⟩
    | false =>
     rw [if_neg (by simp)] at H
     by_cases c9 : x = s0_1
     rotate_left
     · rw [if_neg c9] at H
       have c9b : (x == s0_1) = false := beq_eq_false_iff_ne.mpr c9
       have HW := Zm (eta _ _ H)
       clear H
       go_wp2
       go_quiet (first | (go_at_call 160; exact hlq _ _) | (go_at_call 163; with_reducible exact hnq _ _))
       go_wp2_with (first | ((with_reducible refine gate_callee (f := 157) rfl ?_); refine goesL_ (some 68) rfl rfl Try.func157 (by kernel_rfl) rfl #[.pointer (some ⟨g, 0, none⟩), .int .u8 59] rfl (by (try simp only [List.map_toArray, List.map_cons, List.map_nil]); first | done | rfl) ?_; (with_reducible refine (impl_reader_want.calls g s0_0 x false 59 r1 r2 r3 w0 _ ?side1 ?side2 HW.out).mono ?_); (case side1 => (with_reducible repeat (first | exact HI.out | apply IsS216.drewN | apply IsS216.drew | apply IsS216.set_1 | apply IsS216.set_2))); (case side2 => (with_reducible repeat (first | exact HB.out | apply Zbn | apply Zbd | refine Zbs ?_ hg))); rintro e w5 ⟨rfl, hi, hb, hk⟩; refine ⟨_, rfl, ?_⟩; have HI2 := Zm hi; have HB2 := Zm hb; have HK2 := Zm (KeepBut.trans (by (with_reducible repeat (first | exact HK.out | apply KeepBut.set_ | apply keep_drewN | apply keep_drew))) hk (.inl rfl)); clear hi hb hk))
       first | go_end0 | ((try simp only [Exit.inBlock, Exit.then]); refine bodyPost_ret (results_none rfl _ _ _) rfl ?_)
       exact ⟨rfl, HI2.out, HB2.out, HK2.out⟩
     rw [if_pos c9] at H
     have c9b : (x == s0_1) = true := beq_iff_eq.mpr c9
     have HW := Zm (eta _ _ H)
     clear H c9
     go_wp2
     go_quiet (first | (go_at_call 160; exact hlq _ _) | (go_at_call 163; with_reducible exact hnq _ _))
     go_wp2_with (first | ((with_reducible refine gate_callee (f := 157) rfl ?_); refine goesL_ (some 68) rfl rfl Try.func157 (by kernel_rfl) rfl #[.pointer (some ⟨g, 0, none⟩), .int .u8 59] rfl (by (try simp only [List.map_toArray, List.map_cons, List.map_nil]); first | done | rfl) ?_; (with_reducible refine (impl_reader_want.calls g s0_0 x true 59 r1 r2 r3 w0 _ ?side1 ?side2 HW.out).mono ?_); (case side1 => (with_reducible repeat (first | exact HI.out | apply IsS216.drewN | apply IsS216.drew | apply IsS216.set_1 | apply IsS216.set_2))); (case side2 => (with_reducible repeat (first | exact HB.out | apply Zbn | apply Zbd | refine Zbs ?_ hg))); rintro e w5 ⟨rfl, hi, hb, hk⟩; refine ⟨_, rfl, ?_⟩; have HI2 := Zm hi; have HB2 := Zm hb; have HK2 := Zm (KeepBut.trans (by (with_reducible repeat (first | exact HK.out | apply KeepBut.set_ | apply keep_drewN | apply keep_drew))) hk (.inl rfl)); clear hi hb hk))
     first | go_end0 | ((try simp only [Exit.inBlock, Exit.then]); refine bodyPost_ret (results_none rfl _ _ _) rfl ?_)
     exact ⟨rfl, HI2.out, HB2.out, HK2.out⟩
/-! ### impl_reader_kind: function 159 -/
def impl_reader_kind.f (k : Nat) (s0_0 : ByteArray) (s0_1 : Int) (s0_2 : Bool) : Option (ByteArray × ByteArray × Int × Bool) := (impl_reader_take.f s0_0 s0_1 s0_2 91).bind fun bt307 => ((impl_reader_take.f bt307.2.1 bt307.2.2.1 bt307.2.2.2 73).bind fun bt311 => (if bt311.1 = true then (if bt311.2.2.2 = true then (some ((⟨#[]⟩ : ByteArray), bt311.2.1, bt311.2.2.1, bt311.2.2.2)) else (if 0 ≤ s0_1 then (if s0_1 ≤ bt311.2.2.1 then (if bt311.2.2.1 ≤ (bt311.2.1.size : Int) then (some (bt311.2.1.extract (s0_1 : Int).toNat (bt311.2.2.1 : Int).toNat, bt311.2.1, bt311.2.2.1, bt311.2.2.2)) else (none)) else (none)) else (none))) else ((impl_reader_take.f bt311.2.1 bt311.2.2.1 bt311.2.2.2 76).bind fun bt315 => (if bt315.1 = true then ((impl_reader_name.f k bt315.2.1 bt315.2.2.1 bt315.2.2.2).bind fun bt319 => (if bt319.2.2 = true then (some ((⟨#[]⟩ : ByteArray), bt319.1, bt319.2.1, bt319.2.2)) else (if 0 ≤ s0_1 then (if s0_1 ≤ bt319.2.1 then (if bt319.2.1 ≤ (bt319.1.size : Int) then (some (bt319.1.extract (s0_1 : Int).toNat (bt319.2.1 : Int).toNat, bt319.1, bt319.2.1, bt319.2.2)) else (none)) else (none)) else (none)))) else (some ((⟨#[]⟩ : ByteArray), bt315.2.1, bt315.2.2.1, true))))))
theorem impl_reader_kind.mono : ∀ a0 a1 a2 k, LeO (impl_reader_kind.f k a0 a1 a2) (impl_reader_kind.f (k + 1) a0 a1 a2) := by
 intro a0 a1 a2 k
 unfold impl_reader_kind.f
 repeat' first
  | (with_reducible exact impl_reader_name.mono _ _ _ _)
  | (with_reducible exact LeO.refl _)
  | (with_reducible exact LeO.none _)
  | (with_reducible refine LeO.ite ?_ ?_)
  | (with_reducible refine LeO.bind ?_ (fun _ => ?_))
  | exact impl_reader_name.mono _ _ _ _
  | exact LeO.none _
  | refine LeO.ite ?_ ?_
  | refine LeO.bind ?_ (fun _ => ?_)
set_option maxHeartbeats 8000000 in
set_option maxRecDepth 100000 in
theorem impl_reader_kind.calls (k : Nat) (g : Nat) (s0_0 : ByteArray) (s0_1 : Int) (s0_2 : Bool) (r1 : ByteArray) (r2 : ByteArray) (r3 : Int) (r4 : Bool) (w0 w : World) (hI : IsS216 w0 w g s0_0 s0_1 s0_2) (hB : Below w0.heap.size w0 w) (h : impl_reader_kind.f k s0_0 s0_1 s0_2 = some (r1, r2, r3, r4)) :
 Calls Try.prog 159 #[.pointer (some ⟨g, 0, none⟩)] w fun e w' => e = .returned (.string r1) ∧ IsS216 w0 w' g r2 r3 r4 ∧ Below w0.heap.size w0 w' ∧ KeepBut w w' g none := by
 have HI0 := Zm hI
 have HK := Zm (KeepBut.refl w g none)
 have HL := Zm hB.size
 clear hI
 have HW0 := Zm hB.size
 have HB := Zm hB
 clear hB
 have H : ((impl_reader_take.f s0_0 s0_1 s0_2 91).bind fun bt307 => ((impl_reader_take.f bt307.2.1 bt307.2.2.1 bt307.2.2.2 73).bind fun bt311 => (if bt311.1 = true then (if bt311.2.2.2 = true then (some ((⟨#[]⟩ : ByteArray), bt311.2.1, bt311.2.2.1, bt311.2.2.2)) else (if 0 ≤ s0_1 then (if s0_1 ≤ bt311.2.2.1 then (if bt311.2.2.1 ≤ (bt311.2.1.size : Int) then (some (bt311.2.1.extract (s0_1 : Int).toNat (bt311.2.2.1 : Int).toNat, bt311.2.1, bt311.2.2.1, bt311.2.2.2)) else (none)) else (none)) else (none))) else ((impl_reader_take.f bt311.2.1 bt311.2.2.1 bt311.2.2.2 76).bind fun bt315 => (if bt315.1 = true then ((impl_reader_name.f k bt315.2.1 bt315.2.2.1 bt315.2.2.2).bind fun bt319 => (if bt319.2.2 = true then (some ((⟨#[]⟩ : ByteArray), bt319.1, bt319.2.1, bt319.2.2)) else (if 0 ≤ s0_1 then (if s0_1 ≤ bt319.2.1 then (if bt319.2.1 ≤ (bt319.1.size : Int) then (some (bt319.1.extract (s0_1 : Int).toNat (bt319.2.1 : Int).toNat, bt319.1, bt319.2.1, bt319.2.2)) else (none)) else (none)) else (none)))) else (some ((⟨#[]⟩ : ByteArray), bt315.2.1, bt315.2.2.1, true))))))) = some (r1, r2, r3, r4) := h
 clear h
 replace H := Option.bind_eq_some_iff.mp H
 obtain ⟨⟨t307, t308, t309, t310⟩, A20, H⟩ := H
 replace H : ((impl_reader_take.f t308 t309 t310 73).bind fun bt311 => (if bt311.1 = true then (if bt311.2.2.2 = true then (some ((⟨#[]⟩ : ByteArray), bt311.2.1, bt311.2.2.1, bt311.2.2.2)) else (if 0 ≤ s0_1 then (if s0_1 ≤ bt311.2.2.1 then (if bt311.2.2.1 ≤ (bt311.2.1.size : Int) then (some (bt311.2.1.extract (s0_1 : Int).toNat (bt311.2.2.1 : Int).toNat, bt311.2.1, bt311.2.2.1, bt311.2.2.2)) else (none)) else (none)) else (none))) else ((impl_reader_take.f bt311.2.1 bt311.2.2.1 bt311.2.2.2 76).bind fun bt315 => (if bt315.1 = true then ((impl_reader_name.f k bt315.2.1 bt315.2.2.1 bt315.2.2.2).bind fun bt319 => (if bt319.2.2 = true then (some ((⟨#[]⟩ : ByteArray), bt319.1, bt319.2.1, bt319.2.2)) else (if 0 ≤ s0_1 then (if s0_1 ≤ bt319.2.1 then (if bt319.2.1 ≤ (bt319.1.size : Int) then (some (bt319.1.extract (s0_1 : Int).toNat (bt319.2.1 : Int).toNat, bt319.1, bt319.2.1, bt319.2.2)) else (none)) else (none)) else (none)))) else (some ((⟨#[]⟩ : ByteArray), bt315.2.1, bt315.2.2.1, true)))))) = some (r1, r2, r3, r4) := H
 have A2 := Zm A20
 clear A20
 replace H := Option.bind_eq_some_iff.mp H
 obtain ⟨⟨t311, t312, t313, t314⟩, A30, H⟩ := H
 replace H : (if t311 = true then (if t314 = true then (some ((⟨#[]⟩ : ByteArray), t312, t313, t314)) else (if 0 ≤ s0_1 then (if s0_1 ≤ t313 then (if t313 ≤ (t312.size : Int) then (some (t312.extract (s0_1 : Int).toNat (t313 : Int).toNat, t312, t313, t314)) else (none)) else (none)) else (none))) else ((impl_reader_take.f t312 t313 t314 76).bind fun bt315 => (if bt315.1 = true then ((impl_reader_name.f k bt315.2.1 bt315.2.2.1 bt315.2.2.2).bind fun bt319 => (if bt319.2.2 = true then (some ((⟨#[]⟩ : ByteArray), bt319.1, bt319.2.1, bt319.2.2)) else (if 0 ≤ s0_1 then (if s0_1 ≤ bt319.2.1 then (if bt319.2.1 ≤ (bt319.1.size : Int) then (some (bt319.1.extract (s0_1 : Int).toNat (bt319.2.1 : Int).toNat, bt319.1, bt319.2.1, bt319.2.2)) else (none)) else (none)) else (none)))) else (some ((⟨#[]⟩ : ByteArray), bt315.2.1, bt315.2.2.1, true))))) = some (r1, r2, r3, r4) := H
 have A3 := Zm A30
 clear A30
 by_cases c4 : t311 = true
 rotate_left
 · replace c4 := Bool.eq_false_iff.mpr c4
   subst c4
   rw [if_neg (show ¬ (false = true) by decide)] at H
   replace H := Option.bind_eq_some_iff.mp H
   obtain ⟨⟨t315, t316, t317, t318⟩, A170, H⟩ := H
   replace H : (if t315 = true then ((impl_reader_name.f k t316 t317 t318).bind fun bt319 => (if bt319.2.2 = true then (some ((⟨#[]⟩ : ByteArray), bt319.1, bt319.2.1, bt319.2.2)) else (if 0 ≤ s0_1 then (if s0_1 ≤ bt319.2.1 then (if bt319.2.1 ≤ (bt319.1.size : Int) then (some (bt319.1.extract (s0_1 : Int).toNat (bt319.2.1 : Int).toNat, bt319.1, bt319.2.1, bt319.2.2)) else (none)) else (none)) else (none)))) else (some ((⟨#[]⟩ : ByteArray), t316, t317, true))) = some (r1, r2, r3, r4) := H
   have A17 := Zm A170
   clear A170
   by_cases c18 : t315 = true
   rotate_left
   · replace c18 := Bool.eq_false_iff.mpr c18
     subst c18
     rw [if_neg (show ¬ (false = true) by decide)] at H
     simp only [Option.some.injEq, Prod.mk.injEq] at H
     obtain ⟨rfl, rfl, rfl, rfl⟩ := H
     obtain ⟨HGz36, hgz36⟩ := HI0.out
     have hcz36_0 := cellS216_0 HGz36
     have hcz36_1 := cellS216_1 HGz36
     have hcz36_2 := cellS216_2 HGz36
     have hfz36_0 := Zkf HGz36 0
     have hfz36_1 := Zkf HGz36 1
     have hfz36_2 := Zkf HGz36 2
     clear HGz36 hgz36
     go_enter Try.func159, Try.ntmps159
     go_wp2_with (first | (go_at_call 158; (first | (with_reducible refine (impl_reader_take.calls g s0_0 s0_1 s0_2 91 t307 t308 t309 t310 w0 _ ?side1 ?side2 A2.out).mono ?_) | (with_reducible refine (calls_of_args ?_ (impl_reader_take.calls g s0_0 s0_1 s0_2 91 t307 t308 t309 t310 w0 _ ?side1 ?side2 A2.out)).mono ?_; focus (simp [*]; done))); (case side1 => repeat (first | (with_reducible first | exact HI0.out | apply IsS216.alloc | apply IsS216.drewN | apply IsS216.drew | apply IsS216.set_0 | apply IsS216.set_1 | apply IsS216.set_2) | exact HI0.out)); (case side2 => exact bk HB.out); rintro e w37 ⟨rfl, hi, hb, hk⟩; have n0_ := (⟨Zm (KeepBut.trans (by repeat (first | (with_reducible first | exact HK.out | apply KeepBut.set_ | apply keep_drewN | apply keep_drew | apply keep_alloc) | exact HK.out)) hk (.inl rfl)), Zm (hb), Zm (hi)⟩ : _ ∧ _ ∧ _); clear HK HB HI0; obtain ⟨HK, HB, HI0⟩ := n0_; (try clear hb); (try clear hb2); (try clear hk); (try clear hi)) | (go_at_call 158; (first | (with_reducible refine (impl_reader_take.calls g t308 t309 t310 73 false t312 t313 t314 w0 _ ?side1 ?side2 A3.out).mono ?_) | (with_reducible refine (calls_of_args ?_ (impl_reader_take.calls g t308 t309 t310 73 false t312 t313 t314 w0 _ ?side1 ?side2 A3.out)).mono ?_; focus (simp [*]; done))); (case side1 => repeat (first | (with_reducible first | exact HI0.out | apply IsS216.alloc | apply IsS216.drewN | apply IsS216.drew | apply IsS216.set_0 | apply IsS216.set_1 | apply IsS216.set_2) | exact HI0.out)); (case side2 => exact bk HB.out); rintro e w38 ⟨rfl, hi, hb, hk⟩; have n0_ := (⟨Zm (KeepBut.trans (by repeat (first | (with_reducible first | exact HK.out | apply KeepBut.set_ | apply keep_drewN | apply keep_drew | apply keep_alloc) | exact HK.out)) hk (.inl rfl)), Zm (hb), Zm (hi)⟩ : _ ∧ _ ∧ _); clear HK HB HI0; obtain ⟨HK, HB, HI0⟩ := n0_; (try clear hb); (try clear hb2); (try clear hk); (try clear hi)) | (go_at_call 158; (first | (with_reducible refine (impl_reader_take.calls g t312 t313 t314 76 false t316 t317 t318 w0 _ ?side1 ?side2 A17.out).mono ?_) | (with_reducible refine (calls_of_args ?_ (impl_reader_take.calls g t312 t313 t314 76 false t316 t317 t318 w0 _ ?side1 ?side2 A17.out)).mono ?_; focus (simp [*]; done))); (case side1 => repeat (first | (with_reducible first | exact HI0.out | apply IsS216.alloc | apply IsS216.drewN | apply IsS216.drew | apply IsS216.set_0 | apply IsS216.set_1 | apply IsS216.set_2) | exact HI0.out)); (case side2 => exact bk HB.out); rintro e w39 ⟨rfl, hi, hb, hk⟩; have n0_ := (⟨Zm (KeepBut.trans (by repeat (first | (with_reducible first | exact HK.out | apply KeepBut.set_ | apply keep_drewN | apply keep_drew | apply keep_alloc) | exact HK.out)) hk (.inl rfl)), Zm (hb), Zm (hi)⟩ : _ ∧ _ ∧ _); clear HK HB HI0; obtain ⟨HK, HB, HI0⟩ := n0_; (try clear hb); (try clear hb2); (try clear hk); (try clear hi); obtain ⟨HGz40, hgz40⟩ := HI0.out; have hcz40_0 := cellS216_0 HGz40; have hcz40_1 := cellS216_1 HGz40; have hcz40_2 := cellS216_2 HGz40; have hfz40_0 := Zkf HGz40 0; have hfz40_1 := Zkf HGz40 1; have hfz40_2 := Zkf HGz40 2; clear HGz40 hgz40))
     repeat (go_quiet (first | (go_at_call 158; (first | (with_reducible refine (impl_reader_take.calls g s0_0 s0_1 s0_2 91 t307 t308 t309 t310 w0 _ ?side1 ?side2 A2.out).mono ?_) | (with_reducible refine (calls_of_args ?_ (impl_reader_take.calls g s0_0 s0_1 s0_2 91 t307 t308 t309 t310 w0 _ ?side1 ?side2 A2.out)).mono ?_; focus (simp [*]; done))); (case side1 => repeat (first | (with_reducible first | exact HI0.out | apply IsS216.alloc | apply IsS216.drewN | apply IsS216.drew | apply IsS216.set_0 | apply IsS216.set_1 | apply IsS216.set_2) | exact HI0.out)); (case side2 => exact bk HB.out); rintro e w37 ⟨rfl, hi, hb, hk⟩; have n0_ := (⟨Zm (KeepBut.trans (by repeat (first | (with_reducible first | exact HK.out | apply KeepBut.set_ | apply keep_drewN | apply keep_drew | apply keep_alloc) | exact HK.out)) hk (.inl rfl)), Zm (hb), Zm (hi)⟩ : _ ∧ _ ∧ _); clear HK HB HI0; obtain ⟨HK, HB, HI0⟩ := n0_; (try clear hb); (try clear hb2); (try clear hk); (try clear hi)) | (go_at_call 158; (first | (with_reducible refine (impl_reader_take.calls g t308 t309 t310 73 false t312 t313 t314 w0 _ ?side1 ?side2 A3.out).mono ?_) | (with_reducible refine (calls_of_args ?_ (impl_reader_take.calls g t308 t309 t310 73 false t312 t313 t314 w0 _ ?side1 ?side2 A3.out)).mono ?_; focus (simp [*]; done))); (case side1 => repeat (first | (with_reducible first | exact HI0.out | apply IsS216.alloc | apply IsS216.drewN | apply IsS216.drew | apply IsS216.set_0 | apply IsS216.set_1 | apply IsS216.set_2) | exact HI0.out)); (case side2 => exact bk HB.out); rintro e w38 ⟨rfl, hi, hb, hk⟩; have n0_ := (⟨Zm (KeepBut.trans (by repeat (first | (with_reducible first | exact HK.out | apply KeepBut.set_ | apply keep_drewN | apply keep_drew | apply keep_alloc) | exact HK.out)) hk (.inl rfl)), Zm (hb), Zm (hi)⟩ : _ ∧ _ ∧ _); clear HK HB HI0; obtain ⟨HK, HB, HI0⟩ := n0_; (try clear hb); (try clear hb2); (try clear hk); (try clear hi)) | (go_at_call 158; (first | (with_reducible refine (impl_reader_take.calls g t312 t313 t314 76 false t316 t317 t318 w0 _ ?side1 ?side2 A17.out).mono ?_) | (with_reducible refine (calls_of_args ?_ (impl_reader_take.calls g t312 t313 t314 76 false t316 t317 t318 w0 _ ?side1 ?side2 A17.out)).mono ?_; focus (simp [*]; done))); (case side1 => repeat (first | (with_reducible first | exact HI0.out | apply IsS216.alloc | apply IsS216.drewN | apply IsS216.drew | apply IsS216.set_0 | apply IsS216.set_1 | apply IsS216.set_2) | exact HI0.out)); (case side2 => exact bk HB.out); rintro e w39 ⟨rfl, hi, hb, hk⟩; have n0_ := (⟨Zm (KeepBut.trans (by repeat (first | (with_reducible first | exact HK.out | apply KeepBut.set_ | apply keep_drewN | apply keep_drew | apply keep_alloc) | exact HK.out)) hk (.inl rfl)), Zm (hb), Zm (hi)⟩ : _ ∧ _ ∧ _); clear HK HB HI0; obtain ⟨HK, HB, HI0⟩ := n0_; (try clear hb); (try clear hb2); (try clear hk); (try clear hi); obtain ⟨HGz40, hgz40⟩ := HI0.out; have hcz40_0 := cellS216_0 HGz40; have hcz40_1 := cellS216_1 HGz40; have hcz40_2 := cellS216_2 HGz40; have hfz40_0 := Zkf HGz40 0; have hfz40_1 := Zkf HGz40 1; have hfz40_2 := Zkf HGz40 2; clear HGz40 hgz40)); try go_wp2_with (first | (go_at_call 158; (first | (with_reducible refine (impl_reader_take.calls g s0_0 s0_1 s0_2 91 t307 t308 t309 t310 w0 _ ?side1 ?side2 A2.out).mono ?_) | (with_reducible refine (calls_of_args ?_ (impl_reader_take.calls g s0_0 s0_1 s0_2 91 t307 t308 t309 t310 w0 _ ?side1 ?side2 A2.out)).mono ?_; focus (simp [*]; done))); (case side1 => repeat (first | (with_reducible first | exact HI0.out | apply IsS216.alloc | apply IsS216.drewN | apply IsS216.drew | apply IsS216.set_0 | apply IsS216.set_1 | apply IsS216.set_2) | exact HI0.out)); (case side2 => exact bk HB.out); rintro e w37 ⟨rfl, hi, hb, hk⟩; have n0_ := (⟨Zm (KeepBut.trans (by repeat (first | (with_reducible first | exact HK.out | apply KeepBut.set_ | apply keep_drewN | apply keep_drew | apply keep_alloc) | exact HK.out)) hk (.inl rfl)), Zm (hb), Zm (hi)⟩ : _ ∧ _ ∧ _); clear HK HB HI0; obtain ⟨HK, HB, HI0⟩ := n0_; (try clear hb); (try clear hb2); (try clear hk); (try clear hi)) | (go_at_call 158; (first | (with_reducible refine (impl_reader_take.calls g t308 t309 t310 73 false t312 t313 t314 w0 _ ?side1 ?side2 A3.out).mono ?_) | (with_reducible refine (calls_of_args ?_ (impl_reader_take.calls g t308 t309 t310 73 false t312 t313 t314 w0 _ ?side1 ?side2 A3.out)).mono ?_; focus (simp [*]; done))); (case side1 => repeat (first | (with_reducible first | exact HI0.out | apply IsS216.alloc | apply IsS216.drewN | apply IsS216.drew | apply IsS216.set_0 | apply IsS216.set_1 | apply IsS216.set_2) | exact HI0.out)); (case side2 => exact bk HB.out); rintro e w38 ⟨rfl, hi, hb, hk⟩; have n0_ := (⟨Zm (KeepBut.trans (by repeat (first | (with_reducible first | exact HK.out | apply KeepBut.set_ | apply keep_drewN | apply keep_drew | apply keep_alloc) | exact HK.out)) hk (.inl rfl)), Zm (hb), Zm (hi)⟩ : _ ∧ _ ∧ _); clear HK HB HI0; obtain ⟨HK, HB, HI0⟩ := n0_; (try clear hb); (try clear hb2); (try clear hk); (try clear hi)) | (go_at_call 158; (first | (with_reducible refine (impl_reader_take.calls g t312 t313 t314 76 false t316 t317 t318 w0 _ ?side1 ?side2 A17.out).mono ?_) | (with_reducible refine (calls_of_args ?_ (impl_reader_take.calls g t312 t313 t314 76 false t316 t317 t318 w0 _ ?side1 ?side2 A17.out)).mono ?_; focus (simp [*]; done))); (case side1 => repeat (first | (with_reducible first | exact HI0.out | apply IsS216.alloc | apply IsS216.drewN | apply IsS216.drew | apply IsS216.set_0 | apply IsS216.set_1 | apply IsS216.set_2) | exact HI0.out)); (case side2 => exact bk HB.out); rintro e w39 ⟨rfl, hi, hb, hk⟩; have n0_ := (⟨Zm (KeepBut.trans (by repeat (first | (with_reducible first | exact HK.out | apply KeepBut.set_ | apply keep_drewN | apply keep_drew | apply keep_alloc) | exact HK.out)) hk (.inl rfl)), Zm (hb), Zm (hi)⟩ : _ ∧ _ ∧ _); clear HK HB HI0; obtain ⟨HK, HB, HI0⟩ := n0_; (try clear hb); (try clear hb2); (try clear hk); (try clear hi); obtain ⟨HGz40, hgz40⟩ := HI0.out; have hcz40_0 := cellS216_0 HGz40; have hcz40_1 := cellS216_1 HGz40; have hcz40_2 := cellS216_2 HGz40; have hfz40_0 := Zkf HGz40 0; have hfz40_1 := Zkf HGz40 1; have hfz40_2 := Zkf HGz40 2; clear HGz40 hgz40)))
     go_ret
     exact ⟨by first | rfl | (simp [*] <;> rfl), by repeat (first | (with_reducible first | exact HI0.out | apply IsS216.alloc | apply IsS216.drewN | apply IsS216.drew | apply IsS216.set_0 | apply IsS216.set_1 | apply IsS216.set_2) | exact HI0.out), by repeat (first | (with_reducible first | exact HB.out | apply Zba | apply Zbn | apply Zbd | refine Zbs ?_ (IsS216.ge HI0.out)) | exact HB.out), by repeat (first | (with_reducible first | exact HK.out | apply KeepBut.set_ | apply keep_drewN | apply keep_drew | apply keep_alloc) | exact HK.out)⟩

   subst c18
   rw [if_pos rfl] at H
   replace H := Option.bind_eq_some_iff.mp H
   obtain ⟨⟨t319, t320, t321⟩, A190, H⟩ := H
   replace H : (if t321 = true then (some ((⟨#[]⟩ : ByteArray), t319, t320, t321)) else (if 0 ≤ s0_1 then (if s0_1 ≤ t320 then (if t320 ≤ (t319.size : Int) then (some (t319.extract (s0_1 : Int).toNat (t320 : Int).toNat, t319, t320, t321)) else (none)) else (none)) else (none))) = some (r1, r2, r3, r4) := H
   have A19 := Zm A190
   clear A190
   by_cases c20 : t321 = true
   rotate_left
   · replace c20 := Bool.eq_false_iff.mpr c20
     subst c20
     rw [if_neg (show ¬ (false = true) by decide)] at H
     by_cases c27 : 0 ≤ s0_1
     rotate_left
     · rw [if_neg c27] at H
       exact absurd H (by simp)
     rw [if_pos c27] at H
     have c27b0 := eq_true c27
     have c27b1 := decide_eq_true c27
     clear c27
     by_cases c28 : s0_1 ≤ t320
     rotate_left
     · rw [if_neg c28] at H
       exact absurd H (by simp)
     rw [if_pos c28] at H
     have c28b0 := eq_true c28
     have c28b1 := decide_eq_true c28
     clear c28
     by_cases c29 : t320 ≤ (t319.size : Int)
     rotate_left
     · rw [if_neg c29] at H
       exact absurd H (by simp)
     rw [if_pos c29] at H
     have c29b0 := eq_true c29
     have c29b1 := decide_eq_true c29
     clear c29
     simp only [Option.some.injEq, Prod.mk.injEq] at H
     obtain ⟨rfl, rfl, rfl, rfl⟩ := H
     obtain ⟨HGz30, hgz30⟩ := HI0.out
     have hcz30_0 := cellS216_0 HGz30
     have hcz30_1 := cellS216_1 HGz30
     have hcz30_2 := cellS216_2 HGz30
     have hfz30_0 := Zkf HGz30 0
     have hfz30_1 := Zkf HGz30 1
     have hfz30_2 := Zkf HGz30 2
     clear HGz30 hgz30
     go_enter Try.func159, Try.ntmps159
     go_wp2_with (first | (go_at_call 158; (first | (with_reducible refine (impl_reader_take.calls g s0_0 s0_1 s0_2 91 t307 t308 t309 t310 w0 _ ?side1 ?side2 A2.out).mono ?_) | (with_reducible refine (calls_of_args ?_ (impl_reader_take.calls g s0_0 s0_1 s0_2 91 t307 t308 t309 t310 w0 _ ?side1 ?side2 A2.out)).mono ?_; focus (simp [*]; done))); (case side1 => repeat (first | (with_reducible first | exact HI0.out | apply IsS216.alloc | apply IsS216.drewN | apply IsS216.drew | apply IsS216.set_0 | apply IsS216.set_1 | apply IsS216.set_2) | exact HI0.out)); (case side2 => exact bk HB.out); rintro e w31 ⟨rfl, hi, hb, hk⟩; have n0_ := (⟨Zm (KeepBut.trans (by repeat (first | (with_reducible first | exact HK.out | apply KeepBut.set_ | apply keep_drewN | apply keep_drew | apply keep_alloc) | exact HK.out)) hk (.inl rfl)), Zm (hb), Zm (hi)⟩ : _ ∧ _ ∧ _); clear HK HB HI0; obtain ⟨HK, HB, HI0⟩ := n0_; (try clear hb); (try clear hb2); (try clear hk); (try clear hi)) | (go_at_call 158; (first | (with_reducible refine (impl_reader_take.calls g t308 t309 t310 73 false t312 t313 t314 w0 _ ?side1 ?side2 A3.out).mono ?_) | (with_reducible refine (calls_of_args ?_ (impl_reader_take.calls g t308 t309 t310 73 false t312 t313 t314 w0 _ ?side1 ?side2 A3.out)).mono ?_; focus (simp [*]; done))); (case side1 => repeat (first | (with_reducible first | exact HI0.out | apply IsS216.alloc | apply IsS216.drewN | apply IsS216.drew | apply IsS216.set_0 | apply IsS216.set_1 | apply IsS216.set_2) | exact HI0.out)); (case side2 => exact bk HB.out); rintro e w32 ⟨rfl, hi, hb, hk⟩; have n0_ := (⟨Zm (KeepBut.trans (by repeat (first | (with_reducible first | exact HK.out | apply KeepBut.set_ | apply keep_drewN | apply keep_drew | apply keep_alloc) | exact HK.out)) hk (.inl rfl)), Zm (hb), Zm (hi)⟩ : _ ∧ _ ∧ _); clear HK HB HI0; obtain ⟨HK, HB, HI0⟩ := n0_; (try clear hb); (try clear hb2); (try clear hk); (try clear hi)) | (go_at_call 158; (first | (with_reducible refine (impl_reader_take.calls g t312 t313 t314 76 true t316 t317 t318 w0 _ ?side1 ?side2 A17.out).mono ?_) | (with_reducible refine (calls_of_args ?_ (impl_reader_take.calls g t312 t313 t314 76 true t316 t317 t318 w0 _ ?side1 ?side2 A17.out)).mono ?_; focus (simp [*]; done))); (case side1 => repeat (first | (with_reducible first | exact HI0.out | apply IsS216.alloc | apply IsS216.drewN | apply IsS216.drew | apply IsS216.set_0 | apply IsS216.set_1 | apply IsS216.set_2) | exact HI0.out)); (case side2 => exact bk HB.out); rintro e w33 ⟨rfl, hi, hb, hk⟩; have n0_ := (⟨Zm (KeepBut.trans (by repeat (first | (with_reducible first | exact HK.out | apply KeepBut.set_ | apply keep_drewN | apply keep_drew | apply keep_alloc) | exact HK.out)) hk (.inl rfl)), Zm (hb), Zm (hi)⟩ : _ ∧ _ ∧ _); clear HK HB HI0; obtain ⟨HK, HB, HI0⟩ := n0_; (try clear hb); (try clear hb2); (try clear hk); (try clear hi)) | (go_at_call 190; (first | (with_reducible refine (impl_reader_name.calls k g t316 t317 t318 t319 t320 false w0 _ ?side1 ?side2 A19.out).mono ?_) | (with_reducible refine (calls_of_args ?_ (impl_reader_name.calls k g t316 t317 t318 t319 t320 false w0 _ ?side1 ?side2 A19.out)).mono ?_; focus (simp [*]; done))); (case side1 => repeat (first | (with_reducible first | exact HI0.out | apply IsS216.alloc | apply IsS216.drewN | apply IsS216.drew | apply IsS216.set_0 | apply IsS216.set_1 | apply IsS216.set_2) | exact HI0.out)); (case side2 => exact bk HB.out); rintro e w34 ⟨rfl, hi, hb, hk⟩; have n0_ := (⟨Zm (KeepBut.trans (by repeat (first | (with_reducible first | exact HK.out | apply KeepBut.set_ | apply keep_drewN | apply keep_drew | apply keep_alloc) | exact HK.out)) hk (.inl rfl)), Zm (hb), Zm (hi)⟩ : _ ∧ _ ∧ _); clear HK HB HI0; obtain ⟨HK, HB, HI0⟩ := n0_; (try clear hb); (try clear hb2); (try clear hk); (try clear hi); obtain ⟨HGz35, hgz35⟩ := HI0.out; have hcz35_0 := cellS216_0 HGz35; have hcz35_1 := cellS216_1 HGz35; have hcz35_2 := cellS216_2 HGz35; have hfz35_0 := Zkf HGz35 0; have hfz35_1 := Zkf HGz35 1; have hfz35_2 := Zkf HGz35 2; clear HGz35 hgz35))
     repeat (go_quiet (first | (go_at_call 158; (first | (with_reducible refine (impl_reader_take.calls g s0_0 s0_1 s0_2 91 t307 t308 t309 t310 w0 _ ?side1 ?side2 A2.out).mono ?_) | (with_reducible refine (calls_of_args ?_ (impl_reader_take.calls g s0_0 s0_1 s0_2 91 t307 t308 t309 t310 w0 _ ?side1 ?side2 A2.out)).mono ?_; focus (simp [*]; done))); (case side1 => repeat (first | (with_reducible first | exact HI0.out | apply IsS216.alloc | apply IsS216.drewN | apply IsS216.drew | apply IsS216.set_0 | apply IsS216.set_1 | apply IsS216.set_2) | exact HI0.out)); (case side2 => exact bk HB.out); rintro e w31 ⟨rfl, hi, hb, hk⟩; have n0_ := (⟨Zm (KeepBut.trans (by repeat (first | (with_reducible first | exact HK.out | apply KeepBut.set_ | apply keep_drewN | apply keep_drew | apply keep_alloc) | exact HK.out)) hk (.inl rfl)), Zm (hb), Zm (hi)⟩ : _ ∧ _ ∧ _); clear HK HB HI0; obtain ⟨HK, HB, HI0⟩ := n0_; (try clear hb); (try clear hb2); (try clear hk); (try clear hi)) | (go_at_call 158; (first | (with_reducible refine (impl_reader_take.calls g t308 t309 t310 73 false t312 t313 t314 w0 _ ?side1 ?side2 A3.out).mono ?_) | (with_reducible refine (calls_of_args ?_ (impl_reader_take.calls g t308 t309 t310 73 false t312 t313 t314 w0 _ ?side1 ?side2 A3.out)).mono ?_; focus (simp [*]; done))); (case side1 => repeat (first | (with_reducible first | exact HI0.out | apply IsS216.alloc | apply IsS216.drewN | apply IsS216.drew | apply IsS216.set_0 | apply IsS216.set_1 | apply IsS216.set_2) | exact HI0.out)); (case side2 => exact bk HB.out); rintro e w32 ⟨rfl, hi, hb, hk⟩; have n0_ := (⟨Zm (KeepBut.trans (by repeat (first | (with_reducible first | exact HK.out | apply KeepBut.set_ | apply keep_drewN | apply keep_drew | apply keep_alloc) | exact HK.out)) hk (.inl rfl)), Zm (hb), Zm (hi)⟩ : _ ∧ _ ∧ _); clear HK HB HI0; obtain ⟨HK, HB, HI0⟩ := n0_; (try clear hb); (try clear hb2); (try clear hk); (try clear hi)) | (go_at_call 158; (first | (with_reducible refine (impl_reader_take.calls g t312 t313 t314 76 true t316 t317 t318 w0 _ ?side1 ?side2 A17.out).mono ?_) | (with_reducible refine (calls_of_args ?_ (impl_reader_take.calls g t312 t313 t314 76 true t316 t317 t318 w0 _ ?side1 ?side2 A17.out)).mono ?_; focus (simp [*]; done))); (case side1 => repeat (first | (with_reducible first | exact HI0.out | apply IsS216.alloc | apply IsS216.drewN | apply IsS216.drew | apply IsS216.set_0 | apply IsS216.set_1 | apply IsS216.set_2) | exact HI0.out)); (case side2 => exact bk HB.out); rintro e w33 ⟨rfl, hi, hb, hk⟩; have n0_ := (⟨Zm (KeepBut.trans (by repeat (first | (with_reducible first | exact HK.out | apply KeepBut.set_ | apply keep_drewN | apply keep_drew | apply keep_alloc) | exact HK.out)) hk (.inl rfl)), Zm (hb), Zm (hi)⟩ : _ ∧ _ ∧ _); clear HK HB HI0; obtain ⟨HK, HB, HI0⟩ := n0_; (try clear hb); (try clear hb2); (try clear hk); (try clear hi)) | (go_at_call 190; (first | (with_reducible refine (impl_reader_name.calls k g t316 t317 t318 t319 t320 false w0 _ ?side1 ?side2 A19.out).mono ?_) | (with_reducible refine (calls_of_args ?_ (impl_reader_name.calls k g t316 t317 t318 t319 t320 false w0 _ ?side1 ?side2 A19.out)).mono ?_; focus (simp [*]; done))); (case side1 => repeat (first | (with_reducible first | exact HI0.out | apply IsS216.alloc | apply IsS216.drewN | apply IsS216.drew | apply IsS216.set_0 | apply IsS216.set_1 | apply IsS216.set_2) | exact HI0.out)); (case side2 => exact bk HB.out); rintro e w34 ⟨rfl, hi, hb, hk⟩; have n0_ := (⟨Zm (KeepBut.trans (by repeat (first | (with_reducible first | exact HK.out | apply KeepBut.set_ | apply keep_drewN | apply keep_drew | apply keep_alloc) | exact HK.out)) hk (.inl rfl)), Zm (hb), Zm (hi)⟩ : _ ∧ _ ∧ _); clear HK HB HI0; obtain ⟨HK, HB, HI0⟩ := n0_; (try clear hb); (try clear hb2); (try clear hk); (try clear hi); obtain ⟨HGz35, hgz35⟩ := HI0.out; have hcz35_0 := cellS216_0 HGz35; have hcz35_1 := cellS216_1 HGz35; have hcz35_2 := cellS216_2 HGz35; have hfz35_0 := Zkf HGz35 0; have hfz35_1 := Zkf HGz35 1; have hfz35_2 := Zkf HGz35 2; clear HGz35 hgz35)); try go_wp2_with (first | (go_at_call 158; (first | (with_reducible refine (impl_reader_take.calls g s0_0 s0_1 s0_2 91 t307 t308 t309 t310 w0 _ ?side1 ?side2 A2.out).mono ?_) | (with_reducible refine (calls_of_args ?_ (impl_reader_take.calls g s0_0 s0_1 s0_2 91 t307 t308 t309 t310 w0 _ ?side1 ?side2 A2.out)).mono ?_; focus (simp [*]; done))); (case side1 => repeat (first | (with_reducible first | exact HI0.out | apply IsS216.alloc | apply IsS216.drewN | apply IsS216.drew | apply IsS216.set_0 | apply IsS216.set_1 | apply IsS216.set_2) | exact HI0.out)); (case side2 => exact bk HB.out); rintro e w31 ⟨rfl, hi, hb, hk⟩; have n0_ := (⟨Zm (KeepBut.trans (by repeat (first | (with_reducible first | exact HK.out | apply KeepBut.set_ | apply keep_drewN | apply keep_drew | apply keep_alloc) | exact HK.out)) hk (.inl rfl)), Zm (hb), Zm (hi)⟩ : _ ∧ _ ∧ _); clear HK HB HI0; obtain ⟨HK, HB, HI0⟩ := n0_; (try clear hb); (try clear hb2); (try clear hk); (try clear hi)) | (go_at_call 158; (first | (with_reducible refine (impl_reader_take.calls g t308 t309 t310 73 false t312 t313 t314 w0 _ ?side1 ?side2 A3.out).mono ?_) | (with_reducible refine (calls_of_args ?_ (impl_reader_take.calls g t308 t309 t310 73 false t312 t313 t314 w0 _ ?side1 ?side2 A3.out)).mono ?_; focus (simp [*]; done))); (case side1 => repeat (first | (with_reducible first | exact HI0.out | apply IsS216.alloc | apply IsS216.drewN | apply IsS216.drew | apply IsS216.set_0 | apply IsS216.set_1 | apply IsS216.set_2) | exact HI0.out)); (case side2 => exact bk HB.out); rintro e w32 ⟨rfl, hi, hb, hk⟩; have n0_ := (⟨Zm (KeepBut.trans (by repeat (first | (with_reducible first | exact HK.out | apply KeepBut.set_ | apply keep_drewN | apply keep_drew | apply keep_alloc) | exact HK.out)) hk (.inl rfl)), Zm (hb), Zm (hi)⟩ : _ ∧ _ ∧ _); clear HK HB HI0; obtain ⟨HK, HB, HI0⟩ := n0_; (try clear hb); (try clear hb2); (try clear hk); (try clear hi)) | (go_at_call 158; (first | (with_reducible refine (impl_reader_take.calls g t312 t313 t314 76 true t316 t317 t318 w0 _ ?side1 ?side2 A17.out).mono ?_) | (with_reducible refine (calls_of_args ?_ (impl_reader_take.calls g t312 t313 t314 76 true t316 t317 t318 w0 _ ?side1 ?side2 A17.out)).mono ?_; focus (simp [*]; done))); (case side1 => repeat (first | (with_reducible first | exact HI0.out | apply IsS216.alloc | apply IsS216.drewN | apply IsS216.drew | apply IsS216.set_0 | apply IsS216.set_1 | apply IsS216.set_2) | exact HI0.out)); (case side2 => exact bk HB.out); rintro e w33 ⟨rfl, hi, hb, hk⟩; have n0_ := (⟨Zm (KeepBut.trans (by repeat (first | (with_reducible first | exact HK.out | apply KeepBut.set_ | apply keep_drewN | apply keep_drew | apply keep_alloc) | exact HK.out)) hk (.inl rfl)), Zm (hb), Zm (hi)⟩ : _ ∧ _ ∧ _); clear HK HB HI0; obtain ⟨HK, HB, HI0⟩ := n0_; (try clear hb); (try clear hb2); (try clear hk); (try clear hi)) | (go_at_call 190; (first | (with_reducible refine (impl_reader_name.calls k g t316 t317 t318 t319 t320 false w0 _ ?side1 ?side2 A19.out).mono ?_) | (with_reducible refine (calls_of_args ?_ (impl_reader_name.calls k g t316 t317 t318 t319 t320 false w0 _ ?side1 ?side2 A19.out)).mono ?_; focus (simp [*]; done))); (case side1 => repeat (first | (with_reducible first | exact HI0.out | apply IsS216.alloc | apply IsS216.drewN | apply IsS216.drew | apply IsS216.set_0 | apply IsS216.set_1 | apply IsS216.set_2) | exact HI0.out)); (case side2 => exact bk HB.out); rintro e w34 ⟨rfl, hi, hb, hk⟩; have n0_ := (⟨Zm (KeepBut.trans (by repeat (first | (with_reducible first | exact HK.out | apply KeepBut.set_ | apply keep_drewN | apply keep_drew | apply keep_alloc) | exact HK.out)) hk (.inl rfl)), Zm (hb), Zm (hi)⟩ : _ ∧ _ ∧ _); clear HK HB HI0; obtain ⟨HK, HB, HI0⟩ := n0_; (try clear hb); (try clear hb2); (try clear hk); (try clear hi); obtain ⟨HGz35, hgz35⟩ := HI0.out; have hcz35_0 := cellS216_0 HGz35; have hcz35_1 := cellS216_1 HGz35; have hcz35_2 := cellS216_2 HGz35; have hfz35_0 := Zkf HGz35 0; have hfz35_1 := Zkf HGz35 1; have hfz35_2 := Zkf HGz35 2; clear HGz35 hgz35)))
     go_ret
     exact ⟨by first | rfl | (simp [*] <;> rfl), by repeat (first | (with_reducible first | exact HI0.out | apply IsS216.alloc | apply IsS216.drewN | apply IsS216.drew | apply IsS216.set_0 | apply IsS216.set_1 | apply IsS216.set_2) | exact HI0.out), by exact bk HB.out, by repeat (first | (with_reducible first | exact HK.out | apply KeepBut.set_ | apply keep_drewN | apply keep_drew | apply keep_alloc) | exact HK.out)⟩
   subst c20
   rw [if_pos rfl] at H
   simp only [Option.some.injEq, Prod.mk.injEq] at H
   obtain ⟨rfl, rfl, rfl, rfl⟩ := H
   obtain ⟨HGz21, hgz21⟩ := HI0.out
   have hcz21_0 := cellS216_0 HGz21
   have hcz21_1 := cellS216_1 HGz21
   have hcz21_2 := cellS216_2 HGz21
   have hfz21_0 := Zkf HGz21 0
   have hfz21_1 := Zkf HGz21 1
   have hfz21_2 := Zkf HGz21 2
   clear HGz21 hgz21
   go_enter Try.func159, Try.ntmps159
   go_wp2_with (first | (go_at_call 158; (first | (with_reducible refine (impl_reader_take.calls g s0_0 s0_1 s0_2 91 t307 t308 t309 t310 w0 _ ?side1 ?side2 A2.out).mono ?_) | (with_reducible refine (calls_of_args ?_ (impl_reader_take.calls g s0_0 s0_1 s0_2 91 t307 t308 t309 t310 w0 _ ?side1 ?side2 A2.out)).mono ?_; focus (simp [*]; done))); (case side1 => repeat (first | (with_reducible first | exact HI0.out | apply IsS216.alloc | apply IsS216.drewN | apply IsS216.drew | apply IsS216.set_0 | apply IsS216.set_1 | apply IsS216.set_2) | exact HI0.out)); (case side2 => exact bk HB.out); rintro e w22 ⟨rfl, hi, hb, hk⟩; have n0_ := (⟨Zm (KeepBut.trans (by repeat (first | (with_reducible first | exact HK.out | apply KeepBut.set_ | apply keep_drewN | apply keep_drew | apply keep_alloc) | exact HK.out)) hk (.inl rfl)), Zm (hb), Zm (hi)⟩ : _ ∧ _ ∧ _); clear HK HB HI0; obtain ⟨HK, HB, HI0⟩ := n0_; (try clear hb); (try clear hb2); (try clear hk); (try clear hi)) | (go_at_call 158; (first | (with_reducible refine (impl_reader_take.calls g t308 t309 t310 73 false t312 t313 t314 w0 _ ?side1 ?side2 A3.out).mono ?_) | (with_reducible refine (calls_of_args ?_ (impl_reader_take.calls g t308 t309 t310 73 false t312 t313 t314 w0 _ ?side1 ?side2 A3.out)).mono ?_; focus (simp [*]; done))); (case side1 => repeat (first | (with_reducible first | exact HI0.out | apply IsS216.alloc | apply IsS216.drewN | apply IsS216.drew | apply IsS216.set_0 | apply IsS216.set_1 | apply IsS216.set_2) | exact HI0.out)); (case side2 => exact bk HB.out); rintro e w23 ⟨rfl, hi, hb, hk⟩; have n0_ := (⟨Zm (KeepBut.trans (by repeat (first | (with_reducible first | exact HK.out | apply KeepBut.set_ | apply keep_drewN | apply keep_drew | apply keep_alloc) | exact HK.out)) hk (.inl rfl)), Zm (hb), Zm (hi)⟩ : _ ∧ _ ∧ _); clear HK HB HI0; obtain ⟨HK, HB, HI0⟩ := n0_; (try clear hb); (try clear hb2); (try clear hk); (try clear hi)) | (go_at_call 158; (first | (with_reducible refine (impl_reader_take.calls g t312 t313 t314 76 true t316 t317 t318 w0 _ ?side1 ?side2 A17.out).mono ?_) | (with_reducible refine (calls_of_args ?_ (impl_reader_take.calls g t312 t313 t314 76 true t316 t317 t318 w0 _ ?side1 ?side2 A17.out)).mono ?_; focus (simp [*]; done))); (case side1 => repeat (first | (with_reducible first | exact HI0.out | apply IsS216.alloc | apply IsS216.drewN | apply IsS216.drew | apply IsS216.set_0 | apply IsS216.set_1 | apply IsS216.set_2) | exact HI0.out)); (case side2 => exact bk HB.out); rintro e w24 ⟨rfl, hi, hb, hk⟩; have n0_ := (⟨Zm (KeepBut.trans (by repeat (first | (with_reducible first | exact HK.out | apply KeepBut.set_ | apply keep_drewN | apply keep_drew | apply keep_alloc) | exact HK.out)) hk (.inl rfl)), Zm (hb), Zm (hi)⟩ : _ ∧ _ ∧ _); clear HK HB HI0; obtain ⟨HK, HB, HI0⟩ := n0_; (try clear hb); (try clear hb2); (try clear hk); (try clear hi)) | (go_at_call 190; (first | (with_reducible refine (impl_reader_name.calls k g t316 t317 t318 t319 t320 true w0 _ ?side1 ?side2 A19.out).mono ?_) | (with_reducible refine (calls_of_args ?_ (impl_reader_name.calls k g t316 t317 t318 t319 t320 true w0 _ ?side1 ?side2 A19.out)).mono ?_; focus (simp [*]; done))); (case side1 => repeat (first | (with_reducible first | exact HI0.out | apply IsS216.alloc | apply IsS216.drewN | apply IsS216.drew | apply IsS216.set_0 | apply IsS216.set_1 | apply IsS216.set_2) | exact HI0.out)); (case side2 => exact bk HB.out); rintro e w25 ⟨rfl, hi, hb, hk⟩; have n0_ := (⟨Zm (KeepBut.trans (by repeat (first | (with_reducible first | exact HK.out | apply KeepBut.set_ | apply keep_drewN | apply keep_drew | apply keep_alloc) | exact HK.out)) hk (.inl rfl)), Zm (hb), Zm (hi)⟩ : _ ∧ _ ∧ _); clear HK HB HI0; obtain ⟨HK, HB, HI0⟩ := n0_; (try clear hb); (try clear hb2); (try clear hk); (try clear hi); obtain ⟨HGz26, hgz26⟩ := HI0.out; have hcz26_0 := cellS216_0 HGz26; have hcz26_1 := cellS216_1 HGz26; have hcz26_2 := cellS216_2 HGz26; have hfz26_0 := Zkf HGz26 0; have hfz26_1 := Zkf HGz26 1; have hfz26_2 := Zkf HGz26 2; clear HGz26 hgz26))
   repeat (go_quiet (first | (go_at_call 158; (first | (with_reducible refine (impl_reader_take.calls g s0_0 s0_1 s0_2 91 t307 t308 t309 t310 w0 _ ?side1 ?side2 A2.out).mono ?_) | (with_reducible refine (calls_of_args ?_ (impl_reader_take.calls g s0_0 s0_1 s0_2 91 t307 t308 t309 t310 w0 _ ?side1 ?side2 A2.out)).mono ?_; focus (simp [*]; done))); (case side1 => repeat (first | (with_reducible first | exact HI0.out | apply IsS216.alloc | apply IsS216.drewN | apply IsS216.drew | apply IsS216.set_0 | apply IsS216.set_1 | apply IsS216.set_2) | exact HI0.out)); (case side2 => exact bk HB.out); rintro e w22 ⟨rfl, hi, hb, hk⟩; have n0_ := (⟨Zm (KeepBut.trans (by repeat (first | (with_reducible first | exact HK.out | apply KeepBut.set_ | apply keep_drewN | apply keep_drew | apply keep_alloc) | exact HK.out)) hk (.inl rfl)), Zm (hb), Zm (hi)⟩ : _ ∧ _ ∧ _); clear HK HB HI0; obtain ⟨HK, HB, HI0⟩ := n0_; (try clear hb); (try clear hb2); (try clear hk); (try clear hi)) | (go_at_call 158; (first | (with_reducible refine (impl_reader_take.calls g t308 t309 t310 73 false t312 t313 t314 w0 _ ?side1 ?side2 A3.out).mono ?_) | (with_reducible refine (calls_of_args ?_ (impl_reader_take.calls g t308 t309 t310 73 false t312 t313 t314 w0 _ ?side1 ?side2 A3.out)).mono ?_; focus (simp [*]; done))); (case side1 => repeat (first | (with_reducible first | exact HI0.out | apply IsS216.alloc | apply IsS216.drewN | apply IsS216.drew | apply IsS216.set_0 | apply IsS216.set_1 | apply IsS216.set_2) | exact HI0.out)); (case side2 => exact bk HB.out); rintro e w23 ⟨rfl, hi, hb, hk⟩; have n0_ := (⟨Zm (KeepBut.trans (by repeat (first | (with_reducible first | exact HK.out | apply KeepBut.set_ | apply keep_drewN | apply keep_drew | apply keep_alloc) | exact HK.out)) hk (.inl rfl)), Zm (hb), Zm (hi)⟩ : _ ∧ _ ∧ _); clear HK HB HI0; obtain ⟨HK, HB, HI0⟩ := n0_; (try clear hb); (try clear hb2); (try clear hk); (try clear hi)) | (go_at_call 158; (first | (with_reducible refine (impl_reader_take.calls g t312 t313 t314 76 true t316 t317 t318 w0 _ ?side1 ?side2 A17.out).mono ?_) | (with_reducible refine (calls_of_args ?_ (impl_reader_take.calls g t312 t313 t314 76 true t316 t317 t318 w0 _ ?side1 ?side2 A17.out)).mono ?_; focus (simp [*]; done))); (case side1 => repeat (first | (with_reducible first | exact HI0.out | apply IsS216.alloc | apply IsS216.drewN | apply IsS216.drew | apply IsS216.set_0 | apply IsS216.set_1 | apply IsS216.set_2) | exact HI0.out)); (case side2 => exact bk HB.out); rintro e w24 ⟨rfl, hi, hb, hk⟩; have n0_ := (⟨Zm (KeepBut.trans (by repeat (first | (with_reducible first | exact HK.out | apply KeepBut.set_ | apply keep_drewN | apply keep_drew | apply keep_alloc) | exact HK.out)) hk (.inl rfl)), Zm (hb), Zm (hi)⟩ : _ ∧ _ ∧ _); clear HK HB HI0; obtain ⟨HK, HB, HI0⟩ := n0_; (try clear hb); (try clear hb2); (try clear hk); (try clear hi)) | (go_at_call 190; (first | (with_reducible refine (impl_reader_name.calls k g t316 t317 t318 t319 t320 true w0 _ ?side1 ?side2 A19.out).mono ?_) | (with_reducible refine (calls_of_args ?_ (impl_reader_name.calls k g t316 t317 t318 t319 t320 true w0 _ ?side1 ?side2 A19.out)).mono ?_; focus (simp [*]; done))); (case side1 => repeat (first | (with_reducible first | exact HI0.out | apply IsS216.alloc | apply IsS216.drewN | apply IsS216.drew | apply IsS216.set_0 | apply IsS216.set_1 | apply IsS216.set_2) | exact HI0.out)); (case side2 => exact bk HB.out); rintro e w25 ⟨rfl, hi, hb, hk⟩; have n0_ := (⟨Zm (KeepBut.trans (by repeat (first | (with_reducible first | exact HK.out | apply KeepBut.set_ | apply keep_drewN | apply keep_drew | apply keep_alloc) | exact HK.out)) hk (.inl rfl)), Zm (hb), Zm (hi)⟩ : _ ∧ _ ∧ _); clear HK HB HI0; obtain ⟨HK, HB, HI0⟩ := n0_; (try clear hb); (try clear hb2); (try clear hk); (try clear hi); obtain ⟨HGz26, hgz26⟩ := HI0.out; have hcz26_0 := cellS216_0 HGz26; have hcz26_1 := cellS216_1 HGz26; have hcz26_2 := cellS216_2 HGz26; have hfz26_0 := Zkf HGz26 0; have hfz26_1 := Zkf HGz26 1; have hfz26_2 := Zkf HGz26 2; clear HGz26 hgz26)); try go_wp2_with (first | (go_at_call 158; (first | (with_reducible refine (impl_reader_take.calls g s0_0 s0_1 s0_2 91 t307 t308 t309 t310 w0 _ ?side1 ?side2 A2.out).mono ?_) | (with_reducible refine (calls_of_args ?_ (impl_reader_take.calls g s0_0 s0_1 s0_2 91 t307 t308 t309 t310 w0 _ ?side1 ?side2 A2.out)).mono ?_; focus (simp [*]; done))); (case side1 => repeat (first | (with_reducible first | exact HI0.out | apply IsS216.alloc | apply IsS216.drewN | apply IsS216.drew | apply IsS216.set_0 | apply IsS216.set_1 | apply IsS216.set_2) | exact HI0.out)); (case side2 => exact bk HB.out); rintro e w22 ⟨rfl, hi, hb, hk⟩; have n0_ := (⟨Zm (KeepBut.trans (by repeat (first | (with_reducible first | exact HK.out | apply KeepBut.set_ | apply keep_drewN | apply keep_drew | apply keep_alloc) | exact HK.out)) hk (.inl rfl)), Zm (hb), Zm (hi)⟩ : _ ∧ _ ∧ _); clear HK HB HI0; obtain ⟨HK, HB, HI0⟩ := n0_; (try clear hb); (try clear hb2); (try clear hk); (try clear hi)) | (go_at_call 158; (first | (with_reducible refine (impl_reader_take.calls g t308 t309 t310 73 false t312 t313 t314 w0 _ ?side1 ?side2 A3.out).mono ?_) | (with_reducible refine (calls_of_args ?_ (impl_reader_take.calls g t308 t309 t310 73 false t312 t313 t314 w0 _ ?side1 ?side2 A3.out)).mono ?_; focus (simp [*]; done))); (case side1 => repeat (first | (with_reducible first | exact HI0.out | apply IsS216.alloc | apply IsS216.drewN | apply IsS216.drew | apply IsS216.set_0 | apply IsS216.set_1 | apply IsS216.set_2) | exact HI0.out)); (case side2 => exact bk HB.out); rintro e w23 ⟨rfl, hi, hb, hk⟩; have n0_ := (⟨Zm (KeepBut.trans (by repeat (first | (with_reducible first | exact HK.out | apply KeepBut.set_ | apply keep_drewN | apply keep_drew | apply keep_alloc) | exact HK.out)) hk (.inl rfl)), Zm (hb), Zm (hi)⟩ : _ ∧ _ ∧ _); clear HK HB HI0; obtain ⟨HK, HB, HI0⟩ := n0_; (try clear hb); (try clear hb2); (try clear hk); (try clear hi)) | (go_at_call 158; (first | (with_reducible refine (impl_reader_take.calls g t312 t313 t314 76 true t316 t317 t318 w0 _ ?side1 ?side2 A17.out).mono ?_) | (with_reducible refine (calls_of_args ?_ (impl_reader_take.calls g t312 t313 t314 76 true t316 t317 t318 w0 _ ?side1 ?side2 A17.out)).mono ?_; focus (simp [*]; done))); (case side1 => repeat (first | (with_reducible first | exact HI0.out | apply IsS216.alloc | apply IsS216.drewN | apply IsS216.drew | apply IsS216.set_0 | apply IsS216.set_1 | apply IsS216.set_2) | exact HI0.out)); (case side2 => exact bk HB.out); rintro e w24 ⟨rfl, hi, hb, hk⟩; have n0_ := (⟨Zm (KeepBut.trans (by repeat (first | (with_reducible first | exact HK.out | apply KeepBut.set_ | apply keep_drewN | apply keep_drew | apply keep_alloc) | exact HK.out)) hk (.inl rfl)), Zm (hb), Zm (hi)⟩ : _ ∧ _ ∧ _); clear HK HB HI0; obtain ⟨HK, HB, HI0⟩ := n0_; (try clear hb); (try clear hb2); (try clear hk); (try clear hi)) | (go_at_call 190; (first | (with_reducible refine (impl_reader_name.calls k g t316 t317 t318 t319 t320 true w0 _ ?side1 ?side2 A19.out).mono ?_) | (with_reducible refine (calls_of_args ?_ (impl_reader_name.calls k g t316 t317 t318 t319 t320 true w0 _ ?side1 ?side2 A19.out)).mono ?_; focus (simp [*]; done))); (case side1 => repeat (first | (with_reducible first | exact HI0.out | apply IsS216.alloc | apply IsS216.drewN | apply IsS216.drew | apply IsS216.set_0 | apply IsS216.set_1 | apply IsS216.set_2) | exact HI0.out)); (case side2 => exact bk HB.out); rintro e w25 ⟨rfl, hi, hb, hk⟩; have n0_ := (⟨Zm (KeepBut.trans (by repeat (first | (with_reducible first | exact HK.out | apply KeepBut.set_ | apply keep_drewN | apply keep_drew | apply keep_alloc) | exact HK.out)) hk (.inl rfl)), Zm (hb), Zm (hi)⟩ : _ ∧ _ ∧ _); clear HK HB HI0; obtain ⟨HK, HB, HI0⟩ := n0_; (try clear hb); (try clear hb2); (try clear hk); (try clear hi); obtain ⟨HGz26, hgz26⟩ := HI0.out; have hcz26_0 := cellS216_0 HGz26; have hcz26_1 := cellS216_1 HGz26; have hcz26_2 := cellS216_2 HGz26; have hfz26_0 := Zkf HGz26 0; have hfz26_1 := Zkf HGz26 1; have hfz26_2 := Zkf HGz26 2; clear HGz26 hgz26)))
   go_ret
   exact ⟨by first | rfl | (simp [*] <;> rfl), by repeat (first | (with_reducible first | exact HI0.out | apply IsS216.alloc | apply IsS216.drewN | apply IsS216.drew | apply IsS216.set_0 | apply IsS216.set_1 | apply IsS216.set_2) | exact HI0.out), by exact bk HB.out, by repeat (first | (with_reducible first | exact HK.out | apply KeepBut.set_ | apply keep_drewN | apply keep_drew | apply keep_alloc) | exact HK.out)⟩
 subst c4
 rw [if_pos rfl] at H
 by_cases c5 : t314 = true
 rotate_left
 · replace c5 := Bool.eq_false_iff.mpr c5
   subst c5
   rw [if_neg (show ¬ (false = true) by decide)] at H
   by_cases c10 : 0 ≤ s0_1
   rotate_left
   · rw [if_neg c10] at H
     exact absurd H (by simp)
   rw [if_pos c10] at H
   have c10b0 := eq_true c10
   have c10b1 := decide_eq_true c10
   clear c10
   by_cases c11 : s0_1 ≤ t313
   rotate_left
   · rw [if_neg c11] at H
     exact absurd H (by simp)
   rw [if_pos c11] at H
   have c11b0 := eq_true c11
   have c11b1 := decide_eq_true c11
   clear c11
   by_cases c12 : t313 ≤ (t312.size : Int)
   rotate_left
   · rw [if_neg c12] at H
     exact absurd H (by simp)
   rw [if_pos c12] at H
   have c12b0 := eq_true c12
   have c12b1 := decide_eq_true c12
   clear c12
   simp only [Option.some.injEq, Prod.mk.injEq] at H
   obtain ⟨rfl, rfl, rfl, rfl⟩ := H
   obtain ⟨HGz13, hgz13⟩ := HI0.out
   have hcz13_0 := cellS216_0 HGz13
   have hcz13_1 := cellS216_1 HGz13
   have hcz13_2 := cellS216_2 HGz13
   have hfz13_0 := Zkf HGz13 0
   have hfz13_1 := Zkf HGz13 1
   have hfz13_2 := Zkf HGz13 2
   clear HGz13 hgz13
   go_enter Try.func159, Try.ntmps159
   go_wp2_with (first | (go_at_call 158; (first | (with_reducible refine (impl_reader_take.calls g s0_0 s0_1 s0_2 91 t307 t308 t309 t310 w0 _ ?side1 ?side2 A2.out).mono ?_) | (with_reducible refine (calls_of_args ?_ (impl_reader_take.calls g s0_0 s0_1 s0_2 91 t307 t308 t309 t310 w0 _ ?side1 ?side2 A2.out)).mono ?_; focus (simp [*]; done))); (case side1 => repeat (first | (with_reducible first | exact HI0.out | apply IsS216.alloc | apply IsS216.drewN | apply IsS216.drew | apply IsS216.set_0 | apply IsS216.set_1 | apply IsS216.set_2) | exact HI0.out)); (case side2 => exact bk HB.out); rintro e w14 ⟨rfl, hi, hb, hk⟩; have n0_ := (⟨Zm (KeepBut.trans (by repeat (first | (with_reducible first | exact HK.out | apply KeepBut.set_ | apply keep_drewN | apply keep_drew | apply keep_alloc) | exact HK.out)) hk (.inl rfl)), Zm (hb), Zm (hi)⟩ : _ ∧ _ ∧ _); clear HK HB HI0; obtain ⟨HK, HB, HI0⟩ := n0_; (try clear hb); (try clear hb2); (try clear hk); (try clear hi)) | (go_at_call 158; (first | (with_reducible refine (impl_reader_take.calls g t308 t309 t310 73 true t312 t313 false w0 _ ?side1 ?side2 A3.out).mono ?_) | (with_reducible refine (calls_of_args ?_ (impl_reader_take.calls g t308 t309 t310 73 true t312 t313 false w0 _ ?side1 ?side2 A3.out)).mono ?_; focus (simp [*]; done))); (case side1 => repeat (first | (with_reducible first | exact HI0.out | apply IsS216.alloc | apply IsS216.drewN | apply IsS216.drew | apply IsS216.set_0 | apply IsS216.set_1 | apply IsS216.set_2) | exact HI0.out)); (case side2 => exact bk HB.out); rintro e w15 ⟨rfl, hi, hb, hk⟩; have n0_ := (⟨Zm (KeepBut.trans (by repeat (first | (with_reducible first | exact HK.out | apply KeepBut.set_ | apply keep_drewN | apply keep_drew | apply keep_alloc) | exact HK.out)) hk (.inl rfl)), Zm (hb), Zm (hi)⟩ : _ ∧ _ ∧ _); clear HK HB HI0; obtain ⟨HK, HB, HI0⟩ := n0_; (try clear hb); (try clear hb2); (try clear hk); (try clear hi); obtain ⟨HGz16, hgz16⟩ := HI0.out; have hcz16_0 := cellS216_0 HGz16; have hcz16_1 := cellS216_1 HGz16; have hcz16_2 := cellS216_2 HGz16; have hfz16_0 := Zkf HGz16 0; have hfz16_1 := Zkf HGz16 1; have hfz16_2 := Zkf HGz16 2; clear HGz16 hgz16))
   repeat (go_quiet (first | (go_at_call 158; (first | (with_reducible refine (impl_reader_take.calls g s0_0 s0_1 s0_2 91 t307 t308 t309 t310 w0 _ ?side1 ?side2 A2.out).mono ?_) | (with_reducible refine (calls_of_args ?_ (impl_reader_take.calls g s0_0 s0_1 s0_2 91 t307 t308 t309 t310 w0 _ ?side1 ?side2 A2.out)).mono ?_; focus (simp [*]; done))); (case side1 => repeat (first | (with_reducible first | exact HI0.out | apply IsS216.alloc | apply IsS216.drewN | apply IsS216.drew | apply IsS216.set_0 | apply IsS216.set_1 | apply IsS216.set_2) | exact HI0.out)); (case side2 => exact bk HB.out); rintro e w14 ⟨rfl, hi, hb, hk⟩; have n0_ := (⟨Zm (KeepBut.trans (by repeat (first | (with_reducible first | exact HK.out | apply KeepBut.set_ | apply keep_drewN | apply keep_drew | apply keep_alloc) | exact HK.out)) hk (.inl rfl)), Zm (hb), Zm (hi)⟩ : _ ∧ _ ∧ _); clear HK HB HI0; obtain ⟨HK, HB, HI0⟩ := n0_; (try clear hb); (try clear hb2); (try clear hk); (try clear hi)) | (go_at_call 158; (first | (with_reducible refine (impl_reader_take.calls g t308 t309 t310 73 true t312 t313 false w0 _ ?side1 ?side2 A3.out).mono ?_) | (with_reducible refine (calls_of_args ?_ (impl_reader_take.calls g t308 t309 t310 73 true t312 t313 false w0 _ ?side1 ?side2 A3.out)).mono ?_; focus (simp [*]; done))); (case side1 => repeat (first | (with_reducible first | exact HI0.out | apply IsS216.alloc | apply IsS216.drewN | apply IsS216.drew | apply IsS216.set_0 | apply IsS216.set_1 | apply IsS216.set_2) | exact HI0.out)); (case side2 => exact bk HB.out); rintro e w15 ⟨rfl, hi, hb, hk⟩; have n0_ := (⟨Zm (KeepBut.trans (by repeat (first | (with_reducible first | exact HK.out | apply KeepBut.set_ | apply keep_drewN | apply keep_drew | apply keep_alloc) | exact HK.out)) hk (.inl rfl)), Zm (hb), Zm (hi)⟩ : _ ∧ _ ∧ _); clear HK HB HI0; obtain ⟨HK, HB, HI0⟩ := n0_; (try clear hb); (try clear hb2); (try clear hk); (try clear hi); obtain ⟨HGz16, hgz16⟩ := HI0.out; have hcz16_0 := cellS216_0 HGz16; have hcz16_1 := cellS216_1 HGz16; have hcz16_2 := cellS216_2 HGz16; have hfz16_0 := Zkf HGz16 0; have hfz16_1 := Zkf HGz16 1; have hfz16_2 := Zkf HGz16 2; clear HGz16 hgz16)); try go_wp2_with (first | (go_at_call 158; (first | (with_reducible refine (impl_reader_take.calls g s0_0 s0_1 s0_2 91 t307 t308 t309 t310 w0 _ ?side1 ?side2 A2.out).mono ?_) | (with_reducible refine (calls_of_args ?_ (impl_reader_take.calls g s0_0 s0_1 s0_2 91 t307 t308 t309 t310 w0 _ ?side1 ?side2 A2.out)).mono ?_; focus (simp [*]; done))); (case side1 => repeat (first | (with_reducible first | exact HI0.out | apply IsS216.alloc | apply IsS216.drewN | apply IsS216.drew | apply IsS216.set_0 | apply IsS216.set_1 | apply IsS216.set_2) | exact HI0.out)); (case side2 => exact bk HB.out); rintro e w14 ⟨rfl, hi, hb, hk⟩; have n0_ := (⟨Zm (KeepBut.trans (by repeat (first | (with_reducible first | exact HK.out | apply KeepBut.set_ | apply keep_drewN | apply keep_drew | apply keep_alloc) | exact HK.out)) hk (.inl rfl)), Zm (hb), Zm (hi)⟩ : _ ∧ _ ∧ _); clear HK HB HI0; obtain ⟨HK, HB, HI0⟩ := n0_; (try clear hb); (try clear hb2); (try clear hk); (try clear hi)) | (go_at_call 158; (first | (with_reducible refine (impl_reader_take.calls g t308 t309 t310 73 true t312 t313 false w0 _ ?side1 ?side2 A3.out).mono ?_) | (with_reducible refine (calls_of_args ?_ (impl_reader_take.calls g t308 t309 t310 73 true t312 t313 false w0 _ ?side1 ?side2 A3.out)).mono ?_; focus (simp [*]; done))); (case side1 => repeat (first | (with_reducible first | exact HI0.out | apply IsS216.alloc | apply IsS216.drewN | apply IsS216.drew | apply IsS216.set_0 | apply IsS216.set_1 | apply IsS216.set_2) | exact HI0.out)); (case side2 => exact bk HB.out); rintro e w15 ⟨rfl, hi, hb, hk⟩; have n0_ := (⟨Zm (KeepBut.trans (by repeat (first | (with_reducible first | exact HK.out | apply KeepBut.set_ | apply keep_drewN | apply keep_drew | apply keep_alloc) | exact HK.out)) hk (.inl rfl)), Zm (hb), Zm (hi)⟩ : _ ∧ _ ∧ _); clear HK HB HI0; obtain ⟨HK, HB, HI0⟩ := n0_; (try clear hb); (try clear hb2); (try clear hk); (try clear hi); obtain ⟨HGz16, hgz16⟩ := HI0.out; have hcz16_0 := cellS216_0 HGz16; have hcz16_1 := cellS216_1 HGz16; have hcz16_2 := cellS216_2 HGz16; have hfz16_0 := Zkf HGz16 0; have hfz16_1 := Zkf HGz16 1; have hfz16_2 := Zkf HGz16 2; clear HGz16 hgz16)))
   go_ret
   exact ⟨by first | rfl | (simp [*] <;> rfl), by repeat (first | (with_reducible first | exact HI0.out | apply IsS216.alloc | apply IsS216.drewN | apply IsS216.drew | apply IsS216.set_0 | apply IsS216.set_1 | apply IsS216.set_2) | exact HI0.out), by exact bk HB.out, by repeat (first | (with_reducible first | exact HK.out | apply KeepBut.set_ | apply keep_drewN | apply keep_drew | apply keep_alloc) | exact HK.out)⟩
 subst c5
 rw [if_pos rfl] at H
 simp only [Option.some.injEq, Prod.mk.injEq] at H
 obtain ⟨rfl, rfl, rfl, rfl⟩ := H
 obtain ⟨HGz6, hgz6⟩ := HI0.out
 have hcz6_0 := cellS216_0 HGz6
 have hcz6_1 := cellS216_1 HGz6
 have hcz6_2 := cellS216_2 HGz6
 have hfz6_0 := Zkf HGz6 0
 have hfz6_1 := Zkf HGz6 1
 have hfz6_2 := Zkf HGz6 2
 clear HGz6 hgz6
 go_enter Try.func159, Try.ntmps159
 go_wp2_with (first | (go_at_call 158; (first | (with_reducible refine (impl_reader_take.calls g s0_0 s0_1 s0_2 91 t307 t308 t309 t310 w0 _ ?side1 ?side2 A2.out).mono ?_) | (with_reducible refine (calls_of_args ?_ (impl_reader_take.calls g s0_0 s0_1 s0_2 91 t307 t308 t309 t310 w0 _ ?side1 ?side2 A2.out)).mono ?_; focus (simp [*]; done))); (case side1 => repeat (first | (with_reducible first | exact HI0.out | apply IsS216.alloc | apply IsS216.drewN | apply IsS216.drew | apply IsS216.set_0 | apply IsS216.set_1 | apply IsS216.set_2) | exact HI0.out)); (case side2 => exact bk HB.out); rintro e w7 ⟨rfl, hi, hb, hk⟩; have n0_ := (⟨Zm (KeepBut.trans (by repeat (first | (with_reducible first | exact HK.out | apply KeepBut.set_ | apply keep_drewN | apply keep_drew | apply keep_alloc) | exact HK.out)) hk (.inl rfl)), Zm (hb), Zm (hi)⟩ : _ ∧ _ ∧ _); clear HK HB HI0; obtain ⟨HK, HB, HI0⟩ := n0_; (try clear hb); (try clear hb2); (try clear hk); (try clear hi)) | (go_at_call 158; (first | (with_reducible refine (impl_reader_take.calls g t308 t309 t310 73 true t312 t313 true w0 _ ?side1 ?side2 A3.out).mono ?_) | (with_reducible refine (calls_of_args ?_ (impl_reader_take.calls g t308 t309 t310 73 true t312 t313 true w0 _ ?side1 ?side2 A3.out)).mono ?_; focus (simp [*]; done))); (case side1 => repeat (first | (with_reducible first | exact HI0.out | apply IsS216.alloc | apply IsS216.drewN | apply IsS216.drew | apply IsS216.set_0 | apply IsS216.set_1 | apply IsS216.set_2) | exact HI0.out)); (case side2 => exact bk HB.out); rintro e w8 ⟨rfl, hi, hb, hk⟩; have n0_ := (⟨Zm (KeepBut.trans (by repeat (first | (with_reducible first | exact HK.out | apply KeepBut.set_ | apply keep_drewN | apply keep_drew | apply keep_alloc) | exact HK.out)) hk (.inl rfl)), Zm (hb), Zm (hi)⟩ : _ ∧ _ ∧ _); clear HK HB HI0; obtain ⟨HK, HB, HI0⟩ := n0_; (try clear hb); (try clear hb2); (try clear hk); (try clear hi); obtain ⟨HGz9, hgz9⟩ := HI0.out; have hcz9_0 := cellS216_0 HGz9; have hcz9_1 := cellS216_1 HGz9; have hcz9_2 := cellS216_2 HGz9; have hfz9_0 := Zkf HGz9 0; have hfz9_1 := Zkf HGz9 1; have hfz9_2 := Zkf HGz9 2; clear HGz9 hgz9))
 repeat (go_quiet (first | (go_at_call 158; (first | (with_reducible refine (impl_reader_take.calls g s0_0 s0_1 s0_2 91 t307 t308 t309 t310 w0 _ ?side1 ?side2 A2.out).mono ?_) | (with_reducible refine (calls_of_args ?_ (impl_reader_take.calls g s0_0 s0_1 s0_2 91 t307 t308 t309 t310 w0 _ ?side1 ?side2 A2.out)).mono ?_; focus (simp [*]; done))); (case side1 => repeat (first | (with_reducible first | exact HI0.out | apply IsS216.alloc | apply IsS216.drewN | apply IsS216.drew | apply IsS216.set_0 | apply IsS216.set_1 | apply IsS216.set_2) | exact HI0.out)); (case side2 => exact bk HB.out); rintro e w7 ⟨rfl, hi, hb, hk⟩; have n0_ := (⟨Zm (KeepBut.trans (by repeat (first | (with_reducible first | exact HK.out | apply KeepBut.set_ | apply keep_drewN | apply keep_drew | apply keep_alloc) | exact HK.out)) hk (.inl rfl)), Zm (hb), Zm (hi)⟩ : _ ∧ _ ∧ _); clear HK HB HI0; obtain ⟨HK, HB, HI0⟩ := n0_; (try clear hb); (try clear hb2); (try clear hk); (try clear hi)) | (go_at_call 158; (first | (with_reducible refine (impl_reader_take.calls g t308 t309 t310 73 true t312 t313 true w0 _ ?side1 ?side2 A3.out).mono ?_) | (with_reducible refine (calls_of_args ?_ (impl_reader_take.calls g t308 t309 t310 73 true t312 t313 true w0 _ ?side1 ?side2 A3.out)).mono ?_; focus (simp [*]; done))); (case side1 => repeat (first | (with_reducible first | exact HI0.out | apply IsS216.alloc | apply IsS216.drewN | apply IsS216.drew | apply IsS216.set_0 | apply IsS216.set_1 | apply IsS216.set_2) | exact HI0.out)); (case side2 => exact bk HB.out); rintro e w8 ⟨rfl, hi, hb, hk⟩; have n0_ := (⟨Zm (KeepBut.trans (by repeat (first | (with_reducible first | exact HK.out | apply KeepBut.set_ | apply keep_drewN | apply keep_drew | apply keep_alloc) | exact HK.out)) hk (.inl rfl)), Zm (hb), Zm (hi)⟩ : _ ∧ _ ∧ _); clear HK HB HI0; obtain ⟨HK, HB, HI0⟩ := n0_; (try clear hb); (try clear hb2); (try clear hk); (try clear hi); obtain ⟨HGz9, hgz9⟩ := HI0.out; have hcz9_0 := cellS216_0 HGz9; have hcz9_1 := cellS216_1 HGz9; have hcz9_2 := cellS216_2 HGz9; have hfz9_0 := Zkf HGz9 0; have hfz9_1 := Zkf HGz9 1; have hfz9_2 := Zkf HGz9 2; clear HGz9 hgz9)); try go_wp2_with (first | (go_at_call 158; (first | (with_reducible refine (impl_reader_take.calls g s0_0 s0_1 s0_2 91 t307 t308 t309 t310 w0 _ ?side1 ?side2 A2.out).mono ?_) | (with_reducible refine (calls_of_args ?_ (impl_reader_take.calls g s0_0 s0_1 s0_2 91 t307 t308 t309 t310 w0 _ ?side1 ?side2 A2.out)).mono ?_; focus (simp [*]; done))); (case side1 => repeat (first | (with_reducible first | exact HI0.out | apply IsS216.alloc | apply IsS216.drewN | apply IsS216.drew | apply IsS216.set_0 | apply IsS216.set_1 | apply IsS216.set_2) | exact HI0.out)); (case side2 => exact bk HB.out); rintro e w7 ⟨rfl, hi, hb, hk⟩; have n0_ := (⟨Zm (KeepBut.trans (by repeat (first | (with_reducible first | exact HK.out | apply KeepBut.set_ | apply keep_drewN | apply keep_drew | apply keep_alloc) | exact HK.out)) hk (.inl rfl)), Zm (hb), Zm (hi)⟩ : _ ∧ _ ∧ _); clear HK HB HI0; obtain ⟨HK, HB, HI0⟩ := n0_; (try clear hb); (try clear hb2); (try clear hk); (try clear hi)) | (go_at_call 158; (first | (with_reducible refine (impl_reader_take.calls g t308 t309 t310 73 true t312 t313 true w0 _ ?side1 ?side2 A3.out).mono ?_) | (with_reducible refine (calls_of_args ?_ (impl_reader_take.calls g t308 t309 t310 73 true t312 t313 true w0 _ ?side1 ?side2 A3.out)).mono ?_; focus (simp [*]; done))); (case side1 => repeat (first | (with_reducible first | exact HI0.out | apply IsS216.alloc | apply IsS216.drewN | apply IsS216.drew | apply IsS216.set_0 | apply IsS216.set_1 | apply IsS216.set_2) | exact HI0.out)); (case side2 => exact bk HB.out); rintro e w8 ⟨rfl, hi, hb, hk⟩; have n0_ := (⟨Zm (KeepBut.trans (by repeat (first | (with_reducible first | exact HK.out | apply KeepBut.set_ | apply keep_drewN | apply keep_drew | apply keep_alloc) | exact HK.out)) hk (.inl rfl)), Zm (hb), Zm (hi)⟩ : _ ∧ _ ∧ _); clear HK HB HI0; obtain ⟨HK, HB, HI0⟩ := n0_; (try clear hb); (try clear hb2); (try clear hk); (try clear hi); obtain ⟨HGz9, hgz9⟩ := HI0.out; have hcz9_0 := cellS216_0 HGz9; have hcz9_1 := cellS216_1 HGz9; have hcz9_2 := cellS216_2 HGz9; have hfz9_0 := Zkf HGz9 0; have hfz9_1 := Zkf HGz9 1; have hfz9_2 := Zkf HGz9 2; clear HGz9 hgz9)))
 go_ret
 exact ⟨by first | rfl | (simp [*] <;> rfl), by repeat (first | (with_reducible first | exact HI0.out | apply IsS216.alloc | apply IsS216.drewN | apply IsS216.drew | apply IsS216.set_0 | apply IsS216.set_1 | apply IsS216.set_2) | exact HI0.out), by exact bk HB.out, by repeat (first | (with_reducible first | exact HK.out | apply KeepBut.set_ | apply keep_drewN | apply keep_drew | apply keep_alloc) | exact HK.out)⟩
end Go.Proofs.Ytlflbmbcjjegaaa.PFnExactMethodRight
