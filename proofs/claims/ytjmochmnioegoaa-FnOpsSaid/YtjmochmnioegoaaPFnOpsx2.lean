/- Functions of the program as plain Lean functions, each with a proof that the program's call comes to the same; no condition. Written by a program of this session. -/
import Derived.Test.YtjmochmnioegoaaPFnOpsx0
import Derived.Test.YtjmochmnioegoaaPFnOpsx1
namespace Go.Proofs.Ytjmochmnioegoaa.PFnOps
open Go.RowKit Go.Proofs.YtjmochmnioegoaaW.PrintWords Go.Proofs.YtjmochmnioegoaaW.PrintLast Go.Proofs.YtjmochmnioegoaaW.PrintMore
attribute [local go_sem] max2_int min2_int max_two min_two max_three min_three max_four min_four   -- for this text's walks alone
set_option linter.unusedVariables false
set_option linter.unusedSimpArgs false

/-! ### impl_reader_name: function 106 -/
def impl_reader_name.l0 : Nat → Int → ByteArray → Int → Bool → Option (ByteArray × Int × Bool)
  | 0, _, _, _, _ => none
  | k + 1, x2, x1000, x1001, x1002 => if x1002 = true then (if x1001 = x2 then ((impl_reader_want.f x1000 x1001 true 59).bind fun bt140 => (some (bt140.1, bt140.2.1, bt140.2.2))) else ((impl_reader_want.f x1000 x1001 x1002 59).bind fun bt143 => (some (bt143.1, bt143.2.1, bt143.2.2)))) else ((impl_length.f x1000).bind fun t146 => (if x1001 < t146 then (if x1001 < (wrap64 (x2 + 20)) then (if 0 ≤ x1001 then (if x1001 < (x1000.size : Int) then ((impl_isNameByte.f (bt x1000 x1001) (wrap64 (x1001 - x2))).bind fun t147 => (if t147 = true then (impl_reader_name.l0 k x2 x1000 (wrap64 (x1001 + 1)) x1002) else (if x1001 = x2 then ((impl_reader_want.f x1000 x1001 true 59).bind fun bt148 => (some (bt148.1, bt148.2.1, bt148.2.2))) else ((impl_reader_want.f x1000 x1001 x1002 59).bind fun bt151 => (some (bt151.1, bt151.2.1, bt151.2.2)))))) else (none)) else (none)) else (if x1001 = x2 then ((impl_reader_want.f x1000 x1001 true 59).bind fun bt154 => (some (bt154.1, bt154.2.1, bt154.2.2))) else ((impl_reader_want.f x1000 x1001 x1002 59).bind fun bt157 => (some (bt157.1, bt157.2.1, bt157.2.2))))) else (if x1001 = x2 then ((impl_reader_want.f x1000 x1001 true 59).bind fun bt160 => (some (bt160.1, bt160.2.1, bt160.2.2))) else ((impl_reader_want.f x1000 x1001 x1002 59).bind fun bt163 => (some (bt163.1, bt163.2.1, bt163.2.2))))))
def impl_reader_name.f (k : Nat) (s0_0 : ByteArray) (s0_1 : Int) (s0_2 : Bool) : Option (ByteArray × Int × Bool) := impl_reader_name.l0 k s0_1 s0_0 s0_1 s0_2
theorem impl_reader_name.mono_l : ∀ k, (∀ y0 y1 y2 y3, LeO (impl_reader_name.l0 k y0 y1 y2 y3) (impl_reader_name.l0 (k + 1) y0 y1 y2 y3))
  | 0 => fun _ _ _ _ r h => by simp [impl_reader_name.l0] at h
  | k + 1 => by
    have ih0 := impl_reader_name.mono_l k
    · intro y0 y1 y2 y3
      unfold impl_reader_name.l0
      repeat' first
      | (with_reducible exact ih0 _ _ _ _)
      | (with_reducible exact LeO.refl _)
      | (with_reducible exact LeO.none _)
      | (with_reducible refine LeO.ite ?_ ?_)
      | (with_reducible refine LeO.bind ?_ (fun _ => ?_))
      | exact ih0 _ _ _ _
      | exact LeO.none _
      | refine LeO.ite ?_ ?_
      | refine LeO.bind ?_ (fun _ => ?_)
theorem impl_reader_name.mono : ∀ a0 a1 a2 k, LeO (impl_reader_name.f k a0 a1 a2) (impl_reader_name.f (k + 1) a0 a1 a2) := by
  intro a0 a1 a2 k
  have ih0 := impl_reader_name.mono_l k
  unfold impl_reader_name.f
  repeat' first
      | (with_reducible exact ih0 _ _ _ _)
      | (with_reducible exact LeO.refl _)
      | (with_reducible exact LeO.none _)
      | (with_reducible refine LeO.ite ?_ ?_)
      | (with_reducible refine LeO.bind ?_ (fun _ => ?_))
      | exact ih0 _ _ _ _
      | exact LeO.none _
      | refine LeO.ite ?_ ?_
      | refine LeO.bind ?_ (fun _ => ?_)
set_option maxHeartbeats 8000000 in
set_option maxRecDepth 100000 in
theorem impl_reader_name.calls (k : Nat) (g : Nat) (s0_0 : ByteArray) (s0_1 : Int) (s0_2 : Bool) (r1 : ByteArray) (r2 : Int) (r3 : Bool) (w0 w : World) (hI : IsS91 w0 w g s0_0 s0_1 s0_2) (hB : Below w0.heap.size w0 w) (h : impl_reader_name.f k s0_0 s0_1 s0_2 = some (r1, r2, r3)) :
    Calls Try.prog 106 #[.pointer (some ⟨g, 0, none⟩)] w fun e w' => e = .returned (.tuple #[]) ∧ IsS91 w0 w' g r1 r2 r3 ∧ Below w0.heap.size w0 w' ∧ KeepBut w w' g none := by
  have HI0 := Aside0.mk hI
  have HK := Aside0.mk (KeepBut.refl w g none)
  have HL := Aside0.mk hB.size
  clear hI
  have HW0 := Aside0.mk hB.size
  have HB := Aside0.mk hB
  clear hB
  have H : (impl_reader_name.l0 k s0_1 s0_0 s0_1 s0_2) = some (r1, r2, r3) := h
  clear h
  have eta : ∀ (o : Option (ByteArray × Int × Bool)) (r : ByteArray × Int × Bool), (o.bind fun b => some (b.1, b.2.1, b.2.2)) = some r → o = some r := by
    intro o r h
    cases o with
    | none => exact h
    | some b => exact h
  have hg := IsS91.ge HI0.out
  have hu91 := Try.underlying91
  have hlen : ∀ W : World, Calls Try.prog 90 #[.string s0_0] W fun e W' => e = .returned (.int .i64 (s0_0.size : Int)) ∧ Drawn0 W W' := fun W => impl_length.calls s0_0 (s0_0.size : Int) W rfl
  have hlq : ∀ (W : World) (n : Nat), Calls Try.prog 90 #[.string s0_0] (W.drewN n) fun e w'' => e = .returned (.int .i64 (s0_0.size : Int)) ∧ ∃ m, w'' = W.drewN m := fun W n => Calls.quiet_of ((hlen (W.drewN n)).mono fun e W' ⟨he, ⟨m, hm⟩⟩ => ⟨he, m, hm⟩)
  have HH := Aside0.mk H
  clear H hlen
  obtain ⟨hb0, _⟩ := HI0.out
  have g1 := cellS91_1 hb0
  clear hb0
  go_enter Try.func106, Try.ntmps106
  go_wp2
  clear g1
  go_loopg [] k (fun kq w' => ∃ (x : Int), Aside0 (impl_reader_name.l0 kq s0_1 s0_0 x s0_2 = some (r1, r2, r3)) ∧ Aside0 (kq ≤ k) ∧ Aside0 (IsS91 w0 w' g s0_0 x s0_2) ∧ Aside0 (Below w0.heap.size w0 w') ∧ Aside0 (KeepBut w w' g none))
  case atStart => exact ⟨s0_1, HH, ⟨Nat.le_refl _⟩, HI0, HB, HK⟩
  case round =>
    clear HH HI0 HB HK
    obtain ⟨x, HA, HK1, HI, HB, HK⟩ := hrel
    cases gk with
    | zero => exact absurd HA.out (by simp [impl_reader_name.l0])
    | succ k1 =>
      have H := HA.out
      clear HA
      simp only [impl_reader_name.l0, impl_length.f, Option.bind_some] at H
      obtain ⟨hb, _⟩ := HI.out
      have f0 := cellS91_0 hb
      have f1 := cellS91_1 hb
      have f2 := cellS91_2 hb
      have z1 := blk_frozen hb 1
      have z2 := blk_frozen hb 2
      clear hb
      cases s0_2 with
      | true =>
        rw [if_pos rfl] at H
        clear hlq
        by_cases c9 : x = s0_1
        · rw [if_pos c9] at H
          have c9b : (x == s0_1) = true := beq_iff_eq.mpr c9
          have HW := Aside0.mk (eta _ _ H)
          clear H c9
          go_wp2
          go_quiet (fail)
          go_wp2_with (first | ((with_reducible refine gate_callee (f := 100) rfl ?_); refine goesL_ (some 68) rfl rfl Try.func100 (by kernel_rfl) rfl #[.pointer (some ⟨g, 0, none⟩), .int .u8 59] rfl (by (try simp only [List.map_toArray, List.map_cons, List.map_nil]); first | done | rfl) ?_; (with_reducible refine (impl_reader_want.calls g s0_0 x true 59 r1 r2 r3 w0 _ ?side1 ?side2 HW.out).mono ?_); (case side1 => (with_reducible repeat (first | exact HI.out | apply IsS91.drewN | apply IsS91.drew | apply IsS91.set_1 | apply IsS91.set_2))); (case side2 => (with_reducible repeat (first | exact HB.out | apply pw_below_drewN | apply below_drew1 | refine below_set ?_ hg))); rintro e w5 ⟨rfl, hi, hb, hk⟩; refine ⟨_, rfl, ?_⟩; have HI2 := Aside0.mk hi; have HB2 := Aside0.mk hb; have HK2 := Aside0.mk (KeepBut.trans (by (with_reducible repeat (first | exact HK.out | apply KeepBut.set_ | apply keep_drewN | apply keep_drew))) hk (.inl rfl)); clear hi hb hk))
          first | go_end0 | ((try simp only [Exit.inBlock, Exit.then]); refine bodyPost_ret (results_none rfl _ _ _) rfl ?_)
          exact ⟨rfl, HI2.out, HB2.out, HK2.out⟩
        · rw [if_neg c9] at H
          have c9b : (x == s0_1) = false := beq_eq_false_iff_ne.mpr c9
          have HW := Aside0.mk (eta _ _ H)
          clear H
          go_wp2
          go_quiet (fail)
          go_wp2_with (first | ((with_reducible refine gate_callee (f := 100) rfl ?_); refine goesL_ (some 68) rfl rfl Try.func100 (by kernel_rfl) rfl #[.pointer (some ⟨g, 0, none⟩), .int .u8 59] rfl (by (try simp only [List.map_toArray, List.map_cons, List.map_nil]); first | done | rfl) ?_; (with_reducible refine (impl_reader_want.calls g s0_0 x true 59 r1 r2 r3 w0 _ ?side1 ?side2 HW.out).mono ?_); (case side1 => (with_reducible repeat (first | exact HI.out | apply IsS91.drewN | apply IsS91.drew | apply IsS91.set_1 | apply IsS91.set_2))); (case side2 => (with_reducible repeat (first | exact HB.out | apply pw_below_drewN | apply below_drew1 | refine below_set ?_ hg))); rintro e w5 ⟨rfl, hi, hb, hk⟩; refine ⟨_, rfl, ?_⟩; have HI2 := Aside0.mk hi; have HB2 := Aside0.mk hb; have HK2 := Aside0.mk (KeepBut.trans (by (with_reducible repeat (first | exact HK.out | apply KeepBut.set_ | apply keep_drewN | apply keep_drew))) hk (.inl rfl)); clear hi hb hk))
          first | go_end0 | ((try simp only [Exit.inBlock, Exit.then]); refine bodyPost_ret (results_none rfl _ _ _) rfl ?_)
          exact ⟨rfl, HI2.out, HB2.out, HK2.out⟩
      | false =>
        rw [if_neg (by simp)] at H
        by_cases c1 : x < (s0_0.size : Int)
        · rw [if_pos c1] at H
          have c1b : decide (x < (s0_0.size : Int)) = true := decide_eq_true c1
          by_cases c2 : x < wrap64 (s0_1 + 20)
          · rw [if_pos c2] at H
            have c2b : decide (x < wrap64 (s0_1 + 20)) = true := decide_eq_true c2
            have c2c : decide (x < IntKind.i64.wrap (s0_1 + 20)) = true := by rw [i64_w]; exact c2b
            by_cases c3 : 0 ≤ x
            · rw [if_pos c3, if_pos c1] at H
              have c3b : decide (0 ≤ x) = true := decide_eq_true c3
              obtain ⟨t, ht, H⟩ := Option.bind_eq_some_iff.mp H
              have hbt := bt_at s0_0 x
              have hnq : ∀ (W : World) (n : Nat), Calls Try.prog 99 #[.int .u8 (bt s0_0 x), .int .i64 (wrap64 (x - s0_1))] (W.drewN n) fun e w'' => e = .returned (.bool t) ∧ ∃ m, w'' = W.drewN m := fun W n => by
                exact Calls.quiet_of ((impl_isNameByte.calls (bt s0_0 x) (wrap64 (x - s0_1)) t (W.drewN n) ht).mono fun e W' ⟨he, ⟨m, hm⟩⟩ => ⟨he, m, hm⟩)
              clear ht c2
              cases t with
              | true =>
                rw [if_pos rfl] at H
                have H' := Aside0.mk H
                clear H
                go_wp2
                go_quiet (first | (go_at_call 90; exact hlq _ _) | (go_at_call 99; with_reducible exact hnq _ _))
                go_wp2
                go_roundg k1
                case measure => have := HK1.out; omega
                case rel => exact ⟨wrap64 (x + 1), H', ⟨by have := HK1.out; omega⟩, ⟨by (with_reducible repeat (first | exact HI.out | apply IsS91.drewN | apply IsS91.drew | apply IsS91.set_1 | apply IsS91.set_2))⟩, ⟨by (with_reducible repeat (first | exact HB.out | apply pw_below_drewN | apply below_drew1 | refine below_set ?_ hg))⟩, ⟨by (with_reducible repeat (first | exact HK.out | apply KeepBut.set_ | apply keep_drewN | apply keep_drew))⟩⟩
              | false =>
                rw [if_neg (by simp)] at H
                by_cases c9 : x = s0_1
                · rw [if_pos c9] at H
                  have c9b : (x == s0_1) = true := beq_iff_eq.mpr c9
                  have HW := Aside0.mk (eta _ _ H)
                  clear H c9
                  go_wp2
                  go_quiet (first | (go_at_call 90; exact hlq _ _) | (go_at_call 99; with_reducible exact hnq _ _))
                  go_wp2_with (first | ((with_reducible refine gate_callee (f := 100) rfl ?_); refine goesL_ (some 68) rfl rfl Try.func100 (by kernel_rfl) rfl #[.pointer (some ⟨g, 0, none⟩), .int .u8 59] rfl (by (try simp only [List.map_toArray, List.map_cons, List.map_nil]); first | done | rfl) ?_; (with_reducible refine (impl_reader_want.calls g s0_0 x true 59 r1 r2 r3 w0 _ ?side1 ?side2 HW.out).mono ?_); (case side1 => (with_reducible repeat (first | exact HI.out | apply IsS91.drewN | apply IsS91.drew | apply IsS91.set_1 | apply IsS91.set_2))); (case side2 => (with_reducible repeat (first | exact HB.out | apply pw_below_drewN | apply below_drew1 | refine below_set ?_ hg))); rintro e w5 ⟨rfl, hi, hb, hk⟩; refine ⟨_, rfl, ?_⟩; have HI2 := Aside0.mk hi; have HB2 := Aside0.mk hb; have HK2 := Aside0.mk (KeepBut.trans (by (with_reducible repeat (first | exact HK.out | apply KeepBut.set_ | apply keep_drewN | apply keep_drew))) hk (.inl rfl)); clear hi hb hk))
                  first | go_end0 | ((try simp only [Exit.inBlock, Exit.then]); refine bodyPost_ret (results_none rfl _ _ _) rfl ?_)
                  exact ⟨rfl, HI2.out, HB2.out, HK2.out⟩
                · rw [if_neg c9] at H
                  have c9b : (x == s0_1) = false := beq_eq_false_iff_ne.mpr c9
                  have HW := Aside0.mk (eta _ _ H)
                  clear H
                  go_wp2
                  go_quiet (first | (go_at_call 90; exact hlq _ _) | (go_at_call 99; with_reducible exact hnq _ _))
                  go_wp2_with (first | ((with_reducible refine gate_callee (f := 100) rfl ?_); refine goesL_ (some 68) rfl rfl Try.func100 (by kernel_rfl) rfl #[.pointer (some ⟨g, 0, none⟩), .int .u8 59] rfl (by (try simp only [List.map_toArray, List.map_cons, List.map_nil]); first | done | rfl) ?_; (with_reducible refine (impl_reader_want.calls g s0_0 x false 59 r1 r2 r3 w0 _ ?side1 ?side2 HW.out).mono ?_); (case side1 => (with_reducible repeat (first | exact HI.out | apply IsS91.drewN | apply IsS91.drew | apply IsS91.set_1 | apply IsS91.set_2))); (case side2 => (with_reducible repeat (first | exact HB.out | apply pw_below_drewN | apply below_drew1 | refine below_set ?_ hg))); rintro e w5 ⟨rfl, hi, hb, hk⟩; refine ⟨_, rfl, ?_⟩; have HI2 := Aside0.mk hi; have HB2 := Aside0.mk hb; have HK2 := Aside0.mk (KeepBut.trans (by (with_reducible repeat (first | exact HK.out | apply KeepBut.set_ | apply keep_drewN | apply keep_drew))) hk (.inl rfl)); clear hi hb hk))
                  first | go_end0 | ((try simp only [Exit.inBlock, Exit.then]); refine bodyPost_ret (results_none rfl _ _ _) rfl ?_)
                  exact ⟨rfl, HI2.out, HB2.out, HK2.out⟩
            · rw [if_neg c3] at H
              exact absurd H (by simp)
          · rw [if_neg c2] at H
            have c2b : decide (x < wrap64 (s0_1 + 20)) = false := decide_eq_false c2
            have c2c : decide (x < IntKind.i64.wrap (s0_1 + 20)) = false := by rw [i64_w]; exact c2b
            clear c1 c2
            by_cases c9 : x = s0_1
            · rw [if_pos c9] at H
              have c9b : (x == s0_1) = true := beq_iff_eq.mpr c9
              have HW := Aside0.mk (eta _ _ H)
              clear H c9
              go_wp2
              go_quiet ((go_at_call 90; exact hlq _ _))
              go_wp2_with (first | ((with_reducible refine gate_callee (f := 100) rfl ?_); refine goesL_ (some 68) rfl rfl Try.func100 (by kernel_rfl) rfl #[.pointer (some ⟨g, 0, none⟩), .int .u8 59] rfl (by (try simp only [List.map_toArray, List.map_cons, List.map_nil]); first | done | rfl) ?_; (with_reducible refine (impl_reader_want.calls g s0_0 x true 59 r1 r2 r3 w0 _ ?side1 ?side2 HW.out).mono ?_); (case side1 => (with_reducible repeat (first | exact HI.out | apply IsS91.drewN | apply IsS91.drew | apply IsS91.set_1 | apply IsS91.set_2))); (case side2 => (with_reducible repeat (first | exact HB.out | apply pw_below_drewN | apply below_drew1 | refine below_set ?_ hg))); rintro e w5 ⟨rfl, hi, hb, hk⟩; refine ⟨_, rfl, ?_⟩; have HI2 := Aside0.mk hi; have HB2 := Aside0.mk hb; have HK2 := Aside0.mk (KeepBut.trans (by (with_reducible repeat (first | exact HK.out | apply KeepBut.set_ | apply keep_drewN | apply keep_drew))) hk (.inl rfl)); clear hi hb hk))
              first | go_end0 | ((try simp only [Exit.inBlock, Exit.then]); refine bodyPost_ret (results_none rfl _ _ _) rfl ?_)
              exact ⟨rfl, HI2.out, HB2.out, HK2.out⟩
            · rw [if_neg c9] at H
              have c9b : (x == s0_1) = false := beq_eq_false_iff_ne.mpr c9
              have HW := Aside0.mk (eta _ _ H)
              clear H
              go_wp2
              go_quiet ((go_at_call 90; exact hlq _ _))
              go_wp2_with (first | ((with_reducible refine gate_callee (f := 100) rfl ?_); refine goesL_ (some 68) rfl rfl Try.func100 (by kernel_rfl) rfl #[.pointer (some ⟨g, 0, none⟩), .int .u8 59] rfl (by (try simp only [List.map_toArray, List.map_cons, List.map_nil]); first | done | rfl) ?_; (with_reducible refine (impl_reader_want.calls g s0_0 x false 59 r1 r2 r3 w0 _ ?side1 ?side2 HW.out).mono ?_); (case side1 => (with_reducible repeat (first | exact HI.out | apply IsS91.drewN | apply IsS91.drew | apply IsS91.set_1 | apply IsS91.set_2))); (case side2 => (with_reducible repeat (first | exact HB.out | apply pw_below_drewN | apply below_drew1 | refine below_set ?_ hg))); rintro e w5 ⟨rfl, hi, hb, hk⟩; refine ⟨_, rfl, ?_⟩; have HI2 := Aside0.mk hi; have HB2 := Aside0.mk hb; have HK2 := Aside0.mk (KeepBut.trans (by (with_reducible repeat (first | exact HK.out | apply KeepBut.set_ | apply keep_drewN | apply keep_drew))) hk (.inl rfl)); clear hi hb hk))
              first | go_end0 | ((try simp only [Exit.inBlock, Exit.then]); refine bodyPost_ret (results_none rfl _ _ _) rfl ?_)
              exact ⟨rfl, HI2.out, HB2.out, HK2.out⟩
        · rw [if_neg c1] at H
          have c1b : decide (x < (s0_0.size : Int)) = false := decide_eq_false c1
          clear c1
          by_cases c9 : x = s0_1
          · rw [if_pos c9] at H
            have c9b : (x == s0_1) = true := beq_iff_eq.mpr c9
            have HW := Aside0.mk (eta _ _ H)
            clear H c9
            go_wp2
            go_quiet ((go_at_call 90; exact hlq _ _))
            go_wp2_with (first | ((with_reducible refine gate_callee (f := 100) rfl ?_); refine goesL_ (some 68) rfl rfl Try.func100 (by kernel_rfl) rfl #[.pointer (some ⟨g, 0, none⟩), .int .u8 59] rfl (by (try simp only [List.map_toArray, List.map_cons, List.map_nil]); first | done | rfl) ?_; (with_reducible refine (impl_reader_want.calls g s0_0 x true 59 r1 r2 r3 w0 _ ?side1 ?side2 HW.out).mono ?_); (case side1 => (with_reducible repeat (first | exact HI.out | apply IsS91.drewN | apply IsS91.drew | apply IsS91.set_1 | apply IsS91.set_2))); (case side2 => (with_reducible repeat (first | exact HB.out | apply pw_below_drewN | apply below_drew1 | refine below_set ?_ hg))); rintro e w5 ⟨rfl, hi, hb, hk⟩; refine ⟨_, rfl, ?_⟩; have HI2 := Aside0.mk hi; have HB2 := Aside0.mk hb; have HK2 := Aside0.mk (KeepBut.trans (by (with_reducible repeat (first | exact HK.out | apply KeepBut.set_ | apply keep_drewN | apply keep_drew))) hk (.inl rfl)); clear hi hb hk))
            first | go_end0 | ((try simp only [Exit.inBlock, Exit.then]); refine bodyPost_ret (results_none rfl _ _ _) rfl ?_)
            exact ⟨rfl, HI2.out, HB2.out, HK2.out⟩
          · rw [if_neg c9] at H
            have c9b : (x == s0_1) = false := beq_eq_false_iff_ne.mpr c9
            have HW := Aside0.mk (eta _ _ H)
            clear H
            go_wp2
            go_quiet ((go_at_call 90; exact hlq _ _))
            go_wp2_with (first | ((with_reducible refine gate_callee (f := 100) rfl ?_); refine goesL_ (some 68) rfl rfl Try.func100 (by kernel_rfl) rfl #[.pointer (some ⟨g, 0, none⟩), .int .u8 59] rfl (by (try simp only [List.map_toArray, List.map_cons, List.map_nil]); first | done | rfl) ?_; (with_reducible refine (impl_reader_want.calls g s0_0 x false 59 r1 r2 r3 w0 _ ?side1 ?side2 HW.out).mono ?_); (case side1 => (with_reducible repeat (first | exact HI.out | apply IsS91.drewN | apply IsS91.drew | apply IsS91.set_1 | apply IsS91.set_2))); (case side2 => (with_reducible repeat (first | exact HB.out | apply pw_below_drewN | apply below_drew1 | refine below_set ?_ hg))); rintro e w5 ⟨rfl, hi, hb, hk⟩; refine ⟨_, rfl, ?_⟩; have HI2 := Aside0.mk hi; have HB2 := Aside0.mk hb; have HK2 := Aside0.mk (KeepBut.trans (by (with_reducible repeat (first | exact HK.out | apply KeepBut.set_ | apply keep_drewN | apply keep_drew))) hk (.inl rfl)); clear hi hb hk))
            first | go_end0 | ((try simp only [Exit.inBlock, Exit.then]); refine bodyPost_ret (results_none rfl _ _ _) rfl ?_)
            exact ⟨rfl, HI2.out, HB2.out, HK2.out⟩

/-! ### impl_reader_kind: function 89 -/
def impl_reader_kind.f (k : Nat) (s0_0 : ByteArray) (s0_1 : Int) (s0_2 : Bool) : Option (ByteArray × ByteArray × Int × Bool) := (impl_reader_take.f s0_0 s0_1 s0_2 91).bind fun bt166 => ((impl_reader_take.f bt166.2.1 bt166.2.2.1 bt166.2.2.2 73).bind fun bt170 => (if bt170.1 = true then (if bt170.2.2.2 = true then (some ((⟨#[]⟩ : ByteArray), bt170.2.1, bt170.2.2.1, bt170.2.2.2)) else (if 0 ≤ s0_1 then (if s0_1 ≤ bt170.2.2.1 then (if bt170.2.2.1 ≤ (bt170.2.1.size : Int) then (some (bt170.2.1.extract (s0_1 : Int).toNat (bt170.2.2.1 : Int).toNat, bt170.2.1, bt170.2.2.1, bt170.2.2.2)) else (none)) else (none)) else (none))) else ((impl_reader_take.f bt170.2.1 bt170.2.2.1 bt170.2.2.2 76).bind fun bt174 => (if bt174.1 = true then ((impl_reader_name.f k bt174.2.1 bt174.2.2.1 bt174.2.2.2).bind fun bt178 => (if bt178.2.2 = true then (some ((⟨#[]⟩ : ByteArray), bt178.1, bt178.2.1, bt178.2.2)) else (if 0 ≤ s0_1 then (if s0_1 ≤ bt178.2.1 then (if bt178.2.1 ≤ (bt178.1.size : Int) then (some (bt178.1.extract (s0_1 : Int).toNat (bt178.2.1 : Int).toNat, bt178.1, bt178.2.1, bt178.2.2)) else (none)) else (none)) else (none)))) else (some ((⟨#[]⟩ : ByteArray), bt174.2.1, bt174.2.2.1, true))))))
theorem impl_reader_kind.mono : ∀ a0 a1 a2 k, LeO (impl_reader_kind.f k a0 a1 a2) (impl_reader_kind.f (k + 1) a0 a1 a2) := by
  intro a0 a1 a2 k
  unfold impl_reader_kind.f
  repeat' first
      | (with_reducible exact impl_reader_name.mono _ _ _ _)
      | (with_reducible exact LeO.refl _)
      | (with_reducible exact LeO.none _)
      | (with_reducible refine LeO.ite ?_ ?_)
      | (with_reducible refine LeO.bind ?_ (fun _ => ?_))
      | exact impl_reader_name.mono _ _ _ _
      | exact LeO.none _
      | refine LeO.ite ?_ ?_
      | refine LeO.bind ?_ (fun _ => ?_)
set_option maxHeartbeats 8000000 in
set_option maxRecDepth 100000 in
theorem impl_reader_kind.calls (k : Nat) (g : Nat) (s0_0 : ByteArray) (s0_1 : Int) (s0_2 : Bool) (r1 : ByteArray) (r2 : ByteArray) (r3 : Int) (r4 : Bool) (w0 w : World) (hI : IsS91 w0 w g s0_0 s0_1 s0_2) (hB : Below w0.heap.size w0 w) (h : impl_reader_kind.f k s0_0 s0_1 s0_2 = some (r1, r2, r3, r4)) :
    Calls Try.prog 89 #[.pointer (some ⟨g, 0, none⟩)] w fun e w' => e = .returned (.string r1) ∧ IsS91 w0 w' g r2 r3 r4 ∧ Below w0.heap.size w0 w' ∧ KeepBut w w' g none := by
  have HI0 := Aside0.mk hI
  have HK := Aside0.mk (KeepBut.refl w g none)
  have HL := Aside0.mk hB.size
  clear hI
  have HW0 := Aside0.mk hB.size
  have HB := Aside0.mk hB
  clear hB
  have H : ((impl_reader_take.f s0_0 s0_1 s0_2 91).bind fun bt166 => ((impl_reader_take.f bt166.2.1 bt166.2.2.1 bt166.2.2.2 73).bind fun bt170 => (if bt170.1 = true then (if bt170.2.2.2 = true then (some ((⟨#[]⟩ : ByteArray), bt170.2.1, bt170.2.2.1, bt170.2.2.2)) else (if 0 ≤ s0_1 then (if s0_1 ≤ bt170.2.2.1 then (if bt170.2.2.1 ≤ (bt170.2.1.size : Int) then (some (bt170.2.1.extract (s0_1 : Int).toNat (bt170.2.2.1 : Int).toNat, bt170.2.1, bt170.2.2.1, bt170.2.2.2)) else (none)) else (none)) else (none))) else ((impl_reader_take.f bt170.2.1 bt170.2.2.1 bt170.2.2.2 76).bind fun bt174 => (if bt174.1 = true then ((impl_reader_name.f k bt174.2.1 bt174.2.2.1 bt174.2.2.2).bind fun bt178 => (if bt178.2.2 = true then (some ((⟨#[]⟩ : ByteArray), bt178.1, bt178.2.1, bt178.2.2)) else (if 0 ≤ s0_1 then (if s0_1 ≤ bt178.2.1 then (if bt178.2.1 ≤ (bt178.1.size : Int) then (some (bt178.1.extract (s0_1 : Int).toNat (bt178.2.1 : Int).toNat, bt178.1, bt178.2.1, bt178.2.2)) else (none)) else (none)) else (none)))) else (some ((⟨#[]⟩ : ByteArray), bt174.2.1, bt174.2.2.1, true))))))) = some (r1, r2, r3, r4) := h
  clear h
  replace H := Option.bind_eq_some_iff.mp H
  obtain ⟨⟨t166, t167, t168, t169⟩, A20, H⟩ := H
  replace H : ((impl_reader_take.f t167 t168 t169 73).bind fun bt170 => (if bt170.1 = true then (if bt170.2.2.2 = true then (some ((⟨#[]⟩ : ByteArray), bt170.2.1, bt170.2.2.1, bt170.2.2.2)) else (if 0 ≤ s0_1 then (if s0_1 ≤ bt170.2.2.1 then (if bt170.2.2.1 ≤ (bt170.2.1.size : Int) then (some (bt170.2.1.extract (s0_1 : Int).toNat (bt170.2.2.1 : Int).toNat, bt170.2.1, bt170.2.2.1, bt170.2.2.2)) else (none)) else (none)) else (none))) else ((impl_reader_take.f bt170.2.1 bt170.2.2.1 bt170.2.2.2 76).bind fun bt174 => (if bt174.1 = true then ((impl_reader_name.f k bt174.2.1 bt174.2.2.1 bt174.2.2.2).bind fun bt178 => (if bt178.2.2 = true then (some ((⟨#[]⟩ : ByteArray), bt178.1, bt178.2.1, bt178.2.2)) else (if 0 ≤ s0_1 then (if s0_1 ≤ bt178.2.1 then (if bt178.2.1 ≤ (bt178.1.size : Int) then (some (bt178.1.extract (s0_1 : Int).toNat (bt178.2.1 : Int).toNat, bt178.1, bt178.2.1, bt178.2.2)) else (none)) else (none)) else (none)))) else (some ((⟨#[]⟩ : ByteArray), bt174.2.1, bt174.2.2.1, true)))))) = some (r1, r2, r3, r4) := H
  have A2 := Aside0.mk A20
  clear A20
  replace H := Option.bind_eq_some_iff.mp H
  obtain ⟨⟨t170, t171, t172, t173⟩, A30, H⟩ := H
  replace H : (if t170 = true then (if t173 = true then (some ((⟨#[]⟩ : ByteArray), t171, t172, t173)) else (if 0 ≤ s0_1 then (if s0_1 ≤ t172 then (if t172 ≤ (t171.size : Int) then (some (t171.extract (s0_1 : Int).toNat (t172 : Int).toNat, t171, t172, t173)) else (none)) else (none)) else (none))) else ((impl_reader_take.f t171 t172 t173 76).bind fun bt174 => (if bt174.1 = true then ((impl_reader_name.f k bt174.2.1 bt174.2.2.1 bt174.2.2.2).bind fun bt178 => (if bt178.2.2 = true then (some ((⟨#[]⟩ : ByteArray), bt178.1, bt178.2.1, bt178.2.2)) else (if 0 ≤ s0_1 then (if s0_1 ≤ bt178.2.1 then (if bt178.2.1 ≤ (bt178.1.size : Int) then (some (bt178.1.extract (s0_1 : Int).toNat (bt178.2.1 : Int).toNat, bt178.1, bt178.2.1, bt178.2.2)) else (none)) else (none)) else (none)))) else (some ((⟨#[]⟩ : ByteArray), bt174.2.1, bt174.2.2.1, true))))) = some (r1, r2, r3, r4) := H
  have A3 := Aside0.mk A30
  clear A30
  by_cases c4 : t170 = true
  · subst c4
    have H1 : (if t173 = true then (some ((⟨#[]⟩ : ByteArray), t171, t172, t173)) else (if 0 ≤ s0_1 then (if s0_1 ≤ t172 then (if t172 ≤ (t171.size : Int) then (some (t171.extract (s0_1 : Int).toNat (t172 : Int).toNat, t171, t172, t173)) else (none)) else (none)) else (none))) = some (r1, r2, r3, r4) := by rw [if_pos rfl] at H; exact H
    clear H
    have H := H1
    clear H1
    by_cases c5 : t173 = true
    · subst c5
      have H1 : (some ((⟨#[]⟩ : ByteArray), t171, t172, true)) = some (r1, r2, r3, r4) := by rw [if_pos rfl] at H; exact H
      clear H
      have H := H1
      clear H1
      simp only [Option.some.injEq, Prod.mk.injEq] at H
      obtain ⟨rfl, rfl, rfl, rfl⟩ := H
      obtain ⟨HGz6, hgz6⟩ := HI0.out
      have hcz6_0 := cellS91_0 HGz6
      have hcz6_1 := cellS91_1 HGz6
      have hcz6_2 := cellS91_2 HGz6
      have hfz6_0 := blk_frozen HGz6 0
      have hfz6_1 := blk_frozen HGz6 1
      have hfz6_2 := blk_frozen HGz6 2
      clear HGz6 hgz6
      go_enter Try.func89, Try.ntmps89
      go_wp2_with (first | (go_at_call 101; (first | (with_reducible refine (impl_reader_take.calls g s0_0 s0_1 s0_2 91 t166 t167 t168 t169 w0 _ ?side1 ?side2 A2.out).mono ?_) | (with_reducible refine (calls_of_args ?_ (impl_reader_take.calls g s0_0 s0_1 s0_2 91 t166 t167 t168 t169 w0 _ ?side1 ?side2 A2.out)).mono ?_; focus (simp [*]; done))); (case side1 => repeat (first | (with_reducible first | exact HI0.out | apply IsS91.alloc | apply IsS91.drewN | apply IsS91.drew | apply IsS91.set_0 | apply IsS91.set_1 | apply IsS91.set_2) | exact HI0.out)); (case side2 => repeat (first | (with_reducible first | exact HB.out | apply below_alloc | apply pw_below_drewN | apply below_drew1 | refine below_set ?_ (IsS91.ge HI0.out)) | exact HB.out)); rintro e w7 ⟨rfl, hi, hb, hk⟩; have n0_ := Aside0.mk (KeepBut.trans (by repeat (first | (with_reducible first | exact HK.out | apply KeepBut.set_ | apply keep_drewN | apply keep_drew | apply keep_alloc) | exact HK.out)) hk (.inl rfl)); have n1_ := Aside0.mk (hb); have n2_ := Aside0.mk (hi); clear HK; clear HB; clear HI0; have HK := n0_; have HB := n1_; have HI0 := n2_; clear n0_ n1_ n2_; (try clear hb); (try clear hb2); (try clear hk); (try clear hi)) | (go_at_call 101; (first | (with_reducible refine (impl_reader_take.calls g t167 t168 t169 73 true t171 t172 true w0 _ ?side1 ?side2 A3.out).mono ?_) | (with_reducible refine (calls_of_args ?_ (impl_reader_take.calls g t167 t168 t169 73 true t171 t172 true w0 _ ?side1 ?side2 A3.out)).mono ?_; focus (simp [*]; done))); (case side1 => repeat (first | (with_reducible first | exact HI0.out | apply IsS91.alloc | apply IsS91.drewN | apply IsS91.drew | apply IsS91.set_0 | apply IsS91.set_1 | apply IsS91.set_2) | exact HI0.out)); (case side2 => repeat (first | (with_reducible first | exact HB.out | apply below_alloc | apply pw_below_drewN | apply below_drew1 | refine below_set ?_ (IsS91.ge HI0.out)) | exact HB.out)); rintro e w8 ⟨rfl, hi, hb, hk⟩; have n0_ := Aside0.mk (KeepBut.trans (by repeat (first | (with_reducible first | exact HK.out | apply KeepBut.set_ | apply keep_drewN | apply keep_drew | apply keep_alloc) | exact HK.out)) hk (.inl rfl)); have n1_ := Aside0.mk (hb); have n2_ := Aside0.mk (hi); clear HK; clear HB; clear HI0; have HK := n0_; have HB := n1_; have HI0 := n2_; clear n0_ n1_ n2_; (try clear hb); (try clear hb2); (try clear hk); (try clear hi); obtain ⟨HGz9, hgz9⟩ := HI0.out; have hcz9_0 := cellS91_0 HGz9; have hcz9_1 := cellS91_1 HGz9; have hcz9_2 := cellS91_2 HGz9; have hfz9_0 := blk_frozen HGz9 0; have hfz9_1 := blk_frozen HGz9 1; have hfz9_2 := blk_frozen HGz9 2; clear HGz9 hgz9))
      repeat (go_quiet (first | (go_at_call 101; (first | (with_reducible refine (impl_reader_take.calls g s0_0 s0_1 s0_2 91 t166 t167 t168 t169 w0 _ ?side1 ?side2 A2.out).mono ?_) | (with_reducible refine (calls_of_args ?_ (impl_reader_take.calls g s0_0 s0_1 s0_2 91 t166 t167 t168 t169 w0 _ ?side1 ?side2 A2.out)).mono ?_; focus (simp [*]; done))); (case side1 => repeat (first | (with_reducible first | exact HI0.out | apply IsS91.alloc | apply IsS91.drewN | apply IsS91.drew | apply IsS91.set_0 | apply IsS91.set_1 | apply IsS91.set_2) | exact HI0.out)); (case side2 => repeat (first | (with_reducible first | exact HB.out | apply below_alloc | apply pw_below_drewN | apply below_drew1 | refine below_set ?_ (IsS91.ge HI0.out)) | exact HB.out)); rintro e w7 ⟨rfl, hi, hb, hk⟩; have n0_ := Aside0.mk (KeepBut.trans (by repeat (first | (with_reducible first | exact HK.out | apply KeepBut.set_ | apply keep_drewN | apply keep_drew | apply keep_alloc) | exact HK.out)) hk (.inl rfl)); have n1_ := Aside0.mk (hb); have n2_ := Aside0.mk (hi); clear HK; clear HB; clear HI0; have HK := n0_; have HB := n1_; have HI0 := n2_; clear n0_ n1_ n2_; (try clear hb); (try clear hb2); (try clear hk); (try clear hi)) | (go_at_call 101; (first | (with_reducible refine (impl_reader_take.calls g t167 t168 t169 73 true t171 t172 true w0 _ ?side1 ?side2 A3.out).mono ?_) | (with_reducible refine (calls_of_args ?_ (impl_reader_take.calls g t167 t168 t169 73 true t171 t172 true w0 _ ?side1 ?side2 A3.out)).mono ?_; focus (simp [*]; done))); (case side1 => repeat (first | (with_reducible first | exact HI0.out | apply IsS91.alloc | apply IsS91.drewN | apply IsS91.drew | apply IsS91.set_0 | apply IsS91.set_1 | apply IsS91.set_2) | exact HI0.out)); (case side2 => repeat (first | (with_reducible first | exact HB.out | apply below_alloc | apply pw_below_drewN | apply below_drew1 | refine below_set ?_ (IsS91.ge HI0.out)) | exact HB.out)); rintro e w8 ⟨rfl, hi, hb, hk⟩; have n0_ := Aside0.mk (KeepBut.trans (by repeat (first | (with_reducible first | exact HK.out | apply KeepBut.set_ | apply keep_drewN | apply keep_drew | apply keep_alloc) | exact HK.out)) hk (.inl rfl)); have n1_ := Aside0.mk (hb); have n2_ := Aside0.mk (hi); clear HK; clear HB; clear HI0; have HK := n0_; have HB := n1_; have HI0 := n2_; clear n0_ n1_ n2_; (try clear hb); (try clear hb2); (try clear hk); (try clear hi); obtain ⟨HGz9, hgz9⟩ := HI0.out; have hcz9_0 := cellS91_0 HGz9; have hcz9_1 := cellS91_1 HGz9; have hcz9_2 := cellS91_2 HGz9; have hfz9_0 := blk_frozen HGz9 0; have hfz9_1 := blk_frozen HGz9 1; have hfz9_2 := blk_frozen HGz9 2; clear HGz9 hgz9)); try go_wp2_with (first | (go_at_call 101; (first | (with_reducible refine (impl_reader_take.calls g s0_0 s0_1 s0_2 91 t166 t167 t168 t169 w0 _ ?side1 ?side2 A2.out).mono ?_) | (with_reducible refine (calls_of_args ?_ (impl_reader_take.calls g s0_0 s0_1 s0_2 91 t166 t167 t168 t169 w0 _ ?side1 ?side2 A2.out)).mono ?_; focus (simp [*]; done))); (case side1 => repeat (first | (with_reducible first | exact HI0.out | apply IsS91.alloc | apply IsS91.drewN | apply IsS91.drew | apply IsS91.set_0 | apply IsS91.set_1 | apply IsS91.set_2) | exact HI0.out)); (case side2 => repeat (first | (with_reducible first | exact HB.out | apply below_alloc | apply pw_below_drewN | apply below_drew1 | refine below_set ?_ (IsS91.ge HI0.out)) | exact HB.out)); rintro e w7 ⟨rfl, hi, hb, hk⟩; have n0_ := Aside0.mk (KeepBut.trans (by repeat (first | (with_reducible first | exact HK.out | apply KeepBut.set_ | apply keep_drewN | apply keep_drew | apply keep_alloc) | exact HK.out)) hk (.inl rfl)); have n1_ := Aside0.mk (hb); have n2_ := Aside0.mk (hi); clear HK; clear HB; clear HI0; have HK := n0_; have HB := n1_; have HI0 := n2_; clear n0_ n1_ n2_; (try clear hb); (try clear hb2); (try clear hk); (try clear hi)) | (go_at_call 101; (first | (with_reducible refine (impl_reader_take.calls g t167 t168 t169 73 true t171 t172 true w0 _ ?side1 ?side2 A3.out).mono ?_) | (with_reducible refine (calls_of_args ?_ (impl_reader_take.calls g t167 t168 t169 73 true t171 t172 true w0 _ ?side1 ?side2 A3.out)).mono ?_; focus (simp [*]; done))); (case side1 => repeat (first | (with_reducible first | exact HI0.out | apply IsS91.alloc | apply IsS91.drewN | apply IsS91.drew | apply IsS91.set_0 | apply IsS91.set_1 | apply IsS91.set_2) | exact HI0.out)); (case side2 => repeat (first | (with_reducible first | exact HB.out | apply below_alloc | apply pw_below_drewN | apply below_drew1 | refine below_set ?_ (IsS91.ge HI0.out)) | exact HB.out)); rintro e w8 ⟨rfl, hi, hb, hk⟩; have n0_ := Aside0.mk (KeepBut.trans (by repeat (first | (with_reducible first | exact HK.out | apply KeepBut.set_ | apply keep_drewN | apply keep_drew | apply keep_alloc) | exact HK.out)) hk (.inl rfl)); have n1_ := Aside0.mk (hb); have n2_ := Aside0.mk (hi); clear HK; clear HB; clear HI0; have HK := n0_; have HB := n1_; have HI0 := n2_; clear n0_ n1_ n2_; (try clear hb); (try clear hb2); (try clear hk); (try clear hi); obtain ⟨HGz9, hgz9⟩ := HI0.out; have hcz9_0 := cellS91_0 HGz9; have hcz9_1 := cellS91_1 HGz9; have hcz9_2 := cellS91_2 HGz9; have hfz9_0 := blk_frozen HGz9 0; have hfz9_1 := blk_frozen HGz9 1; have hfz9_2 := blk_frozen HGz9 2; clear HGz9 hgz9)))
      go_ret
      exact ⟨by first | rfl | (simp [errW_none, errW_some] <;> rfl) | (simp [*, errW_none, errW_some] <;> rfl), by repeat (first | (with_reducible first | exact HI0.out | apply IsS91.alloc | apply IsS91.drewN | apply IsS91.drew | apply IsS91.set_0 | apply IsS91.set_1 | apply IsS91.set_2) | exact HI0.out), by repeat (first | (with_reducible first | exact HB.out | apply below_alloc | apply pw_below_drewN | apply below_drew1 | refine below_set ?_ (IsS91.ge HI0.out)) | exact HB.out), by repeat (first | (with_reducible first | exact HK.out | apply KeepBut.set_ | apply keep_drewN | apply keep_drew | apply keep_alloc) | exact HK.out)⟩
    · replace c5 := Bool.eq_false_iff.mpr c5
      subst c5
      have H1 : (if 0 ≤ s0_1 then (if s0_1 ≤ t172 then (if t172 ≤ (t171.size : Int) then (some (t171.extract (s0_1 : Int).toNat (t172 : Int).toNat, t171, t172, false)) else (none)) else (none)) else (none)) = some (r1, r2, r3, r4) := by rw [if_neg (show ¬ (false = true) by decide)] at H; exact H
      clear H
      have H := H1
      clear H1
      by_cases c10 : 0 ≤ s0_1
      · rw [if_pos c10] at H
        have c10b0 := eq_true c10
        have c10b1 : decide (0 ≤ s0_1) = true := decide_eq_true c10
        clear c10
        by_cases c11 : s0_1 ≤ t172
        · rw [if_pos c11] at H
          have c11b0 := eq_true c11
          have c11b1 : decide (s0_1 ≤ t172) = true := decide_eq_true c11
          clear c11
          by_cases c12 : t172 ≤ (t171.size : Int)
          · rw [if_pos c12] at H
            have c12b0 := eq_true c12
            have c12b1 : decide (t172 ≤ (t171.size : Int)) = true := decide_eq_true c12
            clear c12
            simp only [Option.some.injEq, Prod.mk.injEq] at H
            obtain ⟨rfl, rfl, rfl, rfl⟩ := H
            obtain ⟨HGz13, hgz13⟩ := HI0.out
            have hcz13_0 := cellS91_0 HGz13
            have hcz13_1 := cellS91_1 HGz13
            have hcz13_2 := cellS91_2 HGz13
            have hfz13_0 := blk_frozen HGz13 0
            have hfz13_1 := blk_frozen HGz13 1
            have hfz13_2 := blk_frozen HGz13 2
            clear HGz13 hgz13
            go_enter Try.func89, Try.ntmps89
            go_wp2_with (first | (go_at_call 101; (first | (with_reducible refine (impl_reader_take.calls g s0_0 s0_1 s0_2 91 t166 t167 t168 t169 w0 _ ?side1 ?side2 A2.out).mono ?_) | (with_reducible refine (calls_of_args ?_ (impl_reader_take.calls g s0_0 s0_1 s0_2 91 t166 t167 t168 t169 w0 _ ?side1 ?side2 A2.out)).mono ?_; focus (simp [*]; done))); (case side1 => repeat (first | (with_reducible first | exact HI0.out | apply IsS91.alloc | apply IsS91.drewN | apply IsS91.drew | apply IsS91.set_0 | apply IsS91.set_1 | apply IsS91.set_2) | exact HI0.out)); (case side2 => repeat (first | (with_reducible first | exact HB.out | apply below_alloc | apply pw_below_drewN | apply below_drew1 | refine below_set ?_ (IsS91.ge HI0.out)) | exact HB.out)); rintro e w14 ⟨rfl, hi, hb, hk⟩; have n0_ := Aside0.mk (KeepBut.trans (by repeat (first | (with_reducible first | exact HK.out | apply KeepBut.set_ | apply keep_drewN | apply keep_drew | apply keep_alloc) | exact HK.out)) hk (.inl rfl)); have n1_ := Aside0.mk (hb); have n2_ := Aside0.mk (hi); clear HK; clear HB; clear HI0; have HK := n0_; have HB := n1_; have HI0 := n2_; clear n0_ n1_ n2_; (try clear hb); (try clear hb2); (try clear hk); (try clear hi)) | (go_at_call 101; (first | (with_reducible refine (impl_reader_take.calls g t167 t168 t169 73 true t171 t172 false w0 _ ?side1 ?side2 A3.out).mono ?_) | (with_reducible refine (calls_of_args ?_ (impl_reader_take.calls g t167 t168 t169 73 true t171 t172 false w0 _ ?side1 ?side2 A3.out)).mono ?_; focus (simp [*]; done))); (case side1 => repeat (first | (with_reducible first | exact HI0.out | apply IsS91.alloc | apply IsS91.drewN | apply IsS91.drew | apply IsS91.set_0 | apply IsS91.set_1 | apply IsS91.set_2) | exact HI0.out)); (case side2 => repeat (first | (with_reducible first | exact HB.out | apply below_alloc | apply pw_below_drewN | apply below_drew1 | refine below_set ?_ (IsS91.ge HI0.out)) | exact HB.out)); rintro e w15 ⟨rfl, hi, hb, hk⟩; have n0_ := Aside0.mk (KeepBut.trans (by repeat (first | (with_reducible first | exact HK.out | apply KeepBut.set_ | apply keep_drewN | apply keep_drew | apply keep_alloc) | exact HK.out)) hk (.inl rfl)); have n1_ := Aside0.mk (hb); have n2_ := Aside0.mk (hi); clear HK; clear HB; clear HI0; have HK := n0_; have HB := n1_; have HI0 := n2_; clear n0_ n1_ n2_; (try clear hb); (try clear hb2); (try clear hk); (try clear hi); obtain ⟨HGz16, hgz16⟩ := HI0.out; have hcz16_0 := cellS91_0 HGz16; have hcz16_1 := cellS91_1 HGz16; have hcz16_2 := cellS91_2 HGz16; have hfz16_0 := blk_frozen HGz16 0; have hfz16_1 := blk_frozen HGz16 1; have hfz16_2 := blk_frozen HGz16 2; clear HGz16 hgz16))
            repeat (go_quiet (first | (go_at_call 101; (first | (with_reducible refine (impl_reader_take.calls g s0_0 s0_1 s0_2 91 t166 t167 t168 t169 w0 _ ?side1 ?side2 A2.out).mono ?_) | (with_reducible refine (calls_of_args ?_ (impl_reader_take.calls g s0_0 s0_1 s0_2 91 t166 t167 t168 t169 w0 _ ?side1 ?side2 A2.out)).mono ?_; focus (simp [*]; done))); (case side1 => repeat (first | (with_reducible first | exact HI0.out | apply IsS91.alloc | apply IsS91.drewN | apply IsS91.drew | apply IsS91.set_0 | apply IsS91.set_1 | apply IsS91.set_2) | exact HI0.out)); (case side2 => repeat (first | (with_reducible first | exact HB.out | apply below_alloc | apply pw_below_drewN | apply below_drew1 | refine below_set ?_ (IsS91.ge HI0.out)) | exact HB.out)); rintro e w14 ⟨rfl, hi, hb, hk⟩; have n0_ := Aside0.mk (KeepBut.trans (by repeat (first | (with_reducible first | exact HK.out | apply KeepBut.set_ | apply keep_drewN | apply keep_drew | apply keep_alloc) | exact HK.out)) hk (.inl rfl)); have n1_ := Aside0.mk (hb); have n2_ := Aside0.mk (hi); clear HK; clear HB; clear HI0; have HK := n0_; have HB := n1_; have HI0 := n2_; clear n0_ n1_ n2_; (try clear hb); (try clear hb2); (try clear hk); (try clear hi)) | (go_at_call 101; (first | (with_reducible refine (impl_reader_take.calls g t167 t168 t169 73 true t171 t172 false w0 _ ?side1 ?side2 A3.out).mono ?_) | (with_reducible refine (calls_of_args ?_ (impl_reader_take.calls g t167 t168 t169 73 true t171 t172 false w0 _ ?side1 ?side2 A3.out)).mono ?_; focus (simp [*]; done))); (case side1 => repeat (first | (with_reducible first | exact HI0.out | apply IsS91.alloc | apply IsS91.drewN | apply IsS91.drew | apply IsS91.set_0 | apply IsS91.set_1 | apply IsS91.set_2) | exact HI0.out)); (case side2 => repeat (first | (with_reducible first | exact HB.out | apply below_alloc | apply pw_below_drewN | apply below_drew1 | refine below_set ?_ (IsS91.ge HI0.out)) | exact HB.out)); rintro e w15 ⟨rfl, hi, hb, hk⟩; have n0_ := Aside0.mk (KeepBut.trans (by repeat (first | (with_reducible first | exact HK.out | apply KeepBut.set_ | apply keep_drewN | apply keep_drew | apply keep_alloc) | exact HK.out)) hk (.inl rfl)); have n1_ := Aside0.mk (hb); have n2_ := Aside0.mk (hi); clear HK; clear HB; clear HI0; have HK := n0_; have HB := n1_; have HI0 := n2_; clear n0_ n1_ n2_; (try clear hb); (try clear hb2); (try clear hk); (try clear hi); obtain ⟨HGz16, hgz16⟩ := HI0.out; have hcz16_0 := cellS91_0 HGz16; have hcz16_1 := cellS91_1 HGz16; have hcz16_2 := cellS91_2 HGz16; have hfz16_0 := blk_frozen HGz16 0; have hfz16_1 := blk_frozen HGz16 1; have hfz16_2 := blk_frozen HGz16 2; clear HGz16 hgz16)); try go_wp2_with (first | (go_at_call 101; (first | (with_reducible refine (impl_reader_take.calls g s0_0 s0_1 s0_2 91 t166 t167 t168 t169 w0 _ ?side1 ?side2 A2.out).mono ?_) | (with_reducible refine (calls_of_args ?_ (impl_reader_take.calls g s0_0 s0_1 s0_2 91 t166 t167 t168 t169 w0 _ ?side1 ?side2 A2.out)).mono ?_; focus (simp [*]; done))); (case side1 => repeat (first | (with_reducible first | exact HI0.out | apply IsS91.alloc | apply IsS91.drewN | apply IsS91.drew | apply IsS91.set_0 | apply IsS91.set_1 | apply IsS91.set_2) | exact HI0.out)); (case side2 => repeat (first | (with_reducible first | exact HB.out | apply below_alloc | apply pw_below_drewN | apply below_drew1 | refine below_set ?_ (IsS91.ge HI0.out)) | exact HB.out)); rintro e w14 ⟨rfl, hi, hb, hk⟩; have n0_ := Aside0.mk (KeepBut.trans (by repeat (first | (with_reducible first | exact HK.out | apply KeepBut.set_ | apply keep_drewN | apply keep_drew | apply keep_alloc) | exact HK.out)) hk (.inl rfl)); have n1_ := Aside0.mk (hb); have n2_ := Aside0.mk (hi); clear HK; clear HB; clear HI0; have HK := n0_; have HB := n1_; have HI0 := n2_; clear n0_ n1_ n2_; (try clear hb); (try clear hb2); (try clear hk); (try clear hi)) | (go_at_call 101; (first | (with_reducible refine (impl_reader_take.calls g t167 t168 t169 73 true t171 t172 false w0 _ ?side1 ?side2 A3.out).mono ?_) | (with_reducible refine (calls_of_args ?_ (impl_reader_take.calls g t167 t168 t169 73 true t171 t172 false w0 _ ?side1 ?side2 A3.out)).mono ?_; focus (simp [*]; done))); (case side1 => repeat (first | (with_reducible first | exact HI0.out | apply IsS91.alloc | apply IsS91.drewN | apply IsS91.drew | apply IsS91.set_0 | apply IsS91.set_1 | apply IsS91.set_2) | exact HI0.out)); (case side2 => repeat (first | (with_reducible first | exact HB.out | apply below_alloc | apply pw_below_drewN | apply below_drew1 | refine below_set ?_ (IsS91.ge HI0.out)) | exact HB.out)); rintro e w15 ⟨rfl, hi, hb, hk⟩; have n0_ := Aside0.mk (KeepBut.trans (by repeat (first | (with_reducible first | exact HK.out | apply KeepBut.set_ | apply keep_drewN | apply keep_drew | apply keep_alloc) | exact HK.out)) hk (.inl rfl)); have n1_ := Aside0.mk (hb); have n2_ := Aside0.mk (hi); clear HK; clear HB; clear HI0; have HK := n0_; have HB := n1_; have HI0 := n2_; clear n0_ n1_ n2_; (try clear hb); (try clear hb2); (try clear hk); (try clear hi); obtain ⟨HGz16, hgz16⟩ := HI0.out; have hcz16_0 := cellS91_0 HGz16; have hcz16_1 := cellS91_1 HGz16; have hcz16_2 := cellS91_2 HGz16; have hfz16_0 := blk_frozen HGz16 0; have hfz16_1 := blk_frozen HGz16 1; have hfz16_2 := blk_frozen HGz16 2; clear HGz16 hgz16)))
            go_ret
            exact ⟨by first | rfl | (simp [errW_none, errW_some] <;> rfl) | (simp [*, errW_none, errW_some] <;> rfl), by repeat (first | (with_reducible first | exact HI0.out | apply IsS91.alloc | apply IsS91.drewN | apply IsS91.drew | apply IsS91.set_0 | apply IsS91.set_1 | apply IsS91.set_2) | exact HI0.out), by repeat (first | (with_reducible first | exact HB.out | apply below_alloc | apply pw_below_drewN | apply below_drew1 | refine below_set ?_ (IsS91.ge HI0.out)) | exact HB.out), by repeat (first | (with_reducible first | exact HK.out | apply KeepBut.set_ | apply keep_drewN | apply keep_drew | apply keep_alloc) | exact HK.out)⟩
          · rw [if_neg c12] at H
            exact absurd H (by simp)
        · rw [if_neg c11] at H
          exact absurd H (by simp)
      · rw [if_neg c10] at H
        exact absurd H (by simp)
  · replace c4 := Bool.eq_false_iff.mpr c4
    subst c4
    have H1 : ((impl_reader_take.f t171 t172 t173 76).bind fun bt174 => (if bt174.1 = true then ((impl_reader_name.f k bt174.2.1 bt174.2.2.1 bt174.2.2.2).bind fun bt178 => (if bt178.2.2 = true then (some ((⟨#[]⟩ : ByteArray), bt178.1, bt178.2.1, bt178.2.2)) else (if 0 ≤ s0_1 then (if s0_1 ≤ bt178.2.1 then (if bt178.2.1 ≤ (bt178.1.size : Int) then (some (bt178.1.extract (s0_1 : Int).toNat (bt178.2.1 : Int).toNat, bt178.1, bt178.2.1, bt178.2.2)) else (none)) else (none)) else (none)))) else (some ((⟨#[]⟩ : ByteArray), bt174.2.1, bt174.2.2.1, true)))) = some (r1, r2, r3, r4) := by rw [if_neg (show ¬ (false = true) by decide)] at H; exact H
    clear H
    have H := H1
    clear H1
    replace H := Option.bind_eq_some_iff.mp H
    obtain ⟨⟨t174, t175, t176, t177⟩, A170, H⟩ := H
    replace H : (if t174 = true then ((impl_reader_name.f k t175 t176 t177).bind fun bt178 => (if bt178.2.2 = true then (some ((⟨#[]⟩ : ByteArray), bt178.1, bt178.2.1, bt178.2.2)) else (if 0 ≤ s0_1 then (if s0_1 ≤ bt178.2.1 then (if bt178.2.1 ≤ (bt178.1.size : Int) then (some (bt178.1.extract (s0_1 : Int).toNat (bt178.2.1 : Int).toNat, bt178.1, bt178.2.1, bt178.2.2)) else (none)) else (none)) else (none)))) else (some ((⟨#[]⟩ : ByteArray), t175, t176, true))) = some (r1, r2, r3, r4) := H
    have A17 := Aside0.mk A170
    clear A170
    by_cases c18 : t174 = true
    · subst c18
      have H1 : ((impl_reader_name.f k t175 t176 t177).bind fun bt178 => (if bt178.2.2 = true then (some ((⟨#[]⟩ : ByteArray), bt178.1, bt178.2.1, bt178.2.2)) else (if 0 ≤ s0_1 then (if s0_1 ≤ bt178.2.1 then (if bt178.2.1 ≤ (bt178.1.size : Int) then (some (bt178.1.extract (s0_1 : Int).toNat (bt178.2.1 : Int).toNat, bt178.1, bt178.2.1, bt178.2.2)) else (none)) else (none)) else (none)))) = some (r1, r2, r3, r4) := by rw [if_pos rfl] at H; exact H
      clear H
      have H := H1
      clear H1
      replace H := Option.bind_eq_some_iff.mp H
      obtain ⟨⟨t178, t179, t180⟩, A190, H⟩ := H
      replace H : (if t180 = true then (some ((⟨#[]⟩ : ByteArray), t178, t179, t180)) else (if 0 ≤ s0_1 then (if s0_1 ≤ t179 then (if t179 ≤ (t178.size : Int) then (some (t178.extract (s0_1 : Int).toNat (t179 : Int).toNat, t178, t179, t180)) else (none)) else (none)) else (none))) = some (r1, r2, r3, r4) := H
      have A19 := Aside0.mk A190
      clear A190
      by_cases c20 : t180 = true
      · subst c20
        have H1 : (some ((⟨#[]⟩ : ByteArray), t178, t179, true)) = some (r1, r2, r3, r4) := by rw [if_pos rfl] at H; exact H
        clear H
        have H := H1
        clear H1
        simp only [Option.some.injEq, Prod.mk.injEq] at H
        obtain ⟨rfl, rfl, rfl, rfl⟩ := H
        obtain ⟨HGz21, hgz21⟩ := HI0.out
        have hcz21_0 := cellS91_0 HGz21
        have hcz21_1 := cellS91_1 HGz21
        have hcz21_2 := cellS91_2 HGz21
        have hfz21_0 := blk_frozen HGz21 0
        have hfz21_1 := blk_frozen HGz21 1
        have hfz21_2 := blk_frozen HGz21 2
        clear HGz21 hgz21
        go_enter Try.func89, Try.ntmps89
        go_wp2_with (first | (go_at_call 101; (first | (with_reducible refine (impl_reader_take.calls g s0_0 s0_1 s0_2 91 t166 t167 t168 t169 w0 _ ?side1 ?side2 A2.out).mono ?_) | (with_reducible refine (calls_of_args ?_ (impl_reader_take.calls g s0_0 s0_1 s0_2 91 t166 t167 t168 t169 w0 _ ?side1 ?side2 A2.out)).mono ?_; focus (simp [*]; done))); (case side1 => repeat (first | (with_reducible first | exact HI0.out | apply IsS91.alloc | apply IsS91.drewN | apply IsS91.drew | apply IsS91.set_0 | apply IsS91.set_1 | apply IsS91.set_2) | exact HI0.out)); (case side2 => repeat (first | (with_reducible first | exact HB.out | apply below_alloc | apply pw_below_drewN | apply below_drew1 | refine below_set ?_ (IsS91.ge HI0.out)) | exact HB.out)); rintro e w22 ⟨rfl, hi, hb, hk⟩; have n0_ := Aside0.mk (KeepBut.trans (by repeat (first | (with_reducible first | exact HK.out | apply KeepBut.set_ | apply keep_drewN | apply keep_drew | apply keep_alloc) | exact HK.out)) hk (.inl rfl)); have n1_ := Aside0.mk (hb); have n2_ := Aside0.mk (hi); clear HK; clear HB; clear HI0; have HK := n0_; have HB := n1_; have HI0 := n2_; clear n0_ n1_ n2_; (try clear hb); (try clear hb2); (try clear hk); (try clear hi)) | (go_at_call 101; (first | (with_reducible refine (impl_reader_take.calls g t167 t168 t169 73 false t171 t172 t173 w0 _ ?side1 ?side2 A3.out).mono ?_) | (with_reducible refine (calls_of_args ?_ (impl_reader_take.calls g t167 t168 t169 73 false t171 t172 t173 w0 _ ?side1 ?side2 A3.out)).mono ?_; focus (simp [*]; done))); (case side1 => repeat (first | (with_reducible first | exact HI0.out | apply IsS91.alloc | apply IsS91.drewN | apply IsS91.drew | apply IsS91.set_0 | apply IsS91.set_1 | apply IsS91.set_2) | exact HI0.out)); (case side2 => repeat (first | (with_reducible first | exact HB.out | apply below_alloc | apply pw_below_drewN | apply below_drew1 | refine below_set ?_ (IsS91.ge HI0.out)) | exact HB.out)); rintro e w23 ⟨rfl, hi, hb, hk⟩; have n0_ := Aside0.mk (KeepBut.trans (by repeat (first | (with_reducible first | exact HK.out | apply KeepBut.set_ | apply keep_drewN | apply keep_drew | apply keep_alloc) | exact HK.out)) hk (.inl rfl)); have n1_ := Aside0.mk (hb); have n2_ := Aside0.mk (hi); clear HK; clear HB; clear HI0; have HK := n0_; have HB := n1_; have HI0 := n2_; clear n0_ n1_ n2_; (try clear hb); (try clear hb2); (try clear hk); (try clear hi)) | (go_at_call 101; (first | (with_reducible refine (impl_reader_take.calls g t171 t172 t173 76 true t175 t176 t177 w0 _ ?side1 ?side2 A17.out).mono ?_) | (with_reducible refine (calls_of_args ?_ (impl_reader_take.calls g t171 t172 t173 76 true t175 t176 t177 w0 _ ?side1 ?side2 A17.out)).mono ?_; focus (simp [*]; done))); (case side1 => repeat (first | (with_reducible first | exact HI0.out | apply IsS91.alloc | apply IsS91.drewN | apply IsS91.drew | apply IsS91.set_0 | apply IsS91.set_1 | apply IsS91.set_2) | exact HI0.out)); (case side2 => repeat (first | (with_reducible first | exact HB.out | apply below_alloc | apply pw_below_drewN | apply below_drew1 | refine below_set ?_ (IsS91.ge HI0.out)) | exact HB.out)); rintro e w24 ⟨rfl, hi, hb, hk⟩; have n0_ := Aside0.mk (KeepBut.trans (by repeat (first | (with_reducible first | exact HK.out | apply KeepBut.set_ | apply keep_drewN | apply keep_drew | apply keep_alloc) | exact HK.out)) hk (.inl rfl)); have n1_ := Aside0.mk (hb); have n2_ := Aside0.mk (hi); clear HK; clear HB; clear HI0; have HK := n0_; have HB := n1_; have HI0 := n2_; clear n0_ n1_ n2_; (try clear hb); (try clear hb2); (try clear hk); (try clear hi)) | (go_at_call 106; (first | (with_reducible refine (impl_reader_name.calls k g t175 t176 t177 t178 t179 true w0 _ ?side1 ?side2 A19.out).mono ?_) | (with_reducible refine (calls_of_args ?_ (impl_reader_name.calls k g t175 t176 t177 t178 t179 true w0 _ ?side1 ?side2 A19.out)).mono ?_; focus (simp [*]; done))); (case side1 => repeat (first | (with_reducible first | exact HI0.out | apply IsS91.alloc | apply IsS91.drewN | apply IsS91.drew | apply IsS91.set_0 | apply IsS91.set_1 | apply IsS91.set_2) | exact HI0.out)); (case side2 => repeat (first | (with_reducible first | exact HB.out | apply below_alloc | apply pw_below_drewN | apply below_drew1 | refine below_set ?_ (IsS91.ge HI0.out)) | exact HB.out)); rintro e w25 ⟨rfl, hi, hb, hk⟩; have n0_ := Aside0.mk (KeepBut.trans (by repeat (first | (with_reducible first | exact HK.out | apply KeepBut.set_ | apply keep_drewN | apply keep_drew | apply keep_alloc) | exact HK.out)) hk (.inl rfl)); have n1_ := Aside0.mk (hb); have n2_ := Aside0.mk (hi); clear HK; clear HB; clear HI0; have HK := n0_; have HB := n1_; have HI0 := n2_; clear n0_ n1_ n2_; (try clear hb); (try clear hb2); (try clear hk); (try clear hi); obtain ⟨HGz26, hgz26⟩ := HI0.out; have hcz26_0 := cellS91_0 HGz26; have hcz26_1 := cellS91_1 HGz26; have hcz26_2 := cellS91_2 HGz26; have hfz26_0 := blk_frozen HGz26 0; have hfz26_1 := blk_frozen HGz26 1; have hfz26_2 := blk_frozen HGz26 2; clear HGz26 hgz26))
        repeat (go_quiet (first | (go_at_call 101; (first | (with_reducible refine (impl_reader_take.calls g s0_0 s0_1 s0_2 91 t166 t167 t168 t169 w0 _ ?side1 ?side2 A2.out).mono ?_) | (with_reducible refine (calls_of_args ?_ (impl_reader_take.calls g s0_0 s0_1 s0_2 91 t166 t167 t168 t169 w0 _ ?side1 ?side2 A2.out)).mono ?_; focus (simp [*]; done))); (case side1 => repeat (first | (with_reducible first | exact HI0.out | apply IsS91.alloc | apply IsS91.drewN | apply IsS91.drew | apply IsS91.set_0 | apply IsS91.set_1 | apply IsS91.set_2) | exact HI0.out)); (case side2 => repeat (first | (with_reducible first | exact HB.out | apply below_alloc | apply pw_below_drewN | apply below_drew1 | refine below_set ?_ (IsS91.ge HI0.out)) | exact HB.out)); rintro e w22 ⟨rfl, hi, hb, hk⟩; have n0_ := Aside0.mk (KeepBut.trans (by repeat (first | (with_reducible first | exact HK.out | apply KeepBut.set_ | apply keep_drewN | apply keep_drew | apply keep_alloc) | exact HK.out)) hk (.inl rfl)); have n1_ := Aside0.mk (hb); have n2_ := Aside0.mk (hi); clear HK; clear HB; clear HI0; have HK := n0_; have HB := n1_; have HI0 := n2_; clear n0_ n1_ n2_; (try clear hb); (try clear hb2); (try clear hk); (try clear hi)) | (go_at_call 101; (first | (with_reducible refine (impl_reader_take.calls g t167 t168 t169 73 false t171 t172 t173 w0 _ ?side1 ?side2 A3.out).mono ?_) | (with_reducible refine (calls_of_args ?_ (impl_reader_take.calls g t167 t168 t169 73 false t171 t172 t173 w0 _ ?side1 ?side2 A3.out)).mono ?_; focus (simp [*]; done))); (case side1 => repeat (first | (with_reducible first | exact HI0.out | apply IsS91.alloc | apply IsS91.drewN | apply IsS91.drew | apply IsS91.set_0 | apply IsS91.set_1 | apply IsS91.set_2) | exact HI0.out)); (case side2 => repeat (first | (with_reducible first | exact HB.out | apply below_alloc | apply pw_below_drewN | apply below_drew1 | refine below_set ?_ (IsS91.ge HI0.out)) | exact HB.out)); rintro e w23 ⟨rfl, hi, hb, hk⟩; have n0_ := Aside0.mk (KeepBut.trans (by repeat (first | (with_reducible first | exact HK.out | apply KeepBut.set_ | apply keep_drewN | apply keep_drew | apply keep_alloc) | exact HK.out)) hk (.inl rfl)); have n1_ := Aside0.mk (hb); have n2_ := Aside0.mk (hi); clear HK; clear HB; clear HI0; have HK := n0_; have HB := n1_; have HI0 := n2_; clear n0_ n1_ n2_; (try clear hb); (try clear hb2); (try clear hk); (try clear hi)) | (go_at_call 101; (first | (with_reducible refine (impl_reader_take.calls g t171 t172 t173 76 true t175 t176 t177 w0 _ ?side1 ?side2 A17.out).mono ?_) | (with_reducible refine (calls_of_args ?_ (impl_reader_take.calls g t171 t172 t173 76 true t175 t176 t177 w0 _ ?side1 ?side2 A17.out)).mono ?_; focus (simp [*]; done))); (case side1 => repeat (first | (with_reducible first | exact HI0.out | apply IsS91.alloc | apply IsS91.drewN | apply IsS91.drew | apply IsS91.set_0 | apply IsS91.set_1 | apply IsS91.set_2) | exact HI0.out)); (case side2 => repeat (first | (with_reducible first | exact HB.out | apply below_alloc | apply pw_below_drewN | apply below_drew1 | refine below_set ?_ (IsS91.ge HI0.out)) | exact HB.out)); rintro e w24 ⟨rfl, hi, hb, hk⟩; have n0_ := Aside0.mk (KeepBut.trans (by repeat (first | (with_reducible first | exact HK.out | apply KeepBut.set_ | apply keep_drewN | apply keep_drew | apply keep_alloc) | exact HK.out)) hk (.inl rfl)); have n1_ := Aside0.mk (hb); have n2_ := Aside0.mk (hi); clear HK; clear HB; clear HI0; have HK := n0_; have HB := n1_; have HI0 := n2_; clear n0_ n1_ n2_; (try clear hb); (try clear hb2); (try clear hk); (try clear hi)) | (go_at_call 106; (first | (with_reducible refine (impl_reader_name.calls k g t175 t176 t177 t178 t179 true w0 _ ?side1 ?side2 A19.out).mono ?_) | (with_reducible refine (calls_of_args ?_ (impl_reader_name.calls k g t175 t176 t177 t178 t179 true w0 _ ?side1 ?side2 A19.out)).mono ?_; focus (simp [*]; done))); (case side1 => repeat (first | (with_reducible first | exact HI0.out | apply IsS91.alloc | apply IsS91.drewN | apply IsS91.drew | apply IsS91.set_0 | apply IsS91.set_1 | apply IsS91.set_2) | exact HI0.out)); (case side2 => repeat (first | (with_reducible first | exact HB.out | apply below_alloc | apply pw_below_drewN | apply below_drew1 | refine below_set ?_ (IsS91.ge HI0.out)) | exact HB.out)); rintro e w25 ⟨rfl, hi, hb, hk⟩; have n0_ := Aside0.mk (KeepBut.trans (by repeat (first | (with_reducible first | exact HK.out | apply KeepBut.set_ | apply keep_drewN | apply keep_drew | apply keep_alloc) | exact HK.out)) hk (.inl rfl)); have n1_ := Aside0.mk (hb); have n2_ := Aside0.mk (hi); clear HK; clear HB; clear HI0; have HK := n0_; have HB := n1_; have HI0 := n2_; clear n0_ n1_ n2_; (try clear hb); (try clear hb2); (try clear hk); (try clear hi); obtain ⟨HGz26, hgz26⟩ := HI0.out; have hcz26_0 := cellS91_0 HGz26; have hcz26_1 := cellS91_1 HGz26; have hcz26_2 := cellS91_2 HGz26; have hfz26_0 := blk_frozen HGz26 0; have hfz26_1 := blk_frozen HGz26 1; have hfz26_2 := blk_frozen HGz26 2; clear HGz26 hgz26)); try go_wp2_with (first | (go_at_call 101; (first | (with_reducible refine (impl_reader_take.calls g s0_0 s0_1 s0_2 91 t166 t167 t168 t169 w0 _ ?side1 ?side2 A2.out).mono ?_) | (with_reducible refine (calls_of_args ?_ (impl_reader_take.calls g s0_0 s0_1 s0_2 91 t166 t167 t168 t169 w0 _ ?side1 ?side2 A2.out)).mono ?_; focus (simp [*]; done))); (case side1 => repeat (first | (with_reducible first | exact HI0.out | apply IsS91.alloc | apply IsS91.drewN | apply IsS91.drew | apply IsS91.set_0 | apply IsS91.set_1 | apply IsS91.set_2) | exact HI0.out)); (case side2 => repeat (first | (with_reducible first | exact HB.out | apply below_alloc | apply pw_below_drewN | apply below_drew1 | refine below_set ?_ (IsS91.ge HI0.out)) | exact HB.out)); rintro e w22 ⟨rfl, hi, hb, hk⟩; have n0_ := Aside0.mk (KeepBut.trans (by repeat (first | (with_reducible first | exact HK.out | apply KeepBut.set_ | apply keep_drewN | apply keep_drew | apply keep_alloc) | exact HK.out)) hk (.inl rfl)); have n1_ := Aside0.mk (hb); have n2_ := Aside0.mk (hi); clear HK; clear HB; clear HI0; have HK := n0_; have HB := n1_; have HI0 := n2_; clear n0_ n1_ n2_; (try clear hb); (try clear hb2); (try clear hk); (try clear hi)) | (go_at_call 101; (first | (with_reducible refine (impl_reader_take.calls g t167 t168 t169 73 false t171 t172 t173 w0 _ ?side1 ?side2 A3.out).mono ?_) | (with_reducible refine (calls_of_args ?_ (impl_reader_take.calls g t167 t168 t169 73 false t171 t172 t173 w0 _ ?side1 ?side2 A3.out)).mono ?_; focus (simp [*]; done))); (case side1 => repeat (first | (with_reducible first | exact HI0.out | apply IsS91.alloc | apply IsS91.drewN | apply IsS91.drew | apply IsS91.set_0 | apply IsS91.set_1 | apply IsS91.set_2) | exact HI0.out)); (case side2 => repeat (first | (with_reducible first | exact HB.out | apply below_alloc | apply pw_below_drewN | apply below_drew1 | refine below_set ?_ (IsS91.ge HI0.out)) | exact HB.out)); rintro e w23 ⟨rfl, hi, hb, hk⟩; have n0_ := Aside0.mk (KeepBut.trans (by repeat (first | (with_reducible first | exact HK.out | apply KeepBut.set_ | apply keep_drewN | apply keep_drew | apply keep_alloc) | exact HK.out)) hk (.inl rfl)); have n1_ := Aside0.mk (hb); have n2_ := Aside0.mk (hi); clear HK; clear HB; clear HI0; have HK := n0_; have HB := n1_; have HI0 := n2_; clear n0_ n1_ n2_; (try clear hb); (try clear hb2); (try clear hk); (try clear hi)) | (go_at_call 101; (first | (with_reducible refine (impl_reader_take.calls g t171 t172 t173 76 true t175 t176 t177 w0 _ ?side1 ?side2 A17.out).mono ?_) | (with_reducible refine (calls_of_args ?_ (impl_reader_take.calls g t171 t172 t173 76 true t175 t176 t177 w0 _ ?side1 ?side2 A17.out)).mono ?_; focus (simp [*]; done))); (case side1 => repeat (first | (with_reducible first | exact HI0.out | apply IsS91.alloc | apply IsS91.drewN | apply IsS91.drew | apply IsS91.set_0 | apply IsS91.set_1 | apply IsS91.set_2) | exact HI0.out)); (case side2 => repeat (first | (with_reducible first | exact HB.out | apply below_alloc | apply pw_below_drewN | apply below_drew1 | refine below_set ?_ (IsS91.ge HI0.out)) | exact HB.out)); rintro e w24 ⟨rfl, hi, hb, hk⟩; have n0_ := Aside0.mk (KeepBut.trans (by repeat (first | (with_reducible first | exact HK.out | apply KeepBut.set_ | apply keep_drewN | apply keep_drew | apply keep_alloc) | exact HK.out)) hk (.inl rfl)); have n1_ := Aside0.mk (hb); have n2_ := Aside0.mk (hi); clear HK; clear HB; clear HI0; have HK := n0_; have HB := n1_; have HI0 := n2_; clear n0_ n1_ n2_; (try clear hb); (try clear hb2); (try clear hk); (try clear hi)) | (go_at_call 106; (first | (with_reducible refine (impl_reader_name.calls k g t175 t176 t177 t178 t179 true w0 _ ?side1 ?side2 A19.out).mono ?_) | (with_reducible refine (calls_of_args ?_ (impl_reader_name.calls k g t175 t176 t177 t178 t179 true w0 _ ?side1 ?side2 A19.out)).mono ?_; focus (simp [*]; done))); (case side1 => repeat (first | (with_reducible first | exact HI0.out | apply IsS91.alloc | apply IsS91.drewN | apply IsS91.drew | apply IsS91.set_0 | apply IsS91.set_1 | apply IsS91.set_2) | exact HI0.out)); (case side2 => repeat (first | (with_reducible first | exact HB.out | apply below_alloc | apply pw_below_drewN | apply below_drew1 | refine below_set ?_ (IsS91.ge HI0.out)) | exact HB.out)); rintro e w25 ⟨rfl, hi, hb, hk⟩; have n0_ := Aside0.mk (KeepBut.trans (by repeat (first | (with_reducible first | exact HK.out | apply KeepBut.set_ | apply keep_drewN | apply keep_drew | apply keep_alloc) | exact HK.out)) hk (.inl rfl)); have n1_ := Aside0.mk (hb); have n2_ := Aside0.mk (hi); clear HK; clear HB; clear HI0; have HK := n0_; have HB := n1_; have HI0 := n2_; clear n0_ n1_ n2_; (try clear hb); (try clear hb2); (try clear hk); (try clear hi); obtain ⟨HGz26, hgz26⟩ := HI0.out; have hcz26_0 := cellS91_0 HGz26; have hcz26_1 := cellS91_1 HGz26; have hcz26_2 := cellS91_2 HGz26; have hfz26_0 := blk_frozen HGz26 0; have hfz26_1 := blk_frozen HGz26 1; have hfz26_2 := blk_frozen HGz26 2; clear HGz26 hgz26)))
        go_ret
        exact ⟨by first | rfl | (simp [errW_none, errW_some] <;> rfl) | (simp [*, errW_none, errW_some] <;> rfl), by repeat (first | (with_reducible first | exact HI0.out | apply IsS91.alloc | apply IsS91.drewN | apply IsS91.drew | apply IsS91.set_0 | apply IsS91.set_1 | apply IsS91.set_2) | exact HI0.out), by repeat (first | (with_reducible first | exact HB.out | apply below_alloc | apply pw_below_drewN | apply below_drew1 | refine below_set ?_ (IsS91.ge HI0.out)) | exact HB.out), by repeat (first | (with_reducible first | exact HK.out | apply KeepBut.set_ | apply keep_drewN | apply keep_drew | apply keep_alloc) | exact HK.out)⟩
      · replace c20 := Bool.eq_false_iff.mpr c20
        subst c20
        have H1 : (if 0 ≤ s0_1 then (if s0_1 ≤ t179 then (if t179 ≤ (t178.size : Int) then (some (t178.extract (s0_1 : Int).toNat (t179 : Int).toNat, t178, t179, false)) else (none)) else (none)) else (none)) = some (r1, r2, r3, r4) := by rw [if_neg (show ¬ (false = true) by decide)] at H; exact H
        clear H
        have H := H1
        clear H1
        by_cases c27 : 0 ≤ s0_1
        · rw [if_pos c27] at H
          have c27b0 := eq_true c27
          have c27b1 : decide (0 ≤ s0_1) = true := decide_eq_true c27
          clear c27
          by_cases c28 : s0_1 ≤ t179
          · rw [if_pos c28] at H
            have c28b0 := eq_true c28
            have c28b1 : decide (s0_1 ≤ t179) = true := decide_eq_true c28
            clear c28
            by_cases c29 : t179 ≤ (t178.size : Int)
            · rw [if_pos c29] at H
              have c29b0 := eq_true c29
              have c29b1 : decide (t179 ≤ (t178.size : Int)) = true := decide_eq_true c29
              clear c29
              simp only [Option.some.injEq, Prod.mk.injEq] at H
              obtain ⟨rfl, rfl, rfl, rfl⟩ := H
              obtain ⟨HGz30, hgz30⟩ := HI0.out
              have hcz30_0 := cellS91_0 HGz30
              have hcz30_1 := cellS91_1 HGz30
              have hcz30_2 := cellS91_2 HGz30
              have hfz30_0 := blk_frozen HGz30 0
              have hfz30_1 := blk_frozen HGz30 1
              have hfz30_2 := blk_frozen HGz30 2
              clear HGz30 hgz30
              go_enter Try.func89, Try.ntmps89
              go_wp2_with (first | (go_at_call 101; (first | (with_reducible refine (impl_reader_take.calls g s0_0 s0_1 s0_2 91 t166 t167 t168 t169 w0 _ ?side1 ?side2 A2.out).mono ?_) | (with_reducible refine (calls_of_args ?_ (impl_reader_take.calls g s0_0 s0_1 s0_2 91 t166 t167 t168 t169 w0 _ ?side1 ?side2 A2.out)).mono ?_; focus (simp [*]; done))); (case side1 => repeat (first | (with_reducible first | exact HI0.out | apply IsS91.alloc | apply IsS91.drewN | apply IsS91.drew | apply IsS91.set_0 | apply IsS91.set_1 | apply IsS91.set_2) | exact HI0.out)); (case side2 => repeat (first | (with_reducible first | exact HB.out | apply below_alloc | apply pw_below_drewN | apply below_drew1 | refine below_set ?_ (IsS91.ge HI0.out)) | exact HB.out)); rintro e w31 ⟨rfl, hi, hb, hk⟩; have n0_ := Aside0.mk (KeepBut.trans (by repeat (first | (with_reducible first | exact HK.out | apply KeepBut.set_ | apply keep_drewN | apply keep_drew | apply keep_alloc) | exact HK.out)) hk (.inl rfl)); have n1_ := Aside0.mk (hb); have n2_ := Aside0.mk (hi); clear HK; clear HB; clear HI0; have HK := n0_; have HB := n1_; have HI0 := n2_; clear n0_ n1_ n2_; (try clear hb); (try clear hb2); (try clear hk); (try clear hi)) | (go_at_call 101; (first | (with_reducible refine (impl_reader_take.calls g t167 t168 t169 73 false t171 t172 t173 w0 _ ?side1 ?side2 A3.out).mono ?_) | (with_reducible refine (calls_of_args ?_ (impl_reader_take.calls g t167 t168 t169 73 false t171 t172 t173 w0 _ ?side1 ?side2 A3.out)).mono ?_; focus (simp [*]; done))); (case side1 => repeat (first | (with_reducible first | exact HI0.out | apply IsS91.alloc | apply IsS91.drewN | apply IsS91.drew | apply IsS91.set_0 | apply IsS91.set_1 | apply IsS91.set_2) | exact HI0.out)); (case side2 => repeat (first | (with_reducible first | exact HB.out | apply below_alloc | apply pw_below_drewN | apply below_drew1 | refine below_set ?_ (IsS91.ge HI0.out)) | exact HB.out)); rintro e w32 ⟨rfl, hi, hb, hk⟩; have n0_ := Aside0.mk (KeepBut.trans (by repeat (first | (with_reducible first | exact HK.out | apply KeepBut.set_ | apply keep_drewN | apply keep_drew | apply keep_alloc) | exact HK.out)) hk (.inl rfl)); have n1_ := Aside0.mk (hb); have n2_ := Aside0.mk (hi); clear HK; clear HB; clear HI0; have HK := n0_; have HB := n1_; have HI0 := n2_; clear n0_ n1_ n2_; (try clear hb); (try clear hb2); (try clear hk); (try clear hi)) | (go_at_call 101; (first | (with_reducible refine (impl_reader_take.calls g t171 t172 t173 76 true t175 t176 t177 w0 _ ?side1 ?side2 A17.out).mono ?_) | (with_reducible refine (calls_of_args ?_ (impl_reader_take.calls g t171 t172 t173 76 true t175 t176 t177 w0 _ ?side1 ?side2 A17.out)).mono ?_; focus (simp [*]; done))); (case side1 => repeat (first | (with_reducible first | exact HI0.out | apply IsS91.alloc | apply IsS91.drewN | apply IsS91.drew | apply IsS91.set_0 | apply IsS91.set_1 | apply IsS91.set_2) | exact HI0.out)); (case side2 => repeat (first | (with_reducible first | exact HB.out | apply below_alloc | apply pw_below_drewN | apply below_drew1 | refine below_set ?_ (IsS91.ge HI0.out)) | exact HB.out)); rintro e w33 ⟨rfl, hi, hb, hk⟩; have n0_ := Aside0.mk (KeepBut.trans (by repeat (first | (with_reducible first | exact HK.out | apply KeepBut.set_ | apply keep_drewN | apply keep_drew | apply keep_alloc) | exact HK.out)) hk (.inl rfl)); have n1_ := Aside0.mk (hb); have n2_ := Aside0.mk (hi); clear HK; clear HB; clear HI0; have HK := n0_; have HB := n1_; have HI0 := n2_; clear n0_ n1_ n2_; (try clear hb); (try clear hb2); (try clear hk); (try clear hi)) | (go_at_call 106; (first | (with_reducible refine (impl_reader_name.calls k g t175 t176 t177 t178 t179 false w0 _ ?side1 ?side2 A19.out).mono ?_) | (with_reducible refine (calls_of_args ?_ (impl_reader_name.calls k g t175 t176 t177 t178 t179 false w0 _ ?side1 ?side2 A19.out)).mono ?_; focus (simp [*]; done))); (case side1 => repeat (first | (with_reducible first | exact HI0.out | apply IsS91.alloc | apply IsS91.drewN | apply IsS91.drew | apply IsS91.set_0 | apply IsS91.set_1 | apply IsS91.set_2) | exact HI0.out)); (case side2 => repeat (first | (with_reducible first | exact HB.out | apply below_alloc | apply pw_below_drewN | apply below_drew1 | refine below_set ?_ (IsS91.ge HI0.out)) | exact HB.out)); rintro e w34 ⟨rfl, hi, hb, hk⟩; have n0_ := Aside0.mk (KeepBut.trans (by repeat (first | (with_reducible first | exact HK.out | apply KeepBut.set_ | apply keep_drewN | apply keep_drew | apply keep_alloc) | exact HK.out)) hk (.inl rfl)); have n1_ := Aside0.mk (hb); have n2_ := Aside0.mk (hi); clear HK; clear HB; clear HI0; have HK := n0_; have HB := n1_; have HI0 := n2_; clear n0_ n1_ n2_; (try clear hb); (try clear hb2); (try clear hk); (try clear hi); obtain ⟨HGz35, hgz35⟩ := HI0.out; have hcz35_0 := cellS91_0 HGz35; have hcz35_1 := cellS91_1 HGz35; have hcz35_2 := cellS91_2 HGz35; have hfz35_0 := blk_frozen HGz35 0; have hfz35_1 := blk_frozen HGz35 1; have hfz35_2 := blk_frozen HGz35 2; clear HGz35 hgz35))
              repeat (go_quiet (first | (go_at_call 101; (first | (with_reducible refine (impl_reader_take.calls g s0_0 s0_1 s0_2 91 t166 t167 t168 t169 w0 _ ?side1 ?side2 A2.out).mono ?_) | (with_reducible refine (calls_of_args ?_ (impl_reader_take.calls g s0_0 s0_1 s0_2 91 t166 t167 t168 t169 w0 _ ?side1 ?side2 A2.out)).mono ?_; focus (simp [*]; done))); (case side1 => repeat (first | (with_reducible first | exact HI0.out | apply IsS91.alloc | apply IsS91.drewN | apply IsS91.drew | apply IsS91.set_0 | apply IsS91.set_1 | apply IsS91.set_2) | exact HI0.out)); (case side2 => repeat (first | (with_reducible first | exact HB.out | apply below_alloc | apply pw_below_drewN | apply below_drew1 | refine below_set ?_ (IsS91.ge HI0.out)) | exact HB.out)); rintro e w31 ⟨rfl, hi, hb, hk⟩; have n0_ := Aside0.mk (KeepBut.trans (by repeat (first | (with_reducible first | exact HK.out | apply KeepBut.set_ | apply keep_drewN | apply keep_drew | apply keep_alloc) | exact HK.out)) hk (.inl rfl)); have n1_ := Aside0.mk (hb); have n2_ := Aside0.mk (hi); clear HK; clear HB; clear HI0; have HK := n0_; have HB := n1_; have HI0 := n2_; clear n0_ n1_ n2_; (try clear hb); (try clear hb2); (try clear hk); (try clear hi)) | (go_at_call 101; (first | (with_reducible refine (impl_reader_take.calls g t167 t168 t169 73 false t171 t172 t173 w0 _ ?side1 ?side2 A3.out).mono ?_) | (with_reducible refine (calls_of_args ?_ (impl_reader_take.calls g t167 t168 t169 73 false t171 t172 t173 w0 _ ?side1 ?side2 A3.out)).mono ?_; focus (simp [*]; done))); (case side1 => repeat (first | (with_reducible first | exact HI0.out | apply IsS91.alloc | apply IsS91.drewN | apply IsS91.drew | apply IsS91.set_0 | apply IsS91.set_1 | apply IsS91.set_2) | exact HI0.out)); (case side2 => repeat (first | (with_reducible first | exact HB.out | apply below_alloc | apply pw_below_drewN | apply below_drew1 | refine below_set ?_ (IsS91.ge HI0.out)) | exact HB.out)); rintro e w32 ⟨rfl, hi, hb, hk⟩; have n0_ := Aside0.mk (KeepBut.trans (by repeat (first | (with_reducible first | exact HK.out | apply KeepBut.set_ | apply keep_drewN | apply keep_drew | apply keep_alloc) | exact HK.out)) hk (.inl rfl)); have n1_ := Aside0.mk (hb); have n2_ := Aside0.mk (hi); clear HK; clear HB; clear HI0; have HK := n0_; have HB := n1_; have HI0 := n2_; clear n0_ n1_ n2_; (try clear hb); (try clear hb2); (try clear hk); (try clear hi)) | (go_at_call 101; (first | (with_reducible refine (impl_reader_take.calls g t171 t172 t173 76 true t175 t176 t177 w0 _ ?side1 ?side2 A17.out).mono ?_) | (with_reducible refine (calls_of_args ?_ (impl_reader_take.calls g t171 t172 t173 76 true t175 t176 t177 w0 _ ?side1 ?side2 A17.out)).mono ?_; focus (simp [*]; done))); (case side1 => repeat (first | (with_reducible first | exact HI0.out | apply IsS91.alloc | apply IsS91.drewN | apply IsS91.drew | apply IsS91.set_0 | apply IsS91.set_1 | apply IsS91.set_2) | exact HI0.out)); (case side2 => repeat (first | (with_reducible first | exact HB.out | apply below_alloc | apply pw_below_drewN | apply below_drew1 | refine below_set ?_ (IsS91.ge HI0.out)) | exact HB.out)); rintro e w33 ⟨rfl, hi, hb, hk⟩; have n0_ := Aside0.mk (KeepBut.trans (by repeat (first | (with_reducible first | exact HK.out | apply KeepBut.set_ | apply keep_drewN | apply keep_drew | apply keep_alloc) | exact HK.out)) hk (.inl rfl)); have n1_ := Aside0.mk (hb); have n2_ := Aside0.mk (hi); clear HK; clear HB; clear HI0; have HK := n0_; have HB := n1_; have HI0 := n2_; clear n0_ n1_ n2_; (try clear hb); (try clear hb2); (try clear hk); (try clear hi)) | (go_at_call 106; (first | (with_reducible refine (impl_reader_name.calls k g t175 t176 t177 t178 t179 false w0 _ ?side1 ?side2 A19.out).mono ?_) | (with_reducible refine (calls_of_args ?_ (impl_reader_name.calls k g t175 t176 t177 t178 t179 false w0 _ ?side1 ?side2 A19.out)).mono ?_; focus (simp [*]; done))); (case side1 => repeat (first | (with_reducible first | exact HI0.out | apply IsS91.alloc | apply IsS91.drewN | apply IsS91.drew | apply IsS91.set_0 | apply IsS91.set_1 | apply IsS91.set_2) | exact HI0.out)); (case side2 => repeat (first | (with_reducible first | exact HB.out | apply below_alloc | apply pw_below_drewN | apply below_drew1 | refine below_set ?_ (IsS91.ge HI0.out)) | exact HB.out)); rintro e w34 ⟨rfl, hi, hb, hk⟩; have n0_ := Aside0.mk (KeepBut.trans (by repeat (first | (with_reducible first | exact HK.out | apply KeepBut.set_ | apply keep_drewN | apply keep_drew | apply keep_alloc) | exact HK.out)) hk (.inl rfl)); have n1_ := Aside0.mk (hb); have n2_ := Aside0.mk (hi); clear HK; clear HB; clear HI0; have HK := n0_; have HB := n1_; have HI0 := n2_; clear n0_ n1_ n2_; (try clear hb); (try clear hb2); (try clear hk); (try clear hi); obtain ⟨HGz35, hgz35⟩ := HI0.out; have hcz35_0 := cellS91_0 HGz35; have hcz35_1 := cellS91_1 HGz35; have hcz35_2 := cellS91_2 HGz35; have hfz35_0 := blk_frozen HGz35 0; have hfz35_1 := blk_frozen HGz35 1; have hfz35_2 := blk_frozen HGz35 2; clear HGz35 hgz35)); try go_wp2_with (first | (go_at_call 101; (first | (with_reducible refine (impl_reader_take.calls g s0_0 s0_1 s0_2 91 t166 t167 t168 t169 w0 _ ?side1 ?side2 A2.out).mono ?_) | (with_reducible refine (calls_of_args ?_ (impl_reader_take.calls g s0_0 s0_1 s0_2 91 t166 t167 t168 t169 w0 _ ?side1 ?side2 A2.out)).mono ?_; focus (simp [*]; done))); (case side1 => repeat (first | (with_reducible first | exact HI0.out | apply IsS91.alloc | apply IsS91.drewN | apply IsS91.drew | apply IsS91.set_0 | apply IsS91.set_1 | apply IsS91.set_2) | exact HI0.out)); (case side2 => repeat (first | (with_reducible first | exact HB.out | apply below_alloc | apply pw_below_drewN | apply below_drew1 | refine below_set ?_ (IsS91.ge HI0.out)) | exact HB.out)); rintro e w31 ⟨rfl, hi, hb, hk⟩; have n0_ := Aside0.mk (KeepBut.trans (by repeat (first | (with_reducible first | exact HK.out | apply KeepBut.set_ | apply keep_drewN | apply keep_drew | apply keep_alloc) | exact HK.out)) hk (.inl rfl)); have n1_ := Aside0.mk (hb); have n2_ := Aside0.mk (hi); clear HK; clear HB; clear HI0; have HK := n0_; have HB := n1_; have HI0 := n2_; clear n0_ n1_ n2_; (try clear hb); (try clear hb2); (try clear hk); (try clear hi)) | (go_at_call 101; (first | (with_reducible refine (impl_reader_take.calls g t167 t168 t169 73 false t171 t172 t173 w0 _ ?side1 ?side2 A3.out).mono ?_) | (with_reducible refine (calls_of_args ?_ (impl_reader_take.calls g t167 t168 t169 73 false t171 t172 t173 w0 _ ?side1 ?side2 A3.out)).mono ?_; focus (simp [*]; done))); (case side1 => repeat (first | (with_reducible first | exact HI0.out | apply IsS91.alloc | apply IsS91.drewN | apply IsS91.drew | apply IsS91.set_0 | apply IsS91.set_1 | apply IsS91.set_2) | exact HI0.out)); (case side2 => repeat (first | (with_reducible first | exact HB.out | apply below_alloc | apply pw_below_drewN | apply below_drew1 | refine below_set ?_ (IsS91.ge HI0.out)) | exact HB.out)); rintro e w32 ⟨rfl, hi, hb, hk⟩; have n0_ := Aside0.mk (KeepBut.trans (by repeat (first | (with_reducible first | exact HK.out | apply KeepBut.set_ | apply keep_drewN | apply keep_drew | apply keep_alloc) | exact HK.out)) hk (.inl rfl)); have n1_ := Aside0.mk (hb); have n2_ := Aside0.mk (hi); clear HK; clear HB; clear HI0; have HK := n0_; have HB := n1_; have HI0 := n2_; clear n0_ n1_ n2_; (try clear hb); (try clear hb2); (try clear hk); (try clear hi)) | (go_at_call 101; (first | (with_reducible refine (impl_reader_take.calls g t171 t172 t173 76 true t175 t176 t177 w0 _ ?side1 ?side2 A17.out).mono ?_) | (with_reducible refine (calls_of_args ?_ (impl_reader_take.calls g t171 t172 t173 76 true t175 t176 t177 w0 _ ?side1 ?side2 A17.out)).mono ?_; focus (simp [*]; done))); (case side1 => repeat (first | (with_reducible first | exact HI0.out | apply IsS91.alloc | apply IsS91.drewN | apply IsS91.drew | apply IsS91.set_0 | apply IsS91.set_1 | apply IsS91.set_2) | exact HI0.out)); (case side2 => repeat (first | (with_reducible first | exact HB.out | apply below_alloc | apply pw_below_drewN | apply below_drew1 | refine below_set ?_ (IsS91.ge HI0.out)) | exact HB.out)); rintro e w33 ⟨rfl, hi, hb, hk⟩; have n0_ := Aside0.mk (KeepBut.trans (by repeat (first | (with_reducible first | exact HK.out | apply KeepBut.set_ | apply keep_drewN | apply keep_drew | apply keep_alloc) | exact HK.out)) hk (.inl rfl)); have n1_ := Aside0.mk (hb); have n2_ := Aside0.mk (hi); clear HK; clear HB; clear HI0; have HK := n0_; have HB := n1_; have HI0 := n2_; clear n0_ n1_ n2_; (try clear hb); (try clear hb2); (try clear hk); (try clear hi)) | (go_at_call 106; (first | (with_reducible refine (impl_reader_name.calls k g t175 t176 t177 t178 t179 false w0 _ ?side1 ?side2 A19.out).mono ?_) | (with_reducible refine (calls_of_args ?_ (impl_reader_name.calls k g t175 t176 t177 t178 t179 false w0 _ ?side1 ?side2 A19.out)).mono ?_; focus (simp [*]; done))); (case side1 => repeat (first | (with_reducible first | exact HI0.out | apply IsS91.alloc | apply IsS91.drewN | apply IsS91.drew | apply IsS91.set_0 | apply IsS91.set_1 | apply IsS91.set_2) | exact HI0.out)); (case side2 => repeat (first | (with_reducible first | exact HB.out | apply below_alloc | apply pw_below_drewN | apply below_drew1 | refine below_set ?_ (IsS91.ge HI0.out)) | exact HB.out)); rintro e w34 ⟨rfl, hi, hb, hk⟩; have n0_ := Aside0.mk (KeepBut.trans (by repeat (first | (with_reducible first | exact HK.out | apply KeepBut.set_ | apply keep_drewN | apply keep_drew | apply keep_alloc) | exact HK.out)) hk (.inl rfl)); have n1_ := Aside0.mk (hb); have n2_ := Aside0.mk (hi); clear HK; clear HB; clear HI0; have HK := n0_; have HB := n1_; have HI0 := n2_; clear n0_ n1_ n2_; (try clear hb); (try clear hb2); (try clear hk); (try clear hi); obtain ⟨HGz35, hgz35⟩ := HI0.out; have hcz35_0 := cellS91_0 HGz35; have hcz35_1 := cellS91_1 HGz35; have hcz35_2 := cellS91_2 HGz35; have hfz35_0 := blk_frozen HGz35 0; have hfz35_1 := blk_frozen HGz35 1; have hfz35_2 := blk_frozen HGz35 2; clear HGz35 hgz35)))
              go_ret
              exact ⟨by first | rfl | (simp [errW_none, errW_some] <;> rfl) | (simp [*, errW_none, errW_some] <;> rfl), by repeat (first | (with_reducible first | exact HI0.out | apply IsS91.alloc | apply IsS91.drewN | apply IsS91.drew | apply IsS91.set_0 | apply IsS91.set_1 | apply IsS91.set_2) | exact HI0.out), by repeat (first | (with_reducible first | exact HB.out | apply below_alloc | apply pw_below_drewN | apply below_drew1 | refine below_set ?_ (IsS91.ge HI0.out)) | exact HB.out), by repeat (first | (with_reducible first | exact HK.out | apply KeepBut.set_ | apply keep_drewN | apply keep_drew | apply keep_alloc) | exact HK.out)⟩
            · rw [if_neg c29] at H
              exact absurd H (by simp)
          · rw [if_neg c28] at H
            exact absurd H (by simp)
        · rw [if_neg c27] at H
          exact absurd H (by simp)
    · replace c18 := Bool.eq_false_iff.mpr c18
      subst c18
      have H1 : (some ((⟨#[]⟩ : ByteArray), t175, t176, true)) = some (r1, r2, r3, r4) := by rw [if_neg (show ¬ (false = true) by decide)] at H; exact H
      clear H
      have H := H1
      clear H1
      simp only [Option.some.injEq, Prod.mk.injEq] at H
      obtain ⟨rfl, rfl, rfl, rfl⟩ := H
      obtain ⟨HGz36, hgz36⟩ := HI0.out
      have hcz36_0 := cellS91_0 HGz36
      have hcz36_1 := cellS91_1 HGz36
      have hcz36_2 := cellS91_2 HGz36
      have hfz36_0 := blk_frozen HGz36 0
      have hfz36_1 := blk_frozen HGz36 1
      have hfz36_2 := blk_frozen HGz36 2
      clear HGz36 hgz36
      go_enter Try.func89, Try.ntmps89
      go_wp2_with (first | (go_at_call 101; (first | (with_reducible refine (impl_reader_take.calls g s0_0 s0_1 s0_2 91 t166 t167 t168 t169 w0 _ ?side1 ?side2 A2.out).mono ?_) | (with_reducible refine (calls_of_args ?_ (impl_reader_take.calls g s0_0 s0_1 s0_2 91 t166 t167 t168 t169 w0 _ ?side1 ?side2 A2.out)).mono ?_; focus (simp [*]; done))); (case side1 => repeat (first | (with_reducible first | exact HI0.out | apply IsS91.alloc | apply IsS91.drewN | apply IsS91.drew | apply IsS91.set_0 | apply IsS91.set_1 | apply IsS91.set_2) | exact HI0.out)); (case side2 => repeat (first | (with_reducible first | exact HB.out | apply below_alloc | apply pw_below_drewN | apply below_drew1 | refine below_set ?_ (IsS91.ge HI0.out)) | exact HB.out)); rintro e w37 ⟨rfl, hi, hb, hk⟩; have n0_ := Aside0.mk (KeepBut.trans (by repeat (first | (with_reducible first | exact HK.out | apply KeepBut.set_ | apply keep_drewN | apply keep_drew | apply keep_alloc) | exact HK.out)) hk (.inl rfl)); have n1_ := Aside0.mk (hb); have n2_ := Aside0.mk (hi); clear HK; clear HB; clear HI0; have HK := n0_; have HB := n1_; have HI0 := n2_; clear n0_ n1_ n2_; (try clear hb); (try clear hb2); (try clear hk); (try clear hi)) | (go_at_call 101; (first | (with_reducible refine (impl_reader_take.calls g t167 t168 t169 73 false t171 t172 t173 w0 _ ?side1 ?side2 A3.out).mono ?_) | (with_reducible refine (calls_of_args ?_ (impl_reader_take.calls g t167 t168 t169 73 false t171 t172 t173 w0 _ ?side1 ?side2 A3.out)).mono ?_; focus (simp [*]; done))); (case side1 => repeat (first | (with_reducible first | exact HI0.out | apply IsS91.alloc | apply IsS91.drewN | apply IsS91.drew | apply IsS91.set_0 | apply IsS91.set_1 | apply IsS91.set_2) | exact HI0.out)); (case side2 => repeat (first | (with_reducible first | exact HB.out | apply below_alloc | apply pw_below_drewN | apply below_drew1 | refine below_set ?_ (IsS91.ge HI0.out)) | exact HB.out)); rintro e w38 ⟨rfl, hi, hb, hk⟩; have n0_ := Aside0.mk (KeepBut.trans (by repeat (first | (with_reducible first | exact HK.out | apply KeepBut.set_ | apply keep_drewN | apply keep_drew | apply keep_alloc) | exact HK.out)) hk (.inl rfl)); have n1_ := Aside0.mk (hb); have n2_ := Aside0.mk (hi); clear HK; clear HB; clear HI0; have HK := n0_; have HB := n1_; have HI0 := n2_; clear n0_ n1_ n2_; (try clear hb); (try clear hb2); (try clear hk); (try clear hi)) | (go_at_call 101; (first | (with_reducible refine (impl_reader_take.calls g t171 t172 t173 76 false t175 t176 t177 w0 _ ?side1 ?side2 A17.out).mono ?_) | (with_reducible refine (calls_of_args ?_ (impl_reader_take.calls g t171 t172 t173 76 false t175 t176 t177 w0 _ ?side1 ?side2 A17.out)).mono ?_; focus (simp [*]; done))); (case side1 => repeat (first | (with_reducible first | exact HI0.out | apply IsS91.alloc | apply IsS91.drewN | apply IsS91.drew | apply IsS91.set_0 | apply IsS91.set_1 | apply IsS91.set_2) | exact HI0.out)); (case side2 => repeat (first | (with_reducible first | exact HB.out | apply below_alloc | apply pw_below_drewN | apply below_drew1 | refine below_set ?_ (IsS91.ge HI0.out)) | exact HB.out)); rintro e w39 ⟨rfl, hi, hb, hk⟩; have n0_ := Aside0.mk (KeepBut.trans (by repeat (first | (with_reducible first | exact HK.out | apply KeepBut.set_ | apply keep_drewN | apply keep_drew | apply keep_alloc) | exact HK.out)) hk (.inl rfl)); have n1_ := Aside0.mk (hb); have n2_ := Aside0.mk (hi); clear HK; clear HB; clear HI0; have HK := n0_; have HB := n1_; have HI0 := n2_; clear n0_ n1_ n2_; (try clear hb); (try clear hb2); (try clear hk); (try clear hi); obtain ⟨HGz40, hgz40⟩ := HI0.out; have hcz40_0 := cellS91_0 HGz40; have hcz40_1 := cellS91_1 HGz40; have hcz40_2 := cellS91_2 HGz40; have hfz40_0 := blk_frozen HGz40 0; have hfz40_1 := blk_frozen HGz40 1; have hfz40_2 := blk_frozen HGz40 2; clear HGz40 hgz40))
      repeat (go_quiet (first | (go_at_call 101; (first | (with_reducible refine (impl_reader_take.calls g s0_0 s0_1 s0_2 91 t166 t167 t168 t169 w0 _ ?side1 ?side2 A2.out).mono ?_) | (with_reducible refine (calls_of_args ?_ (impl_reader_take.calls g s0_0 s0_1 s0_2 91 t166 t167 t168 t169 w0 _ ?side1 ?side2 A2.out)).mono ?_; focus (simp [*]; done))); (case side1 => repeat (first | (with_reducible first | exact HI0.out | apply IsS91.alloc | apply IsS91.drewN | apply IsS91.drew | apply IsS91.set_0 | apply IsS91.set_1 | apply IsS91.set_2) | exact HI0.out)); (case side2 => repeat (first | (with_reducible first | exact HB.out | apply below_alloc | apply pw_below_drewN | apply below_drew1 | refine below_set ?_ (IsS91.ge HI0.out)) | exact HB.out)); rintro e w37 ⟨rfl, hi, hb, hk⟩; have n0_ := Aside0.mk (KeepBut.trans (by repeat (first | (with_reducible first | exact HK.out | apply KeepBut.set_ | apply keep_drewN | apply keep_drew | apply keep_alloc) | exact HK.out)) hk (.inl rfl)); have n1_ := Aside0.mk (hb); have n2_ := Aside0.mk (hi); clear HK; clear HB; clear HI0; have HK := n0_; have HB := n1_; have HI0 := n2_; clear n0_ n1_ n2_; (try clear hb); (try clear hb2); (try clear hk); (try clear hi)) | (go_at_call 101; (first | (with_reducible refine (impl_reader_take.calls g t167 t168 t169 73 false t171 t172 t173 w0 _ ?side1 ?side2 A3.out).mono ?_) | (with_reducible refine (calls_of_args ?_ (impl_reader_take.calls g t167 t168 t169 73 false t171 t172 t173 w0 _ ?side1 ?side2 A3.out)).mono ?_; focus (simp [*]; done))); (case side1 => repeat (first | (with_reducible first | exact HI0.out | apply IsS91.alloc | apply IsS91.drewN | apply IsS91.drew | apply IsS91.set_0 | apply IsS91.set_1 | apply IsS91.set_2) | exact HI0.out)); (case side2 => repeat (first | (with_reducible first | exact HB.out | apply below_alloc | apply pw_below_drewN | apply below_drew1 | refine below_set ?_ (IsS91.ge HI0.out)) | exact HB.out)); rintro e w38 ⟨rfl, hi, hb, hk⟩; have n0_ := Aside0.mk (KeepBut.trans (by repeat (first | (with_reducible first | exact HK.out | apply KeepBut.set_ | apply keep_drewN | apply keep_drew | apply keep_alloc) | exact HK.out)) hk (.inl rfl)); have n1_ := Aside0.mk (hb); have n2_ := Aside0.mk (hi); clear HK; clear HB; clear HI0; have HK := n0_; have HB := n1_; have HI0 := n2_; clear n0_ n1_ n2_; (try clear hb); (try clear hb2); (try clear hk); (try clear hi)) | (go_at_call 101; (first | (with_reducible refine (impl_reader_take.calls g t171 t172 t173 76 false t175 t176 t177 w0 _ ?side1 ?side2 A17.out).mono ?_) | (with_reducible refine (calls_of_args ?_ (impl_reader_take.calls g t171 t172 t173 76 false t175 t176 t177 w0 _ ?side1 ?side2 A17.out)).mono ?_; focus (simp [*]; done))); (case side1 => repeat (first | (with_reducible first | exact HI0.out | apply IsS91.alloc | apply IsS91.drewN | apply IsS91.drew | apply IsS91.set_0 | apply IsS91.set_1 | apply IsS91.set_2) | exact HI0.out)); (case side2 => repeat (first | (with_reducible first | exact HB.out | apply below_alloc | apply pw_below_drewN | apply below_drew1 | refine below_set ?_ (IsS91.ge HI0.out)) | exact HB.out)); rintro e w39 ⟨rfl, hi, hb, hk⟩; have n0_ := Aside0.mk (KeepBut.trans (by repeat (first | (with_reducible first | exact HK.out | apply KeepBut.set_ | apply keep_drewN | apply keep_drew | apply keep_alloc) | exact HK.out)) hk (.inl rfl)); have n1_ := Aside0.mk (hb); have n2_ := Aside0.mk (hi); clear HK; clear HB; clear HI0; have HK := n0_; have HB := n1_; have HI0 := n2_; clear n0_ n1_ n2_; (try clear hb); (try clear hb2); (try clear hk); (try clear hi); obtain ⟨HGz40, hgz40⟩ := HI0.out; have hcz40_0 := cellS91_0 HGz40; have hcz40_1 := cellS91_1 HGz40; have hcz40_2 := cellS91_2 HGz40; have hfz40_0 := blk_frozen HGz40 0; have hfz40_1 := blk_frozen HGz40 1; have hfz40_2 := blk_frozen HGz40 2; clear HGz40 hgz40)); try go_wp2_with (first | (go_at_call 101; (first | (with_reducible refine (impl_reader_take.calls g s0_0 s0_1 s0_2 91 t166 t167 t168 t169 w0 _ ?side1 ?side2 A2.out).mono ?_) | (with_reducible refine (calls_of_args ?_ (impl_reader_take.calls g s0_0 s0_1 s0_2 91 t166 t167 t168 t169 w0 _ ?side1 ?side2 A2.out)).mono ?_; focus (simp [*]; done))); (case side1 => repeat (first | (with_reducible first | exact HI0.out | apply IsS91.alloc | apply IsS91.drewN | apply IsS91.drew | apply IsS91.set_0 | apply IsS91.set_1 | apply IsS91.set_2) | exact HI0.out)); (case side2 => repeat (first | (with_reducible first | exact HB.out | apply below_alloc | apply pw_below_drewN | apply below_drew1 | refine below_set ?_ (IsS91.ge HI0.out)) | exact HB.out)); rintro e w37 ⟨rfl, hi, hb, hk⟩; have n0_ := Aside0.mk (KeepBut.trans (by repeat (first | (with_reducible first | exact HK.out | apply KeepBut.set_ | apply keep_drewN | apply keep_drew | apply keep_alloc) | exact HK.out)) hk (.inl rfl)); have n1_ := Aside0.mk (hb); have n2_ := Aside0.mk (hi); clear HK; clear HB; clear HI0; have HK := n0_; have HB := n1_; have HI0 := n2_; clear n0_ n1_ n2_; (try clear hb); (try clear hb2); (try clear hk); (try clear hi)) | (go_at_call 101; (first | (with_reducible refine (impl_reader_take.calls g t167 t168 t169 73 false t171 t172 t173 w0 _ ?side1 ?side2 A3.out).mono ?_) | (with_reducible refine (calls_of_args ?_ (impl_reader_take.calls g t167 t168 t169 73 false t171 t172 t173 w0 _ ?side1 ?side2 A3.out)).mono ?_; focus (simp [*]; done))); (case side1 => repeat (first | (with_reducible first | exact HI0.out | apply IsS91.alloc | apply IsS91.drewN | apply IsS91.drew | apply IsS91.set_0 | apply IsS91.set_1 | apply IsS91.set_2) | exact HI0.out)); (case side2 => repeat (first | (with_reducible first | exact HB.out | apply below_alloc | apply pw_below_drewN | apply below_drew1 | refine below_set ?_ (IsS91.ge HI0.out)) | exact HB.out)); rintro e w38 ⟨rfl, hi, hb, hk⟩; have n0_ := Aside0.mk (KeepBut.trans (by repeat (first | (with_reducible first | exact HK.out | apply KeepBut.set_ | apply keep_drewN | apply keep_drew | apply keep_alloc) | exact HK.out)) hk (.inl rfl)); have n1_ := Aside0.mk (hb); have n2_ := Aside0.mk (hi); clear HK; clear HB; clear HI0; have HK := n0_; have HB := n1_; have HI0 := n2_; clear n0_ n1_ n2_; (try clear hb); (try clear hb2); (try clear hk); (try clear hi)) | (go_at_call 101; (first | (with_reducible refine (impl_reader_take.calls g t171 t172 t173 76 false t175 t176 t177 w0 _ ?side1 ?side2 A17.out).mono ?_) | (with_reducible refine (calls_of_args ?_ (impl_reader_take.calls g t171 t172 t173 76 false t175 t176 t177 w0 _ ?side1 ?side2 A17.out)).mono ?_; focus (simp [*]; done))); (case side1 => repeat (first | (with_reducible first | exact HI0.out | apply IsS91.alloc | apply IsS91.drewN | apply IsS91.drew | apply IsS91.set_0 | apply IsS91.set_1 | apply IsS91.set_2) | exact HI0.out)); (case side2 => repeat (first | (with_reducible first | exact HB.out | apply below_alloc | apply pw_below_drewN | apply below_drew1 | refine below_set ?_ (IsS91.ge HI0.out)) | exact HB.out)); rintro e w39 ⟨rfl, hi, hb, hk⟩; have n0_ := Aside0.mk (KeepBut.trans (by repeat (first | (with_reducible first | exact HK.out | apply KeepBut.set_ | apply keep_drewN | apply keep_drew | apply keep_alloc) | exact HK.out)) hk (.inl rfl)); have n1_ := Aside0.mk (hb); have n2_ := Aside0.mk (hi); clear HK; clear HB; clear HI0; have HK := n0_; have HB := n1_; have HI0 := n2_; clear n0_ n1_ n2_; (try clear hb); (try clear hb2); (try clear hk); (try clear hi); obtain ⟨HGz40, hgz40⟩ := HI0.out; have hcz40_0 := cellS91_0 HGz40; have hcz40_1 := cellS91_1 HGz40; have hcz40_2 := cellS91_2 HGz40; have hfz40_0 := blk_frozen HGz40 0; have hfz40_1 := blk_frozen HGz40 1; have hfz40_2 := blk_frozen HGz40 2; clear HGz40 hgz40)))
      go_ret
      exact ⟨by first | rfl | (simp [errW_none, errW_some] <;> rfl) | (simp [*, errW_none, errW_some] <;> rfl), by repeat (first | (with_reducible first | exact HI0.out | apply IsS91.alloc | apply IsS91.drewN | apply IsS91.drew | apply IsS91.set_0 | apply IsS91.set_1 | apply IsS91.set_2) | exact HI0.out), by repeat (first | (with_reducible first | exact HB.out | apply below_alloc | apply pw_below_drewN | apply below_drew1 | refine below_set ?_ (IsS91.ge HI0.out)) | exact HB.out), by repeat (first | (with_reducible first | exact HK.out | apply KeepBut.set_ | apply keep_drewN | apply keep_drew | apply keep_alloc) | exact HK.out)⟩

/-! ### impl_typeRight: function 52 -/
def impl_typeRight.f (k : Nat) (a0 : ByteArray) : Option (Bool) := (impl_reader_kind.f k a0 0 false).bind fun bt182 => (if bt182.2.2.2 = true then (some false) else ((impl_length.f a0).bind fun t186 => (some (bt182.2.2.1 == t186))))
theorem impl_typeRight.mono : ∀ a0 k, LeO (impl_typeRight.f k a0) (impl_typeRight.f (k + 1) a0) := by
  intro a0 k
  unfold impl_typeRight.f
  repeat' first
      | (with_reducible exact impl_reader_kind.mono _ _ _ _)
      | (with_reducible exact LeO.refl _)
      | (with_reducible exact LeO.none _)
      | (with_reducible refine LeO.ite ?_ ?_)
      | (with_reducible refine LeO.bind ?_ (fun _ => ?_))
      | exact impl_reader_kind.mono _ _ _ _
      | exact LeO.none _
      | refine LeO.ite ?_ ?_
      | refine LeO.bind ?_ (fun _ => ?_)
set_option maxHeartbeats 8000000 in
set_option maxRecDepth 100000 in
theorem impl_typeRight.calls (k : Nat) (a0 : ByteArray) (r : Bool) (w : World) (h : impl_typeRight.f k a0 = some r) :
    Calls Try.prog 52 #[.string a0] w fun e w' => e = .returned (.bool r) ∧ Below w.heap.size w w' := by
  have hu91 := Try.underlying91
  have HB := Aside0.mk (Below.refl w.heap.size w)
  have H : ((impl_reader_kind.f k a0 0 false).bind fun bt182 => (if bt182.2.2.2 = true then (some false) else ((impl_length.f a0).bind fun t186 => (some (bt182.2.2.1 == t186))))) = some r := h
  clear h
  replace H := Option.bind_eq_some_iff.mp H
  obtain ⟨⟨t182, t183, t184, t185⟩, A20, H⟩ := H
  replace H : (if t185 = true then (some false) else ((impl_length.f a0).bind fun t186 => (some (t184 == t186)))) = some r := H
  have A2 := Aside0.mk A20
  clear A20
  by_cases c3 : t185 = true
  · subst c3
    have H1 : (some false) = some r := by rw [if_pos rfl] at H; exact H
    clear H
    have H := H1
    clear H1
    obtain rfl := Option.some.inj H
    go_enter Try.func52, Try.ntmps52
    go_wp2_with (first | ((with_reducible refine gate_dst (N := 6) rfl ?_); refine box_event ?hg (N := 6) ?hd (cs := #[.string a0, .int .i64 0, .bool false]) (t := 91) ?hr ?_; (case hd => rfl); (case hg => rfl); (case hr => first | (go_simp; done) | (go_simp; rfl)); intro gb181 hg w4 hbox hb; have n0_ := Aside0.mk (below_step (by repeat (first | (with_reducible first | exact HB.out | apply below_alloc | apply pw_below_drewN | apply below_drew1) | exact HB.out)) hb); have n1_ := Aside0.mk ((by rw [hg]; exact (below_size (by repeat (first | (with_reducible first | exact HB.out | apply below_alloc | apply pw_below_drewN | apply below_drew1) | exact HB.out))) : w.heap.size ≤ gb181)); have n2_ := Aside0.mk ((by rw [hg]; exact (below_size (by repeat (first | (with_reducible first | exact HB.out | apply below_alloc | apply pw_below_drewN | apply below_drew1) | exact HB.out))) : w.heap.size ≤ gb181)); have n3_ := Aside0.mk ((show IsS91 w w4 gb181 a0 0 false from ⟨hbox, (by rw [hg]; exact (below_size (by repeat (first | (with_reducible first | exact HB.out | apply below_alloc | apply pw_below_drewN | apply below_drew1) | exact HB.out))) : w.heap.size ≤ gb181)⟩)); clear HB; have HB := n0_; have GW181 := n1_; have GE181 := n2_; have HI181 := n3_; clear n0_ n1_ n2_ n3_; clear hb hbox hg) | (go_at_call 89; (first | (with_reducible refine (impl_reader_kind.calls k gb181 a0 0 false t182 t183 t184 true w _ ?side1 ?side2 A2.out).mono ?_) | (with_reducible refine (calls_of_args ?_ (impl_reader_kind.calls k gb181 a0 0 false t182 t183 t184 true w _ ?side1 ?side2 A2.out)).mono ?_; focus (simp [*]; done))); (case side1 => repeat (first | (with_reducible first | exact HI181.out | apply IsS91.alloc | apply IsS91.drewN | apply IsS91.drew | apply IsS91.set_0 | apply IsS91.set_1 | apply IsS91.set_2) | exact HI181.out)); (case side2 => repeat (first | (with_reducible first | exact HB.out | apply below_alloc | apply pw_below_drewN | apply below_drew1 | refine below_set ?_ (IsS91.ge HI181.out)) | exact HB.out)); rintro e w5 ⟨rfl, hi, hb, hk⟩; have n0_ := Aside0.mk (hb); have n1_ := Aside0.mk (hi); clear HB; clear HI181; have HB := n0_; have HI181 := n1_; clear n0_ n1_; (try clear hb); (try clear hb2); (try clear hk); (try clear hi); obtain ⟨HGz6, hgz6⟩ := HI181.out; have hcz6_0 := cellS91_0 HGz6; have hcz6_1 := cellS91_1 HGz6; have hcz6_2 := cellS91_2 HGz6; have hfz6_0 := blk_frozen HGz6 0; have hfz6_1 := blk_frozen HGz6 1; have hfz6_2 := blk_frozen HGz6 2; clear HGz6 hgz6))
    repeat (go_quiet (first | ((with_reducible refine gate_dst (N := 6) rfl ?_); refine box_event ?hg (N := 6) ?hd (cs := #[.string a0, .int .i64 0, .bool false]) (t := 91) ?hr ?_; (case hd => rfl); (case hg => rfl); (case hr => first | (go_simp; done) | (go_simp; rfl)); intro gb181 hg w4 hbox hb; have n0_ := Aside0.mk (below_step (by repeat (first | (with_reducible first | exact HB.out | apply below_alloc | apply pw_below_drewN | apply below_drew1) | exact HB.out)) hb); have n1_ := Aside0.mk ((by rw [hg]; exact (below_size (by repeat (first | (with_reducible first | exact HB.out | apply below_alloc | apply pw_below_drewN | apply below_drew1) | exact HB.out))) : w.heap.size ≤ gb181)); have n2_ := Aside0.mk ((by rw [hg]; exact (below_size (by repeat (first | (with_reducible first | exact HB.out | apply below_alloc | apply pw_below_drewN | apply below_drew1) | exact HB.out))) : w.heap.size ≤ gb181)); have n3_ := Aside0.mk ((show IsS91 w w4 gb181 a0 0 false from ⟨hbox, (by rw [hg]; exact (below_size (by repeat (first | (with_reducible first | exact HB.out | apply below_alloc | apply pw_below_drewN | apply below_drew1) | exact HB.out))) : w.heap.size ≤ gb181)⟩)); clear HB; have HB := n0_; have GW181 := n1_; have GE181 := n2_; have HI181 := n3_; clear n0_ n1_ n2_ n3_; clear hb hbox hg) | (go_at_call 89; (first | (with_reducible refine (impl_reader_kind.calls k gb181 a0 0 false t182 t183 t184 true w _ ?side1 ?side2 A2.out).mono ?_) | (with_reducible refine (calls_of_args ?_ (impl_reader_kind.calls k gb181 a0 0 false t182 t183 t184 true w _ ?side1 ?side2 A2.out)).mono ?_; focus (simp [*]; done))); (case side1 => repeat (first | (with_reducible first | exact HI181.out | apply IsS91.alloc | apply IsS91.drewN | apply IsS91.drew | apply IsS91.set_0 | apply IsS91.set_1 | apply IsS91.set_2) | exact HI181.out)); (case side2 => repeat (first | (with_reducible first | exact HB.out | apply below_alloc | apply pw_below_drewN | apply below_drew1 | refine below_set ?_ (IsS91.ge HI181.out)) | exact HB.out)); rintro e w5 ⟨rfl, hi, hb, hk⟩; have n0_ := Aside0.mk (hb); have n1_ := Aside0.mk (hi); clear HB; clear HI181; have HB := n0_; have HI181 := n1_; clear n0_ n1_; (try clear hb); (try clear hb2); (try clear hk); (try clear hi); obtain ⟨HGz6, hgz6⟩ := HI181.out; have hcz6_0 := cellS91_0 HGz6; have hcz6_1 := cellS91_1 HGz6; have hcz6_2 := cellS91_2 HGz6; have hfz6_0 := blk_frozen HGz6 0; have hfz6_1 := blk_frozen HGz6 1; have hfz6_2 := blk_frozen HGz6 2; clear HGz6 hgz6)); try go_wp2_with (first | ((with_reducible refine gate_dst (N := 6) rfl ?_); refine box_event ?hg (N := 6) ?hd (cs := #[.string a0, .int .i64 0, .bool false]) (t := 91) ?hr ?_; (case hd => rfl); (case hg => rfl); (case hr => first | (go_simp; done) | (go_simp; rfl)); intro gb181 hg w4 hbox hb; have n0_ := Aside0.mk (below_step (by repeat (first | (with_reducible first | exact HB.out | apply below_alloc | apply pw_below_drewN | apply below_drew1) | exact HB.out)) hb); have n1_ := Aside0.mk ((by rw [hg]; exact (below_size (by repeat (first | (with_reducible first | exact HB.out | apply below_alloc | apply pw_below_drewN | apply below_drew1) | exact HB.out))) : w.heap.size ≤ gb181)); have n2_ := Aside0.mk ((by rw [hg]; exact (below_size (by repeat (first | (with_reducible first | exact HB.out | apply below_alloc | apply pw_below_drewN | apply below_drew1) | exact HB.out))) : w.heap.size ≤ gb181)); have n3_ := Aside0.mk ((show IsS91 w w4 gb181 a0 0 false from ⟨hbox, (by rw [hg]; exact (below_size (by repeat (first | (with_reducible first | exact HB.out | apply below_alloc | apply pw_below_drewN | apply below_drew1) | exact HB.out))) : w.heap.size ≤ gb181)⟩)); clear HB; have HB := n0_; have GW181 := n1_; have GE181 := n2_; have HI181 := n3_; clear n0_ n1_ n2_ n3_; clear hb hbox hg) | (go_at_call 89; (first | (with_reducible refine (impl_reader_kind.calls k gb181 a0 0 false t182 t183 t184 true w _ ?side1 ?side2 A2.out).mono ?_) | (with_reducible refine (calls_of_args ?_ (impl_reader_kind.calls k gb181 a0 0 false t182 t183 t184 true w _ ?side1 ?side2 A2.out)).mono ?_; focus (simp [*]; done))); (case side1 => repeat (first | (with_reducible first | exact HI181.out | apply IsS91.alloc | apply IsS91.drewN | apply IsS91.drew | apply IsS91.set_0 | apply IsS91.set_1 | apply IsS91.set_2) | exact HI181.out)); (case side2 => repeat (first | (with_reducible first | exact HB.out | apply below_alloc | apply pw_below_drewN | apply below_drew1 | refine below_set ?_ (IsS91.ge HI181.out)) | exact HB.out)); rintro e w5 ⟨rfl, hi, hb, hk⟩; have n0_ := Aside0.mk (hb); have n1_ := Aside0.mk (hi); clear HB; clear HI181; have HB := n0_; have HI181 := n1_; clear n0_ n1_; (try clear hb); (try clear hb2); (try clear hk); (try clear hi); obtain ⟨HGz6, hgz6⟩ := HI181.out; have hcz6_0 := cellS91_0 HGz6; have hcz6_1 := cellS91_1 HGz6; have hcz6_2 := cellS91_2 HGz6; have hfz6_0 := blk_frozen HGz6 0; have hfz6_1 := blk_frozen HGz6 1; have hfz6_2 := blk_frozen HGz6 2; clear HGz6 hgz6)))
    go_ret
    exact ⟨by first | rfl | (simp [errW_none, errW_some] <;> rfl) | (simp [*, errW_none, errW_some] <;> rfl), by repeat (first | (with_reducible first | exact HB.out | apply below_alloc | apply pw_below_drewN | apply below_drew1 | refine below_set ?_ (IsS91.ge HI181.out)) | exact HB.out)⟩
  · replace c3 := Bool.eq_false_iff.mpr c3
    subst c3
    have H1 : ((impl_length.f a0).bind fun t186 => (some (t184 == t186))) = some r := by rw [if_neg (show ¬ (false = true) by decide)] at H; exact H
    clear H
    have H := H1
    clear H1
    replace H := Option.bind_eq_some_iff.mp H
    obtain ⟨t186, A70, H⟩ := H
    replace H : (some (t184 == t186)) = some r := H
    have A7 := Aside0.mk A70
    clear A70
    obtain rfl := Option.some.inj H
    go_enter Try.func52, Try.ntmps52
    go_wp2_with (first | ((with_reducible refine gate_dst (N := 6) rfl ?_); refine box_event ?hg (N := 6) ?hd (cs := #[.string a0, .int .i64 0, .bool false]) (t := 91) ?hr ?_; (case hd => rfl); (case hg => rfl); (case hr => first | (go_simp; done) | (go_simp; rfl)); intro gb181 hg w8 hbox hb; have n0_ := Aside0.mk (below_step (by repeat (first | (with_reducible first | exact HB.out | apply below_alloc | apply pw_below_drewN | apply below_drew1) | exact HB.out)) hb); have n1_ := Aside0.mk ((by rw [hg]; exact (below_size (by repeat (first | (with_reducible first | exact HB.out | apply below_alloc | apply pw_below_drewN | apply below_drew1) | exact HB.out))) : w.heap.size ≤ gb181)); have n2_ := Aside0.mk ((by rw [hg]; exact (below_size (by repeat (first | (with_reducible first | exact HB.out | apply below_alloc | apply pw_below_drewN | apply below_drew1) | exact HB.out))) : w.heap.size ≤ gb181)); have n3_ := Aside0.mk ((show IsS91 w w8 gb181 a0 0 false from ⟨hbox, (by rw [hg]; exact (below_size (by repeat (first | (with_reducible first | exact HB.out | apply below_alloc | apply pw_below_drewN | apply below_drew1) | exact HB.out))) : w.heap.size ≤ gb181)⟩)); clear HB; have HB := n0_; have GW181 := n1_; have GE181 := n2_; have HI181 := n3_; clear n0_ n1_ n2_ n3_; clear hb hbox hg) | (go_at_call 89; (first | (with_reducible refine (impl_reader_kind.calls k gb181 a0 0 false t182 t183 t184 false w _ ?side1 ?side2 A2.out).mono ?_) | (with_reducible refine (calls_of_args ?_ (impl_reader_kind.calls k gb181 a0 0 false t182 t183 t184 false w _ ?side1 ?side2 A2.out)).mono ?_; focus (simp [*]; done))); (case side1 => repeat (first | (with_reducible first | exact HI181.out | apply IsS91.alloc | apply IsS91.drewN | apply IsS91.drew | apply IsS91.set_0 | apply IsS91.set_1 | apply IsS91.set_2) | exact HI181.out)); (case side2 => repeat (first | (with_reducible first | exact HB.out | apply below_alloc | apply pw_below_drewN | apply below_drew1 | refine below_set ?_ (IsS91.ge HI181.out)) | exact HB.out)); rintro e w9 ⟨rfl, hi, hb, hk⟩; have n0_ := Aside0.mk (hb); have n1_ := Aside0.mk (hi); clear HB; clear HI181; have HB := n0_; have HI181 := n1_; clear n0_ n1_; (try clear hb); (try clear hb2); (try clear hk); (try clear hi); obtain ⟨HGz10, hgz10⟩ := HI181.out; have hcz10_0 := cellS91_0 HGz10; have hcz10_1 := cellS91_1 HGz10; have hcz10_2 := cellS91_2 HGz10; have hfz10_0 := blk_frozen HGz10 0; have hfz10_1 := blk_frozen HGz10 1; have hfz10_2 := blk_frozen HGz10 2; clear HGz10 hgz10) | (go_at_call 90; (first | (with_reducible refine (impl_length.calls a0 t186 _ A7.out).mono ?_) | (with_reducible refine (calls_of_args ?_ (impl_length.calls a0 t186 _ A7.out)).mono ?_; focus (simp [*]; done))); rintro e w' ⟨rfl, ⟨nd, rfl⟩⟩; (try first | exact ⟨rfl, _, World.drewN_drewN _ _ _⟩ | exact ⟨rfl, _, Eq.trans (World.drewN_drewN _ _ _) (congrArg (World.drewN _) (Nat.add_assoc _ _ _))⟩)))
    repeat (go_quiet (first | ((with_reducible refine gate_dst (N := 6) rfl ?_); refine box_event ?hg (N := 6) ?hd (cs := #[.string a0, .int .i64 0, .bool false]) (t := 91) ?hr ?_; (case hd => rfl); (case hg => rfl); (case hr => first | (go_simp; done) | (go_simp; rfl)); intro gb181 hg w8 hbox hb; have n0_ := Aside0.mk (below_step (by repeat (first | (with_reducible first | exact HB.out | apply below_alloc | apply pw_below_drewN | apply below_drew1) | exact HB.out)) hb); have n1_ := Aside0.mk ((by rw [hg]; exact (below_size (by repeat (first | (with_reducible first | exact HB.out | apply below_alloc | apply pw_below_drewN | apply below_drew1) | exact HB.out))) : w.heap.size ≤ gb181)); have n2_ := Aside0.mk ((by rw [hg]; exact (below_size (by repeat (first | (with_reducible first | exact HB.out | apply below_alloc | apply pw_below_drewN | apply below_drew1) | exact HB.out))) : w.heap.size ≤ gb181)); have n3_ := Aside0.mk ((show IsS91 w w8 gb181 a0 0 false from ⟨hbox, (by rw [hg]; exact (below_size (by repeat (first | (with_reducible first | exact HB.out | apply below_alloc | apply pw_below_drewN | apply below_drew1) | exact HB.out))) : w.heap.size ≤ gb181)⟩)); clear HB; have HB := n0_; have GW181 := n1_; have GE181 := n2_; have HI181 := n3_; clear n0_ n1_ n2_ n3_; clear hb hbox hg) | (go_at_call 89; (first | (with_reducible refine (impl_reader_kind.calls k gb181 a0 0 false t182 t183 t184 false w _ ?side1 ?side2 A2.out).mono ?_) | (with_reducible refine (calls_of_args ?_ (impl_reader_kind.calls k gb181 a0 0 false t182 t183 t184 false w _ ?side1 ?side2 A2.out)).mono ?_; focus (simp [*]; done))); (case side1 => repeat (first | (with_reducible first | exact HI181.out | apply IsS91.alloc | apply IsS91.drewN | apply IsS91.drew | apply IsS91.set_0 | apply IsS91.set_1 | apply IsS91.set_2) | exact HI181.out)); (case side2 => repeat (first | (with_reducible first | exact HB.out | apply below_alloc | apply pw_below_drewN | apply below_drew1 | refine below_set ?_ (IsS91.ge HI181.out)) | exact HB.out)); rintro e w9 ⟨rfl, hi, hb, hk⟩; have n0_ := Aside0.mk (hb); have n1_ := Aside0.mk (hi); clear HB; clear HI181; have HB := n0_; have HI181 := n1_; clear n0_ n1_; (try clear hb); (try clear hb2); (try clear hk); (try clear hi); obtain ⟨HGz10, hgz10⟩ := HI181.out; have hcz10_0 := cellS91_0 HGz10; have hcz10_1 := cellS91_1 HGz10; have hcz10_2 := cellS91_2 HGz10; have hfz10_0 := blk_frozen HGz10 0; have hfz10_1 := blk_frozen HGz10 1; have hfz10_2 := blk_frozen HGz10 2; clear HGz10 hgz10) | (go_at_call 90; (first | (with_reducible refine (impl_length.calls a0 t186 _ A7.out).mono ?_) | (with_reducible refine (calls_of_args ?_ (impl_length.calls a0 t186 _ A7.out)).mono ?_; focus (simp [*]; done))); rintro e w' ⟨rfl, ⟨nd, rfl⟩⟩; (try first | exact ⟨rfl, _, World.drewN_drewN _ _ _⟩ | exact ⟨rfl, _, Eq.trans (World.drewN_drewN _ _ _) (congrArg (World.drewN _) (Nat.add_assoc _ _ _))⟩))); try go_wp2_with (first | ((with_reducible refine gate_dst (N := 6) rfl ?_); refine box_event ?hg (N := 6) ?hd (cs := #[.string a0, .int .i64 0, .bool false]) (t := 91) ?hr ?_; (case hd => rfl); (case hg => rfl); (case hr => first | (go_simp; done) | (go_simp; rfl)); intro gb181 hg w8 hbox hb; have n0_ := Aside0.mk (below_step (by repeat (first | (with_reducible first | exact HB.out | apply below_alloc | apply pw_below_drewN | apply below_drew1) | exact HB.out)) hb); have n1_ := Aside0.mk ((by rw [hg]; exact (below_size (by repeat (first | (with_reducible first | exact HB.out | apply below_alloc | apply pw_below_drewN | apply below_drew1) | exact HB.out))) : w.heap.size ≤ gb181)); have n2_ := Aside0.mk ((by rw [hg]; exact (below_size (by repeat (first | (with_reducible first | exact HB.out | apply below_alloc | apply pw_below_drewN | apply below_drew1) | exact HB.out))) : w.heap.size ≤ gb181)); have n3_ := Aside0.mk ((show IsS91 w w8 gb181 a0 0 false from ⟨hbox, (by rw [hg]; exact (below_size (by repeat (first | (with_reducible first | exact HB.out | apply below_alloc | apply pw_below_drewN | apply below_drew1) | exact HB.out))) : w.heap.size ≤ gb181)⟩)); clear HB; have HB := n0_; have GW181 := n1_; have GE181 := n2_; have HI181 := n3_; clear n0_ n1_ n2_ n3_; clear hb hbox hg) | (go_at_call 89; (first | (with_reducible refine (impl_reader_kind.calls k gb181 a0 0 false t182 t183 t184 false w _ ?side1 ?side2 A2.out).mono ?_) | (with_reducible refine (calls_of_args ?_ (impl_reader_kind.calls k gb181 a0 0 false t182 t183 t184 false w _ ?side1 ?side2 A2.out)).mono ?_; focus (simp [*]; done))); (case side1 => repeat (first | (with_reducible first | exact HI181.out | apply IsS91.alloc | apply IsS91.drewN | apply IsS91.drew | apply IsS91.set_0 | apply IsS91.set_1 | apply IsS91.set_2) | exact HI181.out)); (case side2 => repeat (first | (with_reducible first | exact HB.out | apply below_alloc | apply pw_below_drewN | apply below_drew1 | refine below_set ?_ (IsS91.ge HI181.out)) | exact HB.out)); rintro e w9 ⟨rfl, hi, hb, hk⟩; have n0_ := Aside0.mk (hb); have n1_ := Aside0.mk (hi); clear HB; clear HI181; have HB := n0_; have HI181 := n1_; clear n0_ n1_; (try clear hb); (try clear hb2); (try clear hk); (try clear hi); obtain ⟨HGz10, hgz10⟩ := HI181.out; have hcz10_0 := cellS91_0 HGz10; have hcz10_1 := cellS91_1 HGz10; have hcz10_2 := cellS91_2 HGz10; have hfz10_0 := blk_frozen HGz10 0; have hfz10_1 := blk_frozen HGz10 1; have hfz10_2 := blk_frozen HGz10 2; clear HGz10 hgz10) | (go_at_call 90; (first | (with_reducible refine (impl_length.calls a0 t186 _ A7.out).mono ?_) | (with_reducible refine (calls_of_args ?_ (impl_length.calls a0 t186 _ A7.out)).mono ?_; focus (simp [*]; done))); rintro e w' ⟨rfl, ⟨nd, rfl⟩⟩; (try first | exact ⟨rfl, _, World.drewN_drewN _ _ _⟩ | exact ⟨rfl, _, Eq.trans (World.drewN_drewN _ _ _) (congrArg (World.drewN _) (Nat.add_assoc _ _ _))⟩))))
    go_ret
    exact ⟨by first | rfl | (simp [errW_none, errW_some] <;> rfl) | (simp [*, errW_none, errW_some] <;> rfl), by repeat (first | (with_reducible first | exact HB.out | apply below_alloc | apply pw_below_drewN | apply below_drew1 | refine below_set ?_ (IsS91.ge HI181.out)) | exact HB.out)⟩

/-! ### impl_isInt: function 72 -/
def impl_isInt.f (a0 : Int) : Option (Bool) := (impl_within.f a0 (-2147483648) 2147483647).bind fun t187 => (some t187)
set_option maxHeartbeats 8000000 in
set_option maxRecDepth 100000 in
theorem impl_isInt.calls (a0 : Int) (r : Bool) (w : World) (h : impl_isInt.f a0 = some r) :
    Calls Try.prog 72 #[.int .i64 a0] w fun e w' => e = .returned (.bool r) ∧ Drawn0 w w' := by
  have H : ((impl_within.f a0 (-2147483648) 2147483647).bind fun t187 => (some t187)) = some r := h
  clear h
  replace H := Option.bind_eq_some_iff.mp H
  obtain ⟨t187, A20, H⟩ := H
  replace H : (some t187) = some r := H
  have A2 := Aside0.mk A20
  clear A20
  obtain rfl := Option.some.inj H
  go_enter Try.func72, Try.ntmps72
  go_wp2_with (first | ((with_reducible refine gate_callee (f := 55) rfl ?_); refine goesL_ (some 4) rfl rfl Try.func55 (by kernel_rfl) rfl #[.int .i64 a0, .int .i64 (-2147483648), .int .i64 2147483647] rfl (by (try simp only [List.map_toArray, List.map_cons, List.map_nil]); first | done | rfl | (simp only [List.length_drop, List.length_take]; rfl)) ?_; (with_reducible refine (impl_within.calls a0 (-2147483648) 2147483647 t187 _ A2.out).mono ?_); rintro e w' ⟨rfl, ⟨nd, rfl⟩⟩; refine ⟨_, rfl, ?_⟩))
  go_ret
  exact ⟨by first | rfl | (simp; done) | (simp [*]; done), by repeat (first | exact Drawn0.refl _ | apply Drawn0.step)⟩

/-! ### impl_NameRight: function 73 -/
def impl_NameRight.l0 : Nat → ByteArray → Int → Int → Option (Bool)
  | 0, _, _, _ => none
  | k + 1, x0, x5, x6 => if x6 < x5 then (if 0 ≤ x6 then (if x6 < (x0.size : Int) then ((impl_isNameByte.f (bt x0 x6) x6).bind fun t188 => (if t188 = true then (impl_NameRight.l0 k x0 x5 (wrap64 (x6 + 1))) else (some false))) else (none)) else (none)) else ((impl_length.f x0).bind fun t189 => ((impl_within.f t189 1 20).bind fun t190 => (some t190)))
def impl_NameRight.f (k : Nat) (a0 : ByteArray) : Option (Bool) := impl_NameRight.l0 k a0 (a0.size : Int) 0
theorem impl_NameRight.mono_l : ∀ k, (∀ y0 y1 y2, LeO (impl_NameRight.l0 k y0 y1 y2) (impl_NameRight.l0 (k + 1) y0 y1 y2))
  | 0 => fun _ _ _ r h => by simp [impl_NameRight.l0] at h
  | k + 1 => by
    have ih0 := impl_NameRight.mono_l k
    · intro y0 y1 y2
      unfold impl_NameRight.l0
      repeat' first
      | (with_reducible exact ih0 _ _ _)
      | (with_reducible exact LeO.refl _)
      | (with_reducible exact LeO.none _)
      | (with_reducible refine LeO.ite ?_ ?_)
      | (with_reducible refine LeO.bind ?_ (fun _ => ?_))
      | exact ih0 _ _ _
      | exact LeO.none _
      | refine LeO.ite ?_ ?_
      | refine LeO.bind ?_ (fun _ => ?_)
theorem impl_NameRight.mono : ∀ a0 k, LeO (impl_NameRight.f k a0) (impl_NameRight.f (k + 1) a0) := by
  intro a0 k
  have ih0 := impl_NameRight.mono_l k
  unfold impl_NameRight.f
  repeat' first
      | (with_reducible exact ih0 _ _ _)
      | (with_reducible exact LeO.refl _)
      | (with_reducible exact LeO.none _)
      | (with_reducible refine LeO.ite ?_ ?_)
      | (with_reducible refine LeO.bind ?_ (fun _ => ?_))
      | exact ih0 _ _ _
      | exact LeO.none _
      | refine LeO.ite ?_ ?_
      | refine LeO.bind ?_ (fun _ => ?_)
set_option maxHeartbeats 8000000 in
set_option maxRecDepth 100000 in
theorem impl_NameRight.calls (k : Nat) (a0 : ByteArray) (r : Bool) (w : World) (h : impl_NameRight.f k a0 = some r) :
    Calls Try.prog 73 #[.string a0] w fun e w' => e = .returned (.bool r) ∧ Drawn0 w w' := by
  have H : (impl_NameRight.l0 k a0 (a0.size : Int) 0) = some r := h
  clear h
  have H' := Aside0.mk H
  clear H
  go_enter Try.func73, Try.ntmps73
  go_wp2
  go_loopg [6] k (fun kq v6 w' => ∃ (x6_1 : Int), v6 = .int .i64 x6_1 ∧ Aside0 (impl_NameRight.l0 kq a0 (a0.size : Int) x6_1 = some r) ∧ Aside0 (kq ≤ k) ∧ Drawn0 w w')
  case atStart => exact ⟨(0), (by first | rfl | (simp; done) | (simp [*]; done)), H', ⟨Nat.le_refl _⟩, by repeat (first | exact Drawn0.refl _ | apply Drawn0.step)⟩
  case round =>
    clear H'
    obtain ⟨x6_1, rfl, HA, HK1, ⟨m1, rfl⟩⟩ := hrel
    cases gk with
    | zero => exact absurd HA.out (by simp [impl_NameRight.l0])
    | succ k1 =>
      have H := HA.out
      clear HA
      simp only [impl_NameRight.l0] at H
      by_cases c2 : x6_1 < (a0.size : Int)
      · rw [if_pos c2] at H
        have c2b0 : decide (x6_1 < (a0.size : Int)) = true := decide_eq_true c2
        clear c2
        by_cases c3 : 0 ≤ x6_1
        · rw [if_pos c3] at H
          have c3b0 : decide (0 ≤ x6_1) = true := decide_eq_true c3
          clear c3
          by_cases c4 : x6_1 < (a0.size : Int)
          · rw [if_pos c4] at H
            have c4b0 : decide (x6_1 < (a0.size : Int)) = true := decide_eq_true c4
            clear c4
            replace H := Option.bind_eq_some_iff.mp H
            obtain ⟨t188, A60, H⟩ := H
            replace H : (if t188 = true then (impl_NameRight.l0 k1 a0 (a0.size : Int) (wrap64 (x6_1 + 1))) else (some false)) = some r := H
            have A6 := Aside0.mk A60
            clear A60
            by_cases c7 : t188 = true
            · subst c7
              have H1 : (impl_NameRight.l0 k1 a0 (a0.size : Int) (wrap64 (x6_1 + 1))) = some r := by rw [if_pos rfl] at H; exact H
              clear H
              have H := H1
              clear H1
              have H' := Aside0.mk H
              clear H
              have p5 : 0 ≤ (x6_1 : Int) := of_decide_eq_true (by first | (with_reducible assumption) | assumption)
              have q5 : x6_1 < (a0.size : Int) := of_decide_eq_true (by first | (with_reducible assumption) | assumption)
              have hx5 := bt_at a0 x6_1
              replace p5 := eq_true p5
              replace q5 := eq_true q5
              go_wp2_with (first | ((with_reducible refine gate_callee (f := 99) rfl ?_); refine goesL_ (some 13) rfl rfl Try.func99 (by kernel_rfl) rfl #[.int .u8 (bt a0 x6_1), .int .i64 x6_1] rfl (by (try simp only [List.map_toArray, List.map_cons, List.map_nil]); first | done | rfl | (simp only [List.length_drop, List.length_take]; rfl)) ?_; (with_reducible refine (impl_isNameByte.calls (bt a0 x6_1) x6_1 true _ A6.out).mono ?_); rintro e w' ⟨rfl, ⟨nd, rfl⟩⟩; refine ⟨_, rfl, ?_⟩))
              go_roundg k1
              case measure => have := HK1.out; omega
              case rel => exact ⟨(wrap64 (x6_1 + 1)), (by first | rfl | (simp; done) | (simp [*]; done)), H', ⟨by have := HK1.out; omega⟩, by repeat (first | exact Drawn0.refl _ | apply Drawn0.step)⟩
            · replace c7 := Bool.eq_false_iff.mpr c7
              subst c7
              have H1 : (some false) = some r := by rw [if_neg (show ¬ (false = true) by decide)] at H; exact H
              clear H
              have H := H1
              clear H1
              obtain rfl := Option.some.inj H
              have p5 : 0 ≤ (x6_1 : Int) := of_decide_eq_true (by first | (with_reducible assumption) | assumption)
              have q5 : x6_1 < (a0.size : Int) := of_decide_eq_true (by first | (with_reducible assumption) | assumption)
              have hx5 := bt_at a0 x6_1
              replace p5 := eq_true p5
              replace q5 := eq_true q5
              go_wp2_with (first | ((with_reducible refine gate_callee (f := 99) rfl ?_); refine goesL_ (some 13) rfl rfl Try.func99 (by kernel_rfl) rfl #[.int .u8 (bt a0 x6_1), .int .i64 x6_1] rfl (by (try simp only [List.map_toArray, List.map_cons, List.map_nil]); first | done | rfl | (simp only [List.length_drop, List.length_take]; rfl)) ?_; (with_reducible refine (impl_isNameByte.calls (bt a0 x6_1) x6_1 false _ A6.out).mono ?_); rintro e w' ⟨rfl, ⟨nd, rfl⟩⟩; refine ⟨_, rfl, ?_⟩))
              go_ret
              exact ⟨by first | rfl | (simp; done) | (simp [*]; done), by repeat (first | exact Drawn0.refl _ | apply Drawn0.step)⟩
          · rw [if_neg c4] at H
            exact absurd H (by simp)
        · rw [if_neg c3] at H
          exact absurd H (by simp)
      · rw [if_neg c2] at H
        have c2b0 : decide (x6_1 < (a0.size : Int)) = false := decide_eq_false c2
        clear c2
        replace H := Option.bind_eq_some_iff.mp H
        obtain ⟨t189, A80, H⟩ := H
        replace H : ((impl_within.f t189 1 20).bind fun t190 => (some t190)) = some r := H
        have A8 := Aside0.mk A80
        clear A80
        replace H := Option.bind_eq_some_iff.mp H
        obtain ⟨t190, A90, H⟩ := H
        replace H : (some t190) = some r := H
        have A9 := Aside0.mk A90
        clear A90
        obtain rfl := Option.some.inj H
        go_wp2_with (first | ((with_reducible refine gate_callee (f := 90) rfl ?_); refine goesL_ (some 17) rfl rfl Try.func90 (by kernel_rfl) rfl #[.string a0] rfl (by (try simp only [List.map_toArray, List.map_cons, List.map_nil]); first | done | rfl | (simp only [List.length_drop, List.length_take]; rfl)) ?_; (with_reducible refine (impl_length.calls a0 t189 _ A8.out).mono ?_); rintro e w' ⟨rfl, ⟨nd, rfl⟩⟩; refine ⟨_, rfl, ?_⟩) | ((with_reducible refine gate_callee (f := 55) rfl ?_); refine goesL_ (some 18) rfl rfl Try.func55 (by kernel_rfl) rfl #[.int .i64 t189, .int .i64 1, .int .i64 20] rfl (by (try simp only [List.map_toArray, List.map_cons, List.map_nil]); first | done | rfl | (simp only [List.length_drop, List.length_take]; rfl)) ?_; (with_reducible refine (impl_within.calls t189 1 20 t190 _ A9.out).mono ?_); rintro e w' ⟨rfl, ⟨nd, rfl⟩⟩; refine ⟨_, rfl, ?_⟩))
        go_ret
        exact ⟨by first | rfl | (simp; done) | (simp [*]; done), by repeat (first | exact Drawn0.refl _ | apply Drawn0.step)⟩

/-! ### impl_isMethodName: function 74 -/
def impl_isMethodName.f (k : Nat) (a0 : ByteArray) : Option (Bool) := (impl_NameRight.f k a0).bind fun t191 => (if t191 = true then (some true) else (some (a0.toList == ([60, 105, 110, 105, 116, 62] : List UInt8))))
theorem impl_isMethodName.mono : ∀ a0 k, LeO (impl_isMethodName.f k a0) (impl_isMethodName.f (k + 1) a0) := by
  intro a0 k
  unfold impl_isMethodName.f
  repeat' first
      | (with_reducible exact impl_NameRight.mono _ _)
      | (with_reducible exact LeO.refl _)
      | (with_reducible exact LeO.none _)
      | (with_reducible refine LeO.ite ?_ ?_)
      | (with_reducible refine LeO.bind ?_ (fun _ => ?_))
      | exact impl_NameRight.mono _ _
      | exact LeO.none _
      | refine LeO.ite ?_ ?_
      | refine LeO.bind ?_ (fun _ => ?_)
set_option maxHeartbeats 8000000 in
set_option maxRecDepth 100000 in
theorem impl_isMethodName.calls (k : Nat) (a0 : ByteArray) (r : Bool) (w : World) (h : impl_isMethodName.f k a0 = some r) :
    Calls Try.prog 74 #[.string a0] w fun e w' => e = .returned (.bool r) ∧ Drawn0 w w' := by
  have H : ((impl_NameRight.f k a0).bind fun t191 => (if t191 = true then (some true) else (some (a0.toList == ([60, 105, 110, 105, 116, 62] : List UInt8))))) = some r := h
  clear h
  replace H := Option.bind_eq_some_iff.mp H
  obtain ⟨t191, A20, H⟩ := H
  replace H : (if t191 = true then (some true) else (some (a0.toList == ([60, 105, 110, 105, 116, 62] : List UInt8)))) = some r := H
  have A2 := Aside0.mk A20
  clear A20
  by_cases c3 : t191 = true
  · subst c3
    have H1 : (some true) = some r := by rw [if_pos rfl] at H; exact H
    clear H
    have H := H1
    clear H1
    obtain rfl := Option.some.inj H
    go_enter Try.func74, Try.ntmps74
    go_wp2_with (first | ((with_reducible refine gate_callee (f := 73) rfl ?_); refine goesL_ (some 4) rfl rfl Try.func73 (by kernel_rfl) rfl #[.string a0] rfl (by (try simp only [List.map_toArray, List.map_cons, List.map_nil]); first | done | rfl | (simp only [List.length_drop, List.length_take]; rfl)) ?_; (with_reducible refine (impl_NameRight.calls k a0 true _ A2.out).mono ?_); rintro e w' ⟨rfl, ⟨nd, rfl⟩⟩; refine ⟨_, rfl, ?_⟩))
    go_ret
    exact ⟨by first | rfl | (simp; done) | (simp [*]; done), by repeat (first | exact Drawn0.refl _ | apply Drawn0.step)⟩
  · replace c3 := Bool.eq_false_iff.mpr c3
    subst c3
    have H1 : (some (a0.toList == ([60, 105, 110, 105, 116, 62] : List UInt8))) = some r := by rw [if_neg (show ¬ (false = true) by decide)] at H; exact H
    clear H
    have H := H1
    clear H1
    obtain rfl := Option.some.inj H
    go_enter Try.func74, Try.ntmps74
    go_wp2_with (first | ((with_reducible refine gate_callee (f := 73) rfl ?_); refine goesL_ (some 4) rfl rfl Try.func73 (by kernel_rfl) rfl #[.string a0] rfl (by (try simp only [List.map_toArray, List.map_cons, List.map_nil]); first | done | rfl | (simp only [List.length_drop, List.length_take]; rfl)) ?_; (with_reducible refine (impl_NameRight.calls k a0 false _ A2.out).mono ?_); rintro e w' ⟨rfl, ⟨nd, rfl⟩⟩; refine ⟨_, rfl, ?_⟩))
    go_ret
    exact ⟨by first | rfl | (simp; done) | (simp [*]; done), by repeat (first | exact Drawn0.refl _ | apply Drawn0.step)⟩

/-! ### impl_isText: function 51 -/
def impl_isText.l0 : Nat → List ByteArray → Int → Int → Option (Bool)
  | 0, _, _, _ => none
  | k + 1, x5, x6, x7 => if x7 < x6 then (if 0 ≤ x7 then (if x7 < (x5.length : Int) then (if ((rdOf ByteArray.empty x5 x7).size : Int) > 20000 then (some false) else (impl_isText.l0 k x5 x6 (wrap64 (x7 + 1)))) else (none)) else (none)) else (some true)
def impl_isText.f (k : Nat) (l0 : List ByteArray) : Option (Bool) := impl_isText.l0 k l0 (l0.length : Int) 0
theorem impl_isText.mono_l : ∀ k, (∀ y0 y1 y2, LeO (impl_isText.l0 k y0 y1 y2) (impl_isText.l0 (k + 1) y0 y1 y2))
  | 0 => fun _ _ _ r h => by simp [impl_isText.l0] at h
  | k + 1 => by
    have ih0 := impl_isText.mono_l k
    · intro y0 y1 y2
      unfold impl_isText.l0
      repeat' first
      | (with_reducible exact ih0 _ _ _)
      | (with_reducible exact LeO.refl _)
      | (with_reducible exact LeO.none _)
      | (with_reducible refine LeO.ite ?_ ?_)
      | (with_reducible refine LeO.bind ?_ (fun _ => ?_))
      | exact ih0 _ _ _
      | exact LeO.none _
      | refine LeO.ite ?_ ?_
      | refine LeO.bind ?_ (fun _ => ?_)
theorem impl_isText.mono : ∀ a0 k, LeO (impl_isText.f k a0) (impl_isText.f (k + 1) a0) := by
  intro a0 k
  have ih0 := impl_isText.mono_l k
  unfold impl_isText.f
  repeat' first
      | (with_reducible exact ih0 _ _ _)
      | (with_reducible exact LeO.refl _)
      | (with_reducible exact LeO.none _)
      | (with_reducible refine LeO.ite ?_ ?_)
      | (with_reducible refine LeO.bind ?_ (fun _ => ?_))
      | exact ih0 _ _ _
      | exact LeO.none _
      | refine LeO.ite ?_ ?_
      | refine LeO.bind ?_ (fun _ => ?_)
set_option maxHeartbeats 8000000 in
set_option maxRecDepth 100000 in
theorem impl_isText.calls (k : Nat) (A0 : Option Addr) (c0 : Nat) (l0 : List ByteArray) (r : Bool) (w : World) (hr0 : Kd.C Kd.string w A0 l0.length l0) (hc0 : l0.length ≤ c0) (h : impl_isText.f k l0 = some r) :
    Calls Try.prog 51 #[.slice A0 l0.length c0] w fun e w' => e = .returned (.bool r) ∧ Drawn0 w w' := by
  have HR0 := Aside0.mk hr0
  have HC0 := Aside0.mk hc0
  clear hr0 hc0
  have H : (impl_isText.l0 k l0 (l0.length : Int) 0) = some r := h
  clear h
  have H' := Aside0.mk H
  clear H
  go_enter Try.func51, Try.ntmps51
  go_wp2
  go_loopg [7] k (fun kq v7 w' => ∃ (x7_1 : Int), v7 = .int .i64 x7_1 ∧ Aside0 (impl_isText.l0 kq l0 (l0.length : Int) x7_1 = some r) ∧ Aside0 (kq ≤ k) ∧ Drawn0 w w')
  case atStart => exact ⟨(0), (by first | rfl | (simp; done) | (simp [*]; done)), H', ⟨Nat.le_refl _⟩, by repeat (first | exact Drawn0.refl _ | apply Drawn0.step)⟩
  case round =>
    clear H'
    obtain ⟨x7_1, rfl, HA, HK1, ⟨m1, rfl⟩⟩ := hrel
    cases gk with
    | zero => exact absurd HA.out (by simp [impl_isText.l0])
    | succ k1 =>
      have H := HA.out
      clear HA
      simp only [impl_isText.l0] at H
      by_cases c2 : x7_1 < (l0.length : Int)
      · rw [if_pos c2] at H
        have c2b0 : decide (x7_1 < (l0.length : Int)) = true := decide_eq_true c2
        clear c2
        by_cases c3 : 0 ≤ x7_1
        · rw [if_pos c3] at H
          have c3b0 : decide (0 ≤ x7_1) = true := decide_eq_true c3
          clear c3
          by_cases c4 : x7_1 < (l0.length : Int)
          · rw [if_pos c4] at H
            have c4b0 : decide (x7_1 < (l0.length : Int)) = true := decide_eq_true c4
            clear c4
            by_cases c5 : ((rdOf ByteArray.empty l0 x7_1).size : Int) > 20000
            · rw [if_pos c5] at H
              have c5b0 : decide (20000 < ((rdOf ByteArray.empty l0 x7_1).size : Int)) = true := decide_eq_true c5
              have c5b1 : decide (20000 < (rdOf ByteArray.empty l0 x7_1).size) = true := decide_eq_true (by omega)
              clear c5
              obtain rfl := Option.some.inj H
              have p192 : 0 ≤ (x7_1 : Int) := of_decide_eq_true (by first | (with_reducible assumption) | assumption)
              have q192 : x7_1 < (l0.length : Int) := of_decide_eq_true (by first | (with_reducible assumption) | assumption)
              obtain ⟨ad192, e192, hx192_0⟩ := Kd.at_string HR0.out x7_1 p192 q192
              cases e192
              replace p192 := eq_true p192
              replace q192 := eq_true q192
              go_wp2
              go_ret
              exact ⟨by first | rfl | (simp; done) | (simp [*]; done), by repeat (first | exact Drawn0.refl _ | apply Drawn0.step)⟩
            · rw [if_neg c5] at H
              have c5b0 : decide (20000 < ((rdOf ByteArray.empty l0 x7_1).size : Int)) = false := decide_eq_false c5
              have c5b1 : decide (20000 < (rdOf ByteArray.empty l0 x7_1).size) = false := decide_eq_false (by omega)
              clear c5
              have H' := Aside0.mk H
              clear H
              have p192 : 0 ≤ (x7_1 : Int) := of_decide_eq_true (by first | (with_reducible assumption) | assumption)
              have q192 : x7_1 < (l0.length : Int) := of_decide_eq_true (by first | (with_reducible assumption) | assumption)
              obtain ⟨ad192, e192, hx192_0⟩ := Kd.at_string HR0.out x7_1 p192 q192
              cases e192
              replace p192 := eq_true p192
              replace q192 := eq_true q192
              go_wp2
              go_roundg k1
              case measure => have := HK1.out; omega
              case rel => exact ⟨(wrap64 (x7_1 + 1)), (by first | rfl | (simp; done) | (simp [*]; done)), H', ⟨by have := HK1.out; omega⟩, by repeat (first | exact Drawn0.refl _ | apply Drawn0.step)⟩
          · rw [if_neg c4] at H
            exact absurd H (by simp)
        · rw [if_neg c3] at H
          exact absurd H (by simp)
      · rw [if_neg c2] at H
        have c2b0 : decide (x7_1 < (l0.length : Int)) = false := decide_eq_false c2
        clear c2
        obtain rfl := Option.some.inj H
        go_wp2
        go_ret
        exact ⟨by first | rfl | (simp; done) | (simp [*]; done), by repeat (first | exact Drawn0.refl _ | apply Drawn0.step)⟩

end Go.Proofs.Ytjmochmnioegoaa.PFnOps
