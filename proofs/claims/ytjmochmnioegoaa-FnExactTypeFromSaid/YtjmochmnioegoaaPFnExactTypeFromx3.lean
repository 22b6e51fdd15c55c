/- Functions of the program as plain Lean functions, each with a proof that the program's call comes to the same; no condition. Written by a program of this session. -/
import Derived.Test.YtjmochmnioegoaaPFnExactTypeFromx0
import Derived.Test.YtjmochmnioegoaaPFnExactTypeFromx2
namespace Go.Proofs.Ytjmochmnioegoaa.PFnExactTypeFrom
open Go.RowKit Go.Proofs.YtjmochmnioegoaaW.PrintWords Go.Proofs.YtjmochmnioegoaaW.PrintLast Go.Proofs.YtjmochmnioegoaaW.PrintMore
attribute [local go_sem] max2_int min2_int max_two min_two max_three min_three max_four min_four   -- for this text's walks alone
set_option linter.unusedVariables false
set_option linter.unusedSimpArgs false

/-! ### impl_reader_want: function 100 -/
def impl_reader_want.f (s0_0 : ByteArray) (s0_1 : Int) (s0_2 : Bool) (a1 : Int) : Option (ByteArray × Int × Bool) := (impl_reader_take.f s0_0 s0_1 s0_2 a1).bind fun bt120 => (if bt120.1 = true then (some (bt120.2.1, bt120.2.2.1, bt120.2.2.2)) else (some (bt120.2.1, bt120.2.2.1, true)))
set_option maxHeartbeats 8000000 in
set_option maxRecDepth 100000 in
theorem impl_reader_want.calls (g : Nat) (s0_0 : ByteArray) (s0_1 : Int) (s0_2 : Bool) (a1 : Int) (r1 : ByteArray) (r2 : Int) (r3 : Bool) (w0 w : World) (hI : IsS91 w0 w g s0_0 s0_1 s0_2) (hB : Below w0.heap.size w0 w) (h : impl_reader_want.f s0_0 s0_1 s0_2 a1 = some (r1, r2, r3)) :
    Calls Try.prog 100 #[.pointer (some ⟨g, 0, none⟩), .int .u8 a1] w fun e w' => e = .returned (.tuple #[]) ∧ IsS91 w0 w' g r1 r2 r3 ∧ Below w0.heap.size w0 w' ∧ KeepBut w w' g none := by
  have HI0 := Aside0.mk hI
  have HK := Aside0.mk (KeepBut.refl w g none)
  have HL := Aside0.mk hB.size
  clear hI
  have HW0 := Aside0.mk hB.size
  have HB := Aside0.mk hB
  clear hB
  have H : ((impl_reader_take.f s0_0 s0_1 s0_2 a1).bind fun bt120 => (if bt120.1 = true then (some (bt120.2.1, bt120.2.2.1, bt120.2.2.2)) else (some (bt120.2.1, bt120.2.2.1, true)))) = some (r1, r2, r3) := h
  clear h
  replace H := Option.bind_eq_some_iff.mp H
  obtain ⟨⟨t120, t121, t122, t123⟩, A30, H⟩ := H
  replace H : (if t120 = true then (some (t121, t122, t123)) else (some (t121, t122, true))) = some (r1, r2, r3) := H
  have A3 := Aside0.mk A30
  clear A30
  by_cases c4 : t120 = true
  · subst c4
    have H1 : (some (t121, t122, t123)) = some (r1, r2, r3) := by rw [if_pos rfl] at H; exact H
    clear H
    have H := H1
    clear H1
    simp only [Option.some.injEq, Prod.mk.injEq] at H
    obtain ⟨rfl, rfl, rfl⟩ := H
    go_enter Try.func100, Try.ntmps100
    go_wp2_with (first | ((with_reducible refine gate_callee (f := 101) rfl ?_); refine goesL_ (some 6) rfl rfl Try.func101 (by kernel_rfl) rfl #[.pointer (some ⟨g, 0, none⟩), .int .u8 a1] rfl (by (try simp only [List.map_toArray, List.map_cons, List.map_nil]); first | done | rfl | (simp only [List.length_drop, List.length_take]; rfl)) ?_; (with_reducible refine (impl_reader_take.calls g s0_0 s0_1 s0_2 a1 true t121 t122 t123 w0 _ ?side1 ?side2 A3.out).mono ?_); (case side1 => repeat (first | (with_reducible first | exact HI0.out | apply IsS91.alloc | apply IsS91.drewN | apply IsS91.drew | apply IsS91.set_0 | apply IsS91.set_1 | apply IsS91.set_2) | exact HI0.out)); (case side2 => repeat (first | (with_reducible first | exact HB.out | apply below_alloc | apply pw_below_drewN | apply below_drew1 | refine below_set ?_ (IsS91.ge HI0.out)) | exact HB.out)); rintro e w5 ⟨rfl, hi, hb, hk⟩; refine ⟨_, rfl, ?_⟩; have n0_ := Aside0.mk (KeepBut.trans (by repeat (first | (with_reducible first | exact HK.out | apply KeepBut.set_ | apply keep_drewN | apply keep_drew | apply keep_alloc) | exact HK.out)) hk (.inl rfl)); have n1_ := Aside0.mk (hb); have n2_ := Aside0.mk (hi); clear HK; clear HB; clear HI0; have HK := n0_; have HB := n1_; have HI0 := n2_; clear n0_ n1_ n2_; (try clear hb); (try clear hb2); (try clear hk); (try clear hi)))
    first | go_end0 | ((try simp only [Exit.inBlock, Exit.then]); refine bodyPost_ret (results_none rfl _ _ _) rfl ?_)
    exact ⟨by first | rfl | (simp [errW_none, errW_some] <;> rfl) | (simp [*, errW_none, errW_some] <;> rfl), by repeat (first | (with_reducible first | exact HI0.out | apply IsS91.alloc | apply IsS91.drewN | apply IsS91.drew | apply IsS91.set_0 | apply IsS91.set_1 | apply IsS91.set_2) | exact HI0.out), by repeat (first | (with_reducible first | exact HB.out | apply below_alloc | apply pw_below_drewN | apply below_drew1 | refine below_set ?_ (IsS91.ge HI0.out)) | exact HB.out), by repeat (first | (with_reducible first | exact HK.out | apply KeepBut.set_ | apply keep_drewN | apply keep_drew | apply keep_alloc) | exact HK.out)⟩
  · replace c4 := Bool.eq_false_iff.mpr c4
    subst c4
    have H1 : (some (t121, t122, true)) = some (r1, r2, r3) := by rw [if_neg (show ¬ (false = true) by decide)] at H; exact H
    clear H
    have H := H1
    clear H1
    simp only [Option.some.injEq, Prod.mk.injEq] at H
    obtain ⟨rfl, rfl, rfl⟩ := H
    go_enter Try.func100, Try.ntmps100
    go_wp2_with (first | ((with_reducible refine gate_callee (f := 101) rfl ?_); refine goesL_ (some 6) rfl rfl Try.func101 (by kernel_rfl) rfl #[.pointer (some ⟨g, 0, none⟩), .int .u8 a1] rfl (by (try simp only [List.map_toArray, List.map_cons, List.map_nil]); first | done | rfl | (simp only [List.length_drop, List.length_take]; rfl)) ?_; (with_reducible refine (impl_reader_take.calls g s0_0 s0_1 s0_2 a1 false t121 t122 t123 w0 _ ?side1 ?side2 A3.out).mono ?_); (case side1 => repeat (first | (with_reducible first | exact HI0.out | apply IsS91.alloc | apply IsS91.drewN | apply IsS91.drew | apply IsS91.set_0 | apply IsS91.set_1 | apply IsS91.set_2) | exact HI0.out)); (case side2 => repeat (first | (with_reducible first | exact HB.out | apply below_alloc | apply pw_below_drewN | apply below_drew1 | refine below_set ?_ (IsS91.ge HI0.out)) | exact HB.out)); rintro e w6 ⟨rfl, hi, hb, hk⟩; refine ⟨_, rfl, ?_⟩; have n0_ := Aside0.mk (KeepBut.trans (by repeat (first | (with_reducible first | exact HK.out | apply KeepBut.set_ | apply keep_drewN | apply keep_drew | apply keep_alloc) | exact HK.out)) hk (.inl rfl)); have n1_ := Aside0.mk (hb); have n2_ := Aside0.mk (hi); clear HK; clear HB; clear HI0; have HK := n0_; have HB := n1_; have HI0 := n2_; clear n0_ n1_ n2_; (try clear hb); (try clear hb2); (try clear hk); (try clear hi); obtain ⟨HGz7, hgz7⟩ := HI0.out; have hcz7_0 := cellS91_0 HGz7; have hcz7_1 := cellS91_1 HGz7; have hcz7_2 := cellS91_2 HGz7; have hfz7_0 := blk_frozen HGz7 0; have hfz7_1 := blk_frozen HGz7 1; have hfz7_2 := blk_frozen HGz7 2; clear HGz7 hgz7))
    first | go_end0 | ((try simp only [Exit.inBlock, Exit.then]); refine bodyPost_ret (results_none rfl _ _ _) rfl ?_)
    exact ⟨by first | rfl | (simp [errW_none, errW_some] <;> rfl) | (simp [*, errW_none, errW_some] <;> rfl), by repeat (first | (with_reducible first | exact HI0.out | apply IsS91.alloc | apply IsS91.drewN | apply IsS91.drew | apply IsS91.set_0 | apply IsS91.set_1 | apply IsS91.set_2) | exact HI0.out), by repeat (first | (with_reducible first | exact HB.out | apply below_alloc | apply pw_below_drewN | apply below_drew1 | refine below_set ?_ (IsS91.ge HI0.out)) | exact HB.out), by repeat (first | (with_reducible first | exact HK.out | apply KeepBut.set_ | apply keep_drewN | apply keep_drew | apply keep_alloc) | exact HK.out)⟩

/-! ### impl_reader_name: function 106 -/
def impl_reader_name.l0 : Nat → Int → ByteArray → Int → Bool → Option (ByteArray × Int × Bool)
  | 0, _, _, _, _ => none
  | k + 1, x2, x1000, x1001, x1002 => if x1002 = true then (if x1001 = x2 then ((impl_reader_want.f x1000 x1001 true 59).bind fun bt124 => (some (bt124.1, bt124.2.1, bt124.2.2))) else ((impl_reader_want.f x1000 x1001 x1002 59).bind fun bt127 => (some (bt127.1, bt127.2.1, bt127.2.2)))) else ((impl_length.f x1000).bind fun t130 => (if x1001 < t130 then (if x1001 < (wrap64 (x2 + 20)) then (if 0 ≤ x1001 then (if x1001 < (x1000.size : Int) then ((impl_isNameByte.f (bt x1000 x1001) (wrap64 (x1001 - x2))).bind fun t131 => (if t131 = true then (impl_reader_name.l0 k x2 x1000 (wrap64 (x1001 + 1)) x1002) else (if x1001 = x2 then ((impl_reader_want.f x1000 x1001 true 59).bind fun bt132 => (some (bt132.1, bt132.2.1, bt132.2.2))) else ((impl_reader_want.f x1000 x1001 x1002 59).bind fun bt135 => (some (bt135.1, bt135.2.1, bt135.2.2)))))) else (none)) else (none)) else (if x1001 = x2 then ((impl_reader_want.f x1000 x1001 true 59).bind fun bt138 => (some (bt138.1, bt138.2.1, bt138.2.2))) else ((impl_reader_want.f x1000 x1001 x1002 59).bind fun bt141 => (some (bt141.1, bt141.2.1, bt141.2.2))))) else (if x1001 = x2 then ((impl_reader_want.f x1000 x1001 true 59).bind fun bt144 => (some (bt144.1, bt144.2.1, bt144.2.2))) else ((impl_reader_want.f x1000 x1001 x1002 59).bind fun bt147 => (some (bt147.1, bt147.2.1, bt147.2.2))))))
def impl_reader_name.f (k : Nat) (s0_0 : ByteArray) (s0_1 : Int) (s0_2 : Bool) : Option (ByteArray × Int × Bool) := impl_reader_name.l0 k s0_1 s0_0 s0_1 s0_2
theorem impl_reader_name.mono_l : ∀ k, (∀ y0 y1 y2 y3, LeO (impl_reader_name.l0 k y0 y1 y2 y3) (impl_reader_name.l0 (k + 1) y0 y1 y2 y3))
  | 0 => fun _ _ _ _ r h => by simp [impl_reader_name.l0] at h
  | k + 1 => by
    have ih0 := impl_reader_name.mono_l k
    · intro y0 y1 y2 y3
      unfold impl_reader_name.l0
      repeat' first
      | (with_reducible exact ih0 _ _ _ _)
      | (with_reducible exact LeO.refl _)
      | (with_reducible exact LeO.none _)
      | (with_reducible refine LeO.ite ?_ ?_)
      | (with_reducible refine LeO.bind ?_ (fun _ => ?_))
      | exact ih0 _ _ _ _
      | exact LeO.none _
      | refine LeO.ite ?_ ?_
      | refine LeO.bind ?_ (fun _ => ?_)
theorem impl_reader_name.mono : ∀ a0 a1 a2 k, LeO (impl_reader_name.f k a0 a1 a2) (impl_reader_name.f (k + 1) a0 a1 a2) := by
  intro a0 a1 a2 k
  have ih0 := impl_reader_name.mono_l k
  unfold impl_reader_name.f
  repeat' first
      | (with_reducible exact ih0 _ _ _ _)
      | (with_reducible exact LeO.refl _)
      | (with_reducible exact LeO.none _)
      | (with_reducible refine LeO.ite ?_ ?_)
      | (with_reducible refine LeO.bind ?_ (fun _ => ?_))
      | exact ih0 _ _ _ _
      | exact LeO.none _
      | refine LeO.ite ?_ ?_
      | refine LeO.bind ?_ (fun _ => ?_)
set_option maxHeartbeats 8000000 in
set_option maxRecDepth 100000 in
theorem impl_reader_name.calls (k : Nat) (g : Nat) (s0_0 : ByteArray) (s0_1 : Int) (s0_2 : Bool) (r1 : ByteArray) (r2 : Int) (r3 : Bool) (w0 w : World) (hI : IsS91 w0 w g s0_0 s0_1 s0_2) (hB : Below w0.heap.size w0 w) (h : impl_reader_name.f k s0_0 s0_1 s0_2 = some (r1, r2, r3)) :
    Calls Try.prog 106 #[.pointer (some ⟨g, 0, none⟩)] w fun e w' => e = .returned (.tuple #[]) ∧ IsS91 w0 w' g r1 r2 r3 ∧ Below w0.heap.size w0 w' ∧ KeepBut w w' g none := by
  have HI0 := Aside0.mk hI
  have HK := Aside0.mk (KeepBut.refl w g none)
  have HL := Aside0.mk hB.size
  clear hI
  have HW0 := Aside0.mk hB.size
  have HB := Aside0.mk hB
  clear hB
  have H : (impl_reader_name.l0 k s0_1 s0_0 s0_1 s0_2) = some (r1, r2, r3) := h
  clear h
  have eta : ∀ (o : Option (ByteArray × Int × Bool)) (r : ByteArray × Int × Bool), (o.bind fun b => some (b.1, b.2.1, b.2.2)) = some r → o = some r := by
    intro o r h
    cases o with
    | none => exact h
    | some b => exact h
  have hg := IsS91.ge HI0.out
  have hu91 := Try.underlying91
  have hlen : ∀ W : World, Calls Try.prog 90 #[.string s0_0] W fun e W' => e = .returned (.int .i64 (s0_0.size : Int)) ∧ Drawn0 W W' := fun W => impl_length.calls s0_0 (s0_0.size : Int) W rfl
  have hlq : ∀ (W : World) (n : Nat), Calls Try.prog 90 #[.string s0_0] (W.drewN n) fun e w'' => e = .returned (.int .i64 (s0_0.size : Int)) ∧ ∃ m, w'' = W.drewN m := fun W n => Calls.quiet_of ((hlen (W.drewN n)).mono fun e W' ⟨he, ⟨m, hm⟩⟩ => ⟨he, m, hm⟩)
  have HH := Aside0.mk H
  clear H hlen
  obtain ⟨hb0, _⟩ := HI0.out
  have g1 := cellS91_1 hb0
  clear hb0
  go_enter Try.func106, Try.ntmps106
  go_wp2
  clear g1
  go_loopg [] k (fun kq w' => ∃ (x : Int), Aside0 (impl_reader_name.l0 kq s0_1 s0_0 x s0_2 = some (r1, r2, r3)) ∧ Aside0 (kq ≤ k) ∧ Aside0 (IsS91 w0 w' g s0_0 x s0_2) ∧ Aside0 (Below w0.heap.size w0 w') ∧ Aside0 (KeepBut w w' g none))
  case atStart => exact ⟨s0_1, HH, ⟨Nat.le_refl _⟩, HI0, HB, HK⟩
  case round =>
    clear HH HI0 HB HK
    obtain ⟨x, HA, HK1, HI, HB, HK⟩ := hrel
    cases gk with
    | zero => exact absurd HA.out (by simp [impl_reader_name.l0])
    | succ k1 =>
      have H := HA.out
      clear HA
      simp only [impl_reader_name.l0, impl_length.f, Option.bind_some] at H
      obtain ⟨hb, _⟩ := HI.out
      have f0 := cellS91_0 hb
      have f1 := cellS91_1 hb
      have f2 := cellS91_2 hb
      have z1 := blk_frozen hb 1
      have z2 := blk_frozen hb 2
      clear hb
      cases s0_2 with
      | true =>
        rw [if_pos rfl] at H
        clear hlq
        by_cases c9 : x = s0_1
        · rw [if_pos c9] at H
          have c9b : (x == s0_1) = true := beq_iff_eq.mpr c9
          have HW := Aside0.mk (eta _ _ H)
          clear H c9
          go_wp2
          go_quiet (fail)
          go_wp2_with (first | ((with_reducible refine gate_callee (f := 100) rfl ?_); refine goesL_ (some 68) rfl rfl Try.func100 (by kernel_rfl) rfl #[.pointer (some ⟨g, 0, none⟩), .int .u8 59] rfl (by (try simp only [List.map_toArray, List.map_cons, List.map_nil]); first | done | rfl) ?_; (with_reducible refine (impl_reader_want.calls g s0_0 x true 59 r1 r2 r3 w0 _ ?side1 ?side2 HW.out).mono ?_); (case side1 => (with_reducible repeat (first | exact HI.out | apply IsS91.drewN | apply IsS91.drew | apply IsS91.set_1 | apply IsS91.set_2))); (case side2 => (with_reducible repeat (first | exact HB.out | apply pw_below_drewN | apply below_drew1 | refine below_set ?_ hg))); rintro e w5 ⟨rfl, hi, hb, hk⟩; refine ⟨_, rfl, ?_⟩; have HI2 := Aside0.mk hi; have HB2 := Aside0.mk hb; have HK2 := Aside0.mk (KeepBut.trans (by (with_reducible repeat (first | exact HK.out | apply KeepBut.set_ | apply keep_drewN | apply keep_drew))) hk (.inl rfl)); clear hi hb hk))
          first | go_end0 | ((try simp only [Exit.inBlock, Exit.then]); refine bodyPost_ret (results_none rfl _ _ _) rfl ?_)
          exact ⟨rfl, HI2.out, HB2.out, HK2.out⟩
        · rw [if_neg c9] at H
          have c9b : (x == s0_1) = false := beq_eq_false_iff_ne.mpr c9
          have HW := Aside0.mk (eta _ _ H)
          clear H
          go_wp2
          go_quiet (fail)
          go_wp2_with (first | ((with_reducible refine gate_callee (f := 100) rfl ?_); refine goesL_ (some 68) rfl rfl Try.func100 (by kernel_rfl) rfl #[.pointer (some ⟨g, 0, none⟩), .int .u8 59] rfl (by (try simp only [List.map_toArray, List.map_cons, List.map_nil]); first | done | rfl) ?_; (with_reducible refine (impl_reader_want.calls g s0_0 x true 59 r1 r2 r3 w0 _ ?side1 ?side2 HW.out).mono ?_); (case side1 => (with_reducible repeat (first | exact HI.out | apply IsS91.drewN | apply IsS91.drew | apply IsS91.set_1 | apply IsS91.set_2))); (case side2 => (with_reducible repeat (first | exact HB.out | apply pw_below_drewN | apply below_drew1 | refine below_set ?_ hg))); rintro e w5 ⟨rfl, hi, hb, hk⟩; refine ⟨_, rfl, ?_⟩; have HI2 := Aside0.mk hi; have HB2 := Aside0.mk hb; have HK2 := Aside0.mk (KeepBut.trans (by (with_reducible repeat (first | exact HK.out | apply KeepBut.set_ | apply keep_drewN | apply keep_drew))) hk (.inl rfl)); clear hi hb hk))
          first | go_end0 | ((try simp only [Exit.inBlock, Exit.then]); refine bodyPost_ret (results_none rfl _ _ _) rfl ?_)
          exact ⟨rfl, HI2.out, HB2.out, HK2.out⟩
      | false =>
        rw [if_neg (by simp)] at H
        by_cases c1 : x < (s0_0.size : Int)
        · rw [if_pos c1] at H
          have c1b : decide (x < (s0_0.size : Int)) = true := decide_eq_true c1
          by_cases c2 : x < wrap64 (s0_1 + 20)
          · rw [if_pos c2] at H
            have c2b : decide (x < wrap64 (s0_1 + 20)) = true := decide_eq_true c2
            have c2c : decide (x < IntKind.i64.wrap (s0_1 + 20)) = true := by rw [i64_w]; exact c2b
            by_cases c3 : 0 ≤ x
            · rw [if_pos c3, if_pos c1] at H
              have c3b : decide (0 ≤ x) = true := decide_eq_true c3
              obtain ⟨t, ht, H⟩ := Option.bind_eq_some_iff.mp H
              have hbt := bt_at s0_0 x
              have hnq : ∀ (W : World) (n : Nat), Calls Try.prog 99 #[.int .u8 (bt s0_0 x), .int .i64 (wrap64 (x - s0_1))] (W.drewN n) fun e w'' => e = .returned (.bool t) ∧ ∃ m, w'' = W.drewN m := fun W n => by
                exact Calls.quiet_of ((impl_isNameByte.calls (bt s0_0 x) (wrap64 (x - s0_1)) t (W.drewN n) ht).mono fun e W' ⟨he, ⟨m, hm⟩⟩ => ⟨he, m, hm⟩)
              clear ht c2
              cases t with
              | true =>
                rw [if_pos rfl] at H
                have H' := Aside0.mk H
                clear H
                go_wp2
                go_quiet (first | (go_at_call 90; exact hlq _ _) | (go_at_call 99; with_reducible exact hnq _ _))
                go_wp2
                go_roundg k1
                case measure => have := HK1.out; omega
                case rel => exact ⟨wrap64 (x + 1), H', ⟨by have := HK1.out; omega⟩, ⟨by (with_reducible repeat (first | exact HI.out | apply IsS91.drewN | apply IsS91.drew | apply IsS91.set_1 | apply IsS91.set_2))⟩, ⟨by (with_reducible repeat (first | exact HB.out | apply pw_below_drewN | apply below_drew1 | refine below_set ?_ hg))⟩, ⟨by (with_reducible repeat (first | exact HK.out | apply KeepBut.set_ | apply keep_drewN | apply keep_drew))⟩⟩
              | false =>
                rw [if_neg (by simp)] at H
                by_cases c9 : x = s0_1
                · rw [if_pos c9] at H
                  have c9b : (x == s0_1) = true := beq_iff_eq.mpr c9
                  have HW := Aside0.mk (eta _ _ H)
                  clear H c9
                  go_wp2
                  go_quiet (first | (go_at_call 90; exact hlq _ _) | (go_at_call 99; with_reducible exact hnq _ _))
                  go_wp2_with (first | ((with_reducible refine gate_callee (f := 100) rfl ?_); refine goesL_ (some 68) rfl rfl Try.func100 (by kernel_rfl) rfl #[.pointer (some ⟨g, 0, none⟩), .int .u8 59] rfl (by (try simp only [List.map_toArray, List.map_cons, List.map_nil]); first | done | rfl) ?_; (with_reducible refine (impl_reader_want.calls g s0_0 x true 59 r1 r2 r3 w0 _ ?side1 ?side2 HW.out).mono ?_); (case side1 => (with_reducible repeat (first | exact HI.out | apply IsS91.drewN | apply IsS91.drew | apply IsS91.set_1 | apply IsS91.set_2))); (case side2 => (with_reducible repeat (first | exact HB.out | apply pw_below_drewN | apply below_drew1 | refine below_set ?_ hg))); rintro e w5 ⟨rfl, hi, hb, hk⟩; refine ⟨_, rfl, ?_⟩; have HI2 := Aside0.mk hi; have HB2 := Aside0.mk hb; have HK2 := Aside0.mk (KeepBut.trans (by (with_reducible repeat (first | exact HK.out | apply KeepBut.set_ | apply keep_drewN | apply keep_drew))) hk (.inl rfl)); clear hi hb hk))
                  first | go_end0 | ((try simp only [Exit.inBlock, Exit.then]); refine bodyPost_ret (results_none rfl _ _ _) rfl ?_)
                  exact ⟨rfl, HI2.out, HB2.out, HK2.out⟩
                · rw [if_neg c9] at H
                  have c9b : (x == s0_1) = false := beq_eq_false_iff_ne.mpr c9
                  have HW := Aside0.mk (eta _ _ H)
                  clear H
                  go_wp2
                  go_quiet (first | (go_at_call 90; exact hlq _ _) | (go_at_call 99; with_reducible exact hnq _ _))
                  go_wp2_with (first | ((with_reducible refine gate_callee (f := 100) rfl ?_); refine goesL_ (some 68) rfl rfl Try.func100 (by kernel_rfl) rfl #[.pointer (some ⟨g, 0, none⟩), .int .u8 59] rfl (by (try simp only [List.map_toArray, List.map_cons, List.map_nil]); first | done | rfl) ?_; (with_reducible refine (impl_reader_want.calls g s0_0 x false 59 r1 r2 r3 w0 _ ?side1 ?side2 HW.out).mono ?_); (case side1 => (with_reducible repeat (first | exact HI.out | apply IsS91.drewN | apply IsS91.drew | apply IsS91.set_1 | apply IsS91.set_2))); (case side2 => (with_reducible repeat (first | exact HB.out | apply pw_below_drewN | apply below_drew1 | refine below_set ?_ hg))); rintro e w5 ⟨rfl, hi, hb, hk⟩; refine ⟨_, rfl, ?_⟩; have HI2 := Aside0.mk hi; have HB2 := Aside0.mk hb; have HK2 := Aside0.mk (KeepBut.trans (by (with_reducible repeat (first | exact HK.out | apply KeepBut.set_ | apply keep_drewN | apply keep_drew))) hk (.inl rfl)); clear hi hb hk))
                  first | go_end0 | ((try simp only [Exit.inBlock, Exit.then]); refine bodyPost_ret (results_none rfl _ _ _) rfl ?_)
                  exact ⟨rfl, HI2.out, HB2.out, HK2.out⟩
            · rw [if_neg c3] at H
              exact absurd H (by simp)
          · rw [if_neg c2] at H
            have c2b : decide (x < wrap64 (s0_1 + 20)) = false := decide_eq_false c2
            have c2c : decide (x < IntKind.i64.wrap (s0_1 + 20)) = false := by rw [i64_w]; exact c2b
            clear c1 c2
            by_cases c9 : x = s0_1
            · rw [if_pos c9] at H
              have c9b : (x == s0_1) = true := beq_iff_eq.mpr c9
              have HW := Aside0.mk (eta _ _ H)
              clear H c9
              go_wp2
              go_quiet ((go_at_call 90; exact hlq _ _))
              go_wp2_with (first | ((with_reducible refine gate_callee (f := 100) rfl ?_); refine goesL_ (some 68) rfl rfl Try.func100 (by kernel_rfl) rfl #[.pointer (some ⟨g, 0, none⟩), .int .u8 59] rfl (by (try simp only [List.map_toArray, List.map_cons, List.map_nil]); first | done | rfl) ?_; (with_reducible refine (impl_reader_want.calls g s0_0 x true 59 r1 r2 r3 w0 _ ?side1 ?side2 HW.out).mono ?_); (case side1 => (with_reducible repeat (first | exact HI.out | apply IsS91.drewN | apply IsS91.drew | apply IsS91.set_1 | apply IsS91.set_2))); (case side2 => (with_reducible repeat (first | exact HB.out | apply pw_below_drewN | apply below_drew1 | refine below_set ?_ hg))); rintro e w5 ⟨rfl, hi, hb, hk⟩; refine ⟨_, rfl, ?_⟩; have HI2 := Aside0.mk hi; have HB2 := Aside0.mk hb; have HK2 := Aside0.mk (KeepBut.trans (by (with_reducible repeat (first | exact HK.out | apply KeepBut.set_ | apply keep_drewN | apply keep_drew))) hk (.inl rfl)); clear hi hb hk))
              first | go_end0 | ((try simp only [Exit.inBlock, Exit.then]); refine bodyPost_ret (results_none rfl _ _ _) rfl ?_)
              exact ⟨rfl, HI2.out, HB2.out, HK2.out⟩
            · rw [if_neg c9] at H
              have c9b : (x == s0_1) = false := beq_eq_false_iff_ne.mpr c9
              have HW := Aside0.mk (eta _ _ H)
              clear H
              go_wp2
              go_quiet ((go_at_call 90; exact hlq _ _))
              go_wp2_with (first | ((with_reducible refine gate_callee (f := 100) rfl ?_); refine goesL_ (some 68) rfl rfl Try.func100 (by kernel_rfl) rfl #[.pointer (some ⟨g, 0, none⟩), .int .u8 59] rfl (by (try simp only [List.map_toArray, List.map_cons, List.map_nil]); first | done | rfl) ?_; (with_reducible refine (impl_reader_want.calls g s0_0 x false 59 r1 r2 r3 w0 _ ?side1 ?side2 HW.out).mono ?_); (case side1 => (with_reducible repeat (first | exact HI.out | apply IsS91.drewN | apply IsS91.drew | apply IsS91.set_1 | apply IsS91.set_2))); (case side2 => (with_reducible repeat (first | exact HB.out | apply pw_below_drewN | apply below_drew1 | refine below_set ?_ hg))); rintro e w5 ⟨rfl, hi, hb, hk⟩; refine ⟨_, rfl, ?_⟩; have HI2 := Aside0.mk hi; have HB2 := Aside0.mk hb; have HK2 := Aside0.mk (KeepBut.trans (by (with_reducible repeat (first | exact HK.out | apply KeepBut.set_ | apply keep_drewN | apply keep_drew))) hk (.inl rfl)); clear hi hb hk))
              first | go_end0 | ((try simp only [Exit.inBlock, Exit.then]); refine bodyPost_ret (results_none rfl _ _ _) rfl ?_)
              exact ⟨rfl, HI2.out, HB2.out, HK2.out⟩
        · rw [if_neg c1] at H
          have c1b : decide (x < (s0_0.size : Int)) = false := decide_eq_false c1
          clear c1
          by_cases c9 : x = s0_1
          · rw [if_pos c9] at H
            have c9b : (x == s0_1) = true := beq_iff_eq.mpr c9
            have HW := Aside0.mk (eta _ _ H)
            clear H c9
            go_wp2
            go_quiet ((go_at_call 90; exact hlq _ _))
            go_wp2_with (first | ((with_reducible refine gate_callee (f := 100) rfl ?_); refine goesL_ (some 68) rfl rfl Try.func100 (by kernel_rfl) rfl #[.pointer (some ⟨g, 0, none⟩), .int .u8 59] rfl (by (try simp only [List.map_toArray, List.map_cons, List.map_nil]); first | done | rfl) ?_; (with_reducible refine (impl_reader_want.calls g s0_0 x true 59 r1 r2 r3 w0 _ ?side1 ?side2 HW.out).mono ?_); (case side1 => (with_reducible repeat (first | exact HI.out | apply IsS91.drewN | apply IsS91.drew | apply IsS91.set_1 | apply IsS91.set_2))); (case side2 => (with_reducible repeat (first | exact HB.out | apply pw_below_drewN | apply below_drew1 | refine below_set ?_ hg))); rintro e w5 ⟨rfl, hi, hb, hk⟩; refine ⟨_, rfl, ?_⟩; have HI2 := Aside0.mk hi; have HB2 := Aside0.mk hb; have HK2 := Aside0.mk (KeepBut.trans (by (with_reducible repeat (first | exact HK.out | apply KeepBut.set_ | apply keep_drewN | apply keep_drew))) hk (.inl rfl)); clear hi hb hk))
            first | go_end0 | ((try simp only [Exit.inBlock, Exit.then]); refine bodyPost_ret (results_none rfl _ _ _) rfl ?_)
            exact ⟨rfl, HI2.out, HB2.out, HK2.out⟩
          · rw [if_neg c9] at H
            have c9b : (x == s0_1) = false := beq_eq_false_iff_ne.mpr c9
            have HW := Aside0.mk (eta _ _ H)
            clear H
            go_wp2
            go_quiet ((go_at_call 90; exact hlq _ _))
            go_wp2_with (first | ((with_reducible refine gate_callee (f := 100) rfl ?_); refine goesL_ (some 68) rfl rfl Try.func100 (by kernel_rfl) rfl #[.pointer (some ⟨g, 0, none⟩), .int .u8 59] rfl (by (try simp only [List.map_toArray, List.map_cons, List.map_nil]); first | done | rfl) ?_; (with_reducible refine (impl_reader_want.calls g s0_0 x false 59 r1 r2 r3 w0 _ ?side1 ?side2 HW.out).mono ?_); (case side1 => (with_reducible repeat (first | exact HI.out | apply IsS91.drewN | apply IsS91.drew | apply IsS91.set_1 | apply IsS91.set_2))); (case side2 => (with_reducible repeat (first | exact HB.out | apply pw_below_drewN | apply below_drew1 | refine below_set ?_ hg))); rintro e w5 ⟨rfl, hi, hb, hk⟩; refine ⟨_, rfl, ?_⟩; have HI2 := Aside0.mk hi; have HB2 := Aside0.mk hb; have HK2 := Aside0.mk (KeepBut.trans (by (with_reducible repeat (first | exact HK.out | apply KeepBut.set_ | apply keep_drewN | apply keep_drew))) hk (.inl rfl)); clear hi hb hk))
            first | go_end0 | ((try simp only [Exit.inBlock, Exit.then]); refine bodyPost_ret (results_none rfl _ _ _) rfl ?_)
            exact ⟨rfl, HI2.out, HB2.out, HK2.out⟩

/-! ### impl_reader_kind: function 89 -/
def impl_reader_kind.f (k : Nat) (s0_0 : ByteArray) (s0_1 : Int) (s0_2 : Bool) : Option (ByteArray × ByteArray × Int × Bool) := (impl_reader_take.f s0_0 s0_1 s0_2 91).bind fun bt150 => ((impl_reader_take.f bt150.2.1 bt150.2.2.1 bt150.2.2.2 73).bind fun bt154 => (if bt154.1 = true then (if bt154.2.2.2 = true then (some ((⟨#[]⟩ : ByteArray), bt154.2.1, bt154.2.2.1, bt154.2.2.2)) else (if 0 ≤ s0_1 then (if s0_1 ≤ bt154.2.2.1 then (if bt154.2.2.1 ≤ (bt154.2.1.size : Int) then (some (bt154.2.1.extract (s0_1 : Int).toNat (bt154.2.2.1 : Int).toNat, bt154.2.1, bt154.2.2.1, bt154.2.2.2)) else (none)) else (none)) else (none))) else ((impl_reader_take.f bt154.2.1 bt154.2.2.1 bt154.2.2.2 76).bind fun bt158 => (if bt158.1 = true then ((impl_reader_name.f k bt158.2.1 bt158.2.2.1 bt158.2.2.2).bind fun bt162 => (if bt162.2.2 = true then (some ((⟨#[]⟩ : ByteArray), bt162.1, bt162.2.1, bt162.2.2)) else (if 0 ≤ s0_1 then (if s0_1 ≤ bt162.2.1 then (if bt162.2.1 ≤ (bt162.1.size : Int) then (some (bt162.1.extract (s0_1 : Int).toNat (bt162.2.1 : Int).toNat, bt162.1, bt162.2.1, bt162.2.2)) else (none)) else (none)) else (none)))) else (some ((⟨#[]⟩ : ByteArray), bt158.2.1, bt158.2.2.1, true))))))
theorem impl_reader_kind.mono : ∀ a0 a1 a2 k, LeO (impl_reader_kind.f k a0 a1 a2) (impl_reader_kind.f (k + 1) a0 a1 a2) := by
  intro a0 a1 a2 k
  unfold impl_reader_kind.f
  repeat' first
      | (with_reducible exact impl_reader_name.mono _ _ _ _)
      | (with_reducible exact LeO.refl _)
      | (with_reducible exact LeO.none _)
      | (with_reducible refine LeO.ite ?_ ?_)
      | (with_reducible refine LeO.bind ?_ (fun _ => ?_))
      | exact impl_reader_name.mono _ _ _ _
      | exact LeO.none _
      | refine LeO.ite ?_ ?_
      | refine LeO.bind ?_ (fun _ => ?_)
set_option maxHeartbeats 8000000 in
set_option maxRecDepth 100000 in
theorem impl_reader_kind.calls (k : Nat) (g : Nat) (s0_0 : ByteArray) (s0_1 : Int) (s0_2 : Bool) (r1 : ByteArray) (r2 : ByteArray) (r3 : Int) (r4 : Bool) (w0 w : World) (hI : IsS91 w0 w g s0_0 s0_1 s0_2) (hB : Below w0.heap.size w0 w) (h : impl_reader_kind.f k s0_0 s0_1 s0_2 = some (r1, r2, r3, r4)) :
    Calls Try.prog 89 #[.pointer (some ⟨g, 0, none⟩)] w fun e w' => e = .returned (.string r1) ∧ IsS91 w0 w' g r2 r3 r4 ∧ Below w0.heap.size w0 w' ∧ KeepBut w w' g none := by
  have HI0 := Aside0.mk hI
  have HK := Aside0.mk (KeepBut.refl w g none)
  have HL := Aside0.mk hB.size
  clear hI
  have HW0 := Aside0.mk hB.size
  have HB := Aside0.mk hB
  clear hB
  have H : ((impl_reader_take.f s0_0 s0_1 s0_2 91).bind fun bt150 => ((impl_reader_take.f bt150.2.1 bt150.2.2.1 bt150.2.2.2 73).bind fun bt154 => (if bt154.1 = true then (if bt154.2.2.2 = true then (some ((⟨#[]⟩ : ByteArray), bt154.2.1, bt154.2.2.1, bt154.2.2.2)) else (if 0 ≤ s0_1 then (if s0_1 ≤ bt154.2.2.1 then (if bt154.2.2.1 ≤ (bt154.2.1.size : Int) then (some (bt154.2.1.extract (s0_1 : Int).toNat (bt154.2.2.1 : Int).toNat, bt154.2.1, bt154.2.2.1, bt154.2.2.2)) else (none)) else (none)) else (none))) else ((impl_reader_take.f bt154.2.1 bt154.2.2.1 bt154.2.2.2 76).bind fun bt158 => (if bt158.1 = true then ((impl_reader_name.f k bt158.2.1 bt158.2.2.1 bt158.2.2.2).bind fun bt162 => (if bt162.2.2 = true then (some ((⟨#[]⟩ : ByteArray), bt162.1, bt162.2.1, bt162.2.2)) else (if 0 ≤ s0_1 then (if s0_1 ≤ bt162.2.1 then (if bt162.2.1 ≤ (bt162.1.size : Int) then (some (bt162.1.extract (s0_1 : Int).toNat (bt162.2.1 : Int).toNat, bt162.1, bt162.2.1, bt162.2.2)) else (none)) else (none)) else (none)))) else (some ((⟨#[]⟩ : ByteArray), bt158.2.1, bt158.2.2.1, true))))))) = some (r1, r2, r3, r4) := h
  clear h
  replace H := Option.bind_eq_some_iff.mp H
  obtain ⟨⟨t150, t151, t152, t153⟩, A20, H⟩ := H
  replace H : ((impl_reader_take.f t151 t152 t153 73).bind fun bt154 => (if bt154.1 = true then (if bt154.2.2.2 = true then (some ((⟨#[]⟩ : ByteArray), bt154.2.1, bt154.2.2.1, bt154.2.2.2)) else (if 0 ≤ s0_1 then (if s0_1 ≤ bt154.2.2.1 then (if bt154.2.2.1 ≤ (bt154.2.1.size : Int) then (some (bt154.2.1.extract (s0_1 : Int).toNat (bt154.2.2.1 : Int).toNat, bt154.2.1, bt154.2.2.1, bt154.2.2.2)) else (none)) else (none)) else (none))) else ((impl_reader_take.f bt154.2.1 bt154.2.2.1 bt154.2.2.2 76).bind fun bt158 => (if bt158.1 = true then ((impl_reader_name.f k bt158.2.1 bt158.2.2.1 bt158.2.2.2).bind fun bt162 => (if bt162.2.2 = true then (some ((⟨#[]⟩ : ByteArray), bt162.1, bt162.2.1, bt162.2.2)) else (if 0 ≤ s0_1 then (if s0_1 ≤ bt162.2.1 then (if bt162.2.1 ≤ (bt162.1.size : Int) then (some (bt162.1.extract (s0_1 : Int).toNat (bt162.2.1 : Int).toNat, bt162.1, bt162.2.1, bt162.2.2)) else (none)) else (none)) else (none)))) else (some ((⟨#[]⟩ : ByteArray), bt158.2.1, bt158.2.2.1, true)))))) = some (r1, r2, r3, r4) := H
  have A2 := Aside0.mk A20
  clear A20
  replace H := Option.bind_eq_some_iff.mp H
  obtain ⟨⟨t154, t155, t156, t157⟩, A30, H⟩ := H
  replace H : (if t154 = true then (if t157 = true then (some ((⟨#[]⟩ : ByteArray), t155, t156, t157)) else (if 0 ≤ s0_1 then (if s0_1 ≤ t156 then (if t156 ≤ (t155.size : Int) then (some (t155.extract (s0_1 : Int).toNat (t156 : Int).toNat, t155, t156, t157)) else (none)) else (none)) else (none))) else ((impl_reader_take.f t155 t156 t157 76).bind fun bt158 => (if bt158.1 = true then ((impl_reader_name.f k bt158.2.1 bt158.2.2.1 bt158.2.2.2).bind fun bt162 => (if bt162.2.2 = true then (some ((⟨#[]⟩ : ByteArray), bt162.1, bt162.2.1, bt162.2.2)) else (if 0 ≤ s0_1 then (if s0_1 ≤ bt162.2.1 then (if bt162.2.1 ≤ (bt162.1.size : Int) then (some (bt162.1.extract (s0_1 : Int).toNat (bt162.2.1 : Int).toNat, bt162.1, bt162.2.1, bt162.2.2)) else (none)) else (none)) else (none)))) else (some ((⟨#[]⟩ : ByteArray), bt158.2.1, bt158.2.2.1, true))))) = some (r1, r2, r3, r4) := H
  have A3 := Aside0.mk A30
  clear A30
  by_cases c4 : t154 = true
  · subst c4
    have H1 : (if t157 = true then (some ((⟨#[]⟩ : ByteArray), t155, t156, t157)) else (if 0 ≤ s0_1 then (if s0_1 ≤ t156 then (if t156 ≤ (t155.size : Int) then (some (t155.extract (s0_1 : Int).toNat (t156 : Int).toNat, t155, t156, t157)) else (none)) else (none)) else (none))) = some (r1, r2, r3, r4) := by rw [if_pos rfl] at H; exact H
    clear H
    have H := H1
    clear H1
    by_cases c5 : t157 = true
    · subst c5
      have H1 : (some ((⟨#[]⟩ : ByteArray), t155, t156, true)) = some (r1, r2, r3, r4) := by rw [if_pos rfl] at H; exact H
      clear H
      have H := H1
      clear H1
      simp only [Option.some.injEq, Prod.mk.injEq] at H
      obtain ⟨rfl, rfl, rfl, rfl⟩ := H
      obtain ⟨HGz6, hgz6⟩ := HI0.out
      have hcz6_0 := cellS91_0 HGz6
      have hcz6_1 := cellS91_1 HGz6
      have hcz6_2 := cellS91_2 HGz6
      have hfz6_0 := blk_frozen HGz6 0
      have hfz6_1 := blk_frozen HGz6 1
      have hfz6_2 := blk_frozen HGz6 2
      clear HGz6 hgz6
      go_enter Try.func89, Try.ntmps89
      go_wp2_with (first | (go_at_call 101; (first | (with_reducible refine (impl_reader_take.calls g s0_0 s0_1 s0_2 91 t150 t151 t152 t153 w0 _ ?side1 ?side2 A2.out).mono ?_) | (with_reducible refine (calls_of_args ?_ (impl_reader_take.calls g s0_0 s0_1 s0_2 91 t150 t151 t152 t153 w0 _ ?side1 ?side2 A2.out)).mono ?_; focus (simp [*]; done))); (case side1 => repeat (first | (with_reducible first | exact HI0.out | apply IsS91.alloc | apply IsS91.drewN | apply IsS91.drew | apply IsS91.set_0 | apply IsS91.set_1 | apply IsS91.set_2) | exact HI0.out)); (case side2 => repeat (first | (with_reducible first | exact HB.out | apply below_alloc | apply pw_below_drewN | apply below_drew1 | refine below_set ?_ (IsS91.ge HI0.out)) | exact HB.out)); rintro e w7 ⟨rfl, hi, hb, hk⟩; have n0_ := Aside0.mk (KeepBut.trans (by repeat (first | (with_reducible first | exact HK.out | apply KeepBut.set_ | apply keep_drewN | apply keep_drew | apply keep_alloc) | exact HK.out)) hk (.inl rfl)); have n1_ := Aside0.mk (hb); have n2_ := Aside0.mk (hi); clear HK; clear HB; clear HI0; have HK := n0_; have HB := n1_; have HI0 := n2_; clear n0_ n1_ n2_; (try clear hb); (try clear hb2); (try clear hk); (try clear hi)) | (go_at_call 101; (first | (with_reducible refine (impl_reader_take.calls g t151 t152 t153 73 true t155 t156 true w0 _ ?side1 ?side2 A3.out).mono ?_) | (with_reducible refine (calls_of_args ?_ (impl_reader_take.calls g t151 t152 t153 73 true t155 t156 true w0 _ ?side1 ?side2 A3.out)).mono ?_; focus (simp [*]; done))); (case side1 => repeat (first | (with_reducible first | exact HI0.out | apply IsS91.alloc | apply IsS91.drewN | apply IsS91.drew | apply IsS91.set_0 | apply IsS91.set_1 | apply IsS91.set_2) | exact HI0.out)); (case side2 => repeat (first | (with_reducible first | exact HB.out | apply below_alloc | apply pw_below_drewN | apply below_drew1 | refine below_set ?_ (IsS91.ge HI0.out)) | exact HB.out)); rintro e w8 ⟨rfl, hi, hb, hk⟩; have n0_ := Aside0.mk (KeepBut.trans (by repeat (first | (with_reducible first | exact HK.out | apply KeepBut.set_ | apply keep_drewN | apply keep_drew | apply keep_alloc) | exact HK.out)) hk (.inl rfl)); have n1_ := Aside0.mk (hb); have n2_ := Aside0.mk (hi); clear HK; clear HB; clear HI0; have HK := n0_; have HB := n1_; have HI0 := n2_; clear n0_ n1_ n2_; (try clear hb); (try clear hb2); (try clear hk); (try clear hi); obtain ⟨HGz9, hgz9⟩ := HI0.out; have hcz9_0 := cellS91_0 HGz9; have hcz9_1 := cellS91_1 HGz9; have hcz9_2 := cellS91_2 HGz9; have hfz9_0 := blk_frozen HGz9 0; have hfz9_1 := blk_frozen HGz9 1; have hfz9_2 := blk_frozen HGz9 2; clear HGz9 hgz9))
      repeat (go_quiet (first | (go_at_call 101; (first | (with_reducible refine (impl_reader_take.calls g s0_0 s0_1 s0_2 91 t150 t151 t152 t153 w0 _ ?side1 ?side2 A2.out).mono ?_) | (with_reducible refine (calls_of_args ?_ (impl_reader_take.calls g s0_0 s0_1 s0_2 91 t150 t151 t152 t153 w0 _ ?side1 ?side2 A2.out)).mono ?_; focus (simp [*]; done))); (case side1 => repeat (first | (with_reducible first | exact HI0.out | apply IsS91.alloc | apply IsS91.drewN | apply IsS91.drew | apply IsS91.set_0 | apply IsS91.set_1 | apply IsS91.set_2) | exact HI0.out)); (case side2 => repeat (first | (with_reducible first | exact HB.out | apply below_alloc | apply pw_below_drewN | apply below_drew1 | refine below_set ?_ (IsS91.ge HI0.out)) | exact HB.out)); rintro e w7 ⟨rfl, hi, hb, hk⟩; have n0_ := Aside0.mk (KeepBut.trans (by repeat (first | (with_reducible first | exact HK.out | apply KeepBut.set_ | apply keep_drewN | apply keep_drew | apply keep_alloc) | exact HK.out)) hk (.inl rfl)); have n1_ := Aside0.mk (hb); have n2_ := Aside0.mk (hi); clear HK; clear HB; clear HI0; have HK := n0_; have HB := n1_; have HI0 := n2_; clear n0_ n1_ n2_; (try clear hb); (try clear hb2); (try clear hk); (try clear hi)) | (go_at_call 101; (first | (with_reducible refine (impl_reader_take.calls g t151 t152 t153 73 true t155 t156 true w0 _ ?side1 ?side2 A3.out).mono ?_) | (with_reducible refine (calls_of_args ?_ (impl_reader_take.calls g t151 t152 t153 73 true t155 t156 true w0 _ ?side1 ?side2 A3.out)).mono ?_; focus (simp [*]; done))); (case side1 => repeat (first | (with_reducible first | exact HI0.out | apply IsS91.alloc | apply IsS91.drewN | apply IsS91.drew | apply IsS91.set_0 | apply IsS91.set_1 | apply IsS91.set_2) | exact HI0.out)); (case side2 => repeat (first | (with_reducible first | exact HB.out | apply below_alloc | apply pw_below_drewN | apply below_drew1 | refine below_set ?_ (IsS91.ge HI0.out)) | exact HB.out)); rintro e w8 ⟨rfl, hi, hb, hk⟩; have n0_ := Aside0.mk (KeepBut.trans (by repeat (first | (with_reducible first | exact HK.out | apply KeepBut.set_ | apply keep_drewN | apply keep_drew | apply keep_alloc) | exact HK.out)) hk (.inl rfl)); have n1_ := Aside0.mk (hb); have n2_ := Aside0.mk (hi); clear HK; clear HB; clear HI0; have HK := n0_; have HB := n1_; have HI0 := n2_; clear n0_ n1_ n2_; (try clear hb); (try clear hb2); (try clear hk); (try clear hi); obtain ⟨HGz9, hgz9⟩ := HI0.out; have hcz9_0 := cellS91_0 HGz9; have hcz9_1 := cellS91_1 HGz9; have hcz9_2 := cellS91_2 HGz9; have hfz9_0 := blk_frozen HGz9 0; have hfz9_1 := blk_frozen HGz9 1; have hfz9_2 := blk_frozen HGz9 2; clear HGz9 hgz9)); try go_wp2_with (first | (go_at_call 101; (first | (with_reducible refine (impl_reader_take.calls g s0_0 s0_1 s0_2 91 t150 t151 t152 t153 w0 _ ?side1 ?side2 A2.out).mono ?_) | (with_reducible refine (calls_of_args ?_ (impl_reader_take.calls g s0_0 s0_1 s0_2 91 t150 t151 t152 t153 w0 _ ?side1 ?side2 A2.out)).mono ?_; focus (simp [*]; done))); (case side1 => repeat (first | (with_reducible first | exact HI0.out | apply IsS91.alloc | apply IsS91.drewN | apply IsS91.drew | apply IsS91.set_0 | apply IsS91.set_1 | apply IsS91.set_2) | exact HI0.out)); (case side2 => repeat (first | (with_reducible first | exact HB.out | apply below_alloc | apply pw_below_drewN | apply below_drew1 | refine below_set ?_ (IsS91.ge HI0.out)) | exact HB.out)); rintro e w7 ⟨rfl, hi, hb, hk⟩; have n0_ := Aside0.mk (KeepBut.trans (by repeat (first | (with_reducible first | exact HK.out | apply KeepBut.set_ | apply keep_drewN | apply keep_drew | apply keep_alloc) | exact HK.out)) hk (.inl rfl)); have n1_ := Aside0.mk (hb); have n2_ := Aside0.mk (hi); clear HK; clear HB; clear HI0; have HK := n0_; have HB := n1_; have HI0 := n2_; clear n0_ n1_ n2_; (try clear hb); (try clear hb2); (try clear hk); (try clear hi)) | (go_at_call 101; (first | (with_reducible refine (impl_reader_take.calls g t151 t152 t153 73 true t155 t156 true w0 _ ?side1 ?side2 A3.out).mono ?_) | (with_reducible refine (calls_of_args ?_ (impl_reader_take.calls g t151 t152 t153 73 true t155 t156 true w0 _ ?side1 ?side2 A3.out)).mono ?_; focus (simp [*]; done))); (case side1 => repeat (first | (with_reducible first | exact HI0.out | apply IsS91.alloc | apply IsS91.drewN | apply IsS91.drew | apply IsS91.set_0 | apply IsS91.set_1 | apply IsS91.set_2) | exact HI0.out)); (case side2 => repeat (first | (with_reducible first | exact HB.out | apply below_alloc | apply pw_below_drewN | apply below_drew1 | refine below_set ?_ (IsS91.ge HI0.out)) | exact HB.out)); rintro e w8 ⟨rfl, hi, hb, hk⟩; have n0_ := Aside0.mk (KeepBut.trans (by repeat (first | (with_reducible first | exact HK.out | apply KeepBut.set_ | apply keep_drewN | apply keep_drew | apply keep_alloc) | exact HK.out)) hk (.inl rfl)); have n1_ := Aside0.mk (hb); have n2_ := Aside0.mk (hi); clear HK; clear HB; clear HI0; have HK := n0_; have HB := n1_; have HI0 := n2_; clear n0_ n1_ n2_; (try clear hb); (try clear hb2); (try clear hk); (try clear hi); obtain ⟨HGz9, hgz9⟩ := HI0.out; have hcz9_0 := cellS91_0 HGz9; have hcz9_1 := cellS91_1 HGz9; have hcz9_2 := cellS91_2 HGz9; have hfz9_0 := blk_frozen HGz9 0; have hfz9_1 := blk_frozen HGz9 1; have hfz9_2 := blk_frozen HGz9 2; clear HGz9 hgz9)))
      go_ret
      exact ⟨by first | rfl | (simp [errW_none, errW_some] <;> rfl) | (simp [*, errW_none, errW_some] <;> rfl), by repeat (first | (with_reducible first | exact HI0.out | apply IsS91.alloc | apply IsS91.drewN | apply IsS91.drew | apply IsS91.set_0 | apply IsS91.set_1 | apply IsS91.set_2) | exact HI0.out), by repeat (first | (with_reducible first | exact HB.out | apply below_alloc | apply pw_below_drewN | apply below_drew1 | refine below_set ?_ (IsS91.ge HI0.out)) | exact HB.out), by repeat (first | (with_reducible first | exact HK.out | apply KeepBut.set_ | apply keep_drewN | apply keep_drew | apply keep_alloc) | exact HK.out)⟩
    · replace c5 := Bool.eq_false_iff.mpr c5
      subst c5
      have H1 : (if 0 ≤ s0_1 then (if s0_1 ≤ t156 then (if t156 ≤ (t155.size : Int) then (some (t155.extract (s0_1 : Int).toNat (t156 : Int).toNat, t155, t156, false)) else (none)) else (none)) else (none)) = some (r1, r2, r3, r4) := by rw [if_neg (show ¬ (false = true) by decide)] at H; exact H
      clear H
      have H := H1
      clear H1
      by_cases c10 : 0 ≤ s0_1
      · rw [if_pos c10] at H
        have c10b0 := eq_true c10
        have c10b1 : decide (0 ≤ s0_1) = true := decide_eq_true c10
        clear c10
        by_cases c11 : s0_1 ≤ t156
        · rw [if_pos c11] at H
          have c11b0 := eq_true c11
          have c11b1 : decide (s0_1 ≤ t156) = true := decide_eq_true c11
          clear c11
          by_cases c12 : t156 ≤ (t155.size : Int)
          · rw [if_pos c12] at H
            have c12b0 := eq_true c12
            have c12b1 : decide (t156 ≤ (t155.size : Int)) = true := decide_eq_true c12
            clear c12
            simp only [Option.some.injEq, Prod.mk.injEq] at H
            obtain ⟨rfl, rfl, rfl, rfl⟩ := H
            obtain ⟨HGz13, hgz13⟩ := HI0.out
            have hcz13_0 := cellS91_0 HGz13
            have hcz13_1 := cellS91_1 HGz13
            have hcz13_2 := cellS91_2 HGz13
            have hfz13_0 := blk_frozen HGz13 0
            have hfz13_1 := blk_frozen HGz13 1
            have hfz13_2 := blk_frozen HGz13 2
            clear HGz13 hgz13
            go_enter Try.func89, Try.ntmps89
            go_wp2_with (first | (go_at_call 101; (first | (with_reducible refine (impl_reader_take.calls g s0_0 s0_1 s0_2 91 t150 t151 t152 t153 w0 _ ?side1 ?side2 A2.out).mono ?_) | (with_reducible refine (calls_of_args ?_ (impl_reader_take.calls g s0_0 s0_1 s0_2 91 t150 t151 t152 t153 w0 _ ?side1 ?side2 A2.out)).mono ?_; focus (simp [*]; done))); (case side1 => repeat (first | (with_reducible first | exact HI0.out | apply IsS91.alloc | apply IsS91.drewN | apply IsS91.drew | apply IsS91.set_0 | apply IsS91.set_1 | apply IsS91.set_2) | exact HI0.out)); (case side2 => repeat (first | (with_reducible first | exact HB.out | apply below_alloc | apply pw_below_drewN | apply below_drew1 | refine below_set ?_ (IsS91.ge HI0.out)) | exact HB.out)); rintro e w14 ⟨rfl, hi, hb, hk⟩; have n0_ := Aside0.mk (KeepBut.trans (by repeat (first | (with_reducible first | exact HK.out | apply KeepBut.set_ | apply keep_drewN | apply keep_drew | apply keep_alloc) | exact HK.out)) hk (.inl rfl)); have n1_ := Aside0.mk (hb); have n2_ := Aside0.mk (hi); clear HK; clear HB; clear HI0; have HK := n0_; have HB := n1_; have HI0 := n2_; clear n0_ n1_ n2_; (try clear hb); (try clear hb2); (try clear hk); (try clear hi)) | (go_at_call 101; (first | (with_reducible refine (impl_reader_take.calls g t151 t152 t153 73 true t155 t156 false w0 _ ?side1 ?side2 A3.out).mono ?_) | (with_reducible refine (calls_of_args ?_ (impl_reader_take.calls g t151 t152 t153 73 true t155 t156 false w0 _ ?side1 ?side2 A3.out)).mono ?_; focus (simp [*]; done))); (case side1 => repeat (first | (with_reducible first | exact HI0.out | apply IsS91.alloc | apply IsS91.drewN | apply IsS91.drew | apply IsS91.set_0 | apply IsS91.set_1 | apply IsS91.set_2) | exact HI0.out)); (case side2 => repeat (first | (with_reducible first | exact HB.out | apply below_alloc | apply pw_below_drewN | apply below_drew1 | refine below_set ?_ (IsS91.ge HI0.out)) | exact HB.out)); rintro e w15 ⟨rfl, hi, hb, hk⟩; have n0_ := Aside0.mk (KeepBut.trans (by repeat (first | (with_reducible first | exact HK.out | apply KeepBut.set_ | apply keep_drewN | apply keep_drew | apply keep_alloc) | exact HK.out)) hk (.inl rfl)); have n1_ := Aside0.mk (hb); have n2_ := Aside0.mk (hi); clear HK; clear HB; clear HI0; have HK := n0_; have HB := n1_; have HI0 := n2_; clear n0_ n1_ n2_; (try clear hb); (try clear hb2); (try clear hk); (try clear hi); obtain ⟨HGz16, hgz16⟩ := HI0.out; have hcz16_0 := cellS91_0 HGz16; have hcz16_1 := cellS91_1 HGz16; have hcz16_2 := cellS91_2 HGz16; have hfz16_0 := blk_frozen HGz16 0; have hfz16_1 := blk_frozen HGz16 1; have hfz16_2 := blk_frozen HGz16 2; clear HGz16 hgz16))
            repeat (go_quiet (first | (go_at_call 101; (first | (with_reducible refine (impl_reader_take.calls g s0_0 s0_1 s0_2 91 t150 t151 t152 t153 w0 _ ?side1 ?side2 A2.out).mono ?_) | (with_reducible refine (calls_of_args ?_ (impl_reader_take.calls g s0_0 s0_1 s0_2 91 t150 t151 t152 t153 w0 _ ?side1 ?side2 A2.out)).mono ?_; focus (simp [*]; done))); (case side1 => repeat (first | (with_reducible first | exact HI0.out | apply IsS91.alloc | apply IsS91.drewN | apply IsS91.drew | apply IsS91.set_0 | apply IsS91.set_1 | apply IsS91.set_2) | exact HI0.out)); (case side2 => repeat (first | (with_reducible first | exact HB.out | apply below_alloc | apply pw_below_drewN | apply below_drew1 | refine below_set ?_ (IsS91.ge HI0.out)) | exact HB.out)); rintro e w14 ⟨rfl, hi, hb, hk⟩; have n0_ := Aside0.mk (KeepBut.trans (by repeat (first | (with_reducible first | exact HK.out | apply KeepBut.set_ | apply keep_drewN | apply keep_drew | apply keep_alloc) | exact HK.out)) hk (.inl rfl)); have n1_ := Aside0.mk (hb); have n2_ := Aside0.mk (hi); clear HK; clear HB; clear HI0; have HK := n0_; have HB := n1_; have HI0 := n2_; clear n0_ n1_ n2_; (try clear hb); (try clear hb2); (try clear hk); (try clear hi)) | (go_at_call 101; (first | (with_reducible refine (impl_reader_take.calls g t151 t152 t153 73 true t155 t156 false w0 _ ?side1 ?side2 A3.out).mono ?_) | (with_reducible refine (calls_of_args ?_ (impl_reader_take.calls g t151 t152 t153 73 true t155 t156 false w0 _ ?side1 ?side2 A3.out)).mono ?_; focus (simp [*]; done))); (case side1 => repeat (first | (with_reducible first | exact HI0.out | apply IsS91.alloc | apply IsS91.drewN | apply IsS91.drew | apply IsS91.set_0 | apply IsS91.set_1 | apply IsS91.set_2) | exact HI0.out)); (case side2 => repeat (first | (with_reducible first | exact HB.out | apply below_alloc | apply pw_below_drewN | apply below_drew1 | refine below_set ?_ (IsS91.ge HI0.out)) | exact HB.out)); rintro e w15 ⟨rfl, hi, hb, hk⟩; have n0_ := Aside0.mk (KeepBut.trans (by repeat (first | (with_reducible first | exact HK.out | apply KeepBut.set_ | apply keep_drewN | apply keep_drew | apply keep_alloc) | exact HK.out)) hk (.inl rfl)); have n1_ := Aside0.mk (hb); have n2_ := Aside0.mk (hi); clear HK; clear HB; clear HI0; have HK := n0_; have HB := n1_; have HI0 := n2_; clear n0_ n1_ n2_; (try clear hb); (try clear hb2); (try clear hk); (try clear hi); obtain ⟨HGz16, hgz16⟩ := HI0.out; have hcz16_0 := cellS91_0 HGz16; have hcz16_1 := cellS91_1 HGz16; have hcz16_2 := cellS91_2 HGz16; have hfz16_0 := blk_frozen HGz16 0; have hfz16_1 := blk_frozen HGz16 1; have hfz16_2 := blk_frozen HGz16 2; clear HGz16 hgz16)); try go_wp2_with (first | (go_at_call 101; (first | (with_reducible refine (impl_reader_take.calls g s0_0 s0_1 s0_2 91 t150 t151 t152 t153 w0 _ ?side1 ?side2 A2.out).mono ?_) | (with_reducible refine (calls_of_args ?_ (impl_reader_take.calls g s0_0 s0_1 s0_2 91 t150 t151 t152 t153 w0 _ ?side1 ?side2 A2.out)).mono ?_; focus (simp [*]; done))); (case side1 => repeat (first | (with_reducible first | exact HI0.out | apply IsS91.alloc | apply IsS91.drewN | apply IsS91.drew | apply IsS91.set_0 | apply IsS91.set_1 | apply IsS91.set_2) | exact HI0.out)); (case side2 => repeat (first | (with_reducible first | exact HB.out | apply below_alloc | apply pw_below_drewN | apply below_drew1 | refine below_set ?_ (IsS91.ge HI0.out)) | exact HB.out)); rintro e w14 ⟨rfl, hi, hb, hk⟩; have n0_ := Aside0.mk (KeepBut.trans (by repeat (first | (with_reducible first | exact HK.out | apply KeepBut.set_ | apply keep_drewN | apply keep_drew | apply keep_alloc) | exact HK.out)) hk (.inl rfl)); have n1_ := Aside0.mk (hb); have n2_ := Aside0.mk (hi); clear HK; clear HB; clear HI0; have HK := n0_; have HB := n1_; have HI0 := n2_; clear n0_ n1_ n2_; (try clear hb); (try clear hb2); (try clear hk); (try clear hi)) | (go_at_call 101; (first | (with_reducible refine (impl_reader_take.calls g t151 t152 t153 73 true t155 t156 false w0 _ ?side1 ?side2 A3.out).mono ?_) | (with_reducible refine (calls_of_args ?_ (impl_reader_take.calls g t151 t152 t153 73 true t155 t156 false w0 _ ?side1 ?side2 A3.out)).mono ?_; focus (simp [*]; done))); (case side1 => repeat (first | (with_reducible first | exact HI0.out | apply IsS91.alloc | apply IsS91.drewN | apply IsS91.drew | apply IsS91.set_0 | apply IsS91.set_1 | apply IsS91.set_2) | exact HI0.out)); (case side2 => repeat (first | (with_reducible first | exact HB.out | apply below_alloc | apply pw_below_drewN | apply below_drew1 | refine below_set ?_ (IsS91.ge HI0.out)) | exact HB.out)); rintro e w15 ⟨rfl, hi, hb, hk⟩; have n0_ := Aside0.mk (KeepBut.trans (by repeat (first | (with_reducible first | exact HK.out | apply KeepBut.set_ | apply keep_drewN | apply keep_drew | apply keep_alloc) | exact HK.out)) hk (.inl rfl)); have n1_ := Aside0.mk (hb); have n2_ := Aside0.mk (hi); clear HK; clear HB; clear HI0; have HK := n0_; have HB := n1_; have HI0 := n2_; clear n0_ n1_ n2_; (try clear hb); (try clear hb2); (try clear hk); (try clear hi); obtain ⟨HGz16, hgz16⟩ := HI0.out; have hcz16_0 := cellS91_0 HGz16; have hcz16_1 := cellS91_1 HGz16; have hcz16_2 := cellS91_2 HGz16; have hfz16_0 := blk_frozen HGz16 0; have hfz16_1 := blk_frozen HGz16 1; have hfz16_2 := blk_frozen HGz16 2; clear HGz16 hgz16)))
            go_ret
            exact ⟨by first | rfl | (simp [errW_none, errW_some] <;> rfl) | (simp [*, errW_none, errW_some] <;> rfl), by repeat (first | (with_reducible first | exact HI0.out | apply IsS91.alloc | apply IsS91.drewN | apply IsS91.drew | apply IsS91.set_0 | apply IsS91.set_1 | apply IsS91.set_2) | exact HI0.out), by repeat (first | (with_reducible first | exact HB.out | apply below_alloc | apply pw_below_drewN | apply below_drew1 | refine below_set ?_ (IsS91.ge HI0.out)) | exact HB.out), by repeat (first | (with_reducible first | exact HK.out | apply KeepBut.set_ | apply keep_drewN | apply keep_drew | apply keep_alloc) | exact HK.out)⟩
          · rw [if_neg c12] at H
            exact absurd H (by simp)
        · rw [if_neg c11] at H
          exact absurd H (by simp)
      · rw [if_neg c10] at H
        exact absurd H (by simp)
  · replace c4 := Bool.eq_false_iff.mpr c4
    subst c4
    have H1 : ((impl_reader_take.f t155 t156 t157 76).bind fun bt158 => (if bt158.1 = true then ((impl_reader_name.f k bt158.2.1 bt158.2.2.1 bt158.2.2.2).bind fun bt162 => (if bt162.2.2 = true then (some ((⟨#[]⟩ : ByteArray), bt162.1, bt162.2.1, bt162.2.2)) else (if 0 ≤ s0_1 then (if s0_1 ≤ bt162.2.1 then (if bt162.2.1 ≤ (bt162.1.size : Int) then (some (bt162.1.extract (s0_1 : Int).toNat (bt162.2.1 : Int).toNat, bt162.1, bt162.2.1, bt162.2.2)) else (none)) else (none)) else (none)))) else (some ((⟨#[]⟩ : ByteArray), bt158.2.1, bt158.2.2.1, true)))) = some (r1, r2, r3, r4) := by rw [if_neg (show ¬ (false = true) by decide)] at H; exact H
    clear H
    have H := H1
    clear H1
    replace H := Option.bind_eq_some_iff.mp H
    obtain ⟨⟨t158, t159, t160, t161⟩, A170, H⟩ := H
    replace H : (if t158 = true then ((impl_reader_name.f k t159 t160 t161).bind fun bt162 => (if bt162.2.2 = true then (some ((⟨#[]⟩ : ByteArray), bt162.1, bt162.2.1, bt162.2.2)) else (if 0 ≤ s0_1 then (if s0_1 ≤ bt162.2.1 then (if bt162.2.1 ≤ (bt162.1.size : Int) then (some (bt162.1.extract (s0_1 : Int).toNat (bt162.2.1 : Int).toNat, bt162.1, bt162.2.1, bt162.2.2)) else (none)) else (none)) else (none)))) else (some ((⟨#[]⟩ : ByteArray), t159, t160, true))) = some (r1, r2, r3, r4) := H
    have A17 := Aside0.mk A170
    clear A170
    by_cases c18 : t158 = true
    · subst c18
      have H1 : ((impl_reader_name.f k t159 t160 t161).bind fun bt162 => (if bt162.2.2 = true then (some ((⟨#[]⟩ : ByteArray), bt162.1, bt162.2.1, bt162.2.2)) else (if 0 ≤ s0_1 then (if s0_1 ≤ bt162.2.1 then (if bt162.2.1 ≤ (bt162.1.size : Int) then (some (bt162.1.extract (s0_1 : Int).toNat (bt162.2.1 : Int).toNat, bt162.1, bt162.2.1, bt162.2.2)) else (none)) else (none)) else (none)))) = some (r1, r2, r3, r4) := by rw [if_pos rfl] at H; exact H
      clear H
      have H := H1
      clear H1
      replace H := Option.bind_eq_some_iff.mp H
      obtain ⟨⟨t162, t163, t164⟩, A190, H⟩ := H
      replace H : (if t164 = true then (some ((⟨#[]⟩ : ByteArray), t162, t163, t164)) else (if 0 ≤ s0_1 then (if s0_1 ≤ t163 then (if t163 ≤ (t162.size : Int) then (some (t162.extract (s0_1 : Int).toNat (t163 : Int).toNat, t162, t163, t164)) else (none)) else (none)) else (none))) = some (r1, r2, r3, r4) := H
      have A19 := Aside0.mk A190
      clear A190
      by_cases c20 : t164 = true
      · subst c20
        have H1 : (some ((⟨#[]⟩ : ByteArray), t162, t163, true)) = some (r1, r2, r3, r4) := by rw [if_pos rfl] at H; exact H
        clear H
        have H := H1
        clear H1
        simp only [Option.some.injEq, Prod.mk.injEq] at H
        obtain ⟨rfl, rfl, rfl, rfl⟩ := H
        obtain ⟨HGz21, hgz21⟩ := HI0.out
        have hcz21_0 := cellS91_0 HGz21
        have hcz21_1 := cellS91_1 HGz21
        have hcz21_2 := cellS91_2 HGz21
        have hfz21_0 := blk_frozen HGz21 0
        have hfz21_1 := blk_frozen HGz21 1
        have hfz21_2 := blk_frozen HGz21 2
        clear HGz21 hgz21
        go_enter Try.func89, Try.ntmps89
        go_wp2_with (first | (go_at_call 101; (first | (with_reducible refine (impl_reader_take.calls g s0_0 s0_1 s0_2 91 t150 t151 t152 t153 w0 _ ?side1 ?side2 A2.out).mono ?_) | (with_reducible refine (calls_of_args ?_ (impl_reader_take.calls g s0_0 s0_1 s0_2 91 t150 t151 t152 t153 w0 _ ?side1 ?side2 A2.out)).mono ?_; focus (simp [*]; done))); (case side1 => repeat (first | (with_reducible first | exact HI0.out | apply IsS91.alloc | apply IsS91.drewN | apply IsS91.drew | apply IsS91.set_0 | apply IsS91.set_1 | apply IsS91.set_2) | exact HI0.out)); (case side2 => repeat (first | (with_reducible first | exact HB.out | apply below_alloc | apply pw_below_drewN | apply below_drew1 | refine below_set ?_ (IsS91.ge HI0.out)) | exact HB.out)); rintro e w22 ⟨rfl, hi, hb, hk⟩; have n0_ := Aside0.mk (KeepBut.trans (by repeat (first | (with_reducible first | exact HK.out | apply KeepBut.set_ | apply keep_drewN | apply keep_drew | apply keep_alloc) | exact HK.out)) hk (.inl rfl)); have n1_ := Aside0.mk (hb); have n2_ := Aside0.mk (hi); clear HK; clear HB; clear HI0; have HK := n0_; have HB := n1_; have HI0 := n2_; clear n0_ n1_ n2_; (try clear hb); (try clear hb2); (try clear hk); (try clear hi)) | (go_at_call 101; (first | (with_reducible refine (impl_reader_take.calls g t151 t152 t153 73 false t155 t156 t157 w0 _ ?side1 ?side2 A3.out).mono ?_) | (with_reducible refine (calls_of_args ?_ (impl_reader_take.calls g t151 t152 t153 73 false t155 t156 t157 w0 _ ?side1 ?side2 A3.out)).mono ?_; focus (simp [*]; done))); (case side1 => repeat (first | (with_reducible first | exact HI0.out | apply IsS91.alloc | apply IsS91.drewN | apply IsS91.drew | apply IsS91.set_0 | apply IsS91.set_1 | apply IsS91.set_2) | exact HI0.out)); (case side2 => repeat (first | (with_reducible first | exact HB.out | apply below_alloc | apply pw_below_drewN | apply below_drew1 | refine below_set ?_ (IsS91.ge HI0.out)) | exact HB.out)); rintro e w23 ⟨rfl, hi, hb, hk⟩; have n0_ := Aside0.mk (KeepBut.trans (by repeat (first | (with_reducible first | exact HK.out | apply KeepBut.set_ | apply keep_drewN | apply keep_drew | apply keep_alloc) | exact HK.out)) hk (.inl rfl)); have n1_ := Aside0.mk (hb); have n2_ := Aside0.mk (hi); clear HK; clear HB; clear HI0; have HK := n0_; have HB := n1_; have HI0 := n2_; clear n0_ n1_ n2_; (try clear hb); (try clear hb2); (try clear hk); (try clear hi)) | (go_at_call 101; (first | (with_reducible refine (impl_reader_take.calls g t155 t156 t157 76 true t159 t160 t161 w0 _ ?side1 ?side2 A17.out).mono ?_) | (with_reducible refine (calls_of_args ?_ (impl_reader_take.calls g t155 t156 t157 76 true t159 t160 t161 w0 _ ?side1 ?side2 A17.out)).mono ?_; focus (simp [*]; done))); (case side1 => repeat (first | (with_reducible first | exact HI0.out | apply IsS91.alloc | apply IsS91.drewN | apply IsS91.drew | apply IsS91.set_0 | apply IsS91.set_1 | apply IsS91.set_2) | exact HI0.out)); (case side2 => repeat (first | (with_reducible first | exact HB.out | apply below_alloc | apply pw_below_drewN | apply below_drew1 | refine below_set ?_ (IsS91.ge HI0.out)) | exact HB.out)); rintro e w24 ⟨rfl, hi, hb, hk⟩; have n0_ := Aside0.mk (KeepBut.trans (by repeat (first | (with_reducible first | exact HK.out | apply KeepBut.set_ | apply keep_drewN | apply keep_drew | apply keep_alloc) | exact HK.out)) hk (.inl rfl)); have n1_ := Aside0.mk (hb); have n2_ := Aside0.mk (hi); clear HK; clear HB; clear HI0; have HK := n0_; have HB := n1_; have HI0 := n2_; clear n0_ n1_ n2_; (try clear hb); (try clear hb2); (try clear hk); (try clear hi)) | (go_at_call 106; (first | (with_reducible refine (impl_reader_name.calls k g t159 t160 t161 t162 t163 true w0 _ ?side1 ?side2 A19.out).mono ?_) | (with_reducible refine (calls_of_args ?_ (impl_reader_name.calls k g t159 t160 t161 t162 t163 true w0 _ ?side1 ?side2 A19.out)).mono ?_; focus (simp [*]; done))); (case side1 => repeat (first | (with_reducible first | exact HI0.out | apply IsS91.alloc | apply IsS91.drewN | apply IsS91.drew | apply IsS91.set_0 | apply IsS91.set_1 | apply IsS91.set_2) | exact HI0.out)); (case side2 => repeat (first | (with_reducible first | exact HB.out | apply below_alloc | apply pw_below_drewN | apply below_drew1 | refine below_set ?_ (IsS91.ge HI0.out)) | exact HB.out)); rintro e w25 ⟨rfl, hi, hb, hk⟩; have n0_ := Aside0.mk (KeepBut.trans (by repeat (first | (with_reducible first | exact HK.out | apply KeepBut.set_ | apply keep_drewN | apply keep_drew | apply keep_alloc) | exact HK.out)) hk (.inl rfl)); have n1_ := Aside0.mk (hb); have n2_ := Aside0.mk (hi); clear HK; clear HB; clear HI0; have HK := n0_; have HB := n1_; have HI0 := n2_; clear n0_ n1_ n2_; (try clear hb); (try clear hb2); (try clear hk); (try clear hi); obtain ⟨HGz26, hgz26⟩ := HI0.out; have hcz26_0 := cellS91_0 HGz26; have hcz26_1 := cellS91_1 HGz26; have hcz26_2 := cellS91_2 HGz26; have hfz26_0 := blk_frozen HGz26 0; have hfz26_1 := blk_frozen HGz26 1; have hfz26_2 := blk_frozen HGz26 2; clear HGz26 hgz26))
        repeat (go_quiet (first | (go_at_call 101; (first | (with_reducible refine (impl_reader_take.calls g s0_0 s0_1 s0_2 91 t150 t151 t152 t153 w0 _ ?side1 ?side2 A2.out).mono ?_) | (with_reducible refine (calls_of_args ?_ (impl_reader_take.calls g s0_0 s0_1 s0_2 91 t150 t151 t152 t153 w0 _ ?side1 ?side2 A2.out)).mono ?_; focus (simp [*]; done))); (case side1 => repeat (first | (with_reducible first | exact HI0.out | apply IsS91.alloc | apply IsS91.drewN | apply IsS91.drew | apply IsS91.set_0 | apply IsS91.set_1 | apply IsS91.set_2) | exact HI0.out)); (case side2 => repeat (first | (with_reducible first | exact HB.out | apply below_alloc | apply pw_below_drewN | apply below_drew1 | refine below_set ?_ (IsS91.ge HI0.out)) | exact HB.out)); rintro e w22 ⟨rfl, hi, hb, hk⟩; have n0_ := Aside0.mk (KeepBut.trans (by repeat (first | (with_reducible first | exact HK.out | apply KeepBut.set_ | apply keep_drewN | apply keep_drew | apply keep_alloc) | exact HK.out)) hk (.inl rfl)); have n1_ := Aside0.mk (hb); have n2_ := Aside0.mk (hi); clear HK; clear HB; clear HI0; have HK := n0_; have HB := n1_; have HI0 := n2_; clear n0_ n1_ n2_; (try clear hb); (try clear hb2); (try clear hk); (try clear hi)) | (go_at_call 101; (first | (with_reducible refine (impl_reader_take.calls g t151 t152 t153 73 false t155 t156 t157 w0 _ ?side1 ?side2 A3.out).mono ?_) | (with_reducible refine (calls_of_args ?_ (impl_reader_take.calls g t151 t152 t153 73 false t155 t156 t157 w0 _ ?side1 ?side2 A3.out)).mono ?_; focus (simp [*]; done))); (case side1 => repeat (first | (with_reducible first | exact HI0.out | apply IsS91.alloc | apply IsS91.drewN | apply IsS91.drew | apply IsS91.set_0 | apply IsS91.set_1 | apply IsS91.set_2) | exact HI0.out)); (case side2 => repeat (first | (with_reducible first | exact HB.out | apply below_alloc | apply pw_below_drewN | apply below_drew1 | refine below_set ?_ (IsS91.ge HI0.out)) | exact HB.out)); rintro e w23 ⟨rfl, hi, hb, hk⟩; have n0_ := Aside0.mk (KeepBut.trans (by repeat (first | (with_reducible first | exact HK.out | apply KeepBut.set_ | apply keep_drewN | apply keep_drew | apply keep_alloc) | exact HK.out)) hk (.inl rfl)); have n1_ := Aside0.mk (hb); have n2_ := Aside0.mk (hi); clear HK; clear HB; clear HI0; have HK := n0_; have HB := n1_; have HI0 := n2_; clear n0_ n1_ n2_; (try clear hb); (try clear hb2); (try clear hk); (try clear hi)) | (go_at_call 101; (first | (with_reducible refine (impl_reader_take.calls g t155 t156 t157 76 true t159 t160 t161 w0 _ ?side1 ?side2 A17.out).mono ?_) | (with_reducible refine (calls_of_args ?_ (impl_reader_take.calls g t155 t156 t157 76 true t159 t160 t161 w0 _ ?side1 ?side2 A17.out)).mono ?_; focus (simp [*]; done))); (case side1 => repeat (first | (with_reducible first | exact HI0.out | apply IsS91.alloc | apply IsS91.drewN | apply IsS91.drew | apply IsS91.set_0 | apply IsS91.set_1 | apply IsS91.set_2) | exact HI0.out)); (case side2 => repeat (first | (with_reducible first | exact HB.out | apply below_alloc | apply pw_below_drewN | apply below_drew1 | refine below_set ?_ (IsS91.ge HI0.out)) | exact HB.out)); rintro e w24 ⟨rfl, hi, hb, hk⟩; have n0_ := Aside0.mk (KeepBut.trans (by repeat (first | (with_reducible first | exact HK.out | apply KeepBut.set_ | apply keep_drewN | apply keep_drew | apply keep_alloc) | exact HK.out)) hk (.inl rfl)); have n1_ := Aside0.mk (hb); have n2_ := Aside0.mk (hi); clear HK; clear HB; clear HI0; have HK := n0_; have HB := n1_; have HI0 := n2_; clear n0_ n1_ n2_; (try clear hb); (try clear hb2); (try clear hk); (try clear hi)) | (go_at_call 106; (first | (with_reducible refine (impl_reader_name.calls k g t159 t160 t161 t162 t163 true w0 _ ?side1 ?side2 A19.out).mono ?_) | (with_reducible refine (calls_of_args ?_ (impl_reader_name.calls k g t159 t160 t161 t162 t163 true w0 _ ?side1 ?side2 A19.out)).mono ?_; focus (simp [*]; done))); (case side1 => repeat (first | (with_reducible first | exact HI0.out | apply IsS91.alloc | apply IsS91.drewN | apply IsS91.drew | apply IsS91.set_0 | apply IsS91.set_1 | apply IsS91.set_2) | exact HI0.out)); (case side2 => repeat (first | (with_reducible first | exact HB.out | apply below_alloc | apply pw_below_drewN | apply below_drew1 | refine below_set ?_ (IsS91.ge HI0.out)) | exact HB.out)); rintro e w25 ⟨rfl, hi, hb, hk⟩; have n0_ := Aside0.mk (KeepBut.trans (by repeat (first | (with_reducible first | exact HK.out | apply KeepBut.set_ | apply keep_drewN | apply keep_drew | apply keep_alloc) | exact HK.out)) hk (.inl rfl)); have n1_ := Aside0.mk (hb); have n2_ := Aside0.mk (hi); clear HK; clear HB; clear HI0; have HK := n0_; have HB := n1_; have HI0 := n2_; clear n0_ n1_ n2_; (try clear hb); (try clear hb2); (try clear hk); (try clear hi); obtain ⟨HGz26, hgz26⟩ := HI0.out; have hcz26_0 := cellS91_0 HGz26; have hcz26_1 := cellS91_1 HGz26; have hcz26_2 := cellS91_2 HGz26; have hfz26_0 := blk_frozen HGz26 0; have hfz26_1 := blk_frozen HGz26 1; have hfz26_2 := blk_frozen HGz26 2; clear HGz26 hgz26)); try go_wp2_with (first | (go_at_call 101; (first | (with_reducible refine (impl_reader_take.calls g s0_0 s0_1 s0_2 91 t150 t151 t152 t153 w0 _ ?side1 ?side2 A2.out).mono ?_) | (with_reducible refine (calls_of_args ?_ (impl_reader_take.calls g s0_0 s0_1 s0_2 91 t150 t151 t152 t153 w0 _ ?side1 ?side2 A2.out)).mono ?_; focus (simp [*]; done))); (case side1 => repeat (first | (with_reducible first | exact HI0.out | apply IsS91.alloc | apply IsS91.drewN | apply IsS91.drew | apply IsS91.set_0 | apply IsS91.set_1 | apply IsS91.set_2) | exact HI0.out)); (case side2 => repeat (first | (with_reducible first | exact HB.out | apply below_alloc | apply pw_below_drewN | apply below_drew1 | refine below_set ?_ (IsS91.ge HI0.out)) | exact HB.out)); rintro e w22 ⟨rfl, hi, hb, hk⟩; have n0_ := Aside0.mk (KeepBut.trans (by repeat (first | (with_reducible first | exact HK.out | apply KeepBut.set_ | apply keep_drewN | apply keep_drew | apply keep_alloc) | exact HK.out)) hk (.inl rfl)); have n1_ := Aside0.mk (hb); have n2_ := Aside0.mk (hi); clear HK; clear HB; clear HI0; have HK := n0_; have HB := n1_; have HI0 := n2_; clear n0_ n1_ n2_; (try clear hb); (try clear hb2); (try clear hk); (try clear hi)) | (go_at_call 101; (first | (with_reducible refine (impl_reader_take.calls g t151 t152 t153 73 false t155 t156 t157 w0 _ ?side1 ?side2 A3.out).mono ?_) | (with_reducible refine (calls_of_args ?_ (impl_reader_take.calls g t151 t152 t153 73 false t155 t156 t157 w0 _ ?side1 ?side2 A3.out)).mono ?_; focus (simp [*]; done))); (case side1 => repeat (first | (with_reducible first | exact HI0.out | apply IsS91.alloc | apply IsS91.drewN | apply IsS91.drew | apply IsS91.set_0 | apply IsS91.set_1 | apply IsS91.set_2) | exact HI0.out)); (case side2 => repeat (first | (with_reducible first | exact HB.out | apply below_alloc | apply pw_below_drewN | apply below_drew1 | refine below_set ?_ (IsS91.ge HI0.out)) | exact HB.out)); rintro e w23 ⟨rfl, hi, hb, hk⟩; have n0_ := Aside0.mk (KeepBut.trans (by repeat (first | (with_reducible first | exact HK.out | apply KeepBut.set_ | apply keep_drewN | apply keep_drew | apply keep_alloc) | exact HK.out)) hk (.inl rfl)); have n1_ := Aside0.mk (hb); have n2_ := Aside0.mk (hi); clear HK; clear HB; clear HI0; have HK := n0_; have HB := n1_; have HI0 := n2_; clear n0_ n1_ n2_; (try clear hb); (try clear hb2); (try clear hk); (try clear hi)) | (go_at_call 101; (first | (with_reducible refine (impl_reader_take.calls g t155 t156 t157 76 true t159 t160 t161 w0 _ ?side1 ?side2 A17.out).mono ?_) | (with_reducible refine (calls_of_args ?_ (impl_reader_take.calls g t155 t156 t157 76 true t159 t160 t161 w0 _ ?side1 ?side2 A17.out)).mono ?_; focus (simp [*]; done))); (case side1 => repeat (first | (with_reducible first | exact HI0.out | apply IsS91.alloc | apply IsS91.drewN | apply IsS91.drew | apply IsS91.set_0 | apply IsS91.set_1 | apply IsS91.set_2) | exact HI0.out)); (case side2 => repeat (first | (with_reducible first | exact HB.out | apply below_alloc | apply pw_below_drewN | apply below_drew1 | refine below_set ?_ (IsS91.ge HI0.out)) | exact HB.out)); rintro e w24 ⟨rfl, hi, hb, hk⟩; have n0_ := Aside0.mk (KeepBut.trans (by repeat (first | (with_reducible first | exact HK.out | apply KeepBut.set_ | apply keep_drewN | apply keep_drew | apply keep_alloc) | exact HK.out)) hk (.inl rfl)); have n1_ := Aside0.mk (hb); have n2_ := Aside0.mk (hi); clear HK; clear HB; clear HI0; have HK := n0_; have HB := n1_; have HI0 := n2_; clear n0_ n1_ n2_; (try clear hb); (try clear hb2); (try clear hk); (try clear hi)) | (go_at_call 106; (first | (with_reducible refine (impl_reader_name.calls k g t159 t160 t161 t162 t163 true w0 _ ?side1 ?side2 A19.out).mono ?_) | (with_reducible refine (calls_of_args ?_ (impl_reader_name.calls k g t159 t160 t161 t162 t163 true w0 _ ?side1 ?side2 A19.out)).mono ?_; focus (simp [*]; done))); (case side1 => repeat (first | (with_reducible first | exact HI0.out | apply IsS91.alloc | apply IsS91.drewN | apply IsS91.drew | apply IsS91.set_0 | apply IsS91.set_1 | apply IsS91.set_2) | exact HI0.out)); (case side2 => repeat (first | (with_reducible first | exact HB.out | apply below_alloc | apply pw_below_drewN | apply below_drew1 | refine below_set ?_ (IsS91.ge HI0.out)) | exact HB.out)); rintro e w25 ⟨rfl, hi, hb, hk⟩; have n0_ := Aside0.mk (KeepBut.trans (by repeat (first | (with_reducible first | exact HK.out | apply KeepBut.set_ | apply keep_drewN | apply keep_drew | apply keep_alloc) | exact HK.out)) hk (.inl rfl)); have n1_ := Aside0.mk (hb); have n2_ := Aside0.mk (hi); clear HK; clear HB; clear HI0; have HK := n0_; have HB := n1_; have HI0 := n2_; clear n0_ n1_ n2_; (try clear hb); (try clear hb2); (try clear hk); (try clear hi); obtain ⟨HGz26, hgz26⟩ := HI0.out; have hcz26_0 := cellS91_0 HGz26; have hcz26_1 := cellS91_1 HGz26; have hcz26_2 := cellS91_2 HGz26; have hfz26_0 := blk_frozen HGz26 0; have hfz26_1 := blk_frozen HGz26 1; have hfz26_2 := blk_frozen HGz26 2; clear HGz26 hgz26)))
        go_ret
        exact ⟨by first | rfl | (simp [errW_none, errW_some] <;> rfl) | (simp [*, errW_none, errW_some] <;> rfl), by repeat (first | (with_reducible first | exact HI0.out | apply IsS91.alloc | apply IsS91.drewN | apply IsS91.drew | apply IsS91.set_0 | apply IsS91.set_1 | apply IsS91.set_2) | exact HI0.out), by repeat (first | (with_reducible first | exact HB.out | apply below_alloc | apply pw_below_drewN | apply below_drew1 | refine below_set ?_ (IsS91.ge HI0.out)) | exact HB.out), by repeat (first | (with_reducible first | exact HK.out | apply KeepBut.set_ | apply keep_drewN | apply keep_drew | apply keep_alloc) | exact HK.out)⟩
      · replace c20 := Bool.eq_false_iff.mpr c20
        subst c20
        have H1 : (if 0 ≤ s0_1 then (if s0_1 ≤ t163 then (if t163 ≤ (t162.size : Int) then (some (t162.extract (s0_1 : Int).toNat (t163 : Int).toNat, t162, t163, false)) else (none)) else (none)) else (none)) = some (r1, r2, r3, r4) := by rw [if_neg (show ¬ (false = true) by decide)] at H; exact H
        clear H
        have H := H1
        clear H1
        by_cases c27 : 0 ≤ s0_1
        · rw [if_pos c27] at H
          have c27b0 := eq_true c27
          have c27b1 : decide (0 ≤ s0_1) = true := decide_eq_true c27
          clear c27
          by_cases c28 : s0_1 ≤ t163
          · rw [if_pos c28] at H
            have c28b0 := eq_true c28
            have c28b1 : decide (s0_1 ≤ t163) = true := decide_eq_true c28
            clear c28
            by_cases c29 : t163 ≤ (t162.size : Int)
            · rw [if_pos c29] at H
              have c29b0 := eq_true c29
              have c29b1 : decide (t163 ≤ (t162.size : Int)) = true := decide_eq_true c29
              clear c29
              simp only [Option.some.injEq, Prod.mk.injEq] at H
              obtain ⟨rfl, rfl, rfl, rfl⟩ := H
              obtain ⟨HGz30, hgz30⟩ := HI0.out
              have hcz30_0 := cellS91_0 HGz30
              have hcz30_1 := cellS91_1 HGz30
              have hcz30_2 := cellS91_2 HGz30
              have hfz30_0 := blk_frozen HGz30 0
              have hfz30_1 := blk_frozen HGz30 1
              have hfz30_2 := blk_frozen HGz30 2
              clear HGz30 hgz30
              go_enter Try.func89, Try.ntmps89
              go_wp2_with (first | (go_at_call 101; (first | (with_reducible refine (impl_reader_take.calls g s0_0 s0_1 s0_2 91 t150 t151 t152 t153 w0 _ ?side1 ?side2 A2.out).mono ?_) | (with_reducible refine (calls_of_args ?_ (impl_reader_take.calls g s0_0 s0_1 s0_2 91 t150 t151 t152 t153 w0 _ ?side1 ?side2 A2.out)).mono ?_; focus (simp [*]; done))); (case side1 => repeat (first | (with_reducible first | exact HI0.out | apply IsS91.alloc | apply IsS91.drewN | apply IsS91.drew | apply IsS91.set_0 | apply IsS91.set_1 | apply IsS91.set_2) | exact HI0.out)); (case side2 => repeat (first | (with_reducible first | exact HB.out | apply below_alloc | apply pw_below_drewN | apply below_drew1 | refine below_set ?_ (IsS91.ge HI0.out)) | exact HB.out)); rintro e w31 ⟨rfl, hi, hb, hk⟩; have n0_ := Aside0.mk (KeepBut.trans (by repeat (first | (with_reducible first | exact HK.out | apply KeepBut.set_ | apply keep_drewN | apply keep_drew | apply keep_alloc) | exact HK.out)) hk (.inl rfl)); have n1_ := Aside0.mk (hb); have n2_ := Aside0.mk (hi); clear HK; clear HB; clear HI0; have HK := n0_; have HB := n1_; have HI0 := n2_; clear n0_ n1_ n2_; (try clear hb); (try clear hb2); (try clear hk); (try clear hi)) | (go_at_call 101; (first | (with_reducible refine (impl_reader_take.calls g t151 t152 t153 73 false t155 t156 t157 w0 _ ?side1 ?side2 A3.out).mono ?_) | (with_reducible refine (calls_of_args ?_ (impl_reader_take.calls g t151 t152 t153 73 false t155 t156 t157 w0 _ ?side1 ?side2 A3.out)).mono ?_; focus (simp [*]; done))); (case side1 => repeat (first | (with_reducible first | exact HI0.out | apply IsS91.alloc | apply IsS91.drewN | apply IsS91.drew | apply IsS91.set_0 | apply IsS91.set_1 | apply IsS91.set_2) | exact HI0.out)); (case side2 => repeat (first | (with_reducible first | exact HB.out | apply below_alloc | apply pw_below_drewN | apply below_drew1 | refine below_set ?_ (IsS91.ge HI0.out)) | exact HB.out)); rintro e w32 ⟨rfl, hi, hb, hk⟩; have n0_ := Aside0.mk (KeepBut.trans (by repeat (first | (with_reducible first | exact HK.out | apply KeepBut.set_ | apply keep_drewN | apply keep_drew | apply keep_alloc) | exact HK.out)) hk (.inl rfl)); have n1_ := Aside0.mk (hb); have n2_ := Aside0.mk (hi); clear HK; clear HB; clear HI0; have HK := n0_; have HB := n1_; have HI0 := n2_; clear n0_ n1_ n2_; (try clear hb); (try clear hb2); (try clear hk); (try clear hi)) | (go_at_call 101; (first | (with_reducible refine (impl_reader_take.calls g t155 t156 t157 76 true t159 t160 t161 w0 _ ?side1 ?side2 A17.out).mono ?_) | (with_reducible refine (calls_of_args ?_ (impl_reader_take.calls g t155 t156 t157 76 true t159 t160 t161 w0 _ ?side1 ?side2 A17.out)).mono ?_; focus (simp [*]; done))); (case side1 => repeat (first | (with_reducible first | exact HI0.out | apply IsS91.alloc | apply IsS91.drewN | apply IsS91.drew | apply IsS91.set_0 | apply IsS91.set_1 | apply IsS91.set_2) | exact HI0.out)); (case side2 => repeat (first | (with_reducible first | exact HB.out | apply below_alloc | apply pw_below_drewN | apply below_drew1 | refine below_set ?_ (IsS91.ge HI0.out)) | exact HB.out)); rintro e w33 ⟨rfl, hi, hb, hk⟩; have n0_ := Aside0.mk (KeepBut.trans (by repeat (first | (with_reducible first | exact HK.out | apply KeepBut.set_ | apply keep_drewN | apply keep_drew | apply keep_alloc) | exact HK.out)) hk (.inl rfl)); have n1_ := Aside0.mk (hb); have n2_ := Aside0.mk (hi); clear HK; clear HB; clear HI0; have HK := n0_; have HB := n1_; have HI0 := n2_; clear n0_ n1_ n2_; (try clear hb); (try clear hb2); (try clear hk); (try clear hi)) | (go_at_call 106; (first | (with_reducible refine (impl_reader_name.calls k g t159 t160 t161 t162 t163 false w0 _ ?side1 ?side2 A19.out).mono ?_) | (with_reducible refine (calls_of_args ?_ (impl_reader_name.calls k g t159 t160 t161 t162 t163 false w0 _ ?side1 ?side2 A19.out)).mono ?_; focus (simp [*]; done))); (case side1 => repeat (first | (with_reducible first | exact HI0.out | apply IsS91.alloc | apply IsS91.drewN | apply IsS91.drew | apply IsS91.set_0 | apply IsS91.set_1 | apply IsS91.set_2) | exact HI0.out)); (case side2 => repeat (first | (with_reducible first | exact HB.out | apply below_alloc | apply pw_below_drewN | apply below_drew1 | refine below_set ?_ (IsS91.ge HI0.out)) | exact HB.out)); rintro e w34 ⟨rfl, hi, hb, hk⟩; have n0_ := Aside0.mk (KeepBut.trans (by repeat (first | (with_reducible first | exact HK.out | apply KeepBut.set_ | apply keep_drewN | apply keep_drew | apply keep_alloc) | exact HK.out)) hk (.inl rfl)); have n1_ := Aside0.mk (hb); have n2_ := Aside0.mk (hi); clear HK; clear HB; clear HI0; have HK := n0_; have HB := n1_; have HI0 := n2_; clear n0_ n1_ n2_; (try clear hb); (try clear hb2); (try clear hk); (try clear hi); obtain ⟨HGz35, hgz35⟩ := HI0.out; have hcz35_0 := cellS91_0 HGz35; have hcz35_1 := cellS91_1 HGz35; have hcz35_2 := cellS91_2 HGz35; have hfz35_0 := blk_frozen HGz35 0; have hfz35_1 := blk_frozen HGz35 1; have hfz35_2 := blk_frozen HGz35 2; clear HGz35 hgz35))
              repeat (go_quiet (first | (go_at_call 101; (first | (with_reducible refine (impl_reader_take.calls g s0_0 s0_1 s0_2 91 t150 t151 t152 t153 w0 _ ?side1 ?side2 A2.out).mono ?_) | (with_reducible refine (calls_of_args ?_ (impl_reader_take.calls g s0_0 s0_1 s0_2 91 t150 t151 t152 t153 w0 _ ?side1 ?side2 A2.out)).mono ?_; focus (simp [*]; done))); (case side1 => repeat (first | (with_reducible first | exact HI0.out | apply IsS91.alloc | apply IsS91.drewN | apply IsS91.drew | apply IsS91.set_0 | apply IsS91.set_1 | apply IsS91.set_2) | exact HI0.out)); (case side2 => repeat (first | (with_reducible first | exact HB.out | apply below_alloc | apply pw_below_drewN | apply below_drew1 | refine below_set ?_ (IsS91.ge HI0.out)) | exact HB.out)); rintro e w31 ⟨rfl, hi, hb, hk⟩; have n0_ := Aside0.mk (KeepBut.trans (by repeat (first | (with_reducible first | exact HK.out | apply KeepBut.set_ | apply keep_drewN | apply keep_drew | apply keep_alloc) | exact HK.out)) hk (.inl rfl)); have n1_ := Aside0.mk (hb); have n2_ := Aside0.mk (hi); clear HK; clear HB; clear HI0; have HK := n0_; have HB := n1_; have HI0 := n2_; clear n0_ n1_ n2_; (try clear hb); (try clear hb2); (try clear hk); (try clear hi)) | (go_at_call 101; (first | (with_reducible refine (impl_reader_take.calls g t151 t152 t153 73 false t155 t156 t157 w0 _ ?side1 ?side2 A3.out).mono ?_) | (with_reducible refine (calls_of_args ?_ (impl_reader_take.calls g t151 t152 t153 73 false t155 t156 t157 w0 _ ?side1 ?side2 A3.out)).mono ?_; focus (simp [*]; done))); (case side1 => repeat (first | (with_reducible first | exact HI0.out | apply IsS91.alloc | apply IsS91.drewN | apply IsS91.drew | apply IsS91.set_0 | apply IsS91.set_1 | apply IsS91.set_2) | exact HI0.out)); (case side2 => repeat (first | (with_reducible first | exact HB.out | apply below_alloc | apply pw_below_drewN | apply below_drew1 | refine below_set ?_ (IsS91.ge HI0.out)) | exact HB.out)); rintro e w32 ⟨rfl, hi, hb, hk⟩; have n0_ := Aside0.mk (KeepBut.trans (by repeat (first | (with_reducible first | exact HK.out | apply KeepBut.set_ | apply keep_drewN | apply keep_drew | apply keep_alloc) | exact HK.out)) hk (.inl rfl)); have n1_ := Aside0.mk (hb); have n2_ := Aside0.mk (hi); clear HK; clear HB; clear HI0; have HK := n0_; have HB := n1_; have HI0 := n2_; clear n0_ n1_ n2_; (try clear hb); (try clear hb2); (try clear hk); (try clear hi)) | (go_at_call 101; (first | (with_reducible refine (impl_reader_take.calls g t155 t156 t157 76 true t159 t160 t161 w0 _ ?side1 ?side2 A17.out).mono ?_) | (with_reducible refine (calls_of_args ?_ (impl_reader_take.calls g t155 t156 t157 76 true t159 t160 t161 w0 _ ?side1 ?side2 A17.out)).mono ?_; focus (simp [*]; done))); (case side1 => repeat (first | (with_reducible first | exact HI0.out | apply IsS91.alloc | apply IsS91.drewN | apply IsS91.drew | apply IsS91.set_0 | apply IsS91.set_1 | apply IsS91.set_2) | exact HI0.out)); (case side2 => repeat (first | (with_reducible first | exact HB.out | apply below_alloc | apply pw_below_drewN | apply below_drew1 | refine below_set ?_ (IsS91.ge HI0.out)) | exact HB.out)); rintro e w33 ⟨rfl, hi, hb, hk⟩; have n0_ := Aside0.mk (KeepBut.trans (by repeat (first | (with_reducible first | exact HK.out | apply KeepBut.set_ | apply keep_drewN | apply keep_drew | apply keep_alloc) | exact HK.out)) hk (.inl rfl)); have n1_ := Aside0.mk (hb); have n2_ := Aside0.mk (hi); clear HK; clear HB; clear HI0; have HK := n0_; have HB := n1_; have HI0 := n2_; clear n0_ n1_ n2_; (try clear hb); (try clear hb2); (try clear hk); (try clear hi)) | (go_at_call 106; (first | (with_reducible refine (impl_reader_name.calls k g t159 t160 t161 t162 t163 false w0 _ ?side1 ?side2 A19.out).mono ?_) | (with_reducible refine (calls_of_args ?_ (impl_reader_name.calls k g t159 t160 t161 t162 t163 false w0 _ ?side1 ?side2 A19.out)).mono ?_; focus (simp [*]; done))); (case side1 => repeat (first | (with_reducible first | exact HI0.out | apply IsS91.alloc | apply IsS91.drewN | apply IsS91.drew | apply IsS91.set_0 | apply IsS91.set_1 | apply IsS91.set_2) | exact HI0.out)); (case side2 => repeat (first | (with_reducible first | exact HB.out | apply below_alloc | apply pw_below_drewN | apply below_drew1 | refine below_set ?_ (IsS91.ge HI0.out)) | exact HB.out)); rintro e w34 ⟨rfl, hi, hb, hk⟩; have n0_ := Aside0.mk (KeepBut.trans (by repeat (first | (with_reducible first | exact HK.out | apply KeepBut.set_ | apply keep_drewN | apply keep_drew | apply keep_alloc) | exact HK.out)) hk (.inl rfl)); have n1_ := Aside0.mk (hb); have n2_ := Aside0.mk (hi); clear HK; clear HB; clear HI0; have HK := n0_; have HB := n1_; have HI0 := n2_; clear n0_ n1_ n2_; (try clear hb); (try clear hb2); (try clear hk); (try clear hi); obtain ⟨HGz35, hgz35⟩ := HI0.out; have hcz35_0 := cellS91_0 HGz35; have hcz35_1 := cellS91_1 HGz35; have hcz35_2 := cellS91_2 HGz35; have hfz35_0 := blk_frozen HGz35 0; have hfz35_1 := blk_frozen HGz35 1; have hfz35_2 := blk_frozen HGz35 2; clear HGz35 hgz35)); try go_wp2_with (first | (go_at_call 101; (first | (with_reducible refine (impl_reader_take.calls g s0_0 s0_1 s0_2 91 t150 t151 t152 t153 w0 _ ?side1 ?side2 A2.out).mono ?_) | (with_reducible refine (calls_of_args ?_ (impl_reader_take.calls g s0_0 s0_1 s0_2 91 t150 t151 t152 t153 w0 _ ?side1 ?side2 A2.out)).mono ?_; focus (simp [*]; done))); (case side1 => repeat (first | (with_reducible first | exact HI0.out | apply IsS91.alloc | apply IsS91.drewN | apply IsS91.drew | apply IsS91.set_0 | apply IsS91.set_1 | apply IsS91.set_2) | exact HI0.out)); (case side2 => repeat (first | (with_reducible first | exact HB.out | apply below_alloc | apply pw_below_drewN | apply below_drew1 | refine below_set ?_ (IsS91.ge HI0.out)) | exact HB.out)); rintro e w31 ⟨rfl, hi, hb, hk⟩; have n0_ := Aside0.mk (KeepBut.trans (by repeat (first | (with_reducible first | exact HK.out | apply KeepBut.set_ | apply keep_drewN | apply keep_drew | apply keep_alloc) | exact HK.out)) hk (.inl rfl)); have n1_ := Aside0.mk (hb); have n2_ := Aside0.mk (hi); clear HK; clear HB; clear HI0; have HK := n0_; have HB := n1_; have HI0 := n2_; clear n0_ n1_ n2_; (try clear hb); (try clear hb2); (try clear hk); (try clear hi)) | (go_at_call 101; (first | (with_reducible refine (impl_reader_take.calls g t151 t152 t153 73 false t155 t156 t157 w0 _ ?side1 ?side2 A3.out).mono ?_) | (with_reducible refine (calls_of_args ?_ (impl_reader_take.calls g t151 t152 t153 73 false t155 t156 t157 w0 _ ?side1 ?side2 A3.out)).mono ?_; focus (simp [*]; done))); (case side1 => repeat (first | (with_reducible first | exact HI0.out | apply IsS91.alloc | apply IsS91.drewN | apply IsS91.drew | apply IsS91.set_0 | apply IsS91.set_1 | apply IsS91.set_2) | exact HI0.out)); (case side2 => repeat (first | (with_reducible first | exact HB.out | apply below_alloc | apply pw_below_drewN | apply below_drew1 | refine below_set ?_ (IsS91.ge HI0.out)) | exact HB.out)); rintro e w32 ⟨rfl, hi, hb, hk⟩; have n0_ := Aside0.mk (KeepBut.trans (by repeat (first | (with_reducible first | exact HK.out | apply KeepBut.set_ | apply keep_drewN | apply keep_drew | apply keep_alloc) | exact HK.out)) hk (.inl rfl)); have n1_ := Aside0.mk (hb); have n2_ := Aside0.mk (hi); clear HK; clear HB; clear HI0; have HK := n0_; have HB := n1_; have HI0 := n2_; clear n0_ n1_ n2_; (try clear hb); (try clear hb2); (try clear hk); (try clear hi)) | (go_at_call 101; (first | (with_reducible refine (impl_reader_take.calls g t155 t156 t157 76 true t159 t160 t161 w0 _ ?side1 ?side2 A17.out).mono ?_) | (with_reducible refine (calls_of_args ?_ (impl_reader_take.calls g t155 t156 t157 76 true t159 t160 t161 w0 _ ?side1 ?side2 A17.out)).mono ?_; focus (simp [*]; done))); (case side1 => repeat (first | (with_reducible first | exact HI0.out | apply IsS91.alloc | apply IsS91.drewN | apply IsS91.drew | apply IsS91.set_0 | apply IsS91.set_1 | apply IsS91.set_2) | exact HI0.out)); (case side2 => repeat (first | (with_reducible first | exact HB.out | apply below_alloc | apply pw_below_drewN | apply below_drew1 | refine below_set ?_ (IsS91.ge HI0.out)) | exact HB.out)); rintro e w33 ⟨rfl, hi, hb, hk⟩; have n0_ := Aside0.mk (KeepBut.trans (by repeat (first | (with_reducible first | exact HK.out | apply KeepBut.set_ | apply keep_drewN | apply keep_drew | apply keep_alloc) | exact HK.out)) hk (.inl rfl)); have n1_ := Aside0.mk (hb); have n2_ := Aside0.mk (hi); clear HK; clear HB; clear HI0; have HK := n0_; have HB := n1_; have HI0 := n2_; clear n0_ n1_ n2_; (try clear hb); (try clear hb2); (try clear hk); (try clear hi)) | (go_at_call 106; (first | (with_reducible refine (impl_reader_name.calls k g t159 t160 t161 t162 t163 false w0 _ ?side1 ?side2 A19.out).mono ?_) | (with_reducible refine (calls_of_args ?_ (impl_reader_name.calls k g t159 t160 t161 t162 t163 false w0 _ ?side1 ?side2 A19.out)).mono ?_; focus (simp [*]; done))); (case side1 => repeat (first | (with_reducible first | exact HI0.out | apply IsS91.alloc | apply IsS91.drewN | apply IsS91.drew | apply IsS91.set_0 | apply IsS91.set_1 | apply IsS91.set_2) | exact HI0.out)); (case side2 => repeat (first | (with_reducible first | exact HB.out | apply below_alloc | apply pw_below_drewN | apply below_drew1 | refine below_set ?_ (IsS91.ge HI0.out)) | exact HB.out)); rintro e w34 ⟨rfl, hi, hb, hk⟩; have n0_ := Aside0.mk (KeepBut.trans (by repeat (first | (with_reducible first | exact HK.out | apply KeepBut.set_ | apply keep_drewN | apply keep_drew | apply keep_alloc) | exact HK.out)) hk (.inl rfl)); have n1_ := Aside0.mk (hb); have n2_ := Aside0.mk (hi); clear HK; clear HB; clear HI0; have HK := n0_; have HB := n1_; have HI0 := n2_; clear n0_ n1_ n2_; (try clear hb); (try clear hb2); (try clear hk); (try clear hi); obtain ⟨HGz35, hgz35⟩ := HI0.out; have hcz35_0 := cellS91_0 HGz35; have hcz35_1 := cellS91_1 HGz35; have hcz35_2 := cellS91_2 HGz35; have hfz35_0 := blk_frozen HGz35 0; have hfz35_1 := blk_frozen HGz35 1; have hfz35_2 := blk_frozen HGz35 2; clear HGz35 hgz35)))
              go_ret
              exact ⟨by first | rfl | (simp [errW_none, errW_some] <;> rfl) | (simp [*, errW_none, errW_some] <;> rfl), by repeat (first | (with_reducible first | exact HI0.out | apply IsS91.alloc | apply IsS91.drewN | apply IsS91.drew | apply IsS91.set_0 | apply IsS91.set_1 | apply IsS91.set_2) | exact HI0.out), by repeat (first | (with_reducible first | exact HB.out | apply below_alloc | apply pw_below_drewN | apply below_drew1 | refine below_set ?_ (IsS91.ge HI0.out)) | exact HB.out), by repeat (first | (with_reducible first | exact HK.out | apply KeepBut.set_ | apply keep_drewN | apply keep_drew | apply keep_alloc) | exact HK.out)⟩
            · rw [if_neg c29] at H
              exact absurd H (by simp)
          · rw [if_neg c28] at H
            exact absurd H (by simp)
        · rw [if_neg c27] at H
          exact absurd H (by simp)
    · replace c18 := Bool.eq_false_iff.mpr c18
      subst c18
      have H1 : (some ((⟨#[]⟩ : ByteArray), t159, t160, true)) = some (r1, r2, r3, r4) := by rw [if_neg (show ¬ (false = true) by decide)] at H; exact H
      clear H
      have H := H1
      clear H1
      simp only [Option.some.injEq, Prod.mk.injEq] at H
      obtain ⟨rfl, rfl, rfl, rfl⟩ := H
      obtain ⟨HGz36, hgz36⟩ := HI0.out
      have hcz36_0 := cellS91_0 HGz36
      have hcz36_1 := cellS91_1 HGz36
      have hcz36_2 := cellS91_2 HGz36
      have hfz36_0 := blk_frozen HGz36 0
      have hfz36_1 := blk_frozen HGz36 1
      have hfz36_2 := blk_frozen HGz36 2
      clear HGz36 hgz36
      go_enter Try.func89, Try.ntmps89
      go_wp2_with (first | (go_at_call 101; (first | (with_reducible refine (impl_reader_take.calls g s0_0 s0_1 s0_2 91 t150 t151 t152 t153 w0 _ ?side1 ?side2 A2.out).mono ?_) | (with_reducible refine (calls_of_args ?_ (impl_reader_take.calls g s0_0 s0_1 s0_2 91 t150 t151 t152 t153 w0 _ ?side1 ?side2 A2.out)).mono ?_; focus (simp [*]; done))); (case side1 => repeat (first | (with_reducible first | exact HI0.out | apply IsS91.alloc | apply IsS91.drewN | apply IsS91.drew | apply IsS91.set_0 | apply IsS91.set_1 | apply IsS91.set_2) | exact HI0.out)); (case side2 => repeat (first | (with_reducible first | exact HB.out | apply below_alloc | apply pw_below_drewN | apply below_drew1 | refine below_set ?_ (IsS91.ge HI0.out)) | exact HB.out)); rintro e w37 ⟨rfl, hi, hb, hk⟩; have n0_ := Aside0.mk (KeepBut.trans (by repeat (first | (with_reducible first | exact HK.out | apply KeepBut.set_ | apply keep_drewN | apply keep_drew | apply keep_alloc) | exact HK.out)) hk (.inl rfl)); have n1_ := Aside0.mk (hb); have n2_ := Aside0.mk (hi); clear HK; clear HB; clear HI0; have HK := n0_; have HB := n1_; have HI0 := n2_; clear n0_ n1_ n2_; (try clear hb); (try clear hb2); (try clear hk); (try clear hi)) | (go_at_call 101; (first | (with_reducible refine (impl_reader_take.calls g t151 t152 t153 73 false t155 t156 t157 w0 _ ?side1 ?side2 A3.out).mono ?_) | (with_reducible refine (calls_of_args ?_ (impl_reader_take.calls g t151 t152 t153 73 false t155 t156 t157 w0 _ ?side1 ?side2 A3.out)).mono ?_; focus (simp [*]; done))); (case side1 => repeat (first | (with_reducible first | exact HI0.out | apply IsS91.alloc | apply IsS91.drewN | apply IsS91.drew | apply IsS91.set_0 | apply IsS91.set_1 | apply IsS91.set_2) | exact HI0.out)); (case side2 => repeat (first | (with_reducible first | exact HB.out | apply below_alloc | apply pw_below_drewN | apply below_drew1 | refine below_set ?_ (IsS91.ge HI0.out)) | exact HB.out)); rintro e w38 ⟨rfl, hi, hb, hk⟩; have n0_ := Aside0.mk (KeepBut.trans (by repeat (first | (with_reducible first | exact HK.out | apply KeepBut.set_ | apply keep_drewN | apply keep_drew | apply keep_alloc) | exact HK.out)) hk (.inl rfl)); have n1_ := Aside0.mk (hb); have n2_ := Aside0.mk (hi); clear HK; clear HB; clear HI0; have HK := n0_; have HB := n1_; have HI0 := n2_; clear n0_ n1_ n2_; (try clear hb); (try clear hb2); (try clear hk); (try clear hi)) | (go_at_call 101; (first | (with_reducible refine (impl_reader_take.calls g t155 t156 t157 76 false t159 t160 t161 w0 _ ?side1 ?side2 A17.out).mono ?_) | (with_reducible refine (calls_of_args ?_ (impl_reader_take.calls g t155 t156 t157 76 false t159 t160 t161 w0 _ ?side1 ?side2 A17.out)).mono ?_; focus (simp [*]; done))); (case side1 => repeat (first | (with_reducible first | exact HI0.out | apply IsS91.alloc | apply IsS91.drewN | apply IsS91.drew | apply IsS91.set_0 | apply IsS91.set_1 | apply IsS91.set_2) | exact HI0.out)); (case side2 => repeat (first | (with_reducible first | exact HB.out | apply below_alloc | apply pw_below_drewN | apply below_drew1 | refine below_set ?_ (IsS91.ge HI0.out)) | exact HB.out)); rintro e w39 ⟨rfl, hi, hb, hk⟩; have n0_ := Aside0.mk (KeepBut.trans (by repeat (first | (with_reducible first | exact HK.out | apply KeepBut.set_ | apply keep_drewN | apply keep_drew | apply keep_alloc) | exact HK.out)) hk (.inl rfl)); have n1_ := Aside0.mk (hb); have n2_ := Aside0.mk (hi); clear HK; clear HB; clear HI0; have HK := n0_; have HB := n1_; have HI0 := n2_; clear n0_ n1_ n2_; (try clear hb); (try clear hb2); (try clear hk); (try clear hi); obtain ⟨HGz40, hgz40⟩ := HI0.out; have hcz40_0 := cellS91_0 HGz40; have hcz40_1 := cellS91_1 HGz40; have hcz40_2 := cellS91_2 HGz40; have hfz40_0 := blk_frozen HGz40 0; have hfz40_1 := blk_frozen HGz40 1; have hfz40_2 := blk_frozen HGz40 2; clear HGz40 hgz40))
      repeat (go_quiet (first | (go_at_call 101; (first | (with_reducible refine (impl_reader_take.calls g s0_0 s0_1 s0_2 91 t150 t151 t152 t153 w0 _ ?side1 ?side2 A2.out).mono ?_) | (with_reducible refine (calls_of_args ?_ (impl_reader_take.calls g s0_0 s0_1 s0_2 91 t150 t151 t152 t153 w0 _ ?side1 ?side2 A2.out)).mono ?_; focus (simp [*]; done))); (case side1 => repeat (first | (with_reducible first | exact HI0.out | apply IsS91.alloc | apply IsS91.drewN | apply IsS91.drew | apply IsS91.set_0 | apply IsS91.set_1 | apply IsS91.set_2) | exact HI0.out)); (case side2 => repeat (first | (with_reducible first | exact HB.out | apply below_alloc | apply pw_below_drewN | apply below_drew1 | refine below_set ?_ (IsS91.ge HI0.out)) | exact HB.out)); rintro e w37 ⟨rfl, hi, hb, hk⟩; have n0_ := Aside0.mk (KeepBut.trans (by repeat (first | (with_reducible first | exact HK.out | apply KeepBut.set_ | apply keep_drewN | apply keep_drew | apply keep_alloc) | exact HK.out)) hk (.inl rfl)); have n1_ := Aside0.mk (hb); have n2_ := Aside0.mk (hi); clear HK; clear HB; clear HI0; have HK := n0_; have HB := n1_; have HI0 := n2_; clear n0_ n1_ n2_; (try clear hb); (try clear hb2); (try clear hk); (try clear hi)) | (go_at_call 101; (first | (with_reducible refine (impl_reader_take.calls g t151 t152 t153 73 false t155 t156 t157 w0 _ ?side1 ?side2 A3.out).mono ?_) | (with_reducible refine (calls_of_args ?_ (impl_reader_take.calls g t151 t152 t153 73 false t155 t156 t157 w0 _ ?side1 ?side2 A3.out)).mono ?_; focus (simp [*]; done))); (case side1 => repeat (first | (with_reducible first | exact HI0.out | apply IsS91.alloc | apply IsS91.drewN | apply IsS91.drew | apply IsS91.set_0 | apply IsS91.set_1 | apply IsS91.set_2) | exact HI0.out)); (case side2 => repeat (first | (with_reducible first | exact HB.out | apply below_alloc | apply pw_below_drewN | apply below_drew1 | refine below_set ?_ (IsS91.ge HI0.out)) | exact HB.out)); rintro e w38 ⟨rfl, hi, hb, hk⟩; have n0_ := Aside0.mk (KeepBut.trans (by repeat (first | (with_reducible first | exact HK.out | apply KeepBut.set_ | apply keep_drewN | apply keep_drew | apply keep_alloc) | exact HK.out)) hk (.inl rfl)); have n1_ := Aside0.mk (hb); have n2_ := Aside0.mk (hi); clear HK; clear HB; clear HI0; have HK := n0_; have HB := n1_; have HI0 := n2_; clear n0_ n1_ n2_; (try clear hb); (try clear hb2); (try clear hk); (try clear hi)) | (go_at_call 101; (first | (with_reducible refine (impl_reader_take.calls g t155 t156 t157 76 false t159 t160 t161 w0 _ ?side1 ?side2 A17.out).mono ?_) | (with_reducible refine (calls_of_args ?_ (impl_reader_take.calls g t155 t156 t157 76 false t159 t160 t161 w0 _ ?side1 ?side2 A17.out)).mono ?_; focus (simp [*]; done))); (case side1 => repeat (first | (with_reducible first | exact HI0.out | apply IsS91.alloc | apply IsS91.drewN | apply IsS91.drew | apply IsS91.set_0 | apply IsS91.set_1 | apply IsS91.set_2) | exact HI0.out)); (case side2 => repeat (first | (with_reducible first | exact HB.out | apply below_alloc | apply pw_below_drewN | apply below_drew1 | refine below_set ?_ (IsS91.ge HI0.out)) | exact HB.out)); rintro e w39 ⟨rfl, hi, hb, hk⟩; have n0_ := Aside0.mk (KeepBut.trans (by repeat (first | (with_reducible first | exact HK.out | apply KeepBut.set_ | apply keep_drewN | apply keep_drew | apply keep_alloc) | exact HK.out)) hk (.inl rfl)); have n1_ := Aside0.mk (hb); have n2_ := Aside0.mk (hi); clear HK; clear HB; clear HI0; have HK := n0_; have HB := n1_; have HI0 := n2_; clear n0_ n1_ n2_; (try clear hb); (try clear hb2); (try clear hk); (try clear hi); obtain ⟨HGz40, hgz40⟩ := HI0.out; have hcz40_0 := cellS91_0 HGz40; have hcz40_1 := cellS91_1 HGz40; have hcz40_2 := cellS91_2 HGz40; have hfz40_0 := blk_frozen HGz40 0; have hfz40_1 := blk_frozen HGz40 1; have hfz40_2 := blk_frozen HGz40 2; clear HGz40 hgz40)); try go_wp2_with (first | (go_at_call 101; (first | (with_reducible refine (impl_reader_take.calls g s0_0 s0_1 s0_2 91 t150 t151 t152 t153 w0 _ ?side1 ?side2 A2.out).mono ?_) | (with_reducible refine (calls_of_args ?_ (impl_reader_take.calls g s0_0 s0_1 s0_2 91 t150 t151 t152 t153 w0 _ ?side1 ?side2 A2.out)).mono ?_; focus (simp [*]; done))); (case side1 => repeat (first | (with_reducible first | exact HI0.out | apply IsS91.alloc | apply IsS91.drewN | apply IsS91.drew | apply IsS91.set_0 | apply IsS91.set_1 | apply IsS91.set_2) | exact HI0.out)); (case side2 => repeat (first | (with_reducible first | exact HB.out | apply below_alloc | apply pw_below_drewN | apply below_drew1 | refine below_set ?_ (IsS91.ge HI0.out)) | exact HB.out)); rintro e w37 ⟨rfl, hi, hb, hk⟩; have n0_ := Aside0.mk (KeepBut.trans (by repeat (first | (with_reducible first | exact HK.out | apply KeepBut.set_ | apply keep_drewN | apply keep_drew | apply keep_alloc) | exact HK.out)) hk (.inl rfl)); have n1_ := Aside0.mk (hb); have n2_ := Aside0.mk (hi); clear HK; clear HB; clear HI0; have HK := n0_; have HB := n1_; have HI0 := n2_; clear n0_ n1_ n2_; (try clear hb); (try clear hb2); (try clear hk); (try clear hi)) | (go_at_call 101; (first | (with_reducible refine (impl_reader_take.calls g t151 t152 t153 73 false t155 t156 t157 w0 _ ?side1 ?side2 A3.out).mono ?_) | (with_reducible refine (calls_of_args ?_ (impl_reader_take.calls g t151 t152 t153 73 false t155 t156 t157 w0 _ ?side1 ?side2 A3.out)).mono ?_; focus (simp [*]; done))); (case side1 => repeat (first | (with_reducible first | exact HI0.out | apply IsS91.alloc | apply IsS91.drewN | apply IsS91.drew | apply IsS91.set_0 | apply IsS91.set_1 | apply IsS91.set_2) | exact HI0.out)); (case side2 => repeat (first | (with_reducible first | exact HB.out | apply below_alloc | apply pw_below_drewN | apply below_drew1 | refine below_set ?_ (IsS91.ge HI0.out)) | exact HB.out)); rintro e w38 ⟨rfl, hi, hb, hk⟩; have n0_ := Aside0.mk (KeepBut.trans (by repeat (first | (with_reducible first | exact HK.out | apply KeepBut.set_ | apply keep_drewN | apply keep_drew | apply keep_alloc) | exact HK.out)) hk (.inl rfl)); have n1_ := Aside0.mk (hb); have n2_ := Aside0.mk (hi); clear HK; clear HB; clear HI0; have HK := n0_; have HB := n1_; have HI0 := n2_; clear n0_ n1_ n2_; (try clear hb); (try clear hb2); (try clear hk); (try clear hi)) | (go_at_call 101; (first | (with_reducible refine (impl_reader_take.calls g t155 t156 t157 76 false t159 t160 t161 w0 _ ?side1 ?side2 A17.out).mono ?_) | (with_reducible refine (calls_of_args ?_ (impl_reader_take.calls g t155 t156 t157 76 false t159 t160 t161 w0 _ ?side1 ?side2 A17.out)).mono ?_; focus (simp [*]; done))); (case side1 => repeat (first | (with_reducible first | exact HI0.out | apply IsS91.alloc | apply IsS91.drewN | apply IsS91.drew | apply IsS91.set_0 | apply IsS91.set_1 | apply IsS91.set_2) | exact HI0.out)); (case side2 => repeat (first | (with_reducible first | exact HB.out | apply below_alloc | apply pw_below_drewN | apply below_drew1 | refine below_set ?_ (IsS91.ge HI0.out)) | exact HB.out)); rintro e w39 ⟨rfl, hi, hb, hk⟩; have n0_ := Aside0.mk (KeepBut.trans (by repeat (first | (with_reducible first | exact HK.out | apply KeepBut.set_ | apply keep_drewN | apply keep_drew | apply keep_alloc) | exact HK.out)) hk (.inl rfl)); have n1_ := Aside0.mk (hb); have n2_ := Aside0.mk (hi); clear HK; clear HB; clear HI0; have HK := n0_; have HB := n1_; have HI0 := n2_; clear n0_ n1_ n2_; (try clear hb); (try clear hb2); (try clear hk); (try clear hi); obtain ⟨HGz40, hgz40⟩ := HI0.out; have hcz40_0 := cellS91_0 HGz40; have hcz40_1 := cellS91_1 HGz40; have hcz40_2 := cellS91_2 HGz40; have hfz40_0 := blk_frozen HGz40 0; have hfz40_1 := blk_frozen HGz40 1; have hfz40_2 := blk_frozen HGz40 2; clear HGz40 hgz40)))
      go_ret
      exact ⟨by first | rfl | (simp [errW_none, errW_some] <;> rfl) | (simp [*, errW_none, errW_some] <;> rfl), by repeat (first | (with_reducible first | exact HI0.out | apply IsS91.alloc | apply IsS91.drewN | apply IsS91.drew | apply IsS91.set_0 | apply IsS91.set_1 | apply IsS91.set_2) | exact HI0.out), by repeat (first | (with_reducible first | exact HB.out | apply below_alloc | apply pw_below_drewN | apply below_drew1 | refine below_set ?_ (IsS91.ge HI0.out)) | exact HB.out), by repeat (first | (with_reducible first | exact HK.out | apply KeepBut.set_ | apply keep_drewN | apply keep_drew | apply keep_alloc) | exact HK.out)⟩

/-! ### impl_typeRight: function 52 -/
def impl_typeRight.f (k : Nat) (a0 : ByteArray) : Option (Bool) := (impl_reader_kind.f k a0 0 false).bind fun bt166 => (if bt166.2.2.2 = true then (some false) else ((impl_length.f a0).bind fun t170 => (some (bt166.2.2.1 == t170))))
theorem impl_typeRight.mono : ∀ a0 k, LeO (impl_typeRight.f k a0) (impl_typeRight.f (k + 1) a0) := by
  intro a0 k
  unfold impl_typeRight.f
  repeat' first
      | (with_reducible exact impl_reader_kind.mono _ _ _ _)
      | (with_reducible exact LeO.refl _)
      | (with_reducible exact LeO.none _)
      | (with_reducible refine LeO.ite ?_ ?_)
      | (with_reducible refine LeO.bind ?_ (fun _ => ?_))
      | exact impl_reader_kind.mono _ _ _ _
      | exact LeO.none _
      | refine LeO.ite ?_ ?_
      | refine LeO.bind ?_ (fun _ => ?_)
set_option maxHeartbeats 8000000 in
set_option maxRecDepth 100000 in
theorem impl_typeRight.calls (k : Nat) (a0 : ByteArray) (r : Bool) (w : World) (h : impl_typeRight.f k a0 = some r) :
    Calls Try.prog 52 #[.string a0] w fun e w' => e = .returned (.bool r) ∧ Below w.heap.size w w' := by
  have hu91 := Try.underlying91
  have HB := Aside0.mk (Below.refl w.heap.size w)
  have H : ((impl_reader_kind.f k a0 0 false).bind fun bt166 => (if bt166.2.2.2 = true then (some false) else ((impl_length.f a0).bind fun t170 => (some (bt166.2.2.1 == t170))))) = some r := h
  clear h
  replace H := Option.bind_eq_some_iff.mp H
  obtain ⟨⟨t166, t167, t168, t169⟩, A20, H⟩ := H
  replace H : (if t169 = true then (some false) else ((impl_length.f a0).bind fun t170 => (some (t168 == t170)))) = some r := H
  have A2 := Aside0.mk A20
  clear A20
  by_cases c3 : t169 = true
  · subst c3
    have H1 : (some false) = some r := by rw [if_pos rfl] at H; exact H
    clear H
    have H := H1
    clear H1
    obtain rfl := Option.some.inj H
    go_enter Try.func52, Try.ntmps52
    go_wp2_with (first | ((with_reducible refine gate_dst (N := 6) rfl ?_); refine box_event ?hg (N := 6) ?hd (cs := #[.string a0, .int .i64 0, .bool false]) (t := 91) ?hr ?_; (case hd => rfl); (case hg => rfl); (case hr => first | (go_simp; done) | (go_simp; rfl)); intro gb165 hg w4 hbox hb; have n0_ := Aside0.mk (below_step (by repeat (first | (with_reducible first | exact HB.out | apply below_alloc | apply pw_below_drewN | apply below_drew1) | exact HB.out)) hb); have n1_ := Aside0.mk ((by rw [hg]; exact (below_size (by repeat (first | (with_reducible first | exact HB.out | apply below_alloc | apply pw_below_drewN | apply below_drew1) | exact HB.out))) : w.heap.size ≤ gb165)); have n2_ := Aside0.mk ((by rw [hg]; exact (below_size (by repeat (first | (with_reducible first | exact HB.out | apply below_alloc | apply pw_below_drewN | apply below_drew1) | exact HB.out))) : w.heap.size ≤ gb165)); have n3_ := Aside0.mk ((show IsS91 w w4 gb165 a0 0 false from ⟨hbox, (by rw [hg]; exact (below_size (by repeat (first | (with_reducible first | exact HB.out | apply below_alloc | apply pw_below_drewN | apply below_drew1) | exact HB.out))) : w.heap.size ≤ gb165)⟩)); clear HB; have HB := n0_; have GW165 := n1_; have GE165 := n2_; have HI165 := n3_; clear n0_ n1_ n2_ n3_; clear hb hbox hg) | (go_at_call 89; (first | (with_reducible refine (impl_reader_kind.calls k gb165 a0 0 false t166 t167 t168 true w _ ?side1 ?side2 A2.out).mono ?_) | (with_reducible refine (calls_of_args ?_ (impl_reader_kind.calls k gb165 a0 0 false t166 t167 t168 true w _ ?side1 ?side2 A2.out)).mono ?_; focus (simp [*]; done))); (case side1 => repeat (first | (with_reducible first | exact HI165.out | apply IsS91.alloc | apply IsS91.drewN | apply IsS91.drew | apply IsS91.set_0 | apply IsS91.set_1 | apply IsS91.set_2) | exact HI165.out)); (case side2 => repeat (first | (with_reducible first | exact HB.out | apply below_alloc | apply pw_below_drewN | apply below_drew1 | refine below_set ?_ (IsS91.ge HI165.out)) | exact HB.out)); rintro e w5 ⟨rfl, hi, hb, hk⟩; have n0_ := Aside0.mk (hb); have n1_ := Aside0.mk (hi); clear HB; clear HI165; have HB := n0_; have HI165 := n1_; clear n0_ n1_; (try clear hb); (try clear hb2); (try clear hk); (try clear hi); obtain ⟨HGz6, hgz6⟩ := HI165.out; have hcz6_0 := cellS91_0 HGz6; have hcz6_1 := cellS91_1 HGz6; have hcz6_2 := cellS91_2 HGz6; have hfz6_0 := blk_frozen HGz6 0; have hfz6_1 := blk_frozen HGz6 1; have hfz6_2 := blk_frozen HGz6 2; clear HGz6 hgz6))
    repeat (go_quiet (first | ((with_reducible refine gate_dst (N := 6) rfl ?_); refine box_event ?hg (N := 6) ?hd (cs := #[.string a0, .int .i64 0, .bool false]) (t := 91) ?hr ?_; (case hd => rfl); (case hg => rfl); (case hr => first | (go_simp; done) | (go_simp; rfl)); intro gb165 hg w4 hbox hb; have n0_ := Aside0.mk (below_step (by repeat (first | (with_reducible first | exact HB.out | apply below_alloc | apply pw_below_drewN | apply below_drew1) | exact HB.out)) hb); have n1_ := Aside0.mk ((by rw [hg]; exact (below_size (by repeat (first | (with_reducible first | exact HB.out | apply below_alloc | apply pw_below_drewN | apply below_drew1) | exact HB.out))) : w.heap.size ≤ gb165)); have n2_ := Aside0.mk ((by rw [hg]; exact (below_size (by repeat (first | (with_reducible first | exact HB.out | apply below_alloc | apply pw_below_drewN | apply below_drew1) | exact HB.out))) : w.heap.size ≤ gb165)); have n3_ := Aside0.mk ((show IsS91 w w4 gb165 a0 0 false from ⟨hbox, (by rw [hg]; exact (below_size (by repeat (first | (with_reducible first | exact HB.out | apply below_alloc | apply pw_below_drewN | apply below_drew1) | exact HB.out))) : w.heap.size ≤ gb165)⟩)); clear HB; have HB := n0_; have GW165 := n1_; have GE165 := n2_; have HI165 := n3_; clear n0_ n1_ n2_ n3_; clear hb hbox hg) | (go_at_call 89; (first | (with_reducible refine (impl_reader_kind.calls k gb165 a0 0 false t166 t167 t168 true w _ ?side1 ?side2 A2.out).mono ?_) | (with_reducible refine (calls_of_args ?_ (impl_reader_kind.calls k gb165 a0 0 false t166 t167 t168 true w _ ?side1 ?side2 A2.out)).mono ?_; focus (simp [*]; done))); (case side1 => repeat (first | (with_reducible first | exact HI165.out | apply IsS91.alloc | apply IsS91.drewN | apply IsS91.drew | apply IsS91.set_0 | apply IsS91.set_1 | apply IsS91.set_2) | exact HI165.out)); (case side2 => repeat (first | (with_reducible first | exact HB.out | apply below_alloc | apply pw_below_drewN | apply below_drew1 | refine below_set ?_ (IsS91.ge HI165.out)) | exact HB.out)); rintro e w5 ⟨rfl, hi, hb, hk⟩; have n0_ := Aside0.mk (hb); have n1_ := Aside0.mk (hi); clear HB; clear HI165; have HB := n0_; have HI165 := n1_; clear n0_ n1_; (try clear hb); (try clear hb2); (try clear hk); (try clear hi); obtain ⟨HGz6, hgz6⟩ := HI165.out; have hcz6_0 := cellS91_0 HGz6; have hcz6_1 := cellS91_1 HGz6; have hcz6_2 := cellS91_2 HGz6; have hfz6_0 := blk_frozen HGz6 0; have hfz6_1 := blk_frozen HGz6 1; have hfz6_2 := blk_frozen HGz6 2; clear HGz6 hgz6)); try go_wp2_with (first | ((with_reducible refine gate_dst (N := 6) rfl ?_); refine box_event ?hg (N := 6) ?hd (cs := #[.string a0, .int .i64 0, .bool false]) (t := 91) ?hr ?_; (case hd => rfl); (case hg => rfl); (case hr => first | (go_simp; done) | (go_simp; rfl)); intro gb165 hg w4 hbox hb; have n0_ := Aside0.mk (below_step (by repeat (first | (with_reducible first | exact HB.out | apply below_alloc | apply pw_below_drewN | apply below_drew1) | exact HB.out)) hb); have n1_ := Aside0.mk ((by rw [hg]; exact (below_size (by repeat (first | (with_reducible first | exact HB.out | apply below_alloc | apply pw_below_drewN | apply below_drew1) | exact HB.out))) : w.heap.size ≤ gb165)); have n2_ := Aside0.mk ((by rw [hg]; exact (below_size (by repeat (first | (with_reducible first | exact HB.out | apply below_alloc | apply pw_below_drewN | apply below_drew1) | exact HB.out))) : w.heap.size ≤ gb165)); have n3_ := Aside0.mk ((show IsS91 w w4 gb165 a0 0 false from ⟨hbox, (by rw [hg]; exact (below_size (by repeat (first | (with_reducible first | exact HB.out | apply below_alloc | apply pw_below_drewN | apply below_drew1) | exact HB.out))) : w.heap.size ≤ gb165)⟩)); clear HB; have HB := n0_; have GW165 := n1_; have GE165 := n2_; have HI165 := n3_; clear n0_ n1_ n2_ n3_; clear hb hbox hg) | (go_at_call 89; (first | (with_reducible refine (impl_reader_kind.calls k gb165 a0 0 false t166 t167 t168 true w _ ?side1 ?side2 A2.out).mono ?_) | (with_reducible refine (calls_of_args ?_ (impl_reader_kind.calls k gb165 a0 0 false t166 t167 t168 true w _ ?side1 ?side2 A2.out)).mono ?_; focus (simp [*]; done))); (case side1 => repeat (first | (with_reducible first | exact HI165.out | apply IsS91.alloc | apply IsS91.drewN | apply IsS91.drew | apply IsS91.set_0 | apply IsS91.set_1 | apply IsS91.set_2) | exact HI165.out)); (case side2 => repeat (first | (with_reducible first | exact HB.out | apply below_alloc | apply pw_below_drewN | apply below_drew1 | refine below_set ?_ (IsS91.ge HI165.out)) | exact HB.out)); rintro e w5 ⟨rfl, hi, hb, hk⟩; have n0_ := Aside0.mk (hb); have n1_ := Aside0.mk (hi); clear HB; clear HI165; have HB := n0_; have HI165 := n1_; clear n0_ n1_; (try clear hb); (try clear hb2); (try clear hk); (try clear hi); obtain ⟨HGz6, hgz6⟩ := HI165.out; have hcz6_0 := cellS91_0 HGz6; have hcz6_1 := cellS91_1 HGz6; have hcz6_2 := cellS91_2 HGz6; have hfz6_0 := blk_frozen HGz6 0; have hfz6_1 := blk_frozen HGz6 1; have hfz6_2 := blk_frozen HGz6 2; clear HGz6 hgz6)))
    go_ret
    exact ⟨by first | rfl | (simp [errW_none, errW_some] <;> rfl) | (simp [*, errW_none, errW_some] <;> rfl), by repeat (first | (with_reducible first | exact HB.out | apply below_alloc | apply pw_below_drewN | apply below_drew1 | refine below_set ?_ (IsS91.ge HI165.out)) | exact HB.out)⟩
  · replace c3 := Bool.eq_false_iff.mpr c3
    subst c3
    have H1 : ((impl_length.f a0).bind fun t170 => (some (t168 == t170))) = some r := by rw [if_neg (show ¬ (false = true) by decide)] at H; exact H
    clear H
    have H := H1
    clear H1
    replace H := Option.bind_eq_some_iff.mp H
    obtain ⟨t170, A70, H⟩ := H
    replace H : (some (t168 == t170)) = some r := H
    have A7 := Aside0.mk A70
    clear A70
    obtain rfl := Option.some.inj H
    go_enter Try.func52, Try.ntmps52
    go_wp2_with (first | ((with_reducible refine gate_dst (N := 6) rfl ?_); refine box_event ?hg (N := 6) ?hd (cs := #[.string a0, .int .i64 0, .bool false]) (t := 91) ?hr ?_; (case hd => rfl); (case hg => rfl); (case hr => first | (go_simp; done) | (go_simp; rfl)); intro gb165 hg w8 hbox hb; have n0_ := Aside0.mk (below_step (by repeat (first | (with_reducible first | exact HB.out | apply below_alloc | apply pw_below_drewN | apply below_drew1) | exact HB.out)) hb); have n1_ := Aside0.mk ((by rw [hg]; exact (below_size (by repeat (first | (with_reducible first | exact HB.out | apply below_alloc | apply pw_below_drewN | apply below_drew1) | exact HB.out))) : w.heap.size ≤ gb165)); have n2_ := Aside0.mk ((by rw [hg]; exact (below_size (by repeat (first | (with_reducible first | exact HB.out | apply below_alloc | apply pw_below_drewN | apply below_drew1) | exact HB.out))) : w.heap.size ≤ gb165)); have n3_ := Aside0.mk ((show IsS91 w w8 gb165 a0 0 false from ⟨hbox, (by rw [hg]; exact (below_size (by repeat (first | (with_reducible first | exact HB.out | apply below_alloc | apply pw_below_drewN | apply below_drew1) | exact HB.out))) : w.heap.size ≤ gb165)⟩)); clear HB; have HB := n0_; have GW165 := n1_; have GE165 := n2_; have HI165 := n3_; clear n0_ n1_ n2_ n3_; clear hb hbox hg) | (go_at_call 89; (first | (with_reducible refine (impl_reader_kind.calls k gb165 a0 0 false t166 t167 t168 false w _ ?side1 ?side2 A2.out).mono ?_) | (with_reducible refine (calls_of_args ?_ (impl_reader_kind.calls k gb165 a0 0 false t166 t167 t168 false w _ ?side1 ?side2 A2.out)).mono ?_; focus (simp [*]; done))); (case side1 => repeat (first | (with_reducible first | exact HI165.out | apply IsS91.alloc | apply IsS91.drewN | apply IsS91.drew | apply IsS91.set_0 | apply IsS91.set_1 | apply IsS91.set_2) | exact HI165.out)); (case side2 => repeat (first | (with_reducible first | exact HB.out | apply below_alloc | apply pw_below_drewN | apply below_drew1 | refine below_set ?_ (IsS91.ge HI165.out)) | exact HB.out)); rintro e w9 ⟨rfl, hi, hb, hk⟩; have n0_ := Aside0.mk (hb); have n1_ := Aside0.mk (hi); clear HB; clear HI165; have HB := n0_; have HI165 := n1_; clear n0_ n1_; (try clear hb); (try clear hb2); (try clear hk); (try clear hi); obtain ⟨HGz10, hgz10⟩ := HI165.out; have hcz10_0 := cellS91_0 HGz10; have hcz10_1 := cellS91_1 HGz10; have hcz10_2 := cellS91_2 HGz10; have hfz10_0 := blk_frozen HGz10 0; have hfz10_1 := blk_frozen HGz10 1; have hfz10_2 := blk_frozen HGz10 2; clear HGz10 hgz10) | (go_at_call 90; (first | (with_reducible refine (impl_length.calls a0 t170 _ A7.out).mono ?_) | (with_reducible refine (calls_of_args ?_ (impl_length.calls a0 t170 _ A7.out)).mono ?_; focus (simp [*]; done))); rintro e w' ⟨rfl, ⟨nd, rfl⟩⟩; (try first | exact ⟨rfl, _, World.drewN_drewN _ _ _⟩ | exact ⟨rfl, _, Eq.trans (World.drewN_drewN _ _ _) (congrArg (World.drewN _) (Nat.add_assoc _ _ _))⟩)))
    repeat (go_quiet (first | ((with_reducible refine gate_dst (N := 6) rfl ?_); refine box_event ?hg (N := 6) ?hd (cs := #[.string a0, .int .i64 0, .bool false]) (t := 91) ?hr ?_; (case hd => rfl); (case hg => rfl); (case hr => first | (go_simp; done) | (go_simp; rfl)); intro gb165 hg w8 hbox hb; have n0_ := Aside0.mk (below_step (by repeat (first | (with_reducible first | exact HB.out | apply below_alloc | apply pw_below_drewN | apply below_drew1) | exact HB.out)) hb); have n1_ := Aside0.mk ((by rw [hg]; exact (below_size (by repeat (first | (with_reducible first | exact HB.out | apply below_alloc | apply pw_below_drewN | apply below_drew1) | exact HB.out))) : w.heap.size ≤ gb165)); have n2_ := Aside0.mk ((by rw [hg]; exact (below_size (by repeat (first | (with_reducible first | exact HB.out | apply below_alloc | apply pw_below_drewN | apply below_drew1) | exact HB.out))) : w.heap.size ≤ gb165)); have n3_ := Aside0.mk ((show IsS91 w w8 gb165 a0 0 false from ⟨hbox, (by rw [hg]; exact (below_size (by repeat (first | (with_reducible first | exact HB.out | apply below_alloc | apply pw_below_drewN | apply below_drew1) | exact HB.out))) : w.heap.size ≤ gb165)⟩)); clear HB; have HB := n0_; have GW165 := n1_; have GE165 := n2_; have HI165 := n3_; clear n0_ n1_ n2_ n3_; clear hb hbox hg) | (go_at_call 89; (first | (with_reducible refine (impl_reader_kind.calls k gb165 a0 0 false t166 t167 t168 false w _ ?side1 ?side2 A2.out).mono ?_) | (with_reducible refine (calls_of_args ?_ (impl_reader_kind.calls k gb165 a0 0 false t166 t167 t168 false w _ ?side1 ?side2 A2.out)).mono ?_; focus (simp [*]; done))); (case side1 => repeat (first | (with_reducible first | exact HI165.out | apply IsS91.alloc | apply IsS91.drewN | apply IsS91.drew | apply IsS91.set_0 | apply IsS91.set_1 | apply IsS91.set_2) | exact HI165.out)); (case side2 => repeat (first | (with_reducible first | exact HB.out | apply below_alloc | apply pw_below_drewN | apply below_drew1 | refine below_set ?_ (IsS91.ge HI165.out)) | exact HB.out)); rintro e w9 ⟨rfl, hi, hb, hk⟩; have n0_ := Aside0.mk (hb); have n1_ := Aside0.mk (hi); clear HB; clear HI165; have HB := n0_; have HI165 := n1_; clear n0_ n1_; (try clear hb); (try clear hb2); (try clear hk); (try clear hi); obtain ⟨HGz10, hgz10⟩ := HI165.out; have hcz10_0 := cellS91_0 HGz10; have hcz10_1 := cellS91_1 HGz10; have hcz10_2 := cellS91_2 HGz10; have hfz10_0 := blk_frozen HGz10 0; have hfz10_1 := blk_frozen HGz10 1; have hfz10_2 := blk_frozen HGz10 2; clear HGz10 hgz10) | (go_at_call 90; (first | (with_reducible refine (impl_length.calls a0 t170 _ A7.out).mono ?_) | (with_reducible refine (calls_of_args ?_ (impl_length.calls a0 t170 _ A7.out)).mono ?_; focus (simp [*]; done))); rintro e w' ⟨rfl, ⟨nd, rfl⟩⟩; (try first | exact ⟨rfl, _, World.drewN_drewN _ _ _⟩ | exact ⟨rfl, _, Eq.trans (World.drewN_drewN _ _ _) (congrArg (World.drewN _) (Nat.add_assoc _ _ _))⟩))); try go_wp2_with (first | ((with_reducible refine gate_dst (N := 6) rfl ?_); refine box_event ?hg (N := 6) ?hd (cs := #[.string a0, .int .i64 0, .bool false]) (t := 91) ?hr ?_; (case hd => rfl); (case hg => rfl); (case hr => first | (go_simp; done) | (go_simp; rfl)); intro gb165 hg w8 hbox hb; have n0_ := Aside0.mk (below_step (by repeat (first | (with_reducible first | exact HB.out | apply below_alloc | apply pw_below_drewN | apply below_drew1) | exact HB.out)) hb); have n1_ := Aside0.mk ((by rw [hg]; exact (below_size (by repeat (first | (with_reducible first | exact HB.out | apply below_alloc | apply pw_below_drewN | apply below_drew1) | exact HB.out))) : w.heap.size ≤ gb165)); have n2_ := Aside0.mk ((by rw [hg]; exact (below_size (by repeat (first | (with_reducible first | exact HB.out | apply below_alloc | apply pw_below_drewN | apply below_drew1) | exact HB.out))) : w.heap.size ≤ gb165)); have n3_ := Aside0.mk ((show IsS91 w w8 gb165 a0 0 false from ⟨hbox, (by rw [hg]; exact (below_size (by repeat (first | (with_reducible first | exact HB.out | apply below_alloc | apply pw_below_drewN | apply below_drew1) | exact HB.out))) : w.heap.size ≤ gb165)⟩)); clear HB; have HB := n0_; have GW165 := n1_; have GE165 := n2_; have HI165 := n3_; clear n0_ n1_ n2_ n3_; clear hb hbox hg) | (go_at_call 89; (first | (with_reducible refine (impl_reader_kind.calls k gb165 a0 0 false t166 t167 t168 false w _ ?side1 ?side2 A2.out).mono ?_) | (with_reducible refine (calls_of_args ?_ (impl_reader_kind.calls k gb165 a0 0 false t166 t167 t168 false w _ ?side1 ?side2 A2.out)).mono ?_; focus (simp [*]; done))); (case side1 => repeat (first | (with_reducible first | exact HI165.out | apply IsS91.alloc | apply IsS91.drewN | apply IsS91.drew | apply IsS91.set_0 | apply IsS91.set_1 | apply IsS91.set_2) | exact HI165.out)); (case side2 => repeat (first | (with_reducible first | exact HB.out | apply below_alloc | apply pw_below_drewN | apply below_drew1 | refine below_set ?_ (IsS91.ge HI165.out)) | exact HB.out)); rintro e w9 ⟨rfl, hi, hb, hk⟩; have n0_ := Aside0.mk (hb); have n1_ := Aside0.mk (hi); clear HB; clear HI165; have HB := n0_; have HI165 := n1_; clear n0_ n1_; (try clear hb); (try clear hb2); (try clear hk); (try clear hi); obtain ⟨HGz10, hgz10⟩ := HI165.out; have hcz10_0 := cellS91_0 HGz10; have hcz10_1 := cellS91_1 HGz10; have hcz10_2 := cellS91_2 HGz10; have hfz10_0 := blk_frozen HGz10 0; have hfz10_1 := blk_frozen HGz10 1; have hfz10_2 := blk_frozen HGz10 2; clear HGz10 hgz10) | (go_at_call 90; (first | (with_reducible refine (impl_length.calls a0 t170 _ A7.out).mono ?_) | (with_reducible refine (calls_of_args ?_ (impl_length.calls a0 t170 _ A7.out)).mono ?_; focus (simp [*]; done))); rintro e w' ⟨rfl, ⟨nd, rfl⟩⟩; (try first | exact ⟨rfl, _, World.drewN_drewN _ _ _⟩ | exact ⟨rfl, _, Eq.trans (World.drewN_drewN _ _ _) (congrArg (World.drewN _) (Nat.add_assoc _ _ _))⟩))))
    go_ret
    exact ⟨by first | rfl | (simp [errW_none, errW_some] <;> rfl) | (simp [*, errW_none, errW_some] <;> rfl), by repeat (first | (with_reducible first | exact HB.out | apply below_alloc | apply pw_below_drewN | apply below_drew1 | refine below_set ?_ (IsS91.ge HI165.out)) | exact HB.out)⟩

/-! ### impl_typeClass: function 53 -/
def impl_typeClass.j0 : Nat → ByteArray → Bool → Option (ByteArray)
  | 0, _, _ => none
  | k + 1, x0, x3 => if x3 = true then (some (⟨#[]⟩ : ByteArray)) else (if 0 < (x0.size : Int) then (if (bt x0 0) = 91 then (if 2 ≤ (wrap64 ((x0.size : Int) - 1)) then (if (wrap64 ((x0.size : Int) - 1)) ≤ (x0.size : Int) then (some (x0.extract 2 ((wrap64 ((x0.size : Int) - 1)) : Int).toNat)) else (none)) else (none)) else (if 1 ≤ (wrap64 ((x0.size : Int) - 1)) then (if (wrap64 ((x0.size : Int) - 1)) ≤ (x0.size : Int) then (some (x0.extract 1 ((wrap64 ((x0.size : Int) - 1)) : Int).toNat)) else (none)) else (none))) else (none))
def impl_typeClass.f (k : Nat) (a0 : ByteArray) : Option (ByteArray) := if a0.toList = ([73] : List UInt8) then (impl_typeClass.j0 k a0 true) else (if a0.toList = ([91, 73] : List UInt8) then (impl_typeClass.j0 k a0 true) else ((impl_typeRight.f k a0).bind fun t171 => (impl_typeClass.j0 k a0 (!t171))))
theorem impl_typeClass.mono_l : ∀ k, (∀ y0 y1, LeO (impl_typeClass.j0 k y0 y1) (impl_typeClass.j0 (k + 1) y0 y1))
  | 0 => fun _ _ r h => by simp [impl_typeClass.j0] at h
  | k + 1 => by
    have ih0 := impl_typeClass.mono_l k
    · intro y0 y1
      unfold impl_typeClass.j0
      repeat' first
      | (with_reducible exact ih0 _ _)
      | (with_reducible exact impl_typeRight.mono _ _)
      | (with_reducible exact LeO.refl _)
      | (with_reducible exact LeO.none _)
      | (with_reducible refine LeO.ite ?_ ?_)
      | (with_reducible refine LeO.bind ?_ (fun _ => ?_))
      | exact ih0 _ _
      | exact impl_typeRight.mono _ _
      | exact LeO.none _
      | refine LeO.ite ?_ ?_
      | refine LeO.bind ?_ (fun _ => ?_)
theorem impl_typeClass.mono : ∀ a0 k, LeO (impl_typeClass.f k a0) (impl_typeClass.f (k + 1) a0) := by
  intro a0 k
  have ih0 := impl_typeClass.mono_l k
  unfold impl_typeClass.f
  repeat' first
      | (with_reducible exact ih0 _ _)
      | (with_reducible exact impl_typeRight.mono _ _)
      | (with_reducible exact LeO.refl _)
      | (with_reducible exact LeO.none _)
      | (with_reducible refine LeO.ite ?_ ?_)
      | (with_reducible refine LeO.bind ?_ (fun _ => ?_))
      | exact ih0 _ _
      | exact impl_typeRight.mono _ _
      | exact LeO.none _
      | refine LeO.ite ?_ ?_
      | refine LeO.bind ?_ (fun _ => ?_)
set_option maxHeartbeats 8000000 in
set_option maxRecDepth 100000 in
theorem impl_typeClass.calls (k : Nat) (a0 : ByteArray) (r : ByteArray) (w : World) (h : impl_typeClass.f k a0 = some r) :
    Calls Try.prog 53 #[.string a0] w fun e w' => e = .returned (.string r) ∧ Below w.heap.size w w' := by
  have HB := Aside0.mk (Below.refl w.heap.size w)
  have H : (if a0.toList = ([73] : List UInt8) then (impl_typeClass.j0 k a0 true) else (if a0.toList = ([91, 73] : List UInt8) then (impl_typeClass.j0 k a0 true) else ((impl_typeRight.f k a0).bind fun t171 => (impl_typeClass.j0 k a0 (!t171))))) = some r := h
  clear h
  have HC2 := Aside0.mk H
  clear H
  go_enter Try.func53, Try.ntmps53
  go_upto_region 1 with (fail)
  go_cut [3] (fun v3 wc => ∃ (kq : Nat) (x3_1 : Bool), v3 = .bool x3_1 ∧ Aside0 (impl_typeClass.j0 kq a0 x3_1 = some r) ∧ Aside0 (kq ≤ k) ∧ Aside0 (Below w.heap.size w wc))
  case first =>
    have H := HC2.out
    clear HC2
    by_cases c3 : a0.toList = ([73] : List UInt8)
    · rw [if_pos c3] at H
      have c3b0 : (a0.toList == ([73] : List UInt8)) = true := beq_iff_eq.mpr c3
      have c3b1 : (a0.toList != ([73] : List UInt8)) = false := bne_eq_false_iff_eq.mpr c3
      clear c3
      (first | rw [c3b0] | (simp only [i64_w, i32_w]; rw [c3b0]) | skip)
      have H' := Aside0.mk H
      clear H
      go_wp2
      go_meet
      case rel => exact ⟨_, (true), (by first | rfl | (simp; done) | (simp [*]; done)), H', ⟨by first | omega | exact Nat.le_refl _⟩, ⟨by repeat (first | (with_reducible first | exact HB.out | apply below_alloc | apply pw_below_drewN | apply below_drew1) | exact HB.out)⟩⟩
    · rw [if_neg c3] at H
      have c3b0 : (a0.toList == ([73] : List UInt8)) = false := beq_eq_false_iff_ne.mpr c3
      have c3b1 : (a0.toList != ([73] : List UInt8)) = true := bne_iff_ne.mpr c3
      (first | rw [c3b0] | (simp only [i64_w, i32_w]; rw [c3b0]) | skip)
      by_cases c4 : a0.toList = ([91, 73] : List UInt8)
      · rw [if_pos c4] at H
        have c4b0 : (a0.toList == ([91, 73] : List UInt8)) = true := beq_iff_eq.mpr c4
        have c4b1 : (a0.toList != ([91, 73] : List UInt8)) = false := bne_eq_false_iff_eq.mpr c4
        clear c4
        have H' := Aside0.mk H
        clear H
        go_wp2
        go_meet
        case rel => exact ⟨_, (true), (by first | rfl | (simp; done) | (simp [*]; done)), H', ⟨by first | omega | exact Nat.le_refl _⟩, ⟨by repeat (first | (with_reducible first | exact HB.out | apply below_alloc | apply pw_below_drewN | apply below_drew1) | exact HB.out)⟩⟩
      · rw [if_neg c4] at H
        have c4b0 : (a0.toList == ([91, 73] : List UInt8)) = false := beq_eq_false_iff_ne.mpr c4
        have c4b1 : (a0.toList != ([91, 73] : List UInt8)) = true := bne_iff_ne.mpr c4
        replace H := Option.bind_eq_some_iff.mp H
        obtain ⟨t171, A50, H⟩ := H
        replace H : (impl_typeClass.j0 k a0 (!t171)) = some r := H
        have A5 := Aside0.mk A50
        clear A50
        have H' := Aside0.mk H
        clear H
        go_wp2_with (first | (go_at_call 52; (first | (with_reducible refine (impl_typeRight.calls k a0 t171 _ A5.out).mono ?_) | (with_reducible refine (calls_of_args ?_ (impl_typeRight.calls k a0 t171 _ A5.out)).mono ?_; focus (simp [*]; done))); rintro e w6 ⟨rfl, hb⟩; have n0_ := Aside0.mk (below_step (by repeat (first | (with_reducible first | exact HB.out | apply below_alloc | apply pw_below_drewN | apply below_drew1) | exact HB.out)) hb); clear HB; have HB := n0_; clear n0_; (try clear hb); (try clear hb2); (try clear hk); (try clear hi)))
        go_meet
        case rel => exact ⟨_, (!t171), (by first | rfl | (simp; done) | (simp [*]; done)), H', ⟨by first | omega | exact Nat.le_refl _⟩, ⟨by repeat (first | (with_reducible first | exact HB.out | apply below_alloc | apply pw_below_drewN | apply below_drew1) | exact HB.out)⟩⟩
  case rest =>
    clear HC2
    try clear p2
    try clear c3
    try clear c3b0
    try clear c3b1
    try clear c4
    try clear c4b0
    try clear c4b1
    try clear c5
    obtain ⟨kq, x3_1, rfl, HA, HJ1, HB⟩ := hcut
    cases kq with
    | zero => exact absurd HA.out (by simp [impl_typeClass.j0])
    | succ kj1 =>
      have H := HA.out
      clear HA
      simp only [impl_typeClass.j0] at H
      by_cases c7 : x3_1 = true
      · subst c7
        have H1 : (some (⟨#[]⟩ : ByteArray)) = some r := by rw [if_pos rfl] at H; exact H
        clear H
        have H := H1
        clear H1
        obtain rfl := Option.some.inj H
        go_wp2
        go_ret
        exact ⟨by first | rfl | (simp [errW_none, errW_some] <;> rfl) | (simp [*, errW_none, errW_some] <;> rfl), by repeat (first | (with_reducible first | exact HB.out | apply below_alloc | apply pw_below_drewN | apply below_drew1) | exact HB.out)⟩
      · replace c7 := Bool.eq_false_iff.mpr c7
        subst c7
        have H1 : (if 0 < (a0.size : Int) then (if (bt a0 0) = 91 then (if 2 ≤ (wrap64 ((a0.size : Int) - 1)) then (if (wrap64 ((a0.size : Int) - 1)) ≤ (a0.size : Int) then (some (a0.extract 2 ((wrap64 ((a0.size : Int) - 1)) : Int).toNat)) else (none)) else (none)) else (if 1 ≤ (wrap64 ((a0.size : Int) - 1)) then (if (wrap64 ((a0.size : Int) - 1)) ≤ (a0.size : Int) then (some (a0.extract 1 ((wrap64 ((a0.size : Int) - 1)) : Int).toNat)) else (none)) else (none))) else (none)) = some r := by rw [if_neg (show ¬ (false = true) by decide)] at H; exact H
        clear H
        have H := H1
        clear H1
        by_cases c8 : 0 < (a0.size : Int)
        · rw [if_pos c8] at H
          have c8b0 : decide (0 < (a0.size : Int)) = true := decide_eq_true c8
          have c8b1 : decide (0 < a0.size) = true := decide_eq_true (by omega)
          clear c8
          by_cases c10 : (bt a0 0) = 91
          · rw [if_pos c10] at H
            have c10b0 : ((bt a0 0) == 91) = true := beq_iff_eq.mpr c10
            have c10b1 : ((bt a0 0) != 91) = false := bne_eq_false_iff_eq.mpr c10
            clear c10
            by_cases c11 : 2 ≤ (wrap64 ((a0.size : Int) - 1))
            · rw [if_pos c11] at H
              have c11b0 := eq_true c11
              have c11b1 : decide (2 ≤ (wrap64 ((a0.size : Int) - 1))) = true := decide_eq_true c11
              clear c11
              by_cases c12 : (wrap64 ((a0.size : Int) - 1)) ≤ (a0.size : Int)
              · rw [if_pos c12] at H
                have c12b0 := eq_true c12
                have c12b1 : decide ((wrap64 ((a0.size : Int) - 1)) ≤ (a0.size : Int)) = true := decide_eq_true c12
                clear c12
                obtain rfl := Option.some.inj H
                have p9 : 0 ≤ (0 : Int) := (by omega)
                have q9 : 0 < a0.size := (by have : (0 : Int) < (a0.size : Int) := of_decide_eq_true (by first | (with_reducible assumption) | assumption); omega)
                have hx9 : ∀ h : 0 < a0.size, ((a0[0]'h).toNat : Int) = bt a0 0 := bt_at a0 0
                clear p9
                have qi9 : (0 < (a0.size : Int)) = True := eq_true (of_decide_eq_true (by first | (with_reducible assumption) | assumption))
                replace q9 := eq_true q9
                go_wp2
                go_ret
                exact ⟨by first | rfl | (simp [errW_none, errW_some] <;> rfl) | (simp [*, errW_none, errW_some] <;> rfl), by repeat (first | (with_reducible first | exact HB.out | apply below_alloc | apply pw_below_drewN | apply below_drew1) | exact HB.out)⟩
              · rw [if_neg c12] at H
                exact absurd H (by simp)
            · rw [if_neg c11] at H
              exact absurd H (by simp)
          · rw [if_neg c10] at H
            have c10b0 : ((bt a0 0) == 91) = false := beq_eq_false_iff_ne.mpr c10
            have c10b1 : ((bt a0 0) != 91) = true := bne_iff_ne.mpr c10
            by_cases c13 : 1 ≤ (wrap64 ((a0.size : Int) - 1))
            · rw [if_pos c13] at H
              have c13b0 := eq_true c13
              have c13b1 : decide (1 ≤ (wrap64 ((a0.size : Int) - 1))) = true := decide_eq_true c13
              clear c13
              by_cases c14 : (wrap64 ((a0.size : Int) - 1)) ≤ (a0.size : Int)
              · rw [if_pos c14] at H
                have c14b0 := eq_true c14
                have c14b1 : decide ((wrap64 ((a0.size : Int) - 1)) ≤ (a0.size : Int)) = true := decide_eq_true c14
                clear c14
                obtain rfl := Option.some.inj H
                have p9 : 0 ≤ (0 : Int) := (by omega)
                have q9 : 0 < a0.size := (by have : (0 : Int) < (a0.size : Int) := of_decide_eq_true (by first | (with_reducible assumption) | assumption); omega)
                have hx9 : ∀ h : 0 < a0.size, ((a0[0]'h).toNat : Int) = bt a0 0 := bt_at a0 0
                clear p9
                have qi9 : (0 < (a0.size : Int)) = True := eq_true (of_decide_eq_true (by first | (with_reducible assumption) | assumption))
                replace q9 := eq_true q9
                go_wp2
                go_ret
                exact ⟨by first | rfl | (simp [errW_none, errW_some] <;> rfl) | (simp [*, errW_none, errW_some] <;> rfl), by repeat (first | (with_reducible first | exact HB.out | apply below_alloc | apply pw_below_drewN | apply below_drew1) | exact HB.out)⟩
              · rw [if_neg c14] at H
                exact absurd H (by simp)
            · rw [if_neg c13] at H
              exact absurd H (by simp)
        · rw [if_neg c8] at H
          exact absurd H (by simp)

/-! ### impl_plain: function 96 -/
def impl_plain.f (a0 : Int) : Option (Int × ByteArray × Int) := some (a0, (⟨#[]⟩ : ByteArray), 0)
set_option maxHeartbeats 8000000 in
set_option maxRecDepth 100000 in
theorem impl_plain.calls (a0 : Int) (r1 : Int) (r2 : ByteArray) (r3 : Int) (w : World) (h : impl_plain.f a0 = some (r1, r2, r3)) :
    Calls Try.prog 96 #[.int .i64 a0] w fun e w' => e = .returned (.agg #[.int .i64 r1, .string r2, .int .i64 r3]) ∧ Below w.heap.size w w' := by
  have hu42 := Try.underlying42
  have HB := Aside0.mk (Below.refl w.heap.size w)
  have H : (some (a0, (⟨#[]⟩ : ByteArray), 0)) = some (r1, r2, r3) := h
  clear h
  simp only [Option.some.injEq, Prod.mk.injEq] at H
  obtain ⟨rfl, rfl, rfl⟩ := H
  go_enter Try.func96, Try.ntmps96
  go_wp2_with (first | ((with_reducible refine gate_dst (N := 2) rfl ?_); refine box_event ?hg (N := 2) ?hd (cs := #[.int .i64 0, .string (⟨#[]⟩ : ByteArray), .int .i64 0]) (t := 42) ?hr ?_; (case hd => rfl); (case hg => rfl); (case hr => first | (go_simp; done) | (go_simp; rfl)); intro gb172 hg w2 hbox hb; have n0_ := Aside0.mk (below_step (by repeat (first | (with_reducible first | exact HB.out | apply below_alloc | apply pw_below_drewN | apply below_drew1) | exact HB.out)) hb); have n1_ := Aside0.mk (hbox); have n2_ := Aside0.mk ((by rw [hg]; exact (below_size (by repeat (first | (with_reducible first | exact HB.out | apply below_alloc | apply pw_below_drewN | apply below_drew1) | exact HB.out))) : w.heap.size ≤ gb172)); have n3_ := Aside0.mk ((by rw [hg]; exact (below_size (by repeat (first | (with_reducible first | exact HB.out | apply below_alloc | apply pw_below_drewN | apply below_drew1) | exact HB.out))) : w.heap.size ≤ gb172)); clear HB; have HB := n0_; have BK172 := n1_; have GW172 := n2_; have GE172 := n3_; clear n0_ n1_ n2_ n3_; clear hb hbox hg; have hcz3_0 : w2.cell? ⟨gb172, 0, none⟩ = some (.int .i64 0) := (blk_cell BK172.out 0).trans rfl; have hcz3_1 : w2.cell? ⟨gb172, 1, none⟩ = some (.string (⟨#[]⟩ : ByteArray)) := (blk_cell BK172.out 1).trans rfl; have hcz3_2 : w2.cell? ⟨gb172, 2, none⟩ = some (.int .i64 0) := (blk_cell BK172.out 2).trans rfl; have hfz3_0 := blk_frozen BK172.out 0; have hfz3_1 := blk_frozen BK172.out 1; have hfz3_2 := blk_frozen BK172.out 2))
  refine bodyPost_ret (results_cell_row rfl _ _ gb172 42 #[.int .i64 a0, .string (⟨#[]⟩ : ByteArray), .int .i64 0] (0, 0) _ rfl (by (with_reducible repeat (first | refine blk_drewN ?_ _ | refine blk_drew ?_ | refine blk_alloc ?_ _)); refine blk_put (cs := #[.int .i64 a0, .string (⟨#[]⟩ : ByteArray), .int .i64 0]) ?_ 2 _ rfl; (with_reducible repeat (first | refine blk_drewN ?_ _ | refine blk_drew ?_ | refine blk_alloc ?_ _)); refine blk_put (cs := #[.int .i64 a0, .string (⟨#[]⟩ : ByteArray), .int .i64 0]) ?_ 1 _ rfl; (with_reducible repeat (first | refine blk_drewN ?_ _ | refine blk_drew ?_ | refine blk_alloc ?_ _)); refine blk_put (cs := #[.int .i64 0, .string (⟨#[]⟩ : ByteArray), .int .i64 0]) ?_ 0 _ rfl; (with_reducible repeat (first | refine blk_drewN ?_ _ | refine blk_drew ?_ | refine blk_alloc ?_ _)); exact BK172.out) Try.underlying42 rfl (by kernel_rfl)) rfl ?_
  exact ⟨by first | rfl | (simp [errW_none, errW_some] <;> rfl) | (simp [*, errW_none, errW_some] <;> rfl), by repeat (first | (with_reducible first | exact HB.out | apply below_alloc | apply pw_below_drewN | apply below_drew1 | refine below_set ?_ GE172.out) | exact HB.out)⟩

/-! ### stringslite_HasPrefix: function 108 -/
def stringslite_HasPrefix.f (a0 : ByteArray) (a1 : ByteArray) : Option (Bool) := if (a0.size : Int) ≥ (a1.size : Int) then (if 0 ≤ (a1.size : Int) then (if (a1.size : Int) ≤ (a0.size : Int) then (some ((a0.extract 0 ((a1.size : Int) : Int).toNat).toList == a1.toList)) else (none)) else (none)) else (some false)
set_option maxHeartbeats 8000000 in
set_option maxRecDepth 100000 in
theorem stringslite_HasPrefix.calls (a0 : ByteArray) (a1 : ByteArray) (r : Bool) (w : World) (h : stringslite_HasPrefix.f a0 a1 = some r) :
    Calls Try.prog 108 #[.string a0, .string a1] w fun e w' => e = .returned (.bool r) ∧ Drawn0 w w' := by
  have H : (if (a0.size : Int) ≥ (a1.size : Int) then (if 0 ≤ (a1.size : Int) then (if (a1.size : Int) ≤ (a0.size : Int) then (some ((a0.extract 0 ((a1.size : Int) : Int).toNat).toList == a1.toList)) else (none)) else (none)) else (some false)) = some r := h
  clear h
  by_cases c3 : (a0.size : Int) ≥ (a1.size : Int)
  · rw [if_pos c3] at H
    have c3b0 : decide ((a1.size : Int) ≤ (a0.size : Int)) = true := decide_eq_true c3
    have c3b1 : decide (a1.size ≤ a0.size) = true := decide_eq_true (Int.ofNat_le.mp c3)
    clear c3
    by_cases c4 : 0 ≤ (a1.size : Int)
    · rw [if_pos c4] at H
      have c4b0 := eq_true c4
      have c4b1 : decide (0 ≤ (a1.size : Int)) = true := decide_eq_true c4
      clear c4
      by_cases c5 : (a1.size : Int) ≤ (a0.size : Int)
      · rw [if_pos c5] at H
        have c5b0 := eq_true c5
        have c5b1 : decide ((a1.size : Int) ≤ (a0.size : Int)) = true := decide_eq_true c5
        clear c5
        obtain rfl := Option.some.inj H
        go_enter Try.func108, Try.ntmps108
        go_wp2
        go_ret
        exact ⟨by first | rfl | (simp; done) | (simp [*]; done), by repeat (first | exact Drawn0.refl _ | apply Drawn0.step)⟩
      · rw [if_neg c5] at H
        exact absurd H (by simp)
    · rw [if_neg c4] at H
      exact absurd H (by simp)
  · rw [if_neg c3] at H
    have c3b0 : decide ((a1.size : Int) ≤ (a0.size : Int)) = false := decide_eq_false c3
    have c3b1 : decide (a1.size ≤ a0.size) = false := decide_eq_false (fun h => c3 (Int.ofNat_le.mpr h))
    clear c3
    obtain rfl := Option.some.inj H
    go_enter Try.func108, Try.ntmps108
    go_wp2
    go_ret
    exact ⟨by first | rfl | (simp; done) | (simp [*]; done), by repeat (first | exact Drawn0.refl _ | apply Drawn0.step)⟩

/-! ### strings_HasPrefix: function 97 -/
def strings_HasPrefix.f (a0 : ByteArray) (a1 : ByteArray) : Option (Bool) := (stringslite_HasPrefix.f a0 a1).bind fun t173 => (some t173)
set_option maxHeartbeats 8000000 in
set_option maxRecDepth 100000 in
theorem strings_HasPrefix.calls (a0 : ByteArray) (a1 : ByteArray) (r : Bool) (w : World) (h : strings_HasPrefix.f a0 a1 = some r) :
    Calls Try.prog 97 #[.string a0, .string a1] w fun e w' => e = .returned (.bool r) ∧ Drawn0 w w' := by
  have H : ((stringslite_HasPrefix.f a0 a1).bind fun t173 => (some t173)) = some r := h
  clear h
  replace H := Option.bind_eq_some_iff.mp H
  obtain ⟨t173, A30, H⟩ := H
  replace H : (some t173) = some r := H
  have A3 := Aside0.mk A30
  clear A30
  obtain rfl := Option.some.inj H
  go_enter Try.func97, Try.ntmps97
  go_wp2_with (first | ((with_reducible refine gate_callee (f := 108) rfl ?_); refine goesL_ (some 7) rfl rfl Try.func108 (by kernel_rfl) rfl #[.string a0, .string a1] rfl (by (try simp only [List.map_toArray, List.map_cons, List.map_nil]); first | done | rfl | (simp only [List.length_drop, List.length_take]; rfl)) ?_; (with_reducible refine (stringslite_HasPrefix.calls a0 a1 t173 _ A3.out).mono ?_); rintro e w' ⟨rfl, ⟨nd, rfl⟩⟩; refine ⟨_, rfl, ?_⟩))
  go_ret
  exact ⟨by first | rfl | (simp; done) | (simp [*]; done), by repeat (first | exact Drawn0.refl _ | apply Drawn0.step)⟩

/-! ### impl_ref: function 98 -/
def impl_ref.f (a0 : ByteArray) : Option (Int × ByteArray × Int) := some (3, a0, 0)
set_option maxHeartbeats 8000000 in
set_option maxRecDepth 100000 in
theorem impl_ref.calls (a0 : ByteArray) (r1 : Int) (r2 : ByteArray) (r3 : Int) (w : World) (h : impl_ref.f a0 = some (r1, r2, r3)) :
    Calls Try.prog 98 #[.string a0] w fun e w' => e = .returned (.agg #[.int .i64 r1, .string r2, .int .i64 r3]) ∧ Below w.heap.size w w' := by
  have hu42 := Try.underlying42
  have HB := Aside0.mk (Below.refl w.heap.size w)
  have H : (some (3, a0, 0)) = some (r1, r2, r3) := h
  clear h
  simp only [Option.some.injEq, Prod.mk.injEq] at H
  obtain ⟨rfl, rfl, rfl⟩ := H
  go_enter Try.func98, Try.ntmps98
  go_wp2_with (first | ((with_reducible refine gate_dst (N := 2) rfl ?_); refine box_event ?hg (N := 2) ?hd (cs := #[.int .i64 0, .string (⟨#[]⟩ : ByteArray), .int .i64 0]) (t := 42) ?hr ?_; (case hd => rfl); (case hg => rfl); (case hr => first | (go_simp; done) | (go_simp; rfl)); intro gb174 hg w2 hbox hb; have n0_ := Aside0.mk (below_step (by repeat (first | (with_reducible first | exact HB.out | apply below_alloc | apply pw_below_drewN | apply below_drew1) | exact HB.out)) hb); have n1_ := Aside0.mk (hbox); have n2_ := Aside0.mk ((by rw [hg]; exact (below_size (by repeat (first | (with_reducible first | exact HB.out | apply below_alloc | apply pw_below_drewN | apply below_drew1) | exact HB.out))) : w.heap.size ≤ gb174)); have n3_ := Aside0.mk ((by rw [hg]; exact (below_size (by repeat (first | (with_reducible first | exact HB.out | apply below_alloc | apply pw_below_drewN | apply below_drew1) | exact HB.out))) : w.heap.size ≤ gb174)); clear HB; have HB := n0_; have BK174 := n1_; have GW174 := n2_; have GE174 := n3_; clear n0_ n1_ n2_ n3_; clear hb hbox hg; have hcz3_0 : w2.cell? ⟨gb174, 0, none⟩ = some (.int .i64 0) := (blk_cell BK174.out 0).trans rfl; have hcz3_1 : w2.cell? ⟨gb174, 1, none⟩ = some (.string (⟨#[]⟩ : ByteArray)) := (blk_cell BK174.out 1).trans rfl; have hcz3_2 : w2.cell? ⟨gb174, 2, none⟩ = some (.int .i64 0) := (blk_cell BK174.out 2).trans rfl; have hfz3_0 := blk_frozen BK174.out 0; have hfz3_1 := blk_frozen BK174.out 1; have hfz3_2 := blk_frozen BK174.out 2))
  refine bodyPost_ret (results_cell_row rfl _ _ gb174 42 #[.int .i64 3, .string a0, .int .i64 0] (0, 0) _ rfl (by (with_reducible repeat (first | refine blk_drewN ?_ _ | refine blk_drew ?_ | refine blk_alloc ?_ _)); refine blk_put (cs := #[.int .i64 3, .string a0, .int .i64 0]) ?_ 2 _ rfl; (with_reducible repeat (first | refine blk_drewN ?_ _ | refine blk_drew ?_ | refine blk_alloc ?_ _)); refine blk_put (cs := #[.int .i64 3, .string (⟨#[]⟩ : ByteArray), .int .i64 0]) ?_ 1 _ rfl; (with_reducible repeat (first | refine blk_drewN ?_ _ | refine blk_drew ?_ | refine blk_alloc ?_ _)); refine blk_put (cs := #[.int .i64 0, .string (⟨#[]⟩ : ByteArray), .int .i64 0]) ?_ 0 _ rfl; (with_reducible repeat (first | refine blk_drewN ?_ _ | refine blk_drew ?_ | refine blk_alloc ?_ _)); exact BK174.out) Try.underlying42 rfl (by kernel_rfl)) rfl ?_
  exact ⟨by first | rfl | (simp [errW_none, errW_some] <;> rfl) | (simp [*, errW_none, errW_some] <;> rfl), by repeat (first | (with_reducible first | exact HB.out | apply below_alloc | apply pw_below_drewN | apply below_drew1 | refine below_set ?_ GE174.out) | exact HB.out)⟩

end Go.Proofs.Ytjmochmnioegoaa.PFnExactTypeFrom
