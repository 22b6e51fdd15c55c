/- Functions of the program as plain Lean functions, each with a proof that the program's call comes to the same; no condition. Written by a program of this session. -/
import Derived.Test.YtcpnlfkmfpmkdaaGreatDoorPFnInsTextx0
import Derived.Test.YtcpnlfkmfpmkdaaGreatDoorPFnInsTextx3
namespace Go.Proofs.YtcpnlfkmfpmkdaaGreatDoor.PFnInsText
open Go.RowKit Go.Proofs.YtcpnlfkmfpmkdaaGreatDoorW.PrintWords Go.Proofs.YtcpnlfkmfpmkdaaGreatDoorW.PrintLast Go.Proofs.YtcpnlfkmfpmkdaaGreatDoorW.PrintMore
open Go.Proofs.YtcpnlfkmfpmkdaaGreatDoorW.PrintWords renaming below_alloc → Zba, pw_below_drewN → Zbn, below_drew1 → Zbd, below_set → Zbs, below_size → Zbz, below_step → Zbt, blk_cell → Zkc, blk_frozen → Zkf, blk_far → Zkr
open Go.Proofs.YtcpnlfkmfpmkdaaGreatDoorW.PrintWords.Aside0 renaming mk → Zm
attribute [local go_sem] max2_int min2_int max_two min_two max_three min_three max_four min_four   -- for this text's walks alone
set_option linter.unusedVariables false
set_option linter.unusedSimpArgs false

/-- A state of type 131 at block g of W; what its slices lead to came in by w0. -/
def IsS131 (w0 W : World) (g : Nat) (f0 : ByteArray) (f1 : Int) (f2 : Bool) : Prop := W.heap[g]? = some (.cells #[.string f0, .int .i64 f1, .bool f2] 131 (0, 0)) ∧ w0.heap.size ≤ g
theorem IsS131.grown {w0 W : World} {g : Nat} {f0 : ByteArray} {f1 : Int} {f2 : Bool} {W1 : World} {row : Option Nat} (h : IsS131 w0 W g f0 f1 f2) (hw : W.grownBy W1 row) (hne : some g ≠ row) : IsS131 w0 W1 g f0 f1 f2 := by
 obtain ⟨hb, hg⟩ := h; exact ⟨blk_grown hb hw hne, hg⟩
theorem IsS131.own_neN {w0 W : World} {g : Nat} {f0 : ByteArray} {f1 : Int} {f2 : Bool} {α : Type} {d : Kd α} {e : Nat} {base : Nat} {ok : Nat → Prop} {v : Value} {xs : List α} (h : IsS131 w0 W g f0 f1 f2) (ho : Kd.N d e W base ok v xs) (ht : e ≠ 131) : some g ≠ v.ownBlock := by
 obtain ⟨hb, hg⟩ := h; exact Kd.N_ne ho hb ht
theorem IsS131.fresh {w0 W : World} {g : Nat} {f0 : ByteArray} {f1 : Int} {f2 : Bool} (h : IsS131 w0 W g f0 f1 f2) : ∀ k, W.heap.size ≤ k → k ≠ g := by
 obtain ⟨hb, hg⟩ := h; exact Kd.freshB hb
theorem IsS131.kept {w0 W : World} {g : Nat} {f0 : ByteArray} {f1 : Int} {f2 : Bool} {W1 : World} {S : Nat → Prop} (h : IsS131 w0 W g f0 f1 f2) (hk : Kept W W1 S) (hne : ¬ S g) : IsS131 w0 W1 g f0 f1 f2 := by
 obtain ⟨hb, hg⟩ := h; exact ⟨blk_kept hb hk hne, hg⟩
theorem IsS131.below {w0 W : World} {g : Nat} {f0 : ByteArray} {f1 : Int} {f2 : Bool} {W1 : World} (h : IsS131 w0 W g f0 f1 f2) (hw : Below W.heap.size W W1) : IsS131 w0 W1 g f0 f1 f2 := h.grown (grown_of_below hw none) (by simp)
theorem IsS131.alloc {w0 W : World} {g : Nat} {f0 : ByteArray} {f1 : Int} {f2 : Bool} (h : IsS131 w0 W g f0 f1 f2) (o : Obj) : IsS131 w0 (W.alloc o) g f0 f1 f2 := h.below (Zba (Below.refl _ _) o)
theorem IsS131.drewN {w0 W : World} {g : Nat} {f0 : ByteArray} {f1 : Int} {f2 : Bool} (h : IsS131 w0 W g f0 f1 f2) (m : Nat) : IsS131 w0 (W.drewN m) g f0 f1 f2 := h
theorem IsS131.drew {w0 W : World} {g : Nat} {f0 : ByteArray} {f1 : Int} {f2 : Bool} (h : IsS131 w0 W g f0 f1 f2) : IsS131 w0 W.drew g f0 f1 f2 := h
theorem IsS131.at_ {w0 W : World} {g : Nat} {f0 : ByteArray} {f1 : Int} {f2 : Bool} {w' : World} {m : Nat} (hq : W.drewN m = w') (h : IsS131 w0 W g f0 f1 f2) : IsS131 w0 w' g f0 f1 f2 := by subst hq; exact IsS131.drewN h m
theorem IsS131.apart {w0 W : World} {g : Nat} {f0 : ByteArray} {f1 : Int} {f2 : Bool} {α : Type} {d : Kd α} {e : Nat} {base : Nat} {ok : Nat → Prop} {v : Value} {xs : List α} (h : IsS131 w0 W g f0 f1 f2) (ho : d.R e W base ok v xs) (ht : ∀ q, q ∈ e :: d.E → q ≠ 131) : d.R e W base (fun k => ok k ∧ k ≠ g) v xs := by
 obtain ⟨hb, hg⟩ := h; exact Kd.R_types ho hb ht
theorem IsS131.own_ne {w0 W : World} {g : Nat} {f0 : ByteArray} {f1 : Int} {f2 : Bool} {α : Type} {d : Kd α} {e : Nat} {base : Nat} {ok : Nat → Prop} {v : Value} {xs : List α} (h : IsS131 w0 W g f0 f1 f2) (ho : d.R e W base ok v xs) (ht : e ≠ 131) : some g ≠ v.ownBlock := by
 obtain ⟨hb, hg⟩ := h; exact Kd.R_ne ho hb ht
theorem IsS131.apartQ {w0 W : World} {g : Nat} {f0 : ByteArray} {f1 : Int} {f2 : Bool} {α : Type} {d : Kd α} {e : Nat} {base : Nat} {ok : Nat → Prop} {v : Value} {xs : List α} (h : IsS131 w0 W g f0 f1 f2) (ho : d.Q e W base ok v xs) (ht : ∀ q, q ∈ e :: d.E → q ≠ 131) : d.Q e W base (fun k => ok k ∧ k ≠ g) v xs := by
 obtain ⟨hb, hg⟩ := h; exact Kd.Q_types ho hb ht
theorem IsS131.own_neQ {w0 W : World} {g : Nat} {f0 : ByteArray} {f1 : Int} {f2 : Bool} {α : Type} {d : Kd α} {e : Nat} {base : Nat} {ok : Nat → Prop} {v : Value} {xs : List α} (h : IsS131 w0 W g f0 f1 f2) (ho : d.Q e W base ok v xs) (ht : e ≠ 131) : some g ≠ v.ownBlock := by
 obtain ⟨hb, hg⟩ := h; exact Kd.Q_ne ho hb ht
theorem IsS131.apartS {w0 W : World} {g : Nat} {f0 : ByteArray} {f1 : Int} {f2 : Bool} {α : Type} {d : Kd α} {e : Nat} {base : Nat} {ok : Nat → Prop} {v : Value} {xs : List α} (h : IsS131 w0 W g f0 f1 f2) (ho : d.S e W base ok v xs) (ht : ∀ q, q ∈ e :: d.E → q ≠ 131) : d.S e W base (fun k => ok k ∧ k ≠ g) v xs := by
 obtain ⟨hb, hg⟩ := h; exact Kd.S_types ho hb ht
theorem IsS131.own_neS {w0 W : World} {g : Nat} {f0 : ByteArray} {f1 : Int} {f2 : Bool} {α : Type} {d : Kd α} {e : Nat} {base : Nat} {ok : Nat → Prop} {v : Value} {xs : List α} (h : IsS131 w0 W g f0 f1 f2) (ho : d.S e W base ok v xs) (ht : e ≠ 131) : some g ≠ v.ownBlock := by
 obtain ⟨hb, hg⟩ := h; exact Kd.S_ne ho hb ht
theorem IsS131.lt {w0 W : World} {g : Nat} {f0 : ByteArray} {f1 : Int} {f2 : Bool} (h : IsS131 w0 W g f0 f1 f2) : g < W.heap.size := by
 obtain ⟨hb, hg⟩ := h; exact blk_lt hb
theorem IsS131.ge {w0 W : World} {g : Nat} {f0 : ByteArray} {f1 : Int} {f2 : Bool} (h : IsS131 w0 W g f0 f1 f2) : w0.heap.size ≤ g := by
 obtain ⟨hb, hg⟩ := h; exact hg
theorem IsS131.ne_blk {w0 W : World} {g : Nat} {f0 : ByteArray} {f1 : Int} {f2 : Bool} {a : Nat} {cs : Array Value} {t : TypeId} {fr : Nat × Nat} (h : IsS131 w0 W g f0 f1 f2) (hb2 : W.heap[a]? = some (.cells cs t fr)) (ht : t ≠ 131) : g ≠ a := by
 obtain ⟨hb, hg⟩ := h; rintro rfl; rw [hb] at hb2; injection hb2 with hb2; injection hb2 with _ ht2; exact ht ht2.symm
theorem IsS131.far {w0 W : World} {g : Nat} {f0 : ByteArray} {f1 : Int} {f2 : Bool} {p : Addr} (h : IsS131 w0 W g f0 f1 f2) (hne : g ≠ p.block) (u : Value) : IsS131 w0 (W.setCell p u) g f0 f1 f2 := by
 obtain ⟨hb, hg⟩ := h; exact ⟨Zkr hb hne u, hg⟩
theorem cellS131_0 {W : World} {g : Nat} {f0 : ByteArray} {f1 : Int} {f2 : Bool} (h : W.heap[g]? = some (.cells #[.string f0, .int .i64 f1, .bool f2] 131 (0, 0))) : W.cell? ⟨g, 0, none⟩ = some (.string f0) := (Zkc h 0).trans rfl
theorem IsS131.set_0 {w0 W : World} {g : Nat} {f0 : ByteArray} {f1 : Int} {f2 : Bool} (h : IsS131 w0 W g f0 f1 f2) (x : ByteArray) : IsS131 w0 (W.setCell ⟨g, 0, none⟩ (.string x)) g x f1 f2 := by
 obtain ⟨hb, hg⟩ := h; exact ⟨by simpa using blk_set hb 0 (.string x), hg⟩
theorem cellS131_1 {W : World} {g : Nat} {f0 : ByteArray} {f1 : Int} {f2 : Bool} (h : W.heap[g]? = some (.cells #[.string f0, .int .i64 f1, .bool f2] 131 (0, 0))) : W.cell? ⟨g, 1, none⟩ = some (.int .i64 f1) := (Zkc h 1).trans rfl
theorem IsS131.set_1 {w0 W : World} {g : Nat} {f0 : ByteArray} {f1 : Int} {f2 : Bool} (h : IsS131 w0 W g f0 f1 f2) (x : Int) : IsS131 w0 (W.setCell ⟨g, 1, none⟩ (.int .i64 x)) g f0 x f2 := by
 obtain ⟨hb, hg⟩ := h; exact ⟨by simpa using blk_set hb 1 (.int .i64 x), hg⟩
theorem cellS131_2 {W : World} {g : Nat} {f0 : ByteArray} {f1 : Int} {f2 : Bool} (h : W.heap[g]? = some (.cells #[.string f0, .int .i64 f1, .bool f2] 131 (0, 0))) : W.cell? ⟨g, 2, none⟩ = some (.bool f2) := (Zkc h 2).trans rfl
theorem IsS131.set_2 {w0 W : World} {g : Nat} {f0 : ByteArray} {f1 : Int} {f2 : Bool} (h : IsS131 w0 W g f0 f1 f2) (x : Bool) : IsS131 w0 (W.setCell ⟨g, 2, none⟩ (.bool x)) g f0 f1 x := by
 obtain ⟨hb, hg⟩ := h; exact ⟨by simpa using blk_set hb 2 (.bool x), hg⟩
theorem IsS131.new (w0 W : World) (f0 : ByteArray) (f1 : Int) (f2 : Bool) (hB : Below w0.heap.size w0 W) : IsS131 w0 (W.alloc (.cells #[.string f0, .int .i64 f1, .bool f2] 131)) W.heap.size f0 f1 f2 := ⟨by simpa using heap_alloc_new W _, hB.size⟩

/-! ### impl_reader_is: function 140 -/
def impl_reader_is.f (s0_0 : ByteArray) (s0_1 : Int) (s0_2 : Bool) (a1 : Int) : Option (Bool × ByteArray × Int × Bool) := if s0_2 = true then (some (false, s0_0, s0_1, s0_2)) else ((impl_length.f s0_0).bind fun t287 => (if s0_1 < t287 then (if 0 ≤ s0_1 then (if s0_1 < (s0_0.size : Int) then (some (((bt s0_0 s0_1) == a1), s0_0, s0_1, s0_2)) else (none)) else (none)) else (some (false, s0_0, s0_1, s0_2))))
set_option maxHeartbeats 8000000 in
set_option maxRecDepth 100000 in
theorem impl_reader_is.calls (g : Nat) (s0_0 : ByteArray) (s0_1 : Int) (s0_2 : Bool) (a1 : Int) (r1 : Bool) (r2 : ByteArray) (r3 : Int) (r4 : Bool) (w0 w : World) (hI : IsS131 w0 w g s0_0 s0_1 s0_2) (hB : Below w0.heap.size w0 w) (h : impl_reader_is.f s0_0 s0_1 s0_2 a1 = some (r1, r2, r3, r4)) :
 Calls Tryz.prog 140 #[.pointer (some ⟨g, 0, none⟩), .int .u8 a1] w fun e w' => e = .returned (.bool r1) ∧ IsS131 w0 w' g r2 r3 r4 ∧ Below w0.heap.size w0 w' ∧ KeepBut w w' g none := by
 have HI0 := Zm hI; have HK := Zm (KeepBut.refl w g none); have HL := Zm hB.size; clear hI; have HW0 := Zm hB.size; have HB := Zm hB; clear hB; have H : (if s0_2 = true then (some (false, s0_0, s0_1, s0_2)) else ((impl_length.f s0_0).bind fun t287 => (if s0_1 < t287 then (if 0 ≤ s0_1 then (if s0_1 < (s0_0.size : Int) then (some (((bt s0_0 s0_1) == a1), s0_0, s0_1, s0_2)) else (none)) else (none)) else (some (false, s0_0, s0_1, s0_2))))) = some (r1, r2, r3, r4) := h; clear h; obtain ⟨hb, hg⟩ := HI0.out; have f0 := cellS131_0 hb; have f1 := cellS131_1 hb; have f2 := cellS131_2 hb; have hu131 := Tryz.underlying131; have hlen : ∀ W : World, Calls Tryz.prog 91 #[.string s0_0] W fun e W' => e = .returned (.int .i64 (s0_0.size : Int)) ∧ Drawn0 W W' := fun W => impl_length.calls s0_0 (s0_0.size : Int) W rfl
 have hlq : ∀ (W : World) (n : Nat), Calls Tryz.prog 91 #[.string s0_0] (W.drewN n) fun e w'' => e = .returned (.int .i64 (s0_0.size : Int)) ∧ ∃ m, w'' = W.drewN m := fun W n => Calls.quiet_of ((hlen (W.drewN n)).mono fun e W' ⟨he, ⟨m, hm⟩⟩ => ⟨he, m, hm⟩)
 clear hb
 cases s0_2 with
 | true =>
  rw [if_pos rfl] at H; simp only [Option.some.injEq, Prod.mk.injEq] at H; obtain ⟨rfl, rfl, rfl, rfl⟩ := H; go_enter Tryz.func140, Tryz.ntmps140; go_wp2; go_quiet (fail); go_wp2; go_ret
  exact ⟨rfl, HI0.out, by repeat (with_reducible first | exact HB.out | apply Zbn | apply Zbd), by repeat (with_reducible first | exact HK.out | apply keep_drewN | apply keep_drew)⟩
 | false =>
  rw [if_neg (by simp)] at H; simp only [impl_length.f, Option.bind_some] at H; by_cases c1 : s0_1 < (s0_0.size : Int); rotate_left
  · rw [if_neg c1] at H; have c1b : decide (s0_1 < (s0_0.size : Int)) = false := decide_eq_false c1; simp only [Option.some.injEq, Prod.mk.injEq] at H; obtain ⟨rfl, rfl, rfl, rfl⟩ := H; go_enter Tryz.func140, Tryz.ntmps140; go_wp2; go_quiet ((go_at_call 91; exact hlq _ _)); go_wp2; go_ret; exact ⟨rfl, HI0.out, by repeat (with_reducible first | exact HB.out | apply Zbn | apply Zbd), by repeat (with_reducible first | exact HK.out | apply keep_drewN | apply keep_drew)⟩

  rw [if_pos c1] at H
  have c1b : decide (s0_1 < (s0_0.size : Int)) = true := decide_eq_true c1
  by_cases c2 : 0 ≤ s0_1
  rotate_left
  · rw [if_neg c2] at H
    exact absurd H (by simp)
  rw [if_pos c2, if_pos c1] at H
  have c2b : decide (0 ≤ s0_1) = true := decide_eq_true c2
  simp only [Option.some.injEq, Prod.mk.injEq] at H
  obtain ⟨rfl, rfl, rfl, rfl⟩ := H
  have hbt := bt_at s0_0 s0_1
  go_enter Tryz.func140, Tryz.ntmps140
  go_wp2
  go_quiet ((go_at_call 91; exact hlq _ _))
  go_wp2
  go_ret
  exact ⟨rfl, HI0.out, by repeat (with_reducible first | exact HB.out | apply Zbn | apply Zbd), by repeat (with_reducible first | exact HK.out | apply keep_drewN | apply keep_drew)⟩
/-! ### impl_reader_take: function 118 -/
def impl_reader_take.f (s0_0 : ByteArray) (s0_1 : Int) (s0_2 : Bool) (a1 : Int) : Option (Bool × ByteArray × Int × Bool) := (impl_reader_is.f s0_0 s0_1 s0_2 a1).bind fun bt288 => (if bt288.1 = true then (some (true, bt288.2.1, wrap64 (bt288.2.2.1 + 1), bt288.2.2.2)) else (some (false, bt288.2.1, bt288.2.2.1, bt288.2.2.2)))
set_option maxHeartbeats 8000000 in
set_option maxRecDepth 100000 in
theorem impl_reader_take.calls (g : Nat) (s0_0 : ByteArray) (s0_1 : Int) (s0_2 : Bool) (a1 : Int) (r1 : Bool) (r2 : ByteArray) (r3 : Int) (r4 : Bool) (w0 w : World) (hI : IsS131 w0 w g s0_0 s0_1 s0_2) (hB : Below w0.heap.size w0 w) (h : impl_reader_take.f s0_0 s0_1 s0_2 a1 = some (r1, r2, r3, r4)) :
 Calls Tryz.prog 118 #[.pointer (some ⟨g, 0, none⟩), .int .u8 a1] w fun e w' => e = .returned (.bool r1) ∧ IsS131 w0 w' g r2 r3 r4 ∧ Below w0.heap.size w0 w' ∧ KeepBut w w' g none := by
 have HI0 := Zm hI; have HK := Zm (KeepBut.refl w g none); have HL := Zm hB.size; clear hI; have HW0 := Zm hB.size; have HB := Zm hB; clear hB; have H : ((impl_reader_is.f s0_0 s0_1 s0_2 a1).bind fun bt288 => (if bt288.1 = true then (some (true, bt288.2.1, wrap64 (bt288.2.2.1 + 1), bt288.2.2.2)) else (some (false, bt288.2.1, bt288.2.2.1, bt288.2.2.2)))) = some (r1, r2, r3, r4) := h; clear h; replace H := Option.bind_eq_some_iff.mp H; obtain ⟨⟨t288, t289, t290, t291⟩, A30, H⟩ := H; replace H : (if t288 = true then (some (true, t289, wrap64 (t290 + 1), t291)) else (some (false, t289, t290, t291))) = some (r1, r2, r3, r4) := H; have A3 := Zm A30; clear A30; have HC4 := Zm H; clear H; go_enter Tryz.func118, Tryz.ntmps118; go_upto_if 8 with (first | ((with_reducible refine gate_callee (f := 140) rfl ?_); refine ge_ (some 7) Tryz.func140 #[.pointer (some ⟨g, 0, none⟩), .int .u8 a1] ?_; (with_reducible refine (impl_reader_is.calls g _ _ _ _ _ _ _ _ w0 _ ?side1 ?side2 A3.out).mono ?_); (case side1 => repeat (first | (with_reducible first | exact HI0.out | apply IsS131.alloc | apply IsS131.drewN | apply IsS131.drew | apply IsS131.set_0 | apply IsS131.set_1 | apply IsS131.set_2) | exact HI0.out)); (case side2 => exact bk HB.out); rintro e w5 ⟨rfl, hi, hb, hk⟩; refine ⟨_, rfl, ?_⟩; have n0_ := (⟨Zm (KeepBut.trans (by repeat (first | (with_reducible first | exact HK.out | apply KeepBut.set_ | apply keep_drewN | apply keep_drew | apply keep_alloc) | exact HK.out)) hk (.inl rfl)), Zm (hb), Zm (hi)⟩ : _ ∧ _ ∧ _); clear HK HB HI0; obtain ⟨HK, HB, HI0⟩ := n0_; (try clear hb); (try clear hb2); (try clear hk); (try clear hi))); have H := HC4.out; clear HC4; by_cases c6 : t288 = true; rotate_left
 · replace c6 := Bool.eq_false_iff.mpr c6; subst c6; rw [if_neg (show ¬ (false = true) by decide)] at H; simp only [Option.some.injEq, Prod.mk.injEq] at H; obtain ⟨rfl, rfl, rfl, rfl⟩ := H; go_wp2; go_ret; exact ⟨by first | rfl | (simp [*] <;> rfl), by repeat (first | (with_reducible first | exact HI0.out | apply IsS131.alloc | apply IsS131.drewN | apply IsS131.drew | apply IsS131.set_0 | apply IsS131.set_1 | apply IsS131.set_2) | exact HI0.out), by exact bk HB.out, by repeat (first | (with_reducible first | exact HK.out | apply KeepBut.set_ | apply keep_drewN | apply keep_drew | apply keep_alloc) | exact HK.out)⟩

 subst c6
 rw [if_pos rfl] at H
 simp only [Option.some.injEq, Prod.mk.injEq] at H
 obtain ⟨rfl, rfl, rfl, rfl⟩ := H
 obtain ⟨HGz7, hgz7⟩ := HI0.out
 have hcz7_0 := cellS131_0 HGz7
 have hcz7_1 := cellS131_1 HGz7
 have hcz7_2 := cellS131_2 HGz7
 have hfz7_0 := Zkf HGz7 0
 have hfz7_1 := Zkf HGz7 1
 have hfz7_2 := Zkf HGz7 2
 clear HGz7 hgz7
 go_wp2
 go_ret
 exact ⟨by first | rfl | (simp [*] <;> rfl), by repeat (first | (with_reducible first | exact HI0.out | apply IsS131.alloc | apply IsS131.drewN | apply IsS131.drew | apply IsS131.set_0 | apply IsS131.set_1 | apply IsS131.set_2) | exact HI0.out), by repeat (first | (with_reducible first | exact HB.out | apply Zba | apply Zbn | apply Zbd | refine Zbs ?_ (IsS131.ge HI0.out)) | exact HB.out), by repeat (first | (with_reducible first | exact HK.out | apply KeepBut.set_ | apply keep_drewN | apply keep_drew | apply keep_alloc) | exact HK.out)⟩
/-! ### impl_reader_want: function 120 -/
def impl_reader_want.f (s0_0 : ByteArray) (s0_1 : Int) (s0_2 : Bool) (a1 : Int) : Option (ByteArray × Int × Bool) := (impl_reader_take.f s0_0 s0_1 s0_2 a1).bind fun bt292 => (if bt292.1 = true then (some (bt292.2.1, bt292.2.2.1, bt292.2.2.2)) else (some (bt292.2.1, bt292.2.2.1, true)))
set_option maxHeartbeats 8000000 in
set_option maxRecDepth 100000 in
theorem impl_reader_want.calls (g : Nat) (s0_0 : ByteArray) (s0_1 : Int) (s0_2 : Bool) (a1 : Int) (r1 : ByteArray) (r2 : Int) (r3 : Bool) (w0 w : World) (hI : IsS131 w0 w g s0_0 s0_1 s0_2) (hB : Below w0.heap.size w0 w) (h : impl_reader_want.f s0_0 s0_1 s0_2 a1 = some (r1, r2, r3)) :
 Calls Tryz.prog 120 #[.pointer (some ⟨g, 0, none⟩), .int .u8 a1] w fun e w' => e = .returned (.tuple #[]) ∧ IsS131 w0 w' g r1 r2 r3 ∧ Below w0.heap.size w0 w' ∧ KeepBut w w' g none := by
 have HI0 := Zm hI; have HK := Zm (KeepBut.refl w g none); have HL := Zm hB.size; clear hI; have HW0 := Zm hB.size; have HB := Zm hB; clear hB; have H : ((impl_reader_take.f s0_0 s0_1 s0_2 a1).bind fun bt292 => (if bt292.1 = true then (some (bt292.2.1, bt292.2.2.1, bt292.2.2.2)) else (some (bt292.2.1, bt292.2.2.1, true)))) = some (r1, r2, r3) := h; clear h; replace H := Option.bind_eq_some_iff.mp H; obtain ⟨⟨t292, t293, t294, t295⟩, A30, H⟩ := H; replace H : (if t292 = true then (some (t293, t294, t295)) else (some (t293, t294, true))) = some (r1, r2, r3) := H; have A3 := Zm A30; clear A30; have HC4 := Zm H; clear H; go_enter Tryz.func120, Tryz.ntmps120; go_upto_if 7 with (first | ((with_reducible refine gate_callee (f := 118) rfl ?_); refine ge_ (some 6) Tryz.func118 #[.pointer (some ⟨g, 0, none⟩), .int .u8 a1] ?_; (with_reducible refine (impl_reader_take.calls g _ _ _ _ _ _ _ _ w0 _ ?side1 ?side2 A3.out).mono ?_); (case side1 => repeat (first | (with_reducible first | exact HI0.out | apply IsS131.alloc | apply IsS131.drewN | apply IsS131.drew | apply IsS131.set_0 | apply IsS131.set_1 | apply IsS131.set_2) | exact HI0.out)); (case side2 => exact bk HB.out); rintro e w5 ⟨rfl, hi, hb, hk⟩; refine ⟨_, rfl, ?_⟩; have n0_ := (⟨Zm (KeepBut.trans (by repeat (first | (with_reducible first | exact HK.out | apply KeepBut.set_ | apply keep_drewN | apply keep_drew | apply keep_alloc) | exact HK.out)) hk (.inl rfl)), Zm (hb), Zm (hi)⟩ : _ ∧ _ ∧ _); clear HK HB HI0; obtain ⟨HK, HB, HI0⟩ := n0_; (try clear hb); (try clear hb2); (try clear hk); (try clear hi))); have H := HC4.out; clear HC4; by_cases c6 : t292 = true; rotate_left
 · replace c6 := Bool.eq_false_iff.mpr c6; subst c6; rw [if_neg (show ¬ (false = true) by decide)] at H; simp only [Option.some.injEq, Prod.mk.injEq] at H; obtain ⟨rfl, rfl, rfl⟩ := H; obtain ⟨HGz7, hgz7⟩ := HI0.out; have hcz7_0 := cellS131_0 HGz7; have hcz7_1 := cellS131_1 HGz7; have hcz7_2 := cellS131_2 HGz7; have hfz7_0 := Zkf HGz7 0; have hfz7_1 := Zkf HGz7 1; have hfz7_2 := Zkf HGz7 2; clear HGz7 hgz7; go_wp2
   first | go_end0 | ((try simp only [Exit.inBlock, Exit.then]); refine bodyPost_ret (results_none rfl _ _ _) rfl ?_)
   exact ⟨by first | rfl | (simp [*] <;> rfl), by repeat (first | (with_reducible first | exact HI0.out | apply IsS131.alloc | apply IsS131.drewN | apply IsS131.drew | apply IsS131.set_0 | apply IsS131.set_1 | apply IsS131.set_2) | exact HI0.out), by repeat (first | (with_reducible first | exact HB.out | apply Zba | apply Zbn | apply Zbd | refine Zbs ?_ (IsS131.ge HI0.out)) | exact HB.out), by repeat (first | (with_reducible first | exact HK.out | apply KeepBut.set_ | apply keep_drewN | apply keep_drew | apply keep_alloc) | exact HK.out)⟩

 subst c6
 rw [if_pos rfl] at H
 simp only [Option.some.injEq, Prod.mk.injEq] at H
 obtain ⟨rfl, rfl, rfl⟩ := H
 go_wp2
 first | go_end0 | ((try simp only [Exit.inBlock, Exit.then]); refine bodyPost_ret (results_none rfl _ _ _) rfl ?_)
 exact ⟨by first | rfl | (simp [*] <;> rfl), by repeat (first | (with_reducible first | exact HI0.out | apply IsS131.alloc | apply IsS131.drewN | apply IsS131.drew | apply IsS131.set_0 | apply IsS131.set_1 | apply IsS131.set_2) | exact HI0.out), by exact bk HB.out, by repeat (first | (with_reducible first | exact HK.out | apply KeepBut.set_ | apply keep_drewN | apply keep_drew | apply keep_alloc) | exact HK.out)⟩
/-! ### impl_reader_name: function 119 -/
def impl_reader_name.l0 : Nat → Int → ByteArray → Int → Bool → Option (ByteArray × Int × Bool)
 | 0, _, _, _, _ => none
 | k + 1, x2, x1000, x1001, x1002 => if x1002 = true then (if x1001 = x2 then ((impl_reader_want.f x1000 x1001 true 59).bind fun bt296 => (some (bt296.1, bt296.2.1, bt296.2.2))) else ((impl_reader_want.f x1000 x1001 x1002 59).bind fun bt299 => (some (bt299.1, bt299.2.1, bt299.2.2)))) else ((impl_length.f x1000).bind fun t302 => (if x1001 < t302 then (if x1001 < (wrap64 (x2 + 20)) then (if 0 ≤ x1001 then (if x1001 < (x1000.size : Int) then ((impl_isNameByte.f (bt x1000 x1001) (wrap64 (x1001 - x2))).bind fun t303 => (if t303 = true then (impl_reader_name.l0 k x2 x1000 (wrap64 (x1001 + 1)) x1002) else (if x1001 = x2 then ((impl_reader_want.f x1000 x1001 true 59).bind fun bt304 => (some (bt304.1, bt304.2.1, bt304.2.2))) else ((impl_reader_want.f x1000 x1001 x1002 59).bind fun bt307 => (some (bt307.1, bt307.2.1, bt307.2.2)))))) else (none)) else (none)) else (if x1001 = x2 then ((impl_reader_want.f x1000 x1001 true 59).bind fun bt310 => (some (bt310.1, bt310.2.1, bt310.2.2))) else ((impl_reader_want.f x1000 x1001 x1002 59).bind fun bt313 => (some (bt313.1, bt313.2.1, bt313.2.2))))) else (if x1001 = x2 then ((impl_reader_want.f x1000 x1001 true 59).bind fun bt316 => (some (bt316.1, bt316.2.1, bt316.2.2))) else ((impl_reader_want.f x1000 x1001 x1002 59).bind fun bt319 => (some (bt319.1, bt319.2.1, bt319.2.2))))))
def impl_reader_name.f (k : Nat) (s0_0 : ByteArray) (s0_1 : Int) (s0_2 : Bool) : Option (ByteArray × Int × Bool) := impl_reader_name.l0 k s0_1 s0_0 s0_1 s0_2
theorem impl_reader_name.mono_l : ∀ k, (∀ y0 y1 y2 y3, LeO (impl_reader_name.l0 k y0 y1 y2 y3) (impl_reader_name.l0 (k + 1) y0 y1 y2 y3))
 | 0 => fun _ _ _ _ r h => by simp [impl_reader_name.l0] at h
 | k + 1 => by
  have ih0 := impl_reader_name.mono_l k
  · intro y0 y1 y2 y3; unfold impl_reader_name.l0
    repeat' first
    | (with_reducible exact ih0 _ _ _ _)
    | (with_reducible exact LeO.refl _)
    | (with_reducible exact LeO.none _)
    | (with_reducible refine LeO.ite ?_ ?_)
    | (with_reducible refine LeO.bind ?_ (fun _ => ?_))
    | exact ih0 _ _ _ _
    | exact LeO.none _
    | refine LeO.ite ?_ ?_
    | refine LeO.bind ?_ (fun _ => ?_)
theorem impl_reader_name.mono : ∀ a0 a1 a2 k, LeO (impl_reader_name.f k a0 a1 a2) (impl_reader_name.f (k + 1) a0 a1 a2) := by
 intro a0 a1 a2 k; have ih0 := impl_reader_name.mono_l k; unfold impl_reader_name.f
 repeat' first
  | (with_reducible exact ih0 _ _ _ _)
  | (with_reducible exact LeO.refl _)
  | (with_reducible exact LeO.none _)
  | (with_reducible refine LeO.ite ?_ ?_)
  | (with_reducible refine LeO.bind ?_ (fun _ => ?_))
  | exact ih0 _ _ _ _
  | exact LeO.none _
  | refine LeO.ite ?_ ?_
  | refine LeO.bind ?_ (fun _ => ?_)
set_option maxHeartbeats 8000000 in
set_option maxRecDepth 100000 in
theorem impl_reader_name.calls (k : Nat) (g : Nat) (s0_0 : ByteArray) (s0_1 : Int) (s0_2 : Bool) (r1 : ByteArray) (r2 : Int) (r3 : Bool) (w0 w : World) (hI : IsS131 w0 w g s0_0 s0_1 s0_2) (hB : Below w0.heap.size w0 w) (h : impl_reader_name.f k s0_0 s0_1 s0_2 = some (r1, r2, r3)) :
 Calls Tryz.prog 119 #[.pointer (some ⟨g, 0, none⟩)] w fun e w' => e = .returned (.tuple #[]) ∧ IsS131 w0 w' g r1 r2 r3 ∧ Below w0.heap.size w0 w' ∧ KeepBut w w' g none := by
 have HI0 := Zm hI; have HK := Zm (KeepBut.refl w g none); have HL := Zm hB.size; clear hI; have HW0 := Zm hB.size; have HB := Zm hB; clear hB; have H : (impl_reader_name.l0 k s0_1 s0_0 s0_1 s0_2) = some (r1, r2, r3) := h; clear h
 have eta : ∀ (o : Option (ByteArray × Int × Bool)) (r : ByteArray × Int × Bool), (o.bind fun b => some (b.1, b.2.1, b.2.2)) = some r → o = some r := by
  intro o r h
  cases o with
  | none => exact h
  | some b => exact h
 have hg := IsS131.ge HI0.out; have hu131 := Tryz.underlying131; have hlen : ∀ W : World, Calls Tryz.prog 91 #[.string s0_0] W fun e W' => e = .returned (.int .i64 (s0_0.size : Int)) ∧ Drawn0 W W' := fun W => impl_length.calls s0_0 (s0_0.size : Int) W rfl
 have hlq : ∀ (W : World) (n : Nat), Calls Tryz.prog 91 #[.string s0_0] (W.drewN n) fun e w'' => e = .returned (.int .i64 (s0_0.size : Int)) ∧ ∃ m, w'' = W.drewN m := fun W n => Calls.quiet_of ((hlen (W.drewN n)).mono fun e W' ⟨he, ⟨m, hm⟩⟩ => ⟨he, m, hm⟩)
 have HH := Zm H; clear H hlen; obtain ⟨hb0, _⟩ := HI0.out; have g1 := cellS131_1 hb0; clear hb0; go_enter Tryz.func119, Tryz.ntmps119; go_wp2; clear g1; go_loopg [] k (fun kq w' => ∃ (x : Int), Aside0 (impl_reader_name.l0 kq s0_1 s0_0 x s0_2 = some (r1, r2, r3)) ∧ Aside0 (kq ≤ k) ∧ Aside0 (IsS131 w0 w' g s0_0 x s0_2) ∧ Aside0 (Below w0.heap.size w0 w') ∧ Aside0 (KeepBut w w' g none))
 case atStart => exact ⟨s0_1, HH, ⟨Nat.le_refl _⟩, HI0, HB, HK⟩
 case round =>
  clear HH HI0 HB HK; obtain ⟨x, HA, HK1, HI, HB, HK⟩ := hrel
  cases gk with
  | zero => exact absurd HA.out (by simp [impl_reader_name.l0])
  | succ k1 =>
   have H := HA.out; clear HA; simp only [impl_reader_name.l0, impl_length.f, Option.bind_some] at H; obtain ⟨hb, _⟩ := HI.out; have f0 := cellS131_0 hb; have f1 := cellS131_1 hb; have f2 := cellS131_2 hb; have z1 := Zkf hb 1; have z2 := Zkf hb 2; clear hb
   cases s0_2 with
   | true =>
    rw [if_pos rfl] at H; clear hlq; by_cases c9 : x = s0_1; rotate_left
    · rw [if_neg c9] at H; have c9b : (x == s0_1) = false := beq_eq_false_iff_ne.mpr c9; have HW := Zm (eta _ _ H); clear H; go_wp2; go_quiet (fail); go_wp2_with (first | ((with_reducible refine gate_callee (f := 120) rfl ?_); refine goesL_ (some 68) rfl rfl Tryz.func120 (by kernel_rfl) rfl #[.pointer (some ⟨g, 0, none⟩), .int .u8 59] rfl (by (try simp only [List.map_toArray, List.map_cons, List.map_nil]); first | done | rfl) ?_; (with_reducible refine (impl_reader_want.calls g s0_0 x true 59 r1 r2 r3 w0 _ ?side1 ?side2 HW.out).mono ?_); (case side1 => (with_reducible repeat (first | exact HI.out | apply IsS131.drewN | apply IsS131.drew | apply IsS131.set_1 | apply IsS131.set_2))); (case side2 => (with_reducible repeat (first | exact HB.out | apply Zbn | apply Zbd | refine Zbs ?_ hg))); rintro e w5 ⟨rfl, hi, hb, hk⟩; refine ⟨_, rfl, ?_⟩; have HI2 := Zm hi; have HB2 := Zm hb; have HK2 := Zm (KeepBut.trans (by (with_reducible repeat (first | exact HK.out | apply KeepBut.set_ | apply keep_drewN | apply keep_drew))) hk (.inl rfl)); clear hi hb hk))
      first | go_end0 | ((try simp only [Exit.inBlock, Exit.then]); refine bodyPost_ret (results_none rfl _ _ _) rfl ?_)
      exact ⟨rfl, HI2.out, HB2.out, HK2.out⟩
    rw [if_pos c9] at H; have c9b : (x == s0_1) = true := beq_iff_eq.mpr c9; have HW := Zm (eta _ _ H); clear H c9; go_wp2; go_quiet (fail); go_wp2_with (first | ((with_reducible refine gate_callee (f := 120) rfl ?_); refine goesL_ (some 68) rfl rfl Tryz.func120 (by kernel_rfl) rfl #[.pointer (some ⟨g, 0, none⟩), .int .u8 59] rfl (by (try simp only [List.map_toArray, List.map_cons, List.map_nil]); first | done | rfl) ?_; (with_reducible refine (impl_reader_want.calls g s0_0 x true 59 r1 r2 r3 w0 _ ?side1 ?side2 HW.out).mono ?_); (case side1 => (with_reducible repeat (first | exact HI.out | apply IsS131.drewN | apply IsS131.drew | apply IsS131.set_1 | apply IsS131.set_2))); (case side2 => (with_reducible repeat (first | exact HB.out | apply Zbn | apply Zbd | refine Zbs ?_ hg))); rintro e w5 ⟨rfl, hi, hb, hk⟩; refine ⟨_, rfl, ?_⟩; have HI2 := Zm hi; have HB2 := Zm hb; have HK2 := Zm (KeepBut.trans (by (with_reducible repeat (first | exact HK.out | apply KeepBut.set_ | apply keep_drewN | apply keep_drew))) hk (.inl rfl)); clear hi hb hk))
    first | go_end0 | ((try simp only [Exit.inBlock, Exit.then]); refine bodyPost_ret (results_none rfl _ _ _) rfl ?_)
    exact ⟨rfl, HI2.out, HB2.out, HK2.out⟩
   | false =>
    rw [if_neg (by simp)] at H; by_cases c1 : x < (s0_0.size : Int); rotate_left
    · rw [if_neg c1] at H; have c1b : decide (x < (s0_0.size : Int)) = false := decide_eq_false c1; clear c1; by_cases c9 : x = s0_1; rotate_left
      · rw [if_neg c9] at H; have c9b : (x == s0_1) = false := beq_eq_false_iff_ne.mpr c9; have HW := Zm (eta _ _ H); clear H; go_wp2; go_quiet ((go_at_call 91; exact hlq _ _)); go_wp2_with (first | ((with_reducible refine gate_callee (f := 120) rfl ?_); refine goesL_ (some 68) rfl rfl Tryz.func120 (by kernel_rfl) rfl #[.pointer (some ⟨g, 0, none⟩), .int .u8 59] rfl (by (try simp only [List.map_toArray, List.map_cons, List.map_nil]); first | done | rfl) ?_; (with_reducible refine (impl_reader_want.calls g s0_0 x false 59 r1 r2 r3 w0 _ ?side1 ?side2 HW.out).mono ?_); (case side1 => (with_reducible repeat (first | exact HI.out | apply IsS131.drewN | apply IsS131.drew | apply IsS131.set_1 | apply IsS131.set_2))); (case side2 => (with_reducible repeat (first | exact HB.out | apply Zbn | apply Zbd | refine Zbs ?_ hg))); rintro e w5 ⟨rfl, hi, hb, hk⟩; refine ⟨_, rfl, ?_⟩; have HI2 := Zm hi; have HB2 := Zm hb; have HK2 := Zm (KeepBut.trans (by (with_reducible repeat (first | exact HK.out | apply KeepBut.set_ | apply keep_drewN | apply keep_drew))) hk (.inl rfl)); clear hi hb hk))
        first | go_end0 | ((try simp only [Exit.inBlock, Exit.then]); refine bodyPost_ret (results_none rfl _ _ _) rfl ?_)
        exact ⟨rfl, HI2.out, HB2.out, HK2.out⟩

      rw [if_pos c9] at H
      have c9b : (x == s0_1) = true := beq_iff_eq.mpr c9
      have HW := Zm (eta _ _ H)
      clear H c9
      go_wp2
      go_quiet ((go_at_call 91; exact hlq _ _))
      go_wp2_with (first | ((with_reducible refine gate_callee (f := 120) rfl ?_); refine goesL_ (some 68) rfl rfl Tryz.func120 (by kernel_rfl) rfl #[.pointer (some ⟨g, 0, none⟩), .int .u8 59] rfl (by (try simp only [List.map_toArray, List.map_cons, List.map_nil]); first | done | rfl) ?_; (with_reducible refine (impl_reader_want.calls g s0_0 x true 59 r1 r2 r3 w0 _ ?side1 ?side2 HW.out).mono ?_); (case side1 => (with_reducible repeat (first | exact HI.out | apply IsS131.drewN | apply IsS131.drew | apply IsS131.set_1 | apply IsS131.set_2))); (case side2 => (with_reducible repeat (first | exact HB.out | apply Zbn | apply Zbd | refine Zbs ?_ hg))); rintro e w5 ⟨rfl, hi, hb, hk⟩; refine ⟨_, rfl, ?_⟩; have HI2 := Zm hi; have HB2 := Zm hb; have HK2 := Zm (KeepBut.trans (by (with_reducible repeat (first | exact HK.out | apply KeepBut.set_ | apply keep_drewN | apply keep_drew))) hk (.inl rfl)); clear hi hb hk))
      first | go_end0 | ((try simp only [Exit.inBlock, Exit.then]); refine bodyPost_ret (results_none rfl _ _ _) rfl ?_)
      exact ⟨rfl, HI2.out, HB2.out, HK2.out⟩
    rw [if_pos c1] at H
    have c1b : decide (x < (s0_0.size : Int)) = true := decide_eq_true c1
    by_cases c2 : x < wrap64 (s0_1 + 20)
    rotate_left
    · rw [if_neg c2] at H
      have c2b : decide (x < wrap64 (s0_1 + 20)) = false := decide_eq_false c2
      have c2c : decide (x < IntKind.i64.wrap (s0_1 + 20)) = false := by rw [i64_w]; exact c2b
      clear c1 c2
      by_cases c9 : x = s0_1
      rotate_left
      · rw [if_neg c9] at H
        have c9b : (x == s0_1) = false := beq_eq_false_iff_ne.mpr c9
        have HW := Zm (eta _ _ H)
        clear H
        go_wp2
        go_quiet ((go_at_call 91; exact hlq _ _))
        go_wp2_with (first | ((with_reducible refine gate_callee (f := 120) rfl ?_); refine goesL_ (some 68) rfl rfl Tryz.func120 (by kernel_rfl) rfl #[.pointer (some ⟨g, 0, none⟩), .int .u8 59] rfl (by (try simp only [List.map_toArray, List.map_cons, List.map_nil]); first | done | rfl) ?_; (with_reducible refine (impl_reader_want.calls g s0_0 x false 59 r1 r2 r3 w0 _ ?side1 ?side2 HW.out).mono ?_); (case side1 => (with_reducible repeat (first | exact HI.out | apply IsS131.drewN | apply IsS131.drew | apply IsS131.set_1 | apply IsS131.set_2))); (case side2 => (with_reducible repeat (first | exact HB.out | apply Zbn | apply Zbd | refine Zbs ?_ hg))); rintro e w5 ⟨rfl, hi, hb, hk⟩; refine ⟨_, rfl, ?_⟩; have HI2 := Zm hi; have HB2 := Zm hb; have HK2 := Zm (KeepBut.trans (by (with_reducible repeat (first | exact HK.out | apply KeepBut.set_ | apply keep_drewN | apply keep_drew))) hk (.inl rfl)); clear hi hb hk))
        first | go_end0 | ((try simp only [Exit.inBlock, Exit.then]); refine bodyPost_ret (results_none rfl _ _ _) rfl ?_)
        exact ⟨rfl, HI2.out, HB2.out, HK2.out⟩
      rw [if_pos c9] at H
      have c9b : (x == s0_1) = true := beq_iff_eq.mpr c9
      have HW := Zm (eta _ _ H)
      clear H c9
      go_wp2
      go_quiet ((go_at_call 91; exact hlq _ _))
      go_wp2_with (first | ((with_reducible refine gate_callee (f := 120) rfl ?_); refine goesL_ (some 68) rfl rfl Tryz.func120 (by kernel_rfl) rfl #[.pointer (some ⟨g, 0, none⟩), .int .u8 59] rfl (by (try simp only [List.map_toArray, List.map_cons, List.map_nil]); first | done | rfl) ?_; (with_reducible refine (impl_reader_want.calls g s0_0 x true 59 r1 r2 r3 w0 _ ?side1 ?side2 HW.out).mono ?_); (case side1 => (with_reducible repeat (first | exact HI.out | apply IsS131.drewN | apply IsS131.drew | apply IsS131.set_1 | apply IsS131.set_2))); (case side2 => (with_reducible repeat (first | exact HB.out | apply Zbn | apply Zbd | refine Zbs ?_ hg))); rintro e w5 ⟨rfl, hi, hb, hk⟩; refine ⟨_, rfl, ?_⟩; have HI2 := Zm hi; have HB2 := Zm hb; have HK2 := Zm (KeepBut.trans (by (with_reducible repeat (first | exact HK.out | apply KeepBut.set_ | apply keep_drewN | apply keep_drew))) hk (.inl rfl)); clear hi hb hk))
      first | go_end0 | ((try simp only [Exit.inBlock, Exit.then]); refine bodyPost_ret (results_none rfl _ _ _) rfl ?_)
      exact ⟨rfl, HI2.out, HB2.out, HK2.out⟩
    rw [if_pos c2] at H
    have c2b : decide (x < wrap64 (s0_1 + 20)) = true := decide_eq_true c2
    have c2c : decide (x < IntKind.i64.wrap (s0_1 + 20)) = true := by rw [i64_w]; exact c2b
    by_cases c3 : 0 ≤ x
    rotate_left
    · rw [if_neg c3] at H
      exact absurd H (by simp)
    rw [if_pos c3, if_pos c1] at H
    have c3b : decide (0 ≤ x) = true := decide_eq_true c3
    obtain ⟨t, ht, H⟩ := Option.bind_eq_some_iff.mp H
    have hbt := bt_at s0_0 x
    have hnq : ∀ (W : World) (n : Nat), Calls Tryz.prog 90 #[.int .u8 (bt s0_0 x), .int .i64 (wrap64 (x - s0_1))] (W.drewN n) fun e w'' => e = .returned (.bool t) ∧ ∃ m, w'' = W.drewN m := fun W n => by
     exact Calls.quiet_of ((impl_isNameByte.calls (bt s0_0 x) (wrap64 (x - s0_1)) t (W.drewN n) ht).mono fun e W' ⟨he, ⟨m, hm⟩⟩ => ⟨he, m, hm⟩)
    clear ht c2
    cases t with
    | true =>
     rw [if_pos rfl] at H; have H' := Zm H; clear H; go_wp2; go_quiet (first | (go_at_call 91; exact hlq _ _) | (go_at_call 90; with_reducible exact hnq _ _)); go_wp2; go_roundg k1
     case measure => have := HK1.out; omega
     case rel => exact ⟨wrap64 (x + 1), H', ⟨by have := HK1.out; omega⟩, ⟨by (with_reducible repeat (first | exact HI.out | apply IsS131.drewN | apply IsS131.drew | apply IsS131.set_1 | apply IsS131.set_2))⟩, ⟨by (with_reducible repeat (first | exact HB.out | apply Zbn | apply Zbd | refine Zbs ?_ hg))⟩, ⟨by (with_reducible repeat (first | exact HK.out | apply KeepBut.set_ | apply keep_drewN | apply keep_drew))⟩⟩
    | false =>
     rw [if_neg (by simp)] at H; by_cases c9 : x = s0_1; rotate_left
     · rw [if_neg c9] at H; have c9b : (x == s0_1) = false := beq_eq_false_iff_ne.mpr c9; have HW := Zm (eta _ _ H); clear H; go_wp2; go_quiet (first | (go_at_call 91; exact hlq _ _) | (go_at_call 90; with_reducible exact hnq _ _)); go_wp2_with (first | ((with_reducible refine gate_callee (f := 120) rfl ?_); refine goesL_ (some 68) rfl rfl Tryz.func120 (by kernel_rfl) rfl #[.pointer (some ⟨g, 0, none⟩), .int .u8 59] rfl (by (try simp only [List.map_toArray, List.map_cons, List.map_nil]); first | done | rfl) ?_; (with_reducible refine (impl_reader_want.calls g s0_0 x false 59 r1 r2 r3 w0 _ ?side1 ?side2 HW.out).mono ?_); (case side1 => (with_reducible repeat (first | exact HI.out | apply IsS131.drewN | apply IsS131.drew | apply IsS131.set_1 | apply IsS131.set_2))); (case side2 => (with_reducible repeat (first | exact HB.out | apply Zbn | apply Zbd | refine Zbs ?_ hg))); rintro e w5 ⟨rfl, hi, hb, hk⟩; refine ⟨_, rfl, ?_⟩; have HI2 := Zm hi; have HB2 := Zm hb; have HK2 := Zm (KeepBut.trans (by (with_reducible repeat (first | exact HK.out | apply KeepBut.set_ | apply keep_drewN | apply keep_drew))) hk (.inl rfl)); clear hi hb hk))
       first | go_end0 | ((try simp only [Exit.inBlock, Exit.then]); refine bodyPost_ret (results_none rfl _ _ _) rfl ?_)
       exact ⟨rfl, HI2.out, HB2.out, HK2.out⟩
     rw [if_pos c9] at H; have c9b : (x == s0_1) = true := beq_iff_eq.mpr c9; have HW := Zm (eta _ _ H); clear H c9; go_wp2; go_quiet (first | (go_at_call 91; exact hlq _ _) | (go_at_call 90; with_reducible exact hnq _ _)); go_wp2_with (first | ((with_reducible refine gate_callee (f := 120) rfl ?_); refine goesL_ (some 68) rfl rfl Tryz.func120 (by kernel_rfl) rfl #[.pointer (some ⟨g, 0, none⟩), .int .u8 59] rfl (by (try simp only [List.map_toArray, List.map_cons, List.map_nil]); first | done | rfl) ?_; (with_reducible refine (impl_reader_want.calls g s0_0 x true 59 r1 r2 r3 w0 _ ?side1 ?side2 HW.out).mono ?_); (case side1 => (with_reducible repeat (first | exact HI.out | apply IsS131.drewN | apply IsS131.drew | apply IsS131.set_1 | apply IsS131.set_2))); (case side2 => (with_reducible repeat (first | exact HB.out | apply Zbn | apply Zbd | refine Zbs ?_ hg))); rintro e w5 ⟨rfl, hi, hb, hk⟩; refine ⟨_, rfl, ?_⟩; have HI2 := Zm hi; have HB2 := Zm hb; have HK2 := Zm (KeepBut.trans (by (with_reducible repeat (first | exact HK.out | apply KeepBut.set_ | apply keep_drewN | apply keep_drew))) hk (.inl rfl)); clear hi hb hk))
     first | go_end0 | ((try simp only [Exit.inBlock, Exit.then]); refine bodyPost_ret (results_none rfl _ _ _) rfl ?_)
     exact ⟨rfl, HI2.out, HB2.out, HK2.out⟩
/-! ### impl_reader_kind: function 92 -/
def impl_reader_kind.f (k : Nat) (s0_0 : ByteArray) (s0_1 : Int) (s0_2 : Bool) : Option (ByteArray × ByteArray × Int × Bool) := (impl_reader_take.f s0_0 s0_1 s0_2 91).bind fun bt322 => ((impl_reader_take.f bt322.2.1 bt322.2.2.1 bt322.2.2.2 73).bind fun bt326 => (if bt326.1 = true then (if bt326.2.2.2 = true then (some ((⟨#[]⟩ : ByteArray), bt326.2.1, bt326.2.2.1, bt326.2.2.2)) else (if 0 ≤ s0_1 then (if s0_1 ≤ bt326.2.2.1 then (if bt326.2.2.1 ≤ (bt326.2.1.size : Int) then (some (bt326.2.1.extract (s0_1 : Int).toNat (bt326.2.2.1 : Int).toNat, bt326.2.1, bt326.2.2.1, bt326.2.2.2)) else (none)) else (none)) else (none))) else ((impl_reader_take.f bt326.2.1 bt326.2.2.1 bt326.2.2.2 76).bind fun bt330 => (if bt330.1 = true then ((impl_reader_name.f k bt330.2.1 bt330.2.2.1 bt330.2.2.2).bind fun bt334 => (if bt334.2.2 = true then (some ((⟨#[]⟩ : ByteArray), bt334.1, bt334.2.1, bt334.2.2)) else (if 0 ≤ s0_1 then (if s0_1 ≤ bt334.2.1 then (if bt334.2.1 ≤ (bt334.1.size : Int) then (some (bt334.1.extract (s0_1 : Int).toNat (bt334.2.1 : Int).toNat, bt334.1, bt334.2.1, bt334.2.2)) else (none)) else (none)) else (none)))) else (some ((⟨#[]⟩ : ByteArray), bt330.2.1, bt330.2.2.1, true))))))
theorem impl_reader_kind.mono : ∀ a0 a1 a2 k, LeO (impl_reader_kind.f k a0 a1 a2) (impl_reader_kind.f (k + 1) a0 a1 a2) := by
 intro a0 a1 a2 k; unfold impl_reader_kind.f
 repeat' first
  | (with_reducible exact impl_reader_name.mono _ _ _ _)
  | (with_reducible exact LeO.refl _)
  | (with_reducible exact LeO.none _)
  | (with_reducible refine LeO.ite ?_ ?_)
  | (with_reducible refine LeO.bind ?_ (fun _ => ?_))
  | exact impl_reader_name.mono _ _ _ _
  | exact LeO.none _
  | refine LeO.ite ?_ ?_
  | refine LeO.bind ?_ (fun _ => ?_)
set_option maxHeartbeats 8000000 in
set_option maxRecDepth 100000 in
theorem impl_reader_kind.calls (k : Nat) (g : Nat) (s0_0 : ByteArray) (s0_1 : Int) (s0_2 : Bool) (r1 : ByteArray) (r2 : ByteArray) (r3 : Int) (r4 : Bool) (w0 w : World) (hI : IsS131 w0 w g s0_0 s0_1 s0_2) (hB : Below w0.heap.size w0 w) (h : impl_reader_kind.f k s0_0 s0_1 s0_2 = some (r1, r2, r3, r4)) :
 Calls Tryz.prog 92 #[.pointer (some ⟨g, 0, none⟩)] w fun e w' => e = .returned (.string r1) ∧ IsS131 w0 w' g r2 r3 r4 ∧ Below w0.heap.size w0 w' ∧ KeepBut w w' g none := by
 have HI0 := Zm hI; have HK := Zm (KeepBut.refl w g none); have HL := Zm hB.size; clear hI; have HW0 := Zm hB.size; have HB := Zm hB; clear hB; have H : ((impl_reader_take.f s0_0 s0_1 s0_2 91).bind fun bt322 => ((impl_reader_take.f bt322.2.1 bt322.2.2.1 bt322.2.2.2 73).bind fun bt326 => (if bt326.1 = true then (if bt326.2.2.2 = true then (some ((⟨#[]⟩ : ByteArray), bt326.2.1, bt326.2.2.1, bt326.2.2.2)) else (if 0 ≤ s0_1 then (if s0_1 ≤ bt326.2.2.1 then (if bt326.2.2.1 ≤ (bt326.2.1.size : Int) then (some (bt326.2.1.extract (s0_1 : Int).toNat (bt326.2.2.1 : Int).toNat, bt326.2.1, bt326.2.2.1, bt326.2.2.2)) else (none)) else (none)) else (none))) else ((impl_reader_take.f bt326.2.1 bt326.2.2.1 bt326.2.2.2 76).bind fun bt330 => (if bt330.1 = true then ((impl_reader_name.f k bt330.2.1 bt330.2.2.1 bt330.2.2.2).bind fun bt334 => (if bt334.2.2 = true then (some ((⟨#[]⟩ : ByteArray), bt334.1, bt334.2.1, bt334.2.2)) else (if 0 ≤ s0_1 then (if s0_1 ≤ bt334.2.1 then (if bt334.2.1 ≤ (bt334.1.size : Int) then (some (bt334.1.extract (s0_1 : Int).toNat (bt334.2.1 : Int).toNat, bt334.1, bt334.2.1, bt334.2.2)) else (none)) else (none)) else (none)))) else (some ((⟨#[]⟩ : ByteArray), bt330.2.1, bt330.2.2.1, true))))))) = some (r1, r2, r3, r4) := h; clear h; replace H := Option.bind_eq_some_iff.mp H; obtain ⟨⟨t322, t323, t324, t325⟩, A20, H⟩ := H; replace H : ((impl_reader_take.f t323 t324 t325 73).bind fun bt326 => (if bt326.1 = true then (if bt326.2.2.2 = true then (some ((⟨#[]⟩ : ByteArray), bt326.2.1, bt326.2.2.1, bt326.2.2.2)) else (if 0 ≤ s0_1 then (if s0_1 ≤ bt326.2.2.1 then (if bt326.2.2.1 ≤ (bt326.2.1.size : Int) then (some (bt326.2.1.extract (s0_1 : Int).toNat (bt326.2.2.1 : Int).toNat, bt326.2.1, bt326.2.2.1, bt326.2.2.2)) else (none)) else (none)) else (none))) else ((impl_reader_take.f bt326.2.1 bt326.2.2.1 bt326.2.2.2 76).bind fun bt330 => (if bt330.1 = true then ((impl_reader_name.f k bt330.2.1 bt330.2.2.1 bt330.2.2.2).bind fun bt334 => (if bt334.2.2 = true then (some ((⟨#[]⟩ : ByteArray), bt334.1, bt334.2.1, bt334.2.2)) else (if 0 ≤ s0_1 then (if s0_1 ≤ bt334.2.1 then (if bt334.2.1 ≤ (bt334.1.size : Int) then (some (bt334.1.extract (s0_1 : Int).toNat (bt334.2.1 : Int).toNat, bt334.1, bt334.2.1, bt334.2.2)) else (none)) else (none)) else (none)))) else (some ((⟨#[]⟩ : ByteArray), bt330.2.1, bt330.2.2.1, true)))))) = some (r1, r2, r3, r4) := H; have A2 := Zm A20; clear A20; replace H := Option.bind_eq_some_iff.mp H; obtain ⟨⟨t326, t327, t328, t329⟩, A30, H⟩ := H; replace H : (if t326 = true then (if t329 = true then (some ((⟨#[]⟩ : ByteArray), t327, t328, t329)) else (if 0 ≤ s0_1 then (if s0_1 ≤ t328 then (if t328 ≤ (t327.size : Int) then (some (t327.extract (s0_1 : Int).toNat (t328 : Int).toNat, t327, t328, t329)) else (none)) else (none)) else (none))) else ((impl_reader_take.f t327 t328 t329 76).bind fun bt330 => (if bt330.1 = true then ((impl_reader_name.f k bt330.2.1 bt330.2.2.1 bt330.2.2.2).bind fun bt334 => (if bt334.2.2 = true then (some ((⟨#[]⟩ : ByteArray), bt334.1, bt334.2.1, bt334.2.2)) else (if 0 ≤ s0_1 then (if s0_1 ≤ bt334.2.1 then (if bt334.2.1 ≤ (bt334.1.size : Int) then (some (bt334.1.extract (s0_1 : Int).toNat (bt334.2.1 : Int).toNat, bt334.1, bt334.2.1, bt334.2.2)) else (none)) else (none)) else (none)))) else (some ((⟨#[]⟩ : ByteArray), bt330.2.1, bt330.2.2.1, true))))) = some (r1, r2, r3, r4) := H; have A3 := Zm A30; clear A30; by_cases c4 : t326 = true; rotate_left
 · replace c4 := Bool.eq_false_iff.mpr c4; subst c4; rw [if_neg (show ¬ (false = true) by decide)] at H; replace H := Option.bind_eq_some_iff.mp H; obtain ⟨⟨t330, t331, t332, t333⟩, A170, H⟩ := H; replace H : (if t330 = true then ((impl_reader_name.f k t331 t332 t333).bind fun bt334 => (if bt334.2.2 = true then (some ((⟨#[]⟩ : ByteArray), bt334.1, bt334.2.1, bt334.2.2)) else (if 0 ≤ s0_1 then (if s0_1 ≤ bt334.2.1 then (if bt334.2.1 ≤ (bt334.1.size : Int) then (some (bt334.1.extract (s0_1 : Int).toNat (bt334.2.1 : Int).toNat, bt334.1, bt334.2.1, bt334.2.2)) else (none)) else (none)) else (none)))) else (some ((⟨#[]⟩ : ByteArray), t331, t332, true))) = some (r1, r2, r3, r4) := H; have A17 := Zm A170; clear A170; by_cases c18 : t330 = true; rotate_left
   · replace c18 := Bool.eq_false_iff.mpr c18; subst c18; rw [if_neg (show ¬ (false = true) by decide)] at H; simp only [Option.some.injEq, Prod.mk.injEq] at H; obtain ⟨rfl, rfl, rfl, rfl⟩ := H; obtain ⟨HGz36, hgz36⟩ := HI0.out; have hcz36_0 := cellS131_0 HGz36; have hcz36_1 := cellS131_1 HGz36; have hcz36_2 := cellS131_2 HGz36; have hfz36_0 := Zkf HGz36 0; have hfz36_1 := Zkf HGz36 1; have hfz36_2 := Zkf HGz36 2; clear HGz36 hgz36; go_enter Tryz.func92, Tryz.ntmps92; go_wp2_with (first | (go_at_call 118; (first | (with_reducible refine (impl_reader_take.calls g _ _ _ _ _ _ _ _ w0 _ ?side1 ?side2 A2.out).mono ?_) | (with_reducible refine (calls_of_args ?_ (impl_reader_take.calls g _ _ _ _ _ _ _ _ w0 _ ?side1 ?side2 A2.out)).mono ?_; focus (simp [*]; done))); (case side1 => repeat (first | (with_reducible first | exact HI0.out | apply IsS131.alloc | apply IsS131.drewN | apply IsS131.drew | apply IsS131.set_0 | apply IsS131.set_1 | apply IsS131.set_2) | exact HI0.out)); (case side2 => exact bk HB.out); rintro e w37 ⟨rfl, hi, hb, hk⟩; have n0_ := (⟨Zm (KeepBut.trans (by repeat (first | (with_reducible first | exact HK.out | apply KeepBut.set_ | apply keep_drewN | apply keep_drew | apply keep_alloc) | exact HK.out)) hk (.inl rfl)), Zm (hb), Zm (hi)⟩ : _ ∧ _ ∧ _); clear HK HB HI0; obtain ⟨HK, HB, HI0⟩ := n0_; (try clear hb); (try clear hb2); (try clear hk); (try clear hi)) | (go_at_call 118; (first | (with_reducible refine (impl_reader_take.calls g _ _ _ _ _ _ _ _ w0 _ ?side1 ?side2 A3.out).mono ?_) | (with_reducible refine (calls_of_args ?_ (impl_reader_take.calls g _ _ _ _ _ _ _ _ w0 _ ?side1 ?side2 A3.out)).mono ?_; focus (simp [*]; done))); (case side1 => repeat (first | (with_reducible first | exact HI0.out | apply IsS131.alloc | apply IsS131.drewN | apply IsS131.drew | apply IsS131.set_0 | apply IsS131.set_1 | apply IsS131.set_2) | exact HI0.out)); (case side2 => exact bk HB.out); rintro e w38 ⟨rfl, hi, hb, hk⟩; have n0_ := (⟨Zm (KeepBut.trans (by repeat (first | (with_reducible first | exact HK.out | apply KeepBut.set_ | apply keep_drewN | apply keep_drew | apply keep_alloc) | exact HK.out)) hk (.inl rfl)), Zm (hb), Zm (hi)⟩ : _ ∧ _ ∧ _); clear HK HB HI0; obtain ⟨HK, HB, HI0⟩ := n0_; (try clear hb); (try clear hb2); (try clear hk); (try clear hi)) | (go_at_call 118; (first | (with_reducible refine (impl_reader_take.calls g _ _ _ _ _ _ _ _ w0 _ ?side1 ?side2 A17.out).mono ?_) | (with_reducible refine (calls_of_args ?_ (impl_reader_take.calls g _ _ _ _ _ _ _ _ w0 _ ?side1 ?side2 A17.out)).mono ?_; focus (simp [*]; done))); (case side1 => repeat (first | (with_reducible first | exact HI0.out | apply IsS131.alloc | apply IsS131.drewN | apply IsS131.drew | apply IsS131.set_0 | apply IsS131.set_1 | apply IsS131.set_2) | exact HI0.out)); (case side2 => exact bk HB.out); rintro e w39 ⟨rfl, hi, hb, hk⟩; have n0_ := (⟨Zm (KeepBut.trans (by repeat (first | (with_reducible first | exact HK.out | apply KeepBut.set_ | apply keep_drewN | apply keep_drew | apply keep_alloc) | exact HK.out)) hk (.inl rfl)), Zm (hb), Zm (hi)⟩ : _ ∧ _ ∧ _); clear HK HB HI0; obtain ⟨HK, HB, HI0⟩ := n0_; (try clear hb); (try clear hb2); (try clear hk); (try clear hi); obtain ⟨HGz40, hgz40⟩ := HI0.out; have hcz40_0 := cellS131_0 HGz40; have hcz40_1 := cellS131_1 HGz40; have hcz40_2 := cellS131_2 HGz40; have hfz40_0 := Zkf HGz40 0; have hfz40_1 := Zkf HGz40 1; have hfz40_2 := Zkf HGz40 2; clear HGz40 hgz40))
     repeat (go_quiet (first | (go_at_call 118; (first | (with_reducible refine (impl_reader_take.calls g _ _ _ _ _ _ _ _ w0 _ ?side1 ?side2 A2.out).mono ?_) | (with_reducible refine (calls_of_args ?_ (impl_reader_take.calls g _ _ _ _ _ _ _ _ w0 _ ?side1 ?side2 A2.out)).mono ?_; focus (simp [*]; done))); (case side1 => repeat (first | (with_reducible first | exact HI0.out | apply IsS131.alloc | apply IsS131.drewN | apply IsS131.drew | apply IsS131.set_0 | apply IsS131.set_1 | apply IsS131.set_2) | exact HI0.out)); (case side2 => exact bk HB.out); rintro e w37 ⟨rfl, hi, hb, hk⟩; have n0_ := (⟨Zm (KeepBut.trans (by repeat (first | (with_reducible first | exact HK.out | apply KeepBut.set_ | apply keep_drewN | apply keep_drew | apply keep_alloc) | exact HK.out)) hk (.inl rfl)), Zm (hb), Zm (hi)⟩ : _ ∧ _ ∧ _); clear HK HB HI0; obtain ⟨HK, HB, HI0⟩ := n0_; (try clear hb); (try clear hb2); (try clear hk); (try clear hi)) | (go_at_call 118; (first | (with_reducible refine (impl_reader_take.calls g _ _ _ _ _ _ _ _ w0 _ ?side1 ?side2 A3.out).mono ?_) | (with_reducible refine (calls_of_args ?_ (impl_reader_take.calls g _ _ _ _ _ _ _ _ w0 _ ?side1 ?side2 A3.out)).mono ?_; focus (simp [*]; done))); (case side1 => repeat (first | (with_reducible first | exact HI0.out | apply IsS131.alloc | apply IsS131.drewN | apply IsS131.drew | apply IsS131.set_0 | apply IsS131.set_1 | apply IsS131.set_2) | exact HI0.out)); (case side2 => exact bk HB.out); rintro e w38 ⟨rfl, hi, hb, hk⟩; have n0_ := (⟨Zm (KeepBut.trans (by repeat (first | (with_reducible first | exact HK.out | apply KeepBut.set_ | apply keep_drewN | apply keep_drew | apply keep_alloc) | exact HK.out)) hk (.inl rfl)), Zm (hb), Zm (hi)⟩ : _ ∧ _ ∧ _); clear HK HB HI0; obtain ⟨HK, HB, HI0⟩ := n0_; (try clear hb); (try clear hb2); (try clear hk); (try clear hi)) | (go_at_call 118; (first | (with_reducible refine (impl_reader_take.calls g _ _ _ _ _ _ _ _ w0 _ ?side1 ?side2 A17.out).mono ?_) | (with_reducible refine (calls_of_args ?_ (impl_reader_take.calls g _ _ _ _ _ _ _ _ w0 _ ?side1 ?side2 A17.out)).mono ?_; focus (simp [*]; done))); (case side1 => repeat (first | (with_reducible first | exact HI0.out | apply IsS131.alloc | apply IsS131.drewN | apply IsS131.drew | apply IsS131.set_0 | apply IsS131.set_1 | apply IsS131.set_2) | exact HI0.out)); (case side2 => exact bk HB.out); rintro e w39 ⟨rfl, hi, hb, hk⟩; have n0_ := (⟨Zm (KeepBut.trans (by repeat (first | (with_reducible first | exact HK.out | apply KeepBut.set_ | apply keep_drewN | apply keep_drew | apply keep_alloc) | exact HK.out)) hk (.inl rfl)), Zm (hb), Zm (hi)⟩ : _ ∧ _ ∧ _); clear HK HB HI0; obtain ⟨HK, HB, HI0⟩ := n0_; (try clear hb); (try clear hb2); (try clear hk); (try clear hi); obtain ⟨HGz40, hgz40⟩ := HI0.out; have hcz40_0 := cellS131_0 HGz40; have hcz40_1 := cellS131_1 HGz40; have hcz40_2 := cellS131_2 HGz40; have hfz40_0 := Zkf HGz40 0; have hfz40_1 := Zkf HGz40 1; have hfz40_2 := Zkf HGz40 2; clear HGz40 hgz40)); try go_wp2)
     go_ret; exact ⟨by first | rfl | (simp [*] <;> rfl), by repeat (first | (with_reducible first | exact HI0.out | apply IsS131.alloc | apply IsS131.drewN | apply IsS131.drew | apply IsS131.set_0 | apply IsS131.set_1 | apply IsS131.set_2) | exact HI0.out), by repeat (first | (with_reducible first | exact HB.out | apply Zba | apply Zbn | apply Zbd | refine Zbs ?_ (IsS131.ge HI0.out)) | exact HB.out), by repeat (first | (with_reducible first | exact HK.out | apply KeepBut.set_ | apply keep_drewN | apply keep_drew | apply keep_alloc) | exact HK.out)⟩

   subst c18
   rw [if_pos rfl] at H
   replace H := Option.bind_eq_some_iff.mp H
   obtain ⟨⟨t334, t335, t336⟩, A190, H⟩ := H
   replace H : (if t336 = true then (some ((⟨#[]⟩ : ByteArray), t334, t335, t336)) else (if 0 ≤ s0_1 then (if s0_1 ≤ t335 then (if t335 ≤ (t334.size : Int) then (some (t334.extract (s0_1 : Int).toNat (t335 : Int).toNat, t334, t335, t336)) else (none)) else (none)) else (none))) = some (r1, r2, r3, r4) := H
   have A19 := Zm A190
   clear A190
   by_cases c20 : t336 = true
   rotate_left
   · replace c20 := Bool.eq_false_iff.mpr c20
     subst c20
     rw [if_neg (show ¬ (false = true) by decide)] at H
     by_cases c27 : 0 ≤ s0_1
     rotate_left
     · rw [if_neg c27] at H
       exact absurd H (by simp)
     rw [if_pos c27] at H
     have c27b0 := eq_true c27
     have c27b1 := decide_eq_true c27
     clear c27
     by_cases c28 : s0_1 ≤ t335
     rotate_left
     · rw [if_neg c28] at H
       exact absurd H (by simp)
     rw [if_pos c28] at H
     have c28b0 := eq_true c28
     have c28b1 := decide_eq_true c28
     clear c28
     by_cases c29 : t335 ≤ (t334.size : Int)
     rotate_left
     · rw [if_neg c29] at H
       exact absurd H (by simp)
     rw [if_pos c29] at H
     have c29b0 := eq_true c29
     have c29b1 := decide_eq_true c29
     clear c29
     simp only [Option.some.injEq, Prod.mk.injEq] at H
     obtain ⟨rfl, rfl, rfl, rfl⟩ := H
     obtain ⟨HGz30, hgz30⟩ := HI0.out
     have hcz30_0 := cellS131_0 HGz30
     have hcz30_1 := cellS131_1 HGz30
     have hcz30_2 := cellS131_2 HGz30
     have hfz30_0 := Zkf HGz30 0
     have hfz30_1 := Zkf HGz30 1
     have hfz30_2 := Zkf HGz30 2
     clear HGz30 hgz30
     go_enter Tryz.func92, Tryz.ntmps92
     go_wp2_with (first | (go_at_call 118; (first | (with_reducible refine (impl_reader_take.calls g _ _ _ _ _ _ _ _ w0 _ ?side1 ?side2 A2.out).mono ?_) | (with_reducible refine (calls_of_args ?_ (impl_reader_take.calls g _ _ _ _ _ _ _ _ w0 _ ?side1 ?side2 A2.out)).mono ?_; focus (simp [*]; done))); (case side1 => repeat (first | (with_reducible first | exact HI0.out | apply IsS131.alloc | apply IsS131.drewN | apply IsS131.drew | apply IsS131.set_0 | apply IsS131.set_1 | apply IsS131.set_2) | exact HI0.out)); (case side2 => exact bk HB.out); rintro e w31 ⟨rfl, hi, hb, hk⟩; have n0_ := (⟨Zm (KeepBut.trans (by repeat (first | (with_reducible first | exact HK.out | apply KeepBut.set_ | apply keep_drewN | apply keep_drew | apply keep_alloc) | exact HK.out)) hk (.inl rfl)), Zm (hb), Zm (hi)⟩ : _ ∧ _ ∧ _); clear HK HB HI0; obtain ⟨HK, HB, HI0⟩ := n0_; (try clear hb); (try clear hb2); (try clear hk); (try clear hi)) | (go_at_call 118; (first | (with_reducible refine (impl_reader_take.calls g _ _ _ _ _ _ _ _ w0 _ ?side1 ?side2 A3.out).mono ?_) | (with_reducible refine (calls_of_args ?_ (impl_reader_take.calls g _ _ _ _ _ _ _ _ w0 _ ?side1 ?side2 A3.out)).mono ?_; focus (simp [*]; done))); (case side1 => repeat (first | (with_reducible first | exact HI0.out | apply IsS131.alloc | apply IsS131.drewN | apply IsS131.drew | apply IsS131.set_0 | apply IsS131.set_1 | apply IsS131.set_2) | exact HI0.out)); (case side2 => exact bk HB.out); rintro e w32 ⟨rfl, hi, hb, hk⟩; have n0_ := (⟨Zm (KeepBut.trans (by repeat (first | (with_reducible first | exact HK.out | apply KeepBut.set_ | apply keep_drewN | apply keep_drew | apply keep_alloc) | exact HK.out)) hk (.inl rfl)), Zm (hb), Zm (hi)⟩ : _ ∧ _ ∧ _); clear HK HB HI0; obtain ⟨HK, HB, HI0⟩ := n0_; (try clear hb); (try clear hb2); (try clear hk); (try clear hi)) | (go_at_call 118; (first | (with_reducible refine (impl_reader_take.calls g _ _ _ _ _ _ _ _ w0 _ ?side1 ?side2 A17.out).mono ?_) | (with_reducible refine (calls_of_args ?_ (impl_reader_take.calls g _ _ _ _ _ _ _ _ w0 _ ?side1 ?side2 A17.out)).mono ?_; focus (simp [*]; done))); (case side1 => repeat (first | (with_reducible first | exact HI0.out | apply IsS131.alloc | apply IsS131.drewN | apply IsS131.drew | apply IsS131.set_0 | apply IsS131.set_1 | apply IsS131.set_2) | exact HI0.out)); (case side2 => exact bk HB.out); rintro e w33 ⟨rfl, hi, hb, hk⟩; have n0_ := (⟨Zm (KeepBut.trans (by repeat (first | (with_reducible first | exact HK.out | apply KeepBut.set_ | apply keep_drewN | apply keep_drew | apply keep_alloc) | exact HK.out)) hk (.inl rfl)), Zm (hb), Zm (hi)⟩ : _ ∧ _ ∧ _); clear HK HB HI0; obtain ⟨HK, HB, HI0⟩ := n0_; (try clear hb); (try clear hb2); (try clear hk); (try clear hi)) | (go_at_call 119; (first | (with_reducible refine (impl_reader_name.calls _ g _ _ _ _ _ _ w0 _ ?side1 ?side2 A19.out).mono ?_) | (with_reducible refine (calls_of_args ?_ (impl_reader_name.calls _ g _ _ _ _ _ _ w0 _ ?side1 ?side2 A19.out)).mono ?_; focus (simp [*]; done))); (case side1 => repeat (first | (with_reducible first | exact HI0.out | apply IsS131.alloc | apply IsS131.drewN | apply IsS131.drew | apply IsS131.set_0 | apply IsS131.set_1 | apply IsS131.set_2) | exact HI0.out)); (case side2 => exact bk HB.out); rintro e w34 ⟨rfl, hi, hb, hk⟩; have n0_ := (⟨Zm (KeepBut.trans (by repeat (first | (with_reducible first | exact HK.out | apply KeepBut.set_ | apply keep_drewN | apply keep_drew | apply keep_alloc) | exact HK.out)) hk (.inl rfl)), Zm (hb), Zm (hi)⟩ : _ ∧ _ ∧ _); clear HK HB HI0; obtain ⟨HK, HB, HI0⟩ := n0_; (try clear hb); (try clear hb2); (try clear hk); (try clear hi); obtain ⟨HGz35, hgz35⟩ := HI0.out; have hcz35_0 := cellS131_0 HGz35; have hcz35_1 := cellS131_1 HGz35; have hcz35_2 := cellS131_2 HGz35; have hfz35_0 := Zkf HGz35 0; have hfz35_1 := Zkf HGz35 1; have hfz35_2 := Zkf HGz35 2; clear HGz35 hgz35))
     repeat (go_quiet (first | (go_at_call 118; (first | (with_reducible refine (impl_reader_take.calls g _ _ _ _ _ _ _ _ w0 _ ?side1 ?side2 A2.out).mono ?_) | (with_reducible refine (calls_of_args ?_ (impl_reader_take.calls g _ _ _ _ _ _ _ _ w0 _ ?side1 ?side2 A2.out)).mono ?_; focus (simp [*]; done))); (case side1 => repeat (first | (with_reducible first | exact HI0.out | apply IsS131.alloc | apply IsS131.drewN | apply IsS131.drew | apply IsS131.set_0 | apply IsS131.set_1 | apply IsS131.set_2) | exact HI0.out)); (case side2 => exact bk HB.out); rintro e w31 ⟨rfl, hi, hb, hk⟩; have n0_ := (⟨Zm (KeepBut.trans (by repeat (first | (with_reducible first | exact HK.out | apply KeepBut.set_ | apply keep_drewN | apply keep_drew | apply keep_alloc) | exact HK.out)) hk (.inl rfl)), Zm (hb), Zm (hi)⟩ : _ ∧ _ ∧ _); clear HK HB HI0; obtain ⟨HK, HB, HI0⟩ := n0_; (try clear hb); (try clear hb2); (try clear hk); (try clear hi)) | (go_at_call 118; (first | (with_reducible refine (impl_reader_take.calls g _ _ _ _ _ _ _ _ w0 _ ?side1 ?side2 A3.out).mono ?_) | (with_reducible refine (calls_of_args ?_ (impl_reader_take.calls g _ _ _ _ _ _ _ _ w0 _ ?side1 ?side2 A3.out)).mono ?_; focus (simp [*]; done))); (case side1 => repeat (first | (with_reducible first | exact HI0.out | apply IsS131.alloc | apply IsS131.drewN | apply IsS131.drew | apply IsS131.set_0 | apply IsS131.set_1 | apply IsS131.set_2) | exact HI0.out)); (case side2 => exact bk HB.out); rintro e w32 ⟨rfl, hi, hb, hk⟩; have n0_ := (⟨Zm (KeepBut.trans (by repeat (first | (with_reducible first | exact HK.out | apply KeepBut.set_ | apply keep_drewN | apply keep_drew | apply keep_alloc) | exact HK.out)) hk (.inl rfl)), Zm (hb), Zm (hi)⟩ : _ ∧ _ ∧ _); clear HK HB HI0; obtain ⟨HK, HB, HI0⟩ := n0_; (try clear hb); (try clear hb2); (try clear hk); (try clear hi)) | (go_at_call 118; (first | (with_reducible refine (impl_reader_take.calls g _ _ _ _ _ _ _ _ w0 _ ?side1 ?side2 A17.out).mono ?_) | (with_reducible refine (calls_of_args ?_ (impl_reader_take.calls g _ _ _ _ _ _ _ _ w0 _ ?side1 ?side2 A17.out)).mono ?_; focus (simp [*]; done))); (case side1 => repeat (first | (with_reducible first | exact HI0.out | apply IsS131.alloc | apply IsS131.drewN | apply IsS131.drew | apply IsS131.set_0 | apply IsS131.set_1 | apply IsS131.set_2) | exact HI0.out)); (case side2 => exact bk HB.out); rintro e w33 ⟨rfl, hi, hb, hk⟩; have n0_ := (⟨Zm (KeepBut.trans (by repeat (first | (with_reducible first | exact HK.out | apply KeepBut.set_ | apply keep_drewN | apply keep_drew | apply keep_alloc) | exact HK.out)) hk (.inl rfl)), Zm (hb), Zm (hi)⟩ : _ ∧ _ ∧ _); clear HK HB HI0; obtain ⟨HK, HB, HI0⟩ := n0_; (try clear hb); (try clear hb2); (try clear hk); (try clear hi)) | (go_at_call 119; (first | (with_reducible refine (impl_reader_name.calls _ g _ _ _ _ _ _ w0 _ ?side1 ?side2 A19.out).mono ?_) | (with_reducible refine (calls_of_args ?_ (impl_reader_name.calls _ g _ _ _ _ _ _ w0 _ ?side1 ?side2 A19.out)).mono ?_; focus (simp [*]; done))); (case side1 => repeat (first | (with_reducible first | exact HI0.out | apply IsS131.alloc | apply IsS131.drewN | apply IsS131.drew | apply IsS131.set_0 | apply IsS131.set_1 | apply IsS131.set_2) | exact HI0.out)); (case side2 => exact bk HB.out); rintro e w34 ⟨rfl, hi, hb, hk⟩; have n0_ := (⟨Zm (KeepBut.trans (by repeat (first | (with_reducible first | exact HK.out | apply KeepBut.set_ | apply keep_drewN | apply keep_drew | apply keep_alloc) | exact HK.out)) hk (.inl rfl)), Zm (hb), Zm (hi)⟩ : _ ∧ _ ∧ _); clear HK HB HI0; obtain ⟨HK, HB, HI0⟩ := n0_; (try clear hb); (try clear hb2); (try clear hk); (try clear hi); obtain ⟨HGz35, hgz35⟩ := HI0.out; have hcz35_0 := cellS131_0 HGz35; have hcz35_1 := cellS131_1 HGz35; have hcz35_2 := cellS131_2 HGz35; have hfz35_0 := Zkf HGz35 0; have hfz35_1 := Zkf HGz35 1; have hfz35_2 := Zkf HGz35 2; clear HGz35 hgz35)); try go_wp2)
     go_ret
     exact ⟨by first | rfl | (simp [*] <;> rfl), by repeat (first | (with_reducible first | exact HI0.out | apply IsS131.alloc | apply IsS131.drewN | apply IsS131.drew | apply IsS131.set_0 | apply IsS131.set_1 | apply IsS131.set_2) | exact HI0.out), by exact bk HB.out, by repeat (first | (with_reducible first | exact HK.out | apply KeepBut.set_ | apply keep_drewN | apply keep_drew | apply keep_alloc) | exact HK.out)⟩
   subst c20
   rw [if_pos rfl] at H
   simp only [Option.some.injEq, Prod.mk.injEq] at H
   obtain ⟨rfl, rfl, rfl, rfl⟩ := H
   obtain ⟨HGz21, hgz21⟩ := HI0.out
   have hcz21_0 := cellS131_0 HGz21
   have hcz21_1 := cellS131_1 HGz21
   have hcz21_2 := cellS131_2 HGz21
   have hfz21_0 := Zkf HGz21 0
   have hfz21_1 := Zkf HGz21 1
   have hfz21_2 := Zkf HGz21 2
   clear HGz21 hgz21
   go_enter Tryz.func92, Tryz.ntmps92
   go_wp2_with (first | (go_at_call 118; (first | (with_reducible refine (impl_reader_take.calls g _ _ _ _ _ _ _ _ w0 _ ?side1 ?side2 A2.out).mono ?_) | (with_reducible refine (calls_of_args ?_ (impl_reader_take.calls g _ _ _ _ _ _ _ _ w0 _ ?side1 ?side2 A2.out)).mono ?_; focus (simp [*]; done))); (case side1 => repeat (first | (with_reducible first | exact HI0.out | apply IsS131.alloc | apply IsS131.drewN | apply IsS131.drew | apply IsS131.set_0 | apply IsS131.set_1 | apply IsS131.set_2) | exact HI0.out)); (case side2 => exact bk HB.out); rintro e w22 ⟨rfl, hi, hb, hk⟩; have n0_ := (⟨Zm (KeepBut.trans (by repeat (first | (with_reducible first | exact HK.out | apply KeepBut.set_ | apply keep_drewN | apply keep_drew | apply keep_alloc) | exact HK.out)) hk (.inl rfl)), Zm (hb), Zm (hi)⟩ : _ ∧ _ ∧ _); clear HK HB HI0; obtain ⟨HK, HB, HI0⟩ := n0_; (try clear hb); (try clear hb2); (try clear hk); (try clear hi)) | (go_at_call 118; (first | (with_reducible refine (impl_reader_take.calls g _ _ _ _ _ _ _ _ w0 _ ?side1 ?side2 A3.out).mono ?_) | (with_reducible refine (calls_of_args ?_ (impl_reader_take.calls g _ _ _ _ _ _ _ _ w0 _ ?side1 ?side2 A3.out)).mono ?_; focus (simp [*]; done))); (case side1 => repeat (first | (with_reducible first | exact HI0.out | apply IsS131.alloc | apply IsS131.drewN | apply IsS131.drew | apply IsS131.set_0 | apply IsS131.set_1 | apply IsS131.set_2) | exact HI0.out)); (case side2 => exact bk HB.out); rintro e w23 ⟨rfl, hi, hb, hk⟩; have n0_ := (⟨Zm (KeepBut.trans (by repeat (first | (with_reducible first | exact HK.out | apply KeepBut.set_ | apply keep_drewN | apply keep_drew | apply keep_alloc) | exact HK.out)) hk (.inl rfl)), Zm (hb), Zm (hi)⟩ : _ ∧ _ ∧ _); clear HK HB HI0; obtain ⟨HK, HB, HI0⟩ := n0_; (try clear hb); (try clear hb2); (try clear hk); (try clear hi)) | (go_at_call 118; (first | (with_reducible refine (impl_reader_take.calls g _ _ _ _ _ _ _ _ w0 _ ?side1 ?side2 A17.out).mono ?_) | (with_reducible refine (calls_of_args ?_ (impl_reader_take.calls g _ _ _ _ _ _ _ _ w0 _ ?side1 ?side2 A17.out)).mono ?_; focus (simp [*]; done))); (case side1 => repeat (first | (with_reducible first | exact HI0.out | apply IsS131.alloc | apply IsS131.drewN | apply IsS131.drew | apply IsS131.set_0 | apply IsS131.set_1 | apply IsS131.set_2) | exact HI0.out)); (case side2 => exact bk HB.out); rintro e w24 ⟨rfl, hi, hb, hk⟩; have n0_ := (⟨Zm (KeepBut.trans (by repeat (first | (with_reducible first | exact HK.out | apply KeepBut.set_ | apply keep_drewN | apply keep_drew | apply keep_alloc) | exact HK.out)) hk (.inl rfl)), Zm (hb), Zm (hi)⟩ : _ ∧ _ ∧ _); clear HK HB HI0; obtain ⟨HK, HB, HI0⟩ := n0_; (try clear hb); (try clear hb2); (try clear hk); (try clear hi)) | (go_at_call 119; (first | (with_reducible refine (impl_reader_name.calls _ g _ _ _ _ _ _ w0 _ ?side1 ?side2 A19.out).mono ?_) | (with_reducible refine (calls_of_args ?_ (impl_reader_name.calls _ g _ _ _ _ _ _ w0 _ ?side1 ?side2 A19.out)).mono ?_; focus (simp [*]; done))); (case side1 => repeat (first | (with_reducible first | exact HI0.out | apply IsS131.alloc | apply IsS131.drewN | apply IsS131.drew | apply IsS131.set_0 | apply IsS131.set_1 | apply IsS131.set_2) | exact HI0.out)); (case side2 => exact bk HB.out); rintro e w25 ⟨rfl, hi, hb, hk⟩; have n0_ := (⟨Zm (KeepBut.trans (by repeat (first | (with_reducible first | exact HK.out | apply KeepBut.set_ | apply keep_drewN | apply keep_drew | apply keep_alloc) | exact HK.out)) hk (.inl rfl)), Zm (hb), Zm (hi)⟩ : _ ∧ _ ∧ _); clear HK HB HI0; obtain ⟨HK, HB, HI0⟩ := n0_; (try clear hb); (try clear hb2); (try clear hk); (try clear hi); obtain ⟨HGz26, hgz26⟩ := HI0.out; have hcz26_0 := cellS131_0 HGz26; have hcz26_1 := cellS131_1 HGz26; have hcz26_2 := cellS131_2 HGz26; have hfz26_0 := Zkf HGz26 0; have hfz26_1 := Zkf HGz26 1; have hfz26_2 := Zkf HGz26 2; clear HGz26 hgz26))
   repeat (go_quiet (first | (go_at_call 118; (first | (with_reducible refine (impl_reader_take.calls g _ _ _ _ _ _ _ _ w0 _ ?side1 ?side2 A2.out).mono ?_) | (with_reducible refine (calls_of_args ?_ (impl_reader_take.calls g _ _ _ _ _ _ _ _ w0 _ ?side1 ?side2 A2.out)).mono ?_; focus (simp [*]; done))); (case side1 => repeat (first | (with_reducible first | exact HI0.out | apply IsS131.alloc | apply IsS131.drewN | apply IsS131.drew | apply IsS131.set_0 | apply IsS131.set_1 | apply IsS131.set_2) | exact HI0.out)); (case side2 => exact bk HB.out); rintro e w22 ⟨rfl, hi, hb, hk⟩; have n0_ := (⟨Zm (KeepBut.trans (by repeat (first | (with_reducible first | exact HK.out | apply KeepBut.set_ | apply keep_drewN | apply keep_drew | apply keep_alloc) | exact HK.out)) hk (.inl rfl)), Zm (hb), Zm (hi)⟩ : _ ∧ _ ∧ _); clear HK HB HI0; obtain ⟨HK, HB, HI0⟩ := n0_; (try clear hb); (try clear hb2); (try clear hk); (try clear hi)) | (go_at_call 118; (first | (with_reducible refine (impl_reader_take.calls g _ _ _ _ _ _ _ _ w0 _ ?side1 ?side2 A3.out).mono ?_) | (with_reducible refine (calls_of_args ?_ (impl_reader_take.calls g _ _ _ _ _ _ _ _ w0 _ ?side1 ?side2 A3.out)).mono ?_; focus (simp [*]; done))); (case side1 => repeat (first | (with_reducible first | exact HI0.out | apply IsS131.alloc | apply IsS131.drewN | apply IsS131.drew | apply IsS131.set_0 | apply IsS131.set_1 | apply IsS131.set_2) | exact HI0.out)); (case side2 => exact bk HB.out); rintro e w23 ⟨rfl, hi, hb, hk⟩; have n0_ := (⟨Zm (KeepBut.trans (by repeat (first | (with_reducible first | exact HK.out | apply KeepBut.set_ | apply keep_drewN | apply keep_drew | apply keep_alloc) | exact HK.out)) hk (.inl rfl)), Zm (hb), Zm (hi)⟩ : _ ∧ _ ∧ _); clear HK HB HI0; obtain ⟨HK, HB, HI0⟩ := n0_; (try clear hb); (try clear hb2); (try clear hk); (try clear hi)) | (go_at_call 118; (first | (with_reducible refine (impl_reader_take.calls g _ _ _ _ _ _ _ _ w0 _ ?side1 ?side2 A17.out).mono ?_) | (with_reducible refine (calls_of_args ?_ (impl_reader_take.calls g _ _ _ _ _ _ _ _ w0 _ ?side1 ?side2 A17.out)).mono ?_; focus (simp [*]; done))); (case side1 => repeat (first | (with_reducible first | exact HI0.out | apply IsS131.alloc | apply IsS131.drewN | apply IsS131.drew | apply IsS131.set_0 | apply IsS131.set_1 | apply IsS131.set_2) | exact HI0.out)); (case side2 => exact bk HB.out); rintro e w24 ⟨rfl, hi, hb, hk⟩; have n0_ := (⟨Zm (KeepBut.trans (by repeat (first | (with_reducible first | exact HK.out | apply KeepBut.set_ | apply keep_drewN | apply keep_drew | apply keep_alloc) | exact HK.out)) hk (.inl rfl)), Zm (hb), Zm (hi)⟩ : _ ∧ _ ∧ _); clear HK HB HI0; obtain ⟨HK, HB, HI0⟩ := n0_; (try clear hb); (try clear hb2); (try clear hk); (try clear hi)) | (go_at_call 119; (first | (with_reducible refine (impl_reader_name.calls _ g _ _ _ _ _ _ w0 _ ?side1 ?side2 A19.out).mono ?_) | (with_reducible refine (calls_of_args ?_ (impl_reader_name.calls _ g _ _ _ _ _ _ w0 _ ?side1 ?side2 A19.out)).mono ?_; focus (simp [*]; done))); (case side1 => repeat (first | (with_reducible first | exact HI0.out | apply IsS131.alloc | apply IsS131.drewN | apply IsS131.drew | apply IsS131.set_0 | apply IsS131.set_1 | apply IsS131.set_2) | exact HI0.out)); (case side2 => exact bk HB.out); rintro e w25 ⟨rfl, hi, hb, hk⟩; have n0_ := (⟨Zm (KeepBut.trans (by repeat (first | (with_reducible first | exact HK.out | apply KeepBut.set_ | apply keep_drewN | apply keep_drew | apply keep_alloc) | exact HK.out)) hk (.inl rfl)), Zm (hb), Zm (hi)⟩ : _ ∧ _ ∧ _); clear HK HB HI0; obtain ⟨HK, HB, HI0⟩ := n0_; (try clear hb); (try clear hb2); (try clear hk); (try clear hi); obtain ⟨HGz26, hgz26⟩ := HI0.out; have hcz26_0 := cellS131_0 HGz26; have hcz26_1 := cellS131_1 HGz26; have hcz26_2 := cellS131_2 HGz26; have hfz26_0 := Zkf HGz26 0; have hfz26_1 := Zkf HGz26 1; have hfz26_2 := Zkf HGz26 2; clear HGz26 hgz26)); try go_wp2)
   go_ret
   exact ⟨by first | rfl | (simp [*] <;> rfl), by repeat (first | (with_reducible first | exact HI0.out | apply IsS131.alloc | apply IsS131.drewN | apply IsS131.drew | apply IsS131.set_0 | apply IsS131.set_1 | apply IsS131.set_2) | exact HI0.out), by exact bk HB.out, by repeat (first | (with_reducible first | exact HK.out | apply KeepBut.set_ | apply keep_drewN | apply keep_drew | apply keep_alloc) | exact HK.out)⟩
 subst c4
 rw [if_pos rfl] at H
 by_cases c5 : t329 = true
 rotate_left
 · replace c5 := Bool.eq_false_iff.mpr c5
   subst c5
   rw [if_neg (show ¬ (false = true) by decide)] at H
   by_cases c10 : 0 ≤ s0_1
   rotate_left
   · rw [if_neg c10] at H
     exact absurd H (by simp)
   rw [if_pos c10] at H
   have c10b0 := eq_true c10
   have c10b1 := decide_eq_true c10
   clear c10
   by_cases c11 : s0_1 ≤ t328
   rotate_left
   · rw [if_neg c11] at H
     exact absurd H (by simp)
   rw [if_pos c11] at H
   have c11b0 := eq_true c11
   have c11b1 := decide_eq_true c11
   clear c11
   by_cases c12 : t328 ≤ (t327.size : Int)
   rotate_left
   · rw [if_neg c12] at H
     exact absurd H (by simp)
   rw [if_pos c12] at H
   have c12b0 := eq_true c12
   have c12b1 := decide_eq_true c12
   clear c12
   simp only [Option.some.injEq, Prod.mk.injEq] at H
   obtain ⟨rfl, rfl, rfl, rfl⟩ := H
   obtain ⟨HGz13, hgz13⟩ := HI0.out
   have hcz13_0 := cellS131_0 HGz13
   have hcz13_1 := cellS131_1 HGz13
   have hcz13_2 := cellS131_2 HGz13
   have hfz13_0 := Zkf HGz13 0
   have hfz13_1 := Zkf HGz13 1
   have hfz13_2 := Zkf HGz13 2
   clear HGz13 hgz13
   go_enter Tryz.func92, Tryz.ntmps92
   go_wp2_with (first | (go_at_call 118; (first | (with_reducible refine (impl_reader_take.calls g _ _ _ _ _ _ _ _ w0 _ ?side1 ?side2 A2.out).mono ?_) | (with_reducible refine (calls_of_args ?_ (impl_reader_take.calls g _ _ _ _ _ _ _ _ w0 _ ?side1 ?side2 A2.out)).mono ?_; focus (simp [*]; done))); (case side1 => repeat (first | (with_reducible first | exact HI0.out | apply IsS131.alloc | apply IsS131.drewN | apply IsS131.drew | apply IsS131.set_0 | apply IsS131.set_1 | apply IsS131.set_2) | exact HI0.out)); (case side2 => exact bk HB.out); rintro e w14 ⟨rfl, hi, hb, hk⟩; have n0_ := (⟨Zm (KeepBut.trans (by repeat (first | (with_reducible first | exact HK.out | apply KeepBut.set_ | apply keep_drewN | apply keep_drew | apply keep_alloc) | exact HK.out)) hk (.inl rfl)), Zm (hb), Zm (hi)⟩ : _ ∧ _ ∧ _); clear HK HB HI0; obtain ⟨HK, HB, HI0⟩ := n0_; (try clear hb); (try clear hb2); (try clear hk); (try clear hi)) | (go_at_call 118; (first | (with_reducible refine (impl_reader_take.calls g _ _ _ _ _ _ _ _ w0 _ ?side1 ?side2 A3.out).mono ?_) | (with_reducible refine (calls_of_args ?_ (impl_reader_take.calls g _ _ _ _ _ _ _ _ w0 _ ?side1 ?side2 A3.out)).mono ?_; focus (simp [*]; done))); (case side1 => repeat (first | (with_reducible first | exact HI0.out | apply IsS131.alloc | apply IsS131.drewN | apply IsS131.drew | apply IsS131.set_0 | apply IsS131.set_1 | apply IsS131.set_2) | exact HI0.out)); (case side2 => exact bk HB.out); rintro e w15 ⟨rfl, hi, hb, hk⟩; have n0_ := (⟨Zm (KeepBut.trans (by repeat (first | (with_reducible first | exact HK.out | apply KeepBut.set_ | apply keep_drewN | apply keep_drew | apply keep_alloc) | exact HK.out)) hk (.inl rfl)), Zm (hb), Zm (hi)⟩ : _ ∧ _ ∧ _); clear HK HB HI0; obtain ⟨HK, HB, HI0⟩ := n0_; (try clear hb); (try clear hb2); (try clear hk); (try clear hi); obtain ⟨HGz16, hgz16⟩ := HI0.out; have hcz16_0 := cellS131_0 HGz16; have hcz16_1 := cellS131_1 HGz16; have hcz16_2 := cellS131_2 HGz16; have hfz16_0 := Zkf HGz16 0; have hfz16_1 := Zkf HGz16 1; have hfz16_2 := Zkf HGz16 2; clear HGz16 hgz16))
   repeat (go_quiet (first | (go_at_call 118; (first | (with_reducible refine (impl_reader_take.calls g _ _ _ _ _ _ _ _ w0 _ ?side1 ?side2 A2.out).mono ?_) | (with_reducible refine (calls_of_args ?_ (impl_reader_take.calls g _ _ _ _ _ _ _ _ w0 _ ?side1 ?side2 A2.out)).mono ?_; focus (simp [*]; done))); (case side1 => repeat (first | (with_reducible first | exact HI0.out | apply IsS131.alloc | apply IsS131.drewN | apply IsS131.drew | apply IsS131.set_0 | apply IsS131.set_1 | apply IsS131.set_2) | exact HI0.out)); (case side2 => exact bk HB.out); rintro e w14 ⟨rfl, hi, hb, hk⟩; have n0_ := (⟨Zm (KeepBut.trans (by repeat (first | (with_reducible first | exact HK.out | apply KeepBut.set_ | apply keep_drewN | apply keep_drew | apply keep_alloc) | exact HK.out)) hk (.inl rfl)), Zm (hb), Zm (hi)⟩ : _ ∧ _ ∧ _); clear HK HB HI0; obtain ⟨HK, HB, HI0⟩ := n0_; (try clear hb); (try clear hb2); (try clear hk); (try clear hi)) | (go_at_call 118; (first | (with_reducible refine (impl_reader_take.calls g _ _ _ _ _ _ _ _ w0 _ ?side1 ?side2 A3.out).mono ?_) | (with_reducible refine (calls_of_args ?_ (impl_reader_take.calls g _ _ _ _ _ _ _ _ w0 _ ?side1 ?side2 A3.out)).mono ?_; focus (simp [*]; done))); (case side1 => repeat (first | (with_reducible first | exact HI0.out | apply IsS131.alloc | apply IsS131.drewN | apply IsS131.drew | apply IsS131.set_0 | apply IsS131.set_1 | apply IsS131.set_2) | exact HI0.out)); (case side2 => exact bk HB.out); rintro e w15 ⟨rfl, hi, hb, hk⟩; have n0_ := (⟨Zm (KeepBut.trans (by repeat (first | (with_reducible first | exact HK.out | apply KeepBut.set_ | apply keep_drewN | apply keep_drew | apply keep_alloc) | exact HK.out)) hk (.inl rfl)), Zm (hb), Zm (hi)⟩ : _ ∧ _ ∧ _); clear HK HB HI0; obtain ⟨HK, HB, HI0⟩ := n0_; (try clear hb); (try clear hb2); (try clear hk); (try clear hi); obtain ⟨HGz16, hgz16⟩ := HI0.out; have hcz16_0 := cellS131_0 HGz16; have hcz16_1 := cellS131_1 HGz16; have hcz16_2 := cellS131_2 HGz16; have hfz16_0 := Zkf HGz16 0; have hfz16_1 := Zkf HGz16 1; have hfz16_2 := Zkf HGz16 2; clear HGz16 hgz16)); try go_wp2)
   go_ret
   exact ⟨by first | rfl | (simp [*] <;> rfl), by repeat (first | (with_reducible first | exact HI0.out | apply IsS131.alloc | apply IsS131.drewN | apply IsS131.drew | apply IsS131.set_0 | apply IsS131.set_1 | apply IsS131.set_2) | exact HI0.out), by exact bk HB.out, by repeat (first | (with_reducible first | exact HK.out | apply KeepBut.set_ | apply keep_drewN | apply keep_drew | apply keep_alloc) | exact HK.out)⟩
 subst c5
 rw [if_pos rfl] at H
 simp only [Option.some.injEq, Prod.mk.injEq] at H
 obtain ⟨rfl, rfl, rfl, rfl⟩ := H
 obtain ⟨HGz6, hgz6⟩ := HI0.out
 have hcz6_0 := cellS131_0 HGz6
 have hcz6_1 := cellS131_1 HGz6
 have hcz6_2 := cellS131_2 HGz6
 have hfz6_0 := Zkf HGz6 0
 have hfz6_1 := Zkf HGz6 1
 have hfz6_2 := Zkf HGz6 2
 clear HGz6 hgz6
 go_enter Tryz.func92, Tryz.ntmps92
 go_wp2_with (first | (go_at_call 118; (first | (with_reducible refine (impl_reader_take.calls g _ _ _ _ _ _ _ _ w0 _ ?side1 ?side2 A2.out).mono ?_) | (with_reducible refine (calls_of_args ?_ (impl_reader_take.calls g _ _ _ _ _ _ _ _ w0 _ ?side1 ?side2 A2.out)).mono ?_; focus (simp [*]; done))); (case side1 => repeat (first | (with_reducible first | exact HI0.out | apply IsS131.alloc | apply IsS131.drewN | apply IsS131.drew | apply IsS131.set_0 | apply IsS131.set_1 | apply IsS131.set_2) | exact HI0.out)); (case side2 => exact bk HB.out); rintro e w7 ⟨rfl, hi, hb, hk⟩; have n0_ := (⟨Zm (KeepBut.trans (by repeat (first | (with_reducible first | exact HK.out | apply KeepBut.set_ | apply keep_drewN | apply keep_drew | apply keep_alloc) | exact HK.out)) hk (.inl rfl)), Zm (hb), Zm (hi)⟩ : _ ∧ _ ∧ _); clear HK HB HI0; obtain ⟨HK, HB, HI0⟩ := n0_; (try clear hb); (try clear hb2); (try clear hk); (try clear hi)) | (go_at_call 118; (first | (with_reducible refine (impl_reader_take.calls g _ _ _ _ _ _ _ _ w0 _ ?side1 ?side2 A3.out).mono ?_) | (with_reducible refine (calls_of_args ?_ (impl_reader_take.calls g _ _ _ _ _ _ _ _ w0 _ ?side1 ?side2 A3.out)).mono ?_; focus (simp [*]; done))); (case side1 => repeat (first | (with_reducible first | exact HI0.out | apply IsS131.alloc | apply IsS131.drewN | apply IsS131.drew | apply IsS131.set_0 | apply IsS131.set_1 | apply IsS131.set_2) | exact HI0.out)); (case side2 => exact bk HB.out); rintro e w8 ⟨rfl, hi, hb, hk⟩; have n0_ := (⟨Zm (KeepBut.trans (by repeat (first | (with_reducible first | exact HK.out | apply KeepBut.set_ | apply keep_drewN | apply keep_drew | apply keep_alloc) | exact HK.out)) hk (.inl rfl)), Zm (hb), Zm (hi)⟩ : _ ∧ _ ∧ _); clear HK HB HI0; obtain ⟨HK, HB, HI0⟩ := n0_; (try clear hb); (try clear hb2); (try clear hk); (try clear hi); obtain ⟨HGz9, hgz9⟩ := HI0.out; have hcz9_0 := cellS131_0 HGz9; have hcz9_1 := cellS131_1 HGz9; have hcz9_2 := cellS131_2 HGz9; have hfz9_0 := Zkf HGz9 0; have hfz9_1 := Zkf HGz9 1; have hfz9_2 := Zkf HGz9 2; clear HGz9 hgz9))
 repeat (go_quiet (first | (go_at_call 118; (first | (with_reducible refine (impl_reader_take.calls g _ _ _ _ _ _ _ _ w0 _ ?side1 ?side2 A2.out).mono ?_) | (with_reducible refine (calls_of_args ?_ (impl_reader_take.calls g _ _ _ _ _ _ _ _ w0 _ ?side1 ?side2 A2.out)).mono ?_; focus (simp [*]; done))); (case side1 => repeat (first | (with_reducible first | exact HI0.out | apply IsS131.alloc | apply IsS131.drewN | apply IsS131.drew | apply IsS131.set_0 | apply IsS131.set_1 | apply IsS131.set_2) | exact HI0.out)); (case side2 => exact bk HB.out); rintro e w7 ⟨rfl, hi, hb, hk⟩; have n0_ := (⟨Zm (KeepBut.trans (by repeat (first | (with_reducible first | exact HK.out | apply KeepBut.set_ | apply keep_drewN | apply keep_drew | apply keep_alloc) | exact HK.out)) hk (.inl rfl)), Zm (hb), Zm (hi)⟩ : _ ∧ _ ∧ _); clear HK HB HI0; obtain ⟨HK, HB, HI0⟩ := n0_; (try clear hb); (try clear hb2); (try clear hk); (try clear hi)) | (go_at_call 118; (first | (with_reducible refine (impl_reader_take.calls g _ _ _ _ _ _ _ _ w0 _ ?side1 ?side2 A3.out).mono ?_) | (with_reducible refine (calls_of_args ?_ (impl_reader_take.calls g _ _ _ _ _ _ _ _ w0 _ ?side1 ?side2 A3.out)).mono ?_; focus (simp [*]; done))); (case side1 => repeat (first | (with_reducible first | exact HI0.out | apply IsS131.alloc | apply IsS131.drewN | apply IsS131.drew | apply IsS131.set_0 | apply IsS131.set_1 | apply IsS131.set_2) | exact HI0.out)); (case side2 => exact bk HB.out); rintro e w8 ⟨rfl, hi, hb, hk⟩; have n0_ := (⟨Zm (KeepBut.trans (by repeat (first | (with_reducible first | exact HK.out | apply KeepBut.set_ | apply keep_drewN | apply keep_drew | apply keep_alloc) | exact HK.out)) hk (.inl rfl)), Zm (hb), Zm (hi)⟩ : _ ∧ _ ∧ _); clear HK HB HI0; obtain ⟨HK, HB, HI0⟩ := n0_; (try clear hb); (try clear hb2); (try clear hk); (try clear hi); obtain ⟨HGz9, hgz9⟩ := HI0.out; have hcz9_0 := cellS131_0 HGz9; have hcz9_1 := cellS131_1 HGz9; have hcz9_2 := cellS131_2 HGz9; have hfz9_0 := Zkf HGz9 0; have hfz9_1 := Zkf HGz9 1; have hfz9_2 := Zkf HGz9 2; clear HGz9 hgz9)); try go_wp2)
 go_ret
 exact ⟨by first | rfl | (simp [*] <;> rfl), by repeat (first | (with_reducible first | exact HI0.out | apply IsS131.alloc | apply IsS131.drewN | apply IsS131.drew | apply IsS131.set_0 | apply IsS131.set_1 | apply IsS131.set_2) | exact HI0.out), by exact bk HB.out, by repeat (first | (with_reducible first | exact HK.out | apply KeepBut.set_ | apply keep_drewN | apply keep_drew | apply keep_alloc) | exact HK.out)⟩
/-! ### impl_typeRight: function 52 -/
def impl_typeRight.f (k : Nat) (a0 : ByteArray) : Option (Bool) := (impl_reader_kind.f k a0 0 false).bind fun bt338 => (if bt338.2.2.2 = true then (some false) else ((impl_length.f a0).bind fun t342 => (some (bt338.2.2.1 == t342))))
theorem impl_typeRight.mono : ∀ a0 k, LeO (impl_typeRight.f k a0) (impl_typeRight.f (k + 1) a0) := by
 intro a0 k; unfold impl_typeRight.f
 repeat' first
  | (with_reducible exact impl_reader_kind.mono _ _ _ _)
  | (with_reducible exact LeO.refl _)
  | (with_reducible exact LeO.none _)
  | (with_reducible refine LeO.ite ?_ ?_)
  | (with_reducible refine LeO.bind ?_ (fun _ => ?_))
  | exact impl_reader_kind.mono _ _ _ _
  | exact LeO.none _
  | refine LeO.ite ?_ ?_
  | refine LeO.bind ?_ (fun _ => ?_)
set_option maxHeartbeats 8000000 in
set_option maxRecDepth 100000 in
theorem impl_typeRight.calls (k : Nat) (a0 : ByteArray) (r : Bool) (w : World) (h : impl_typeRight.f k a0 = some r) :
 Calls Tryz.prog 52 #[.string a0] w fun e w' => e = .returned (.bool r) ∧ Below w.heap.size w w' := by
 have hu131 := Tryz.underlying131; have HB := Zm (Below.refl w.heap.size w); have H : ((impl_reader_kind.f k a0 0 false).bind fun bt338 => (if bt338.2.2.2 = true then (some false) else ((impl_length.f a0).bind fun t342 => (some (bt338.2.2.1 == t342))))) = some r := h; clear h; replace H := Option.bind_eq_some_iff.mp H; obtain ⟨⟨t338, t339, t340, t341⟩, A20, H⟩ := H; (try dsimp only at H); have A2 := Zm A20; clear A20; by_cases c3 : t341 = true; rotate_left
 · replace c3 := Bool.eq_false_iff.mpr c3; subst c3; rw [if_neg (show ¬ (false = true) by decide)] at H; replace H := Option.bind_eq_some_iff.mp H; obtain ⟨t342, A70, H⟩ := H; (try dsimp only at H); have A7 := Zm A70; clear A70; obtain rfl := Option.some.inj H; go_enter Tryz.func52, Tryz.ntmps52; go_wp2_with (first | ((with_reducible refine gate_dst (N := 6) rfl ?_); refine box_event ?hg (N := 6) ?hd (cs := #[.string a0, .int .i64 0, .bool false]) (t := 131) ?hr ?_; (case hd => rfl); (case hg => rfl); (case hr => first | (go_simp; done) | (go_simp; rfl)); intro gb337 hg w8 hbox hb; have n0_ := (⟨Zm (Zbt (bk HB.out) hb), Zm ((by rw [hg]; exact (Zbz (bk HB.out)) : w.heap.size ≤ gb337)), Zm ((by rw [hg]; exact (Zbz (bk HB.out)) : w.heap.size ≤ gb337)), Zm ((show IsS131 w w8 gb337 a0 0 false from ⟨hbox, (by rw [hg]; exact (Zbz (bk HB.out)) : w.heap.size ≤ gb337)⟩))⟩ : _ ∧ _ ∧ _ ∧ _); clear HB; obtain ⟨HB, GW337, GE337, HI337⟩ := n0_; clear hb hbox hg) | (go_at_call 92; (first | (with_reducible refine (impl_reader_kind.calls _ gb337 _ _ _ _ _ _ _ w _ ?side1 ?side2 A2.out).mono ?_) | (with_reducible refine (calls_of_args ?_ (impl_reader_kind.calls _ gb337 _ _ _ _ _ _ _ w _ ?side1 ?side2 A2.out)).mono ?_; focus (simp [*]; done))); (case side1 => repeat (first | (with_reducible first | exact HI337.out | apply IsS131.alloc | apply IsS131.drewN | apply IsS131.drew | apply IsS131.set_0 | apply IsS131.set_1 | apply IsS131.set_2) | exact HI337.out)); (case side2 => exact bk HB.out); rintro e w9 ⟨rfl, hi, hb, hk⟩; have n0_ := (⟨Zm (hb), Zm (hi)⟩ : _ ∧ _); clear HB HI337; obtain ⟨HB, HI337⟩ := n0_; (try clear hb); (try clear hb2); (try clear hk); (try clear hi); obtain ⟨HGz10, hgz10⟩ := HI337.out; have hcz10_0 := cellS131_0 HGz10; have hcz10_1 := cellS131_1 HGz10; have hcz10_2 := cellS131_2 HGz10; have hfz10_0 := Zkf HGz10 0; have hfz10_1 := Zkf HGz10 1; have hfz10_2 := Zkf HGz10 2; clear HGz10 hgz10) | (go_at_call 91; (first | (with_reducible refine (impl_length.calls _ _ _ A7.out).mono ?_) | (with_reducible refine (calls_of_args ?_ (impl_length.calls _ _ _ A7.out)).mono ?_; focus (simp [*]; done))); rintro e w' ⟨rfl, ⟨nd, rfl⟩⟩; (try first | exact ⟨rfl, _, World.drewN_drewN _ _ _⟩ | exact ⟨rfl, _, Eq.trans (World.drewN_drewN _ _ _) (congrArg (World.drewN _) (Nat.add_assoc _ _ _))⟩)))
   repeat (go_quiet (first | ((with_reducible refine gate_dst (N := 6) rfl ?_); refine box_event ?hg (N := 6) ?hd (cs := #[.string a0, .int .i64 0, .bool false]) (t := 131) ?hr ?_; (case hd => rfl); (case hg => rfl); (case hr => first | (go_simp; done) | (go_simp; rfl)); intro gb337 hg w8 hbox hb; have n0_ := (⟨Zm (Zbt (bk HB.out) hb), Zm ((by rw [hg]; exact (Zbz (bk HB.out)) : w.heap.size ≤ gb337)), Zm ((by rw [hg]; exact (Zbz (bk HB.out)) : w.heap.size ≤ gb337)), Zm ((show IsS131 w w8 gb337 a0 0 false from ⟨hbox, (by rw [hg]; exact (Zbz (bk HB.out)) : w.heap.size ≤ gb337)⟩))⟩ : _ ∧ _ ∧ _ ∧ _); clear HB; obtain ⟨HB, GW337, GE337, HI337⟩ := n0_; clear hb hbox hg) | (go_at_call 92; (first | (with_reducible refine (impl_reader_kind.calls _ gb337 _ _ _ _ _ _ _ w _ ?side1 ?side2 A2.out).mono ?_) | (with_reducible refine (calls_of_args ?_ (impl_reader_kind.calls _ gb337 _ _ _ _ _ _ _ w _ ?side1 ?side2 A2.out)).mono ?_; focus (simp [*]; done))); (case side1 => repeat (first | (with_reducible first | exact HI337.out | apply IsS131.alloc | apply IsS131.drewN | apply IsS131.drew | apply IsS131.set_0 | apply IsS131.set_1 | apply IsS131.set_2) | exact HI337.out)); (case side2 => exact bk HB.out); rintro e w9 ⟨rfl, hi, hb, hk⟩; have n0_ := (⟨Zm (hb), Zm (hi)⟩ : _ ∧ _); clear HB HI337; obtain ⟨HB, HI337⟩ := n0_; (try clear hb); (try clear hb2); (try clear hk); (try clear hi); obtain ⟨HGz10, hgz10⟩ := HI337.out; have hcz10_0 := cellS131_0 HGz10; have hcz10_1 := cellS131_1 HGz10; have hcz10_2 := cellS131_2 HGz10; have hfz10_0 := Zkf HGz10 0; have hfz10_1 := Zkf HGz10 1; have hfz10_2 := Zkf HGz10 2; clear HGz10 hgz10) | (go_at_call 91; (first | (with_reducible refine (impl_length.calls _ _ _ A7.out).mono ?_) | (with_reducible refine (calls_of_args ?_ (impl_length.calls _ _ _ A7.out)).mono ?_; focus (simp [*]; done))); rintro e w' ⟨rfl, ⟨nd, rfl⟩⟩; (try first | exact ⟨rfl, _, World.drewN_drewN _ _ _⟩ | exact ⟨rfl, _, Eq.trans (World.drewN_drewN _ _ _) (congrArg (World.drewN _) (Nat.add_assoc _ _ _))⟩))); try go_wp2)
   go_ret; exact fin_ HB

 subst c3
 rw [if_pos rfl] at H
 obtain rfl := Option.some.inj H
 go_enter Tryz.func52, Tryz.ntmps52
 go_wp2_with (first | ((with_reducible refine gate_dst (N := 6) rfl ?_); refine box_event ?hg (N := 6) ?hd (cs := #[.string a0, .int .i64 0, .bool false]) (t := 131) ?hr ?_; (case hd => rfl); (case hg => rfl); (case hr => first | (go_simp; done) | (go_simp; rfl)); intro gb337 hg w4 hbox hb; have n0_ := (⟨Zm (Zbt (bk HB.out) hb), Zm ((by rw [hg]; exact (Zbz (bk HB.out)) : w.heap.size ≤ gb337)), Zm ((by rw [hg]; exact (Zbz (bk HB.out)) : w.heap.size ≤ gb337)), Zm ((show IsS131 w w4 gb337 a0 0 false from ⟨hbox, (by rw [hg]; exact (Zbz (bk HB.out)) : w.heap.size ≤ gb337)⟩))⟩ : _ ∧ _ ∧ _ ∧ _); clear HB; obtain ⟨HB, GW337, GE337, HI337⟩ := n0_; clear hb hbox hg) | (go_at_call 92; (first | (with_reducible refine (impl_reader_kind.calls _ gb337 _ _ _ _ _ _ _ w _ ?side1 ?side2 A2.out).mono ?_) | (with_reducible refine (calls_of_args ?_ (impl_reader_kind.calls _ gb337 _ _ _ _ _ _ _ w _ ?side1 ?side2 A2.out)).mono ?_; focus (simp [*]; done))); (case side1 => repeat (first | (with_reducible first | exact HI337.out | apply IsS131.alloc | apply IsS131.drewN | apply IsS131.drew | apply IsS131.set_0 | apply IsS131.set_1 | apply IsS131.set_2) | exact HI337.out)); (case side2 => exact bk HB.out); rintro e w5 ⟨rfl, hi, hb, hk⟩; have n0_ := (⟨Zm (hb), Zm (hi)⟩ : _ ∧ _); clear HB HI337; obtain ⟨HB, HI337⟩ := n0_; (try clear hb); (try clear hb2); (try clear hk); (try clear hi); obtain ⟨HGz6, hgz6⟩ := HI337.out; have hcz6_0 := cellS131_0 HGz6; have hcz6_1 := cellS131_1 HGz6; have hcz6_2 := cellS131_2 HGz6; have hfz6_0 := Zkf HGz6 0; have hfz6_1 := Zkf HGz6 1; have hfz6_2 := Zkf HGz6 2; clear HGz6 hgz6))
 repeat (go_quiet (first | ((with_reducible refine gate_dst (N := 6) rfl ?_); refine box_event ?hg (N := 6) ?hd (cs := #[.string a0, .int .i64 0, .bool false]) (t := 131) ?hr ?_; (case hd => rfl); (case hg => rfl); (case hr => first | (go_simp; done) | (go_simp; rfl)); intro gb337 hg w4 hbox hb; have n0_ := (⟨Zm (Zbt (bk HB.out) hb), Zm ((by rw [hg]; exact (Zbz (bk HB.out)) : w.heap.size ≤ gb337)), Zm ((by rw [hg]; exact (Zbz (bk HB.out)) : w.heap.size ≤ gb337)), Zm ((show IsS131 w w4 gb337 a0 0 false from ⟨hbox, (by rw [hg]; exact (Zbz (bk HB.out)) : w.heap.size ≤ gb337)⟩))⟩ : _ ∧ _ ∧ _ ∧ _); clear HB; obtain ⟨HB, GW337, GE337, HI337⟩ := n0_; clear hb hbox hg) | (go_at_call 92; (first | (with_reducible refine (impl_reader_kind.calls _ gb337 _ _ _ _ _ _ _ w _ ?side1 ?side2 A2.out).mono ?_) | (with_reducible refine (calls_of_args ?_ (impl_reader_kind.calls _ gb337 _ _ _ _ _ _ _ w _ ?side1 ?side2 A2.out)).mono ?_; focus (simp [*]; done))); (case side1 => repeat (first | (with_reducible first | exact HI337.out | apply IsS131.alloc | apply IsS131.drewN | apply IsS131.drew | apply IsS131.set_0 | apply IsS131.set_1 | apply IsS131.set_2) | exact HI337.out)); (case side2 => exact bk HB.out); rintro e w5 ⟨rfl, hi, hb, hk⟩; have n0_ := (⟨Zm (hb), Zm (hi)⟩ : _ ∧ _); clear HB HI337; obtain ⟨HB, HI337⟩ := n0_; (try clear hb); (try clear hb2); (try clear hk); (try clear hi); obtain ⟨HGz6, hgz6⟩ := HI337.out; have hcz6_0 := cellS131_0 HGz6; have hcz6_1 := cellS131_1 HGz6; have hcz6_2 := cellS131_2 HGz6; have hfz6_0 := Zkf HGz6 0; have hfz6_1 := Zkf HGz6 1; have hfz6_2 := Zkf HGz6 2; clear HGz6 hgz6)); try go_wp2)
 go_ret
 exact fin_ HB
/-! ### impl_isMethodName: function 53 -/
def impl_isMethodName.f (k : Nat) (a0 : ByteArray) : Option (Bool) := (impl_NameRight.f k a0).bind fun t343 => (if t343 = true then (some true) else (some (a0.toList == ([60, 105, 110, 105, 116, 62] : List UInt8))))
theorem impl_isMethodName.mono : ∀ a0 k, LeO (impl_isMethodName.f k a0) (impl_isMethodName.f (k + 1) a0) := by
 intro a0 k; unfold impl_isMethodName.f
 repeat' first
  | (with_reducible exact impl_NameRight.mono _ _)
  | (with_reducible exact LeO.refl _)
  | (with_reducible exact LeO.none _)
  | (with_reducible refine LeO.ite ?_ ?_)
  | (with_reducible refine LeO.bind ?_ (fun _ => ?_))
  | exact impl_NameRight.mono _ _
  | exact LeO.none _
  | refine LeO.ite ?_ ?_
  | refine LeO.bind ?_ (fun _ => ?_)
set_option maxHeartbeats 8000000 in
set_option maxRecDepth 100000 in
theorem impl_isMethodName.calls (k : Nat) (a0 : ByteArray) (r : Bool) (w : World) (h : impl_isMethodName.f k a0 = some r) :
 Calls Tryz.prog 53 #[.string a0] w fun e w' => e = .returned (.bool r) ∧ Drawn0 w w' := by
 have H : ((impl_NameRight.f k a0).bind fun t343 => (if t343 = true then (some true) else (some (a0.toList == ([60, 105, 110, 105, 116, 62] : List UInt8))))) = some r := h; clear h; replace H := Option.bind_eq_some_iff.mp H; obtain ⟨t343, A20, H⟩ := H; (try dsimp only at H); have A2 := Zm A20; clear A20; by_cases c3 : t343 = true; rotate_left
 · replace c3 := Bool.eq_false_iff.mpr c3; subst c3; rw [if_neg (show ¬ (false = true) by decide)] at H; obtain rfl := Option.some.inj H; go_enter Tryz.func53, Tryz.ntmps53; go_wp2_with (first | ((with_reducible refine gate_callee (f := 51) rfl ?_); refine ge_ (some 4) Tryz.func51 #[.string a0] ?_; (with_reducible refine (impl_NameRight.calls _ _ _ _ A2.out).mono ?_); rintro e w' ⟨rfl, ⟨nd, rfl⟩⟩; refine ⟨_, rfl, ?_⟩)); go_ret; exact ⟨by first | rfl | (simp; done) | (simp [*]; done), by repeat (first | exact Drawn0.refl _ | apply Drawn0.step)⟩

 subst c3
 rw [if_pos rfl] at H
 obtain rfl := Option.some.inj H
 go_enter Tryz.func53, Tryz.ntmps53
 go_wp2_with (first | ((with_reducible refine gate_callee (f := 51) rfl ?_); refine ge_ (some 4) Tryz.func51 #[.string a0] ?_; (with_reducible refine (impl_NameRight.calls _ _ _ _ A2.out).mono ?_); rintro e w' ⟨rfl, ⟨nd, rfl⟩⟩; refine ⟨_, rfl, ?_⟩))
 go_ret
 exact ⟨by first | rfl | (simp; done) | (simp [*]; done), by repeat (first | exact Drawn0.refl _ | apply Drawn0.step)⟩
/-! ### impl_isText: function 45 -/
def impl_isText.l0 : Nat → List ByteArray → Int → Int → Option (Bool)
 | 0, _, _, _ => none
 | k + 1, x5, x6, x7 => if x7 < x6 then (if 0 ≤ x7 then (if x7 < (x5.length : Int) then (if ((rdOf ByteArray.empty x5 x7).size : Int) > 20000 then (some false) else (impl_isText.l0 k x5 x6 (wrap64 (x7 + 1)))) else (none)) else (none)) else (some true)
def impl_isText.f (k : Nat) (l0 : List ByteArray) : Option (Bool) := impl_isText.l0 k l0 (l0.length : Int) 0
theorem impl_isText.mono_l : ∀ k, (∀ y0 y1 y2, LeO (impl_isText.l0 k y0 y1 y2) (impl_isText.l0 (k + 1) y0 y1 y2))
 | 0 => fun _ _ _ r h => by simp [impl_isText.l0] at h
 | k + 1 => by
  have ih0 := impl_isText.mono_l k
  · intro y0 y1 y2; unfold impl_isText.l0
    repeat' first
    | (with_reducible exact ih0 _ _ _)
    | (with_reducible exact LeO.refl _)
    | (with_reducible exact LeO.none _)
    | (with_reducible refine LeO.ite ?_ ?_)
    | (with_reducible refine LeO.bind ?_ (fun _ => ?_))
    | exact ih0 _ _ _
    | exact LeO.none _
    | refine LeO.ite ?_ ?_
    | refine LeO.bind ?_ (fun _ => ?_)
theorem impl_isText.mono : ∀ a0 k, LeO (impl_isText.f k a0) (impl_isText.f (k + 1) a0) := by
 intro a0 k; have ih0 := impl_isText.mono_l k; unfold impl_isText.f
 repeat' first
  | (with_reducible exact ih0 _ _ _)
  | (with_reducible exact LeO.refl _)
  | (with_reducible exact LeO.none _)
  | (with_reducible refine LeO.ite ?_ ?_)
  | (with_reducible refine LeO.bind ?_ (fun _ => ?_))
  | exact ih0 _ _ _
  | exact LeO.none _
  | refine LeO.ite ?_ ?_
  | refine LeO.bind ?_ (fun _ => ?_)
set_option maxHeartbeats 8000000 in
set_option maxRecDepth 100000 in
theorem impl_isText.calls (k : Nat) (A0 : Option Addr) (c0 : Nat) (l0 : List ByteArray) (r : Bool) (w : World) (hr0 : Kd.C Kd.string w A0 l0.length l0) (hc0 : l0.length ≤ c0) (h : impl_isText.f k l0 = some r) :
 Calls Tryz.prog 45 #[.slice A0 l0.length c0] w fun e w' => e = .returned (.bool r) ∧ Drawn0 w w' := by
 have HR0 := Zm hr0; have HC0 := Zm hc0; clear hr0 hc0; have H : (impl_isText.l0 k l0 (l0.length : Int) 0) = some r := h; clear h; have H' := Zm H; clear H; go_enter Tryz.func45, Tryz.ntmps45; go_wp2; go_loopg [7] k (fun kq v7 w' => ∃ (x7_1 : Int), v7 = .int .i64 x7_1 ∧ Aside0 (impl_isText.l0 kq l0 (l0.length : Int) x7_1 = some r) ∧ Aside0 (kq ≤ k) ∧ Drawn0 w w')
 case atStart => exact ⟨(0), (by first | rfl | (simp; done) | (simp [*]; done)), H', ⟨Nat.le_refl _⟩, by repeat (first | exact Drawn0.refl _ | apply Drawn0.step)⟩
 case round =>
  clear H'; obtain ⟨x7_1, rfl, HA, HK1, ⟨m1, rfl⟩⟩ := hrel
  cases gk with
  | zero => exact absurd HA.out (by simp [impl_isText.l0])
  | succ k1 =>
   have H := HA.out; clear HA; simp only [impl_isText.l0] at H; by_cases c2 : x7_1 < (l0.length : Int); rotate_left
   · rw [if_neg c2] at H; have c2b0 := decide_eq_false c2; clear c2; obtain rfl := Option.some.inj H; go_wp2; go_ret; exact ⟨by first | rfl | (simp; done) | (simp [*]; done), by repeat (first | exact Drawn0.refl _ | apply Drawn0.step)⟩

   rw [if_pos c2] at H
   have c2b0 := decide_eq_true c2
   clear c2
   by_cases c3 : 0 ≤ x7_1
   rotate_left
   · rw [if_neg c3] at H
     exact absurd H (by simp)
   rw [if_pos c3] at H
   have c3b0 := decide_eq_true c3
   clear c3
   by_cases c4 : x7_1 < (l0.length : Int)
   rotate_left
   · rw [if_neg c4] at H
     exact absurd H (by simp)
   rw [if_pos c4] at H
   have c4b0 := decide_eq_true c4
   clear c4
   by_cases c5 : ((rdOf ByteArray.empty l0 x7_1).size : Int) > 20000
   rotate_left
   · rw [if_neg c5] at H
     have c5b0 : decide (20000 < ((rdOf ByteArray.empty l0 x7_1).size : Int)) = false := decide_eq_false c5
     have c5b1 : decide (20000 < (rdOf ByteArray.empty l0 x7_1).size) = false := decide_eq_false (by omega)
     clear c5
     have H' := Zm H
     clear H
     have p344 : 0 ≤ (x7_1 : Int) := of_decide_eq_true (by first | (with_reducible assumption) | assumption)
     have q344 : x7_1 < (l0.length : Int) := of_decide_eq_true (by first | (with_reducible assumption) | assumption)
     obtain ⟨ad344, e344, hx344_0⟩ := Kd.at_string HR0.out x7_1 p344 q344
     cases e344
     replace p344 := eq_true p344
     replace q344 := eq_true q344
     go_wp2
     go_roundg k1
     case measure => have := HK1.out; omega
     case rel => exact ⟨(wrap64 (x7_1 + 1)), (by first | rfl | (simp; done) | (simp [*]; done)), H', ⟨by have := HK1.out; omega⟩, by repeat (first | exact Drawn0.refl _ | apply Drawn0.step)⟩
   rw [if_pos c5] at H
   have c5b0 : decide (20000 < ((rdOf ByteArray.empty l0 x7_1).size : Int)) = true := decide_eq_true c5
   have c5b1 : decide (20000 < (rdOf ByteArray.empty l0 x7_1).size) = true := decide_eq_true (by omega)
   clear c5
   obtain rfl := Option.some.inj H
   have p344 : 0 ≤ (x7_1 : Int) := of_decide_eq_true (by first | (with_reducible assumption) | assumption)
   have q344 : x7_1 < (l0.length : Int) := of_decide_eq_true (by first | (with_reducible assumption) | assumption)
   obtain ⟨ad344, e344, hx344_0⟩ := Kd.at_string HR0.out x7_1 p344 q344
   cases e344
   replace p344 := eq_true p344
   replace q344 := eq_true q344
   go_wp2
   go_ret
   exact ⟨by first | rfl | (simp; done) | (simp [*]; done), by repeat (first | exact Drawn0.refl _ | apply Drawn0.step)⟩
end Go.Proofs.YtcpnlfkmfpmkdaaGreatDoor.PFnInsText
