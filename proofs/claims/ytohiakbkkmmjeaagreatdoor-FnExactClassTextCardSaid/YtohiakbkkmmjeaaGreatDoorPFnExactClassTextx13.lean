/- Functions of the program as plain Lean functions, each with a proof that the program's call comes to the same; no condition. Written by a program of this session. -/
import Derived.Test.YtohiakbkkmmjeaaGreatDoorPFnExactClassTextx0
import Derived.Test.YtohiakbkkmmjeaaGreatDoorPFnExactClassTextx12
namespace Go.Proofs.YtohiakbkkmmjeaaGreatDoor.PFnExactClassText
open Go.RowKit Go.Proofs.YtohiakbkkmmjeaaGreatDoorW.PrintWords Go.Proofs.YtohiakbkkmmjeaaGreatDoorW.PrintLast Go.Proofs.YtohiakbkkmmjeaaGreatDoorW.PrintMore
open Go.Proofs.YtohiakbkkmmjeaaGreatDoorW.PrintWords renaming below_size → Zbz, below_step → Zbt, blk_drewN → Zkn, blk_drew → Zkd, blk_alloc → Zka, blk_below → Zkb
open Go.World renaming block_lt_of_cell? → Zlt
open Go.Proofs.YtohiakbkkmmjeaaGreatDoorW.PrintWords.Aside0 renaming mk → Zm
attribute [local go_sem] max2_int min2_int max_two min_two max_three min_three max_four min_four   -- for this text's walks alone
set_option linter.unusedVariables false
set_option linter.unusedSimpArgs false

/-! ### impl_Field: function 63 -/
def impl_Field.l0 : Nat → List (S67) → Int → Int → ByteArray → Option (Int)
 | 0, _, _, _, _ => none
 | k + 1, x0, x7, x8, x37000 => if x8 < x7 then (if 0 ≤ x8 then (if x8 < (x0.length : Int) then ((impl_Class_fieldAt_1.f ((rd_T67 x0 x8).f0) ((rd_T67 x0 x8).f1) ((rd_T67 x0 x8).f2) x37000).bind fun t430 => (if t430 = true then (some x8) else (impl_Field.l0 k x0 x7 (wrap64 (x8 + 1)) x37000))) else (none)) else (none)) else (some (-1))
def impl_Field.f (k : Nat) (l0 : List (S67)) (s1_0 : ByteArray) : Option (Int) := impl_Field.l0 k l0 (l0.length : Int) 0 s1_0
set_option maxHeartbeats 8000000 in
set_option maxRecDepth 100000 in
theorem impl_Field.calls (k : Nat) (A0 : Option Addr) (c0 : Nat) (l0 : List (S67)) (gb36 : Nat) (s1_0 : ByteArray) (r : Int) (w : World) (hr0 : Kd.C k67 w A0 l0.length l0) (hc0 : l0.length ≤ c0) (hb36 : w.heap[gb36]? = some (.cells #[.string s1_0] 9 (0, 0))) (h : impl_Field.f k l0 s1_0 = some r) :
 Calls Tryz.prog 63 #[.slice A0 l0.length c0, .func (.func 64) #[] #[.pointer (some ⟨gb36, 0, none⟩)]] w fun e w' => e = .returned (.int .i64 r) ∧ Below w.heap.size w w' := by
 have hu67 := Tryz.underlying67; have HR0 := Zm hr0; have HC0 := Zm hc0; clear hr0 hc0; have BK36 := Zm hb36; clear hb36; have HB := Zm (Below.refl w.heap.size w); have H := h; clear h; unfold impl_Field.f at H; have H' := Zm H; clear H; go_enter Tryz.func63, Tryz.ntmps63; go_wp2; go_loopg [8] k (fun kq v8 w' => ∃ (x8_1 : Int), v8 = .int .i64 x8_1 ∧ Aside0 (impl_Field.l0 kq l0 (l0.length : Int) x8_1 s1_0 = some r) ∧ Aside0 (kq ≤ k) ∧ Aside0 (w'.heap[gb36]? = some (.cells #[.string s1_0] 9 (0, 0))) ∧ Aside0 (Below w.heap.size w w'))
 case atStart => exact ⟨(0), s1_, H', ⟨Nat.le_refl _⟩, ⟨pk BK36.out⟩, ⟨bk HB.out⟩⟩
 case round =>
  clear H'; obtain ⟨x8_1, rfl, HA, HK1, BK36, HB⟩ := hrel
  cases gk with
  | zero => exact absurd HA.out (by simp [impl_Field.l0])
  | succ k1 =>
   have H := HA.out; clear HA; simp only [impl_Field.l0] at H; replace H := sd_ H; rcases H with ⟨c3b0, H⟩ | ⟨c3b0, H⟩
   · obtain rfl := Option.some.inj H; go_wp2; go_ret; exact fin_ HB
   replace H := snd_ H; obtain ⟨c4b0, H⟩ := H; replace H := snd_ H; obtain ⟨c5b0, H⟩ := H; replace H := sq_ H; obtain ⟨t430, A6, H⟩ := H; have HC7 := Zm H; clear H; obtain ⟨ad429, e429, hx429⟩ := an_T67 HR0 HB x8_1; cases e429; go_upto_if 16 with (first | (go_at_call 64; refine ca_ (impl_Class_fieldAt_1.calls _ _ _ gb36 _ _ _ ?side1 A6.out) ?_; (case side1 => (with_reducible repeat (first | refine Zkn ?_ _ | refine Zkd ?_ | refine Zka ?_ _)); exact BK36.out); rintro e w8 ⟨rfl, hb⟩; replace BK36 := kb BK36 hb; replace HB := bt_ HB hb; clear hb)); have H := HC7.out; clear HC7; replace H := sb_ H; rcases H with ⟨rfl, H⟩ | ⟨rfl, H⟩
   · have H' := Zm H; clear H; go_wp2; go_roundg k1
     case measure => have := HK1.out; omega
     case rel => exact ⟨(wrap64 (x8_1 + 1)), s1_, H', ⟨by have := HK1.out; omega⟩, ⟨pk BK36.out⟩, ⟨bk HB.out⟩⟩
   obtain rfl := Option.some.inj H; go_wp2; go_ret; exact fin_ HB
/-! ### impl_Class_fieldAt: function 39 -/
def impl_Class_fieldAt.f (k : Nat) (a0_0 : ByteArray) (a0_1 : ByteArray) (a0_2 : Bool) (a0_3 : Bool) (l0_4 : List (S67)) (l0_5 : List (S71)) (a1 : ByteArray) : Option (Int) := (impl_Field.f k l0_4 a1).bind fun t433 => (some t433)
set_option maxHeartbeats 8000000 in
set_option maxRecDepth 100000 in
theorem impl_Class_fieldAt.calls (k : Nat) (a0_0 : ByteArray) (a0_1 : ByteArray) (a0_2 : Bool) (a0_3 : Bool) (A0_4 : Option Addr) (c0_4 : Nat) (l0_4 : List (S67)) (A0_5 : Option Addr) (c0_5 : Nat) (l0_5 : List (S71)) (a1 : ByteArray) (r : Int) (w : World) (hr0_4 : Kd.C k67 w A0_4 l0_4.length l0_4) (hc0_4 : l0_4.length ≤ c0_4) (hr0_5 : Kd.C k71 w A0_5 l0_5.length l0_5) (hc0_5 : l0_5.length ≤ c0_5) (h : impl_Class_fieldAt.f k a0_0 a0_1 a0_2 a0_3 l0_4 l0_5 a1 = some r) :
 Calls Tryz.prog 39 #[.agg #[.string a0_0, .string a0_1, .bool a0_2, .bool a0_3, .slice A0_4 l0_4.length c0_4, .slice A0_5 l0_5.length c0_5], .string a1] w fun e w' => e = .returned (.int .i64 r) ∧ Below w.heap.size w w' := by
 have hu31 := Tryz.underlying31; have HR0_4 := Zm hr0_4; have HC0_4 := Zm hc0_4; clear hr0_4 hc0_4; have HR0_5 := Zm hr0_5; have HC0_5 := Zm hc0_5; clear hr0_5 hc0_5; have HB := Zm (Below.refl w.heap.size w); have H := h; clear h; unfold impl_Class_fieldAt.f at H; replace H := sq_ H; obtain ⟨t433, A3, H⟩ := H; obtain rfl := Option.some.inj H; go_enter Tryz.func39, Tryz.ntmps39; go_wp2_with (first | ((with_reducible refine gate_dst (N := 2) rfl ?_); refine bx_ 2 31 #[.string a0_0, .string a0_1, .bool a0_2, .bool a0_3, .slice A0_4 l0_4.length c0_4, .slice A0_5 l0_5.length c0_5] ?_; intro gb431 hg w4 hbox hb; have BK431 := Zm hbox; have GW431 := bz HB hg; have GE431 := bz HB hg; replace HB := bt_ HB hb; clear hb hbox hg) | ((with_reducible refine gate_dst (N := 3) rfl ?_); refine bx_ 3 9 #[.string a1] ?_; intro gb432 hg w5 hbox hb; have BK432 := Zm hbox; have GW432 := bz HB hg; have GE432 := bz HB hg; have NB431_432 := bl BK431 hg; have NB432_431 := bg BK431 hg; replace BK431 := kb BK431 hb; replace HB := bt_ HB hb; clear hb hbox hg; have hnb6 := NB431_432.out; have hnc6 := NB432_431.out; have hcz7 := cz6 BK431.out; (try clear BK431)) | (go_at_call 63; refine ca_ (impl_Field.calls _ _ _ _ gb432 _ _ _ ?side1 ?side2 ?side3 A3.out) ?_; (case side1 => exact pd HR0_4 HB); (case side2 => exact HC0_4.out); (case side3 => (with_reducible repeat (first | refine Zkn ?_ _ | refine Zkd ?_ | refine Zka ?_ _)); exact BK432.out); rintro e w8 ⟨rfl, hb⟩; replace BK432 := kb BK432 hb; replace HB := bt_ HB hb; clear hb)); go_ret; exact fin_ HB
/-! ### impl_isMethodName: function 65 -/
def impl_isMethodName.f (k : Nat) (a0 : ByteArray) : Option (Bool) := (impl_NameRight.f k a0).bind fun t434 => (if t434 = true then (some true) else (some (a0.toList == ([60, 105, 110, 105, 116, 62] : List UInt8))))
theorem impl_isMethodName.mono : ∀ a0 k, LeO (impl_isMethodName.f k a0) (impl_isMethodName.f (k + 1) a0) := by
 intro a0 k; unfold impl_isMethodName.f; have m0 := @impl_NameRight.mono; exact mo_
set_option maxHeartbeats 8000000 in
set_option maxRecDepth 100000 in
theorem impl_isMethodName.calls (k : Nat) (a0 : ByteArray) (r : Bool) (w : World) (h : impl_isMethodName.f k a0 = some r) :
 Calls Tryz.prog 65 #[.string a0] w fun e w' => e = .returned (.bool r) ∧ Drawn0 w w' := by
 have H := h; clear h; unfold impl_isMethodName.f at H; replace H := sq_ H; obtain ⟨t434, A2, H⟩ := H; replace H := sb_ H; rcases H with ⟨rfl, H⟩ | ⟨rfl, H⟩
 · obtain rfl := Option.some.inj H; go_enter Tryz.func65, Tryz.ntmps65; go_wp2_with (first | ((with_reducible refine gate_callee (f := 37) rfl ?_); refine ge_ (some 4) Tryz.func37 #[.string a0] ?_; (with_reducible refine (impl_NameRight.calls _ _ _ _ A2.out).mono ?_); rintro e w' ⟨rfl, ⟨nd, rfl⟩⟩; refine ⟨_, rfl, ?_⟩)); go_ret; exact fd_
 obtain rfl := Option.some.inj H; go_enter Tryz.func65, Tryz.ntmps65; go_wp2_with (first | ((with_reducible refine gate_callee (f := 37) rfl ?_); refine ge_ (some 4) Tryz.func37 #[.string a0] ?_; (with_reducible refine (impl_NameRight.calls _ _ _ _ A2.out).mono ?_); rintro e w' ⟨rfl, ⟨nd, rfl⟩⟩; refine ⟨_, rfl, ?_⟩)); go_ret; exact fd_
end Go.Proofs.YtohiakbkkmmjeaaGreatDoor.PFnExactClassText
