/- Functions of the program as plain Lean functions, each with a proof that the program's call comes to the same; no condition. Written by a program of this session. -/
import Derived.Test.YtcpnlfkmfpmkdaaGreatDoorPFnInsTextx0
import Derived.Test.YtcpnlfkmfpmkdaaGreatDoorPFnInsTextx2
import Derived.Test.YtcpnlfkmfpmkdaaGreatDoorPFnInsTextx3
import Derived.Test.YtcpnlfkmfpmkdaaGreatDoorPFnInsTextx6
import Derived.Test.YtcpnlfkmfpmkdaaGreatDoorPFnInsTextx7
import Derived.Test.YtcpnlfkmfpmkdaaGreatDoorPFnInsTextx8
import Derived.Test.YtcpnlfkmfpmkdaaGreatDoorPFnInsTextx9
namespace Go.Proofs.YtcpnlfkmfpmkdaaGreatDoor.PFnInsText
open Go.RowKit Go.Proofs.YtcpnlfkmfpmkdaaGreatDoorW.PrintWords Go.Proofs.YtcpnlfkmfpmkdaaGreatDoorW.PrintLast Go.Proofs.YtcpnlfkmfpmkdaaGreatDoorW.PrintMore
open Go.Proofs.YtcpnlfkmfpmkdaaGreatDoorW.PrintWords renaming below_alloc → Zba, below_size → Zbz, below_step → Zbt, blk_frozen → Zkf, blk_below → Zkb
open Go.Proofs.YtcpnlfkmfpmkdaaGreatDoorW.PrintWords.Aside0 renaming mk → Zm
attribute [local go_sem] max2_int min2_int max_two min_two max_three min_three max_four min_four   -- for this text's walks alone
set_option linter.unusedVariables false
set_option linter.unusedSimpArgs false

/-! ### spec_InsRight: function 18 -/
def spec_InsRight.f (k : Nat) (a0_0 : Int) (a0_1 : Int) (a0_2 : ByteArray) (a0_3 : ByteArray) (a0_4 : ByteArray) : Option (Bool) := (spec_OpForm.f k a0_0).bind fun t502 => (if t502.toList = ([] : List UInt8) then (if a0_1 = 0 then ((spec_l03Empty.f a0_0 a0_1 a0_2 a0_3 a0_4).bind fun t503 => (some t503)) else (some false)) else (if t502.toList = ([110] : List UInt8) then ((spec_l01Int.f a0_1).bind fun t504 => (if t504 = true then ((spec_l03Empty.f a0_0 a0_1 a0_2 a0_3 a0_4).bind fun t505 => (some t505)) else (some false))) else (if t502.toList = ([105] : List UInt8) then (if a0_1 ≥ 0 then (if a0_1 < 16 then ((spec_l03Empty.f a0_0 a0_1 a0_2 a0_3 a0_4).bind fun t506 => (some t506)) else (some false)) else (some false)) else (if t502.toList = ([116] : List UInt8) then (if a0_1 ≥ 0 then (if a0_1 < 60 then ((spec_l03Empty.f a0_0 a0_1 a0_2 a0_3 a0_4).bind fun t507 => (some t507)) else (some false)) else (some false)) else (if t502.toList = ([99] : List UInt8) then (if a0_1 = 0 then ((spec_NameRight.f k a0_2).bind fun t508 => (if t508 = true then (if a0_3.toList = ([] : List UInt8) then (some (a0_4.toList == ([] : List UInt8))) else (some false)) else (some false))) else (some false)) else (if t502.toList = ([121] : List UInt8) then (if a0_1 = 0 then (if a0_2.toList = ([] : List UInt8) then (if a0_3.toList = ([] : List UInt8) then ((spec_TypeRight.f k a0_4).bind fun t509 => (if t509 = true then (if 0 < (a0_4.size : Int) then (some ((bt a0_4 0) != 91)) else (none)) else (some false))) else (some false)) else (some false)) else (some false)) else (if t502.toList = ([102] : List UInt8) then (if a0_1 = 0 then ((spec_NameRight.f k a0_2).bind fun t510 => (if t510 = true then ((spec_NameRight.f k a0_3).bind fun t511 => (if t511 = true then ((spec_TypeRight.f k a0_4).bind fun t512 => (some t512)) else (some false))) else (some false))) else (some false)) else (if t502.toList = ([109] : List UInt8) then (if a0_1 = 0 then ((spec_NameRight.f k a0_2).bind fun t513 => (if t513 = true then ((spec_NameRight.f k a0_3).bind fun t514 => (if t514 = true then ((spec_DescRead.f k a0_4).bind fun bt515 => (some (bt515.2.2.2 == 0))) else (if a0_3.toList = ([60, 105, 110, 105, 116, 62] : List UInt8) then ((spec_DescRead.f k a0_4).bind fun bt521 => (some (bt521.2.2.2 == 0))) else (some false)))) else (some false))) else (some false)) else (some false)))))))))
theorem spec_InsRight.mono : ∀ a0 a1 a2 a3 a4 k, LeO (spec_InsRight.f k a0 a1 a2 a3 a4) (spec_InsRight.f (k + 1) a0 a1 a2 a3 a4) := by
 intro a0 a1 a2 a3 a4 k; unfold spec_InsRight.f
 repeat' first
  | (with_reducible exact spec_DescRead.mono _ _)
  | (with_reducible exact spec_NameRight.mono _ _)
  | (with_reducible exact spec_OpForm.mono _ _)
  | (with_reducible exact spec_TypeRight.mono _ _)
  | (with_reducible exact LeO.refl _)
  | (with_reducible exact LeO.none _)
  | (with_reducible refine LeO.ite ?_ ?_)
  | (with_reducible refine LeO.bind ?_ (fun _ => ?_))
  | exact spec_DescRead.mono _ _
  | exact spec_NameRight.mono _ _
  | exact spec_OpForm.mono _ _
  | exact spec_TypeRight.mono _ _
  | exact LeO.none _
  | refine LeO.ite ?_ ?_
  | refine LeO.bind ?_ (fun _ => ?_)
set_option maxHeartbeats 8000000 in
set_option maxRecDepth 100000 in
theorem spec_InsRight.calls (k : Nat) (a0_0 : Int) (a0_1 : Int) (a0_2 : ByteArray) (a0_3 : ByteArray) (a0_4 : ByteArray) (r : Bool) (w : World) (h : spec_InsRight.f k a0_0 a0_1 a0_2 a0_3 a0_4 = some r) :
 Calls Tryz.prog 18 #[.agg #[.int .i64 a0_0, .int .i64 a0_1, .string a0_2, .string a0_3, .string a0_4]] w fun e w' => e = .returned (.bool r) ∧ Below w.heap.size w w' := by
 have hu44 := Tryz.underlying44; have hf76_2 : ∀ (a0_ a1_ a2_ a3_ : Value) (W_ : World), (Instr.field 76 (.agg #[a0_, a1_, a2_, a3_]) 2).run Tryz.prog W_ = .ok (a3_) W_ := fun _ _ _ _ _ => by rfl
 have HB := Zm (Below.refl w.heap.size w); have H : ((spec_OpForm.f k a0_0).bind fun t502 => (if t502.toList = ([] : List UInt8) then (if a0_1 = 0 then ((spec_l03Empty.f a0_0 a0_1 a0_2 a0_3 a0_4).bind fun t503 => (some t503)) else (some false)) else (if t502.toList = ([110] : List UInt8) then ((spec_l01Int.f a0_1).bind fun t504 => (if t504 = true then ((spec_l03Empty.f a0_0 a0_1 a0_2 a0_3 a0_4).bind fun t505 => (some t505)) else (some false))) else (if t502.toList = ([105] : List UInt8) then (if a0_1 ≥ 0 then (if a0_1 < 16 then ((spec_l03Empty.f a0_0 a0_1 a0_2 a0_3 a0_4).bind fun t506 => (some t506)) else (some false)) else (some false)) else (if t502.toList = ([116] : List UInt8) then (if a0_1 ≥ 0 then (if a0_1 < 60 then ((spec_l03Empty.f a0_0 a0_1 a0_2 a0_3 a0_4).bind fun t507 => (some t507)) else (some false)) else (some false)) else (if t502.toList = ([99] : List UInt8) then (if a0_1 = 0 then ((spec_NameRight.f k a0_2).bind fun t508 => (if t508 = true then (if a0_3.toList = ([] : List UInt8) then (some (a0_4.toList == ([] : List UInt8))) else (some false)) else (some false))) else (some false)) else (if t502.toList = ([121] : List UInt8) then (if a0_1 = 0 then (if a0_2.toList = ([] : List UInt8) then (if a0_3.toList = ([] : List UInt8) then ((spec_TypeRight.f k a0_4).bind fun t509 => (if t509 = true then (if 0 < (a0_4.size : Int) then (some ((bt a0_4 0) != 91)) else (none)) else (some false))) else (some false)) else (some false)) else (some false)) else (if t502.toList = ([102] : List UInt8) then (if a0_1 = 0 then ((spec_NameRight.f k a0_2).bind fun t510 => (if t510 = true then ((spec_NameRight.f k a0_3).bind fun t511 => (if t511 = true then ((spec_TypeRight.f k a0_4).bind fun t512 => (some t512)) else (some false))) else (some false))) else (some false)) else (if t502.toList = ([109] : List UInt8) then (if a0_1 = 0 then ((spec_NameRight.f k a0_2).bind fun t513 => (if t513 = true then ((spec_NameRight.f k a0_3).bind fun t514 => (if t514 = true then ((spec_DescRead.f k a0_4).bind fun bt515 => (some (bt515.2.2.2 == 0))) else (if a0_3.toList = ([60, 105, 110, 105, 116, 62] : List UInt8) then ((spec_DescRead.f k a0_4).bind fun bt521 => (some (bt521.2.2.2 == 0))) else (some false)))) else (some false))) else (some false)) else (some false)))))))))) = some r := h; clear h; replace H := Option.bind_eq_some_iff.mp H; obtain ⟨t502, A20, H⟩ := H; (try dsimp only at H); have A2 := Zm A20; clear A20; have HC3 := Zm H; clear H; go_enter Tryz.func18, Tryz.ntmps18; go_upto_if 6 with (first | ((with_reducible refine gate_dst (N := 1) rfl ?_); refine box_event ?hg (N := 1) ?hd (cs := #[.int .i64 a0_0, .int .i64 a0_1, .string a0_2, .string a0_3, .string a0_4]) (t := 44) ?hr ?_; (case hd => rfl); (case hg => rfl); (case hr => first | (go_simp; done) | (go_simp; rfl)); intro gb501 hg w4 hbox hb; have n0_ := (⟨Zm (Zbt (bk HB.out) hb), Zm (hbox), Zm ((by rw [hg]; exact (Zbz (bk HB.out)) : w.heap.size ≤ gb501)), Zm ((by rw [hg]; exact (Zbz (bk HB.out)) : w.heap.size ≤ gb501))⟩ : _ ∧ _ ∧ _ ∧ _); clear HB; obtain ⟨HB, BK501, GW501, GE501⟩ := n0_; clear hb hbox hg; obtain ⟨hcz5_0, hcz5_1, hcz5_2, hcz5_3, hcz5_4⟩ := cz5 BK501.out; have hfz5_4 := Zkf BK501.out 4) | ((with_reducible refine gate_callee (f := 39) rfl ?_); refine ge_ (some 5) Tryz.func39 #[.int .i64 a0_0] ?_; (with_reducible refine (spec_OpForm.calls _ _ _ _ A2.out).mono ?_); rintro e w6 ⟨rfl, hb⟩; refine ⟨_, rfl, ?_⟩; have n0_ := (⟨Zm (Zkb (pk BK501.out) hb), Zm (Zbt (bk HB.out) hb)⟩ : _ ∧ _); clear BK501 HB; obtain ⟨BK501, HB⟩ := n0_; (try clear hb); (try clear hb2); (try clear hk); (try clear hi))); have H := HC3.out; clear HC3; by_cases c7 : t502.toList = ([] : List UInt8); rotate_left
 · rw [if_neg c7] at H; have c7b0 : (t502.toList == ([] : List UInt8)) = false := beq_eq_false_iff_ne.mpr c7; have c7b1 : (t502.toList != ([] : List UInt8)) = true := bne_iff_ne.mpr c7; (first | rw [c7b0] | (simp only [i64_w, i32_w]; rw [c7b0]) | rw [ie_ c7b0] | skip); by_cases c13 : t502.toList = ([110] : List UInt8); rotate_left
   · rw [if_neg c13] at H; have c13b0 : (t502.toList == ([110] : List UInt8)) = false := beq_eq_false_iff_ne.mpr c13; have c13b1 : (t502.toList != ([110] : List UInt8)) = true := bne_iff_ne.mpr c13; by_cases c20 : t502.toList = ([105] : List UInt8); rotate_left
     · rw [if_neg c20] at H; have c20b0 : (t502.toList == ([105] : List UInt8)) = false := beq_eq_false_iff_ne.mpr c20; have c20b1 : (t502.toList != ([105] : List UInt8)) = true := bne_iff_ne.mpr c20; by_cases c28 : t502.toList = ([116] : List UInt8); rotate_left
       · rw [if_neg c28] at H; have c28b0 : (t502.toList == ([116] : List UInt8)) = false := beq_eq_false_iff_ne.mpr c28; have c28b1 : (t502.toList != ([116] : List UInt8)) = true := bne_iff_ne.mpr c28; by_cases c36 : t502.toList = ([99] : List UInt8); rotate_left
         · rw [if_neg c36] at H; have c36b0 : (t502.toList == ([99] : List UInt8)) = false := beq_eq_false_iff_ne.mpr c36; have c36b1 : (t502.toList != ([99] : List UInt8)) = true := bne_iff_ne.mpr c36; by_cases c45 : t502.toList = ([121] : List UInt8); rotate_left
           · rw [if_neg c45] at H; have c45b0 : (t502.toList == ([121] : List UInt8)) = false := beq_eq_false_iff_ne.mpr c45; have c45b1 : (t502.toList != ([121] : List UInt8)) = true := bne_iff_ne.mpr c45; by_cases c58 : t502.toList = ([102] : List UInt8); rotate_left
             · rw [if_neg c58] at H; have c58b0 : (t502.toList == ([102] : List UInt8)) = false := beq_eq_false_iff_ne.mpr c58; have c58b1 : (t502.toList != ([102] : List UInt8)) = true := bne_iff_ne.mpr c58; by_cases c69 : t502.toList = ([109] : List UInt8); rotate_left
               · rw [if_neg c69] at H; have c69b0 : (t502.toList == ([109] : List UInt8)) = false := beq_eq_false_iff_ne.mpr c69; have c69b1 : (t502.toList != ([109] : List UInt8)) = true := bne_iff_ne.mpr c69; obtain rfl := Option.some.inj H; go_wp2; go_ret; exact fin_ HB

               rw [if_pos c69] at H
               have c69b0 : (t502.toList == ([109] : List UInt8)) = true := beq_iff_eq.mpr c69
               have c69b1 : (t502.toList != ([109] : List UInt8)) = false := bne_eq_false_iff_eq.mpr c69
               clear c69
               by_cases c70 : a0_1 = 0
               rotate_left
               · rw [if_neg c70] at H
                 have c70b0 : (a0_1 == 0) = false := beq_eq_false_iff_ne.mpr c70
                 have c70b1 : (a0_1 != 0) = true := bne_iff_ne.mpr c70
                 obtain rfl := Option.some.inj H
                 obtain ⟨hcz84_0, hcz84_1, hcz84_2, hcz84_3, hcz84_4⟩ := cz5 BK501.out
                 go_wp2
                 go_ret
                 exact fin_ HB
               rw [if_pos c70] at H
               have c70b0 : (a0_1 == 0) = true := beq_iff_eq.mpr c70
               have c70b1 : (a0_1 != 0) = false := bne_eq_false_iff_eq.mpr c70
               clear c70
               replace H := Option.bind_eq_some_iff.mp H
               obtain ⟨t513, A710, H⟩ := H
               (try dsimp only at H)
               have A71 := Zm A710
               clear A710
               by_cases c72 : t513 = true
               rotate_left
               · replace c72 := Bool.eq_false_iff.mpr c72
                 subst c72
                 rw [if_neg (show ¬ (false = true) by decide)] at H
                 obtain rfl := Option.some.inj H
                 obtain ⟨hcz83_0, hcz83_1, hcz83_2, hcz83_3, hcz83_4⟩ := cz5 BK501.out
                 (try clear BK501)
                 go_wp2_with (first | (go_at_call 42; (first | (with_reducible refine (spec_NameRight.calls _ _ _ _ A71.out).mono ?_) | (with_reducible refine (calls_of_args ?_ (spec_NameRight.calls _ _ _ _ A71.out)).mono ?_; focus (simp [*]; done))); rintro e w' ⟨rfl, ⟨nd, rfl⟩⟩))
                 go_ret
                 exact fin_ HB
               subst c72
               rw [if_pos rfl] at H
               replace H := Option.bind_eq_some_iff.mp H
               obtain ⟨t514, A730, H⟩ := H
               (try dsimp only at H)
               have A73 := Zm A730
               clear A730
               by_cases c74 : t514 = true
               rotate_left
               · replace c74 := Bool.eq_false_iff.mpr c74
                 subst c74
                 rw [if_neg (show ¬ (false = true) by decide)] at H
                 by_cases c78 : a0_3.toList = ([60, 105, 110, 105, 116, 62] : List UInt8)
                 rotate_left
                 · rw [if_neg c78] at H
                   have c78b0 : (a0_3.toList == ([60, 105, 110, 105, 116, 62] : List UInt8)) = false := beq_eq_false_iff_ne.mpr c78
                   have c78b1 : (a0_3.toList != ([60, 105, 110, 105, 116, 62] : List UInt8)) = true := bne_iff_ne.mpr c78
                   obtain rfl := Option.some.inj H
                   obtain ⟨hcz82_0, hcz82_1, hcz82_2, hcz82_3, hcz82_4⟩ := cz5 BK501.out
                   go_wp2_with (first | (go_at_call 42; (first | (with_reducible refine (spec_NameRight.calls _ _ _ _ A71.out).mono ?_) | (with_reducible refine (calls_of_args ?_ (spec_NameRight.calls _ _ _ _ A71.out)).mono ?_; focus (simp [*]; done))); rintro e w' ⟨rfl, ⟨nd, rfl⟩⟩) | (go_at_call 42; (first | (with_reducible refine (spec_NameRight.calls _ _ _ _ A73.out).mono ?_) | (with_reducible refine (calls_of_args ?_ (spec_NameRight.calls _ _ _ _ A73.out)).mono ?_; focus (simp [*]; done))); rintro e w' ⟨rfl, ⟨nd, rfl⟩⟩))
                   go_ret
                   exact fin_ HB
                 rw [if_pos c78] at H
                 have c78b0 : (a0_3.toList == ([60, 105, 110, 105, 116, 62] : List UInt8)) = true := beq_iff_eq.mpr c78
                 have c78b1 : (a0_3.toList != ([60, 105, 110, 105, 116, 62] : List UInt8)) = false := bne_eq_false_iff_eq.mpr c78
                 clear c78
                 replace H := Option.bind_eq_some_iff.mp H
                 obtain ⟨⟨t521, t524, t525, t526⟩, A790, H⟩ := H
                 (try dsimp only at H)
                 have A79 := Zm A790
                 clear A790
                 obtain rfl := Option.some.inj H
                 obtain ⟨hcz80_0, hcz80_1, hcz80_2, hcz80_3, hcz80_4⟩ := cz5 BK501.out
                 go_wp2_with (first | (go_at_call 42; (first | (with_reducible refine (spec_NameRight.calls _ _ _ _ A71.out).mono ?_) | (with_reducible refine (calls_of_args ?_ (spec_NameRight.calls _ _ _ _ A71.out)).mono ?_; focus (simp [*]; done))); rintro e w' ⟨rfl, ⟨nd, rfl⟩⟩) | (go_at_call 42; (first | (with_reducible refine (spec_NameRight.calls _ _ _ _ A73.out).mono ?_) | (with_reducible refine (calls_of_args ?_ (spec_NameRight.calls _ _ _ _ A73.out)).mono ?_; focus (simp [*]; done))); rintro e w' ⟨rfl, ⟨nd, rfl⟩⟩; (try clear BK501)) | (go_at_call 44; (first | (with_reducible refine (spec_DescRead.calls _ _ _ _ _ _ _ A79.out).mono ?_) | (with_reducible refine (calls_of_args ?_ (spec_DescRead.calls _ _ _ _ _ _ _ A79.out)).mono ?_; focus (simp [*]; done))); rintro e w81 ⟨v522, rfl, ho0, hb⟩; have n0_ := (⟨Zm (Kd.R_lower ho0 (Zbz (bk HB.out))), Zm (Zbt (bk HB.out) hb)⟩ : _ ∧ _); clear HB; obtain ⟨HO523, HB⟩ := n0_; (try clear hb); (try clear hb2); (try clear hk); (try clear hi); (try clear ho0)))
                 go_ret
                 exact fin_ HB
               subst c74
               rw [if_pos rfl] at H
               replace H := Option.bind_eq_some_iff.mp H
               obtain ⟨⟨t515, t518, t519, t520⟩, A750, H⟩ := H
               (try dsimp only at H)
               have A75 := Zm A750
               clear A750
               obtain rfl := Option.some.inj H
               obtain ⟨hcz76_0, hcz76_1, hcz76_2, hcz76_3, hcz76_4⟩ := cz5 BK501.out
               go_wp2_with (first | (go_at_call 42; (first | (with_reducible refine (spec_NameRight.calls _ _ _ _ A71.out).mono ?_) | (with_reducible refine (calls_of_args ?_ (spec_NameRight.calls _ _ _ _ A71.out)).mono ?_; focus (simp [*]; done))); rintro e w' ⟨rfl, ⟨nd, rfl⟩⟩) | (go_at_call 42; (first | (with_reducible refine (spec_NameRight.calls _ _ _ _ A73.out).mono ?_) | (with_reducible refine (calls_of_args ?_ (spec_NameRight.calls _ _ _ _ A73.out)).mono ?_; focus (simp [*]; done))); rintro e w' ⟨rfl, ⟨nd, rfl⟩⟩; (try clear BK501)) | (go_at_call 44; (first | (with_reducible refine (spec_DescRead.calls _ _ _ _ _ _ _ A75.out).mono ?_) | (with_reducible refine (calls_of_args ?_ (spec_DescRead.calls _ _ _ _ _ _ _ A75.out)).mono ?_; focus (simp [*]; done))); rintro e w77 ⟨v516, rfl, ho0, hb⟩; have n0_ := (⟨Zm (Kd.R_lower ho0 (Zbz (bk HB.out))), Zm (Zbt (bk HB.out) hb)⟩ : _ ∧ _); clear HB; obtain ⟨HO517, HB⟩ := n0_; (try clear hb); (try clear hb2); (try clear hk); (try clear hi); (try clear ho0)))
               go_ret
               exact fin_ HB
             rw [if_pos c58] at H
             have c58b0 : (t502.toList == ([102] : List UInt8)) = true := beq_iff_eq.mpr c58
             have c58b1 : (t502.toList != ([102] : List UInt8)) = false := bne_eq_false_iff_eq.mpr c58
             clear c58
             by_cases c59 : a0_1 = 0
             rotate_left
             · rw [if_neg c59] at H
               have c59b0 : (a0_1 == 0) = false := beq_eq_false_iff_ne.mpr c59
               have c59b1 : (a0_1 != 0) = true := bne_iff_ne.mpr c59
               obtain rfl := Option.some.inj H
               obtain ⟨hcz68_0, hcz68_1, hcz68_2, hcz68_3, hcz68_4⟩ := cz5 BK501.out
               go_wp2
               go_ret
               exact fin_ HB
             rw [if_pos c59] at H
             have c59b0 : (a0_1 == 0) = true := beq_iff_eq.mpr c59
             have c59b1 : (a0_1 != 0) = false := bne_eq_false_iff_eq.mpr c59
             clear c59
             replace H := Option.bind_eq_some_iff.mp H
             obtain ⟨t510, A600, H⟩ := H
             (try dsimp only at H)
             have A60 := Zm A600
             clear A600
             by_cases c61 : t510 = true
             rotate_left
             · replace c61 := Bool.eq_false_iff.mpr c61
               subst c61
               rw [if_neg (show ¬ (false = true) by decide)] at H
               obtain rfl := Option.some.inj H
               obtain ⟨hcz67_0, hcz67_1, hcz67_2, hcz67_3, hcz67_4⟩ := cz5 BK501.out
               (try clear BK501)
               go_wp2_with (first | (go_at_call 42; (first | (with_reducible refine (spec_NameRight.calls _ _ _ _ A60.out).mono ?_) | (with_reducible refine (calls_of_args ?_ (spec_NameRight.calls _ _ _ _ A60.out)).mono ?_; focus (simp [*]; done))); rintro e w' ⟨rfl, ⟨nd, rfl⟩⟩))
               go_ret
               exact fin_ HB
             subst c61
             rw [if_pos rfl] at H
             replace H := Option.bind_eq_some_iff.mp H
             obtain ⟨t511, A620, H⟩ := H
             (try dsimp only at H)
             have A62 := Zm A620
             clear A620
             by_cases c63 : t511 = true
             rotate_left
             · replace c63 := Bool.eq_false_iff.mpr c63
               subst c63
               rw [if_neg (show ¬ (false = true) by decide)] at H
               obtain rfl := Option.some.inj H
               obtain ⟨hcz66_0, hcz66_1, hcz66_2, hcz66_3, hcz66_4⟩ := cz5 BK501.out
               go_wp2_with (first | (go_at_call 42; (first | (with_reducible refine (spec_NameRight.calls _ _ _ _ A60.out).mono ?_) | (with_reducible refine (calls_of_args ?_ (spec_NameRight.calls _ _ _ _ A60.out)).mono ?_; focus (simp [*]; done))); rintro e w' ⟨rfl, ⟨nd, rfl⟩⟩; (try clear BK501)) | (go_at_call 42; (first | (with_reducible refine (spec_NameRight.calls _ _ _ _ A62.out).mono ?_) | (with_reducible refine (calls_of_args ?_ (spec_NameRight.calls _ _ _ _ A62.out)).mono ?_; focus (simp [*]; done))); rintro e w' ⟨rfl, ⟨nd, rfl⟩⟩))
               go_ret
               exact fin_ HB
             subst c63
             rw [if_pos rfl] at H
             replace H := Option.bind_eq_some_iff.mp H
             obtain ⟨t512, A640, H⟩ := H
             (try dsimp only at H)
             have A64 := Zm A640
             clear A640
             obtain rfl := Option.some.inj H
             obtain ⟨hcz65_0, hcz65_1, hcz65_2, hcz65_3, hcz65_4⟩ := cz5 BK501.out
             go_wp2_with (first | (go_at_call 42; (first | (with_reducible refine (spec_NameRight.calls _ _ _ _ A60.out).mono ?_) | (with_reducible refine (calls_of_args ?_ (spec_NameRight.calls _ _ _ _ A60.out)).mono ?_; focus (simp [*]; done))); rintro e w' ⟨rfl, ⟨nd, rfl⟩⟩) | (go_at_call 42; (first | (with_reducible refine (spec_NameRight.calls _ _ _ _ A62.out).mono ?_) | (with_reducible refine (calls_of_args ?_ (spec_NameRight.calls _ _ _ _ A62.out)).mono ?_; focus (simp [*]; done))); rintro e w' ⟨rfl, ⟨nd, rfl⟩⟩; (try clear BK501)) | (go_at_call 43; (first | (with_reducible refine (spec_TypeRight.calls _ _ _ _ A64.out).mono ?_) | (with_reducible refine (calls_of_args ?_ (spec_TypeRight.calls _ _ _ _ A64.out)).mono ?_; focus (simp [*]; done))); rintro e w' ⟨rfl, ⟨nd, rfl⟩⟩))
             go_ret
             exact fin_ HB
           rw [if_pos c45] at H
           have c45b0 : (t502.toList == ([121] : List UInt8)) = true := beq_iff_eq.mpr c45
           have c45b1 : (t502.toList != ([121] : List UInt8)) = false := bne_eq_false_iff_eq.mpr c45
           clear c45
           by_cases c46 : a0_1 = 0
           rotate_left
           · rw [if_neg c46] at H
             have c46b0 : (a0_1 == 0) = false := beq_eq_false_iff_ne.mpr c46
             have c46b1 : (a0_1 != 0) = true := bne_iff_ne.mpr c46
             obtain rfl := Option.some.inj H
             obtain ⟨hcz57_0, hcz57_1, hcz57_2, hcz57_3, hcz57_4⟩ := cz5 BK501.out
             go_wp2
             go_ret
             exact fin_ HB
           rw [if_pos c46] at H
           have c46b0 : (a0_1 == 0) = true := beq_iff_eq.mpr c46
           have c46b1 : (a0_1 != 0) = false := bne_eq_false_iff_eq.mpr c46
           clear c46
           by_cases c47 : a0_2.toList = ([] : List UInt8)
           rotate_left
           · rw [if_neg c47] at H
             have c47b0 : (a0_2.toList == ([] : List UInt8)) = false := beq_eq_false_iff_ne.mpr c47
             have c47b1 : (a0_2.toList != ([] : List UInt8)) = true := bne_iff_ne.mpr c47
             obtain rfl := Option.some.inj H
             obtain ⟨hcz56_0, hcz56_1, hcz56_2, hcz56_3, hcz56_4⟩ := cz5 BK501.out
             go_wp2
             go_ret
             exact fin_ HB
           rw [if_pos c47] at H
           have c47b0 : (a0_2.toList == ([] : List UInt8)) = true := beq_iff_eq.mpr c47
           have c47b1 : (a0_2.toList != ([] : List UInt8)) = false := bne_eq_false_iff_eq.mpr c47
           clear c47
           by_cases c48 : a0_3.toList = ([] : List UInt8)
           rotate_left
           · rw [if_neg c48] at H
             have c48b0 : (a0_3.toList == ([] : List UInt8)) = false := beq_eq_false_iff_ne.mpr c48
             have c48b1 : (a0_3.toList != ([] : List UInt8)) = true := bne_iff_ne.mpr c48
             obtain rfl := Option.some.inj H
             obtain ⟨hcz55_0, hcz55_1, hcz55_2, hcz55_3, hcz55_4⟩ := cz5 BK501.out
             go_wp2
             go_ret
             exact fin_ HB
           rw [if_pos c48] at H
           have c48b0 : (a0_3.toList == ([] : List UInt8)) = true := beq_iff_eq.mpr c48
           have c48b1 : (a0_3.toList != ([] : List UInt8)) = false := bne_eq_false_iff_eq.mpr c48
           clear c48
           replace H := Option.bind_eq_some_iff.mp H
           obtain ⟨t509, A490, H⟩ := H
           (try dsimp only at H)
           have A49 := Zm A490
           clear A490
           by_cases c50 : t509 = true
           rotate_left
           · replace c50 := Bool.eq_false_iff.mpr c50
             subst c50
             rw [if_neg (show ¬ (false = true) by decide)] at H
             obtain rfl := Option.some.inj H
             obtain ⟨hcz54_0, hcz54_1, hcz54_2, hcz54_3, hcz54_4⟩ := cz5 BK501.out
             (try clear BK501)
             go_wp2_with (first | (go_at_call 43; (first | (with_reducible refine (spec_TypeRight.calls _ _ _ _ A49.out).mono ?_) | (with_reducible refine (calls_of_args ?_ (spec_TypeRight.calls _ _ _ _ A49.out)).mono ?_; focus (simp [*]; done))); rintro e w' ⟨rfl, ⟨nd, rfl⟩⟩))
             go_ret
             exact fin_ HB
           subst c50
           rw [if_pos rfl] at H
           by_cases c51 : 0 < (a0_4.size : Int)
           rotate_left
           · rw [if_neg c51] at H
             exact absurd H (by simp)
           rw [if_pos c51] at H
           have c51b0 := decide_eq_true c51
           have c51b1 : decide (0 < a0_4.size) = true := decide_eq_true (by omega)
           clear c51
           obtain rfl := Option.some.inj H
           obtain ⟨hcz53_0, hcz53_1, hcz53_2, hcz53_3, hcz53_4⟩ := cz5 BK501.out
           go_wp2_with (first | (go_at_call 43; (first | (with_reducible refine (spec_TypeRight.calls _ _ _ _ A49.out).mono ?_) | (with_reducible refine (calls_of_args ?_ (spec_TypeRight.calls _ _ _ _ A49.out)).mono ?_; focus (simp [*]; done))); rintro e w' ⟨rfl, ⟨nd, rfl⟩⟩; have p52 : 0 ≤ (0 : Int) := (by omega); have q52 : 0 < a0_4.size := (by have : (0 : Int) < (a0_4.size : Int) := of_decide_eq_true (by first | (with_reducible assumption) | assumption); omega); have hx52 : ∀ h : 0 < a0_4.size, ((a0_4[0]'h).toNat : Int) = bt a0_4 0 := bt_at a0_4 0; clear p52; have qi52 : (0 < (a0_4.size : Int)) = True := eq_true (of_decide_eq_true (by first | (with_reducible assumption) | assumption)); replace q52 := eq_true q52))
           go_ret
           exact fin_ HB
         rw [if_pos c36] at H
         have c36b0 : (t502.toList == ([99] : List UInt8)) = true := beq_iff_eq.mpr c36
         have c36b1 : (t502.toList != ([99] : List UInt8)) = false := bne_eq_false_iff_eq.mpr c36
         clear c36
         by_cases c37 : a0_1 = 0
         rotate_left
         · rw [if_neg c37] at H
           have c37b0 : (a0_1 == 0) = false := beq_eq_false_iff_ne.mpr c37
           have c37b1 : (a0_1 != 0) = true := bne_iff_ne.mpr c37
           obtain rfl := Option.some.inj H
           obtain ⟨hcz44_0, hcz44_1, hcz44_2, hcz44_3, hcz44_4⟩ := cz5 BK501.out
           go_wp2
           go_ret
           exact fin_ HB
         rw [if_pos c37] at H
         have c37b0 : (a0_1 == 0) = true := beq_iff_eq.mpr c37
         have c37b1 : (a0_1 != 0) = false := bne_eq_false_iff_eq.mpr c37
         clear c37
         replace H := Option.bind_eq_some_iff.mp H
         obtain ⟨t508, A380, H⟩ := H
         (try dsimp only at H)
         have A38 := Zm A380
         clear A380
         by_cases c39 : t508 = true
         rotate_left
         · replace c39 := Bool.eq_false_iff.mpr c39
           subst c39
           rw [if_neg (show ¬ (false = true) by decide)] at H
           obtain rfl := Option.some.inj H
           obtain ⟨hcz43_0, hcz43_1, hcz43_2, hcz43_3, hcz43_4⟩ := cz5 BK501.out
           (try clear BK501)
           go_wp2_with (first | (go_at_call 42; (first | (with_reducible refine (spec_NameRight.calls _ _ _ _ A38.out).mono ?_) | (with_reducible refine (calls_of_args ?_ (spec_NameRight.calls _ _ _ _ A38.out)).mono ?_; focus (simp [*]; done))); rintro e w' ⟨rfl, ⟨nd, rfl⟩⟩))
           go_ret
           exact fin_ HB
         subst c39
         rw [if_pos rfl] at H
         by_cases c40 : a0_3.toList = ([] : List UInt8)
         rotate_left
         · rw [if_neg c40] at H
           have c40b0 : (a0_3.toList == ([] : List UInt8)) = false := beq_eq_false_iff_ne.mpr c40
           have c40b1 : (a0_3.toList != ([] : List UInt8)) = true := bne_iff_ne.mpr c40
           obtain rfl := Option.some.inj H
           obtain ⟨hcz42_0, hcz42_1, hcz42_2, hcz42_3, hcz42_4⟩ := cz5 BK501.out
           go_wp2_with (first | (go_at_call 42; (first | (with_reducible refine (spec_NameRight.calls _ _ _ _ A38.out).mono ?_) | (with_reducible refine (calls_of_args ?_ (spec_NameRight.calls _ _ _ _ A38.out)).mono ?_; focus (simp [*]; done))); rintro e w' ⟨rfl, ⟨nd, rfl⟩⟩))
           go_ret
           exact fin_ HB
         rw [if_pos c40] at H
         have c40b0 : (a0_3.toList == ([] : List UInt8)) = true := beq_iff_eq.mpr c40
         have c40b1 : (a0_3.toList != ([] : List UInt8)) = false := bne_eq_false_iff_eq.mpr c40
         clear c40
         obtain rfl := Option.some.inj H
         obtain ⟨hcz41_0, hcz41_1, hcz41_2, hcz41_3, hcz41_4⟩ := cz5 BK501.out
         go_wp2_with (first | (go_at_call 42; (first | (with_reducible refine (spec_NameRight.calls _ _ _ _ A38.out).mono ?_) | (with_reducible refine (calls_of_args ?_ (spec_NameRight.calls _ _ _ _ A38.out)).mono ?_; focus (simp [*]; done))); rintro e w' ⟨rfl, ⟨nd, rfl⟩⟩))
         go_ret
         exact fin_ HB
       rw [if_pos c28] at H
       have c28b0 : (t502.toList == ([116] : List UInt8)) = true := beq_iff_eq.mpr c28
       have c28b1 : (t502.toList != ([116] : List UInt8)) = false := bne_eq_false_iff_eq.mpr c28
       clear c28
       by_cases c29 : a0_1 ≥ 0
       rotate_left
       · rw [if_neg c29] at H
         have c29b0 : decide (0 ≤ a0_1) = false := decide_eq_false c29
         clear c29
         obtain rfl := Option.some.inj H
         obtain ⟨hcz35_0, hcz35_1, hcz35_2, hcz35_3, hcz35_4⟩ := cz5 BK501.out
         go_wp2
         go_ret
         exact fin_ HB
       rw [if_pos c29] at H
       have c29b0 : decide (0 ≤ a0_1) = true := decide_eq_true c29
       clear c29
       by_cases c30 : a0_1 < 60
       rotate_left
       · rw [if_neg c30] at H
         have c30b0 := decide_eq_false c30
         clear c30
         obtain rfl := Option.some.inj H
         obtain ⟨hcz34_0, hcz34_1, hcz34_2, hcz34_3, hcz34_4⟩ := cz5 BK501.out
         go_wp2
         go_ret
         exact fin_ HB
       rw [if_pos c30] at H
       have c30b0 := decide_eq_true c30
       clear c30
       replace H := Option.bind_eq_some_iff.mp H
       obtain ⟨t507, A310, H⟩ := H
       (try dsimp only at H)
       have A31 := Zm A310
       clear A310
       obtain rfl := Option.some.inj H
       obtain ⟨hcz32_0, hcz32_1, hcz32_2, hcz32_3, hcz32_4⟩ := cz5 BK501.out
       (try clear BK501)
       go_wp2_with (first | (go_at_call 40; (first | (with_reducible refine (spec_l03Empty.calls _ _ _ _ _ _ _ A31.out).mono ?_) | (with_reducible refine (calls_of_args ?_ (spec_l03Empty.calls _ _ _ _ _ _ _ A31.out)).mono ?_; focus (simp [*]; done))); rintro e w33 ⟨rfl, hb⟩; have n0_ := Zm (Zbt (bk HB.out) hb); clear HB; have HB := n0_; clear n0_; (try clear hb); (try clear hb2); (try clear hk); (try clear hi)))
       go_ret
       exact fin_ HB
     rw [if_pos c20] at H
     have c20b0 : (t502.toList == ([105] : List UInt8)) = true := beq_iff_eq.mpr c20
     have c20b1 : (t502.toList != ([105] : List UInt8)) = false := bne_eq_false_iff_eq.mpr c20
     clear c20
     by_cases c21 : a0_1 ≥ 0
     rotate_left
     · rw [if_neg c21] at H
       have c21b0 : decide (0 ≤ a0_1) = false := decide_eq_false c21
       clear c21
       obtain rfl := Option.some.inj H
       obtain ⟨hcz27_0, hcz27_1, hcz27_2, hcz27_3, hcz27_4⟩ := cz5 BK501.out
       go_wp2
       go_ret
       exact fin_ HB
     rw [if_pos c21] at H
     have c21b0 : decide (0 ≤ a0_1) = true := decide_eq_true c21
     clear c21
     by_cases c22 : a0_1 < 16
     rotate_left
     · rw [if_neg c22] at H
       have c22b0 := decide_eq_false c22
       clear c22
       obtain rfl := Option.some.inj H
       obtain ⟨hcz26_0, hcz26_1, hcz26_2, hcz26_3, hcz26_4⟩ := cz5 BK501.out
       go_wp2
       go_ret
       exact fin_ HB
     rw [if_pos c22] at H
     have c22b0 := decide_eq_true c22
     clear c22
     replace H := Option.bind_eq_some_iff.mp H
     obtain ⟨t506, A230, H⟩ := H
     (try dsimp only at H)
     have A23 := Zm A230
     clear A230
     obtain rfl := Option.some.inj H
     obtain ⟨hcz24_0, hcz24_1, hcz24_2, hcz24_3, hcz24_4⟩ := cz5 BK501.out
     (try clear BK501)
     go_wp2_with (first | (go_at_call 40; (first | (with_reducible refine (spec_l03Empty.calls _ _ _ _ _ _ _ A23.out).mono ?_) | (with_reducible refine (calls_of_args ?_ (spec_l03Empty.calls _ _ _ _ _ _ _ A23.out)).mono ?_; focus (simp [*]; done))); rintro e w25 ⟨rfl, hb⟩; have n0_ := Zm (Zbt (bk HB.out) hb); clear HB; have HB := n0_; clear n0_; (try clear hb); (try clear hb2); (try clear hk); (try clear hi)))
     go_ret
     exact fin_ HB
   rw [if_pos c13] at H
   have c13b0 : (t502.toList == ([110] : List UInt8)) = true := beq_iff_eq.mpr c13
   have c13b1 : (t502.toList != ([110] : List UInt8)) = false := bne_eq_false_iff_eq.mpr c13
   clear c13
   replace H := Option.bind_eq_some_iff.mp H
   obtain ⟨t504, A140, H⟩ := H
   (try dsimp only at H)
   have A14 := Zm A140
   clear A140
   by_cases c15 : t504 = true
   rotate_left
   · replace c15 := Bool.eq_false_iff.mpr c15
     subst c15
     rw [if_neg (show ¬ (false = true) by decide)] at H
     obtain rfl := Option.some.inj H
     obtain ⟨hcz19_0, hcz19_1, hcz19_2, hcz19_3, hcz19_4⟩ := cz5 BK501.out
     (try clear BK501)
     go_wp2_with (first | ((with_reducible refine gate_callee (f := 41) rfl ?_); refine ge_ (some 19) Tryz.func41 #[.int .i64 a0_1] ?_; (with_reducible refine (spec_l01Int.calls _ _ _ A14.out).mono ?_); rintro e w' ⟨rfl, ⟨nd, rfl⟩⟩; refine ⟨_, rfl, ?_⟩))
     go_ret
     exact fin_ HB
   subst c15
   rw [if_pos rfl] at H
   replace H := Option.bind_eq_some_iff.mp H
   obtain ⟨t505, A160, H⟩ := H
   (try dsimp only at H)
   have A16 := Zm A160
   clear A160
   obtain rfl := Option.some.inj H
   obtain ⟨hcz17_0, hcz17_1, hcz17_2, hcz17_3, hcz17_4⟩ := cz5 BK501.out
   go_wp2_with (first | ((with_reducible refine gate_callee (f := 41) rfl ?_); refine ge_ (some 19) Tryz.func41 #[.int .i64 a0_1] ?_; (with_reducible refine (spec_l01Int.calls _ _ _ A14.out).mono ?_); rintro e w' ⟨rfl, ⟨nd, rfl⟩⟩; refine ⟨_, rfl, ?_⟩; (try clear BK501)) | (go_at_call 40; (first | (with_reducible refine (spec_l03Empty.calls _ _ _ _ _ _ _ A16.out).mono ?_) | (with_reducible refine (calls_of_args ?_ (spec_l03Empty.calls _ _ _ _ _ _ _ A16.out)).mono ?_; focus (simp [*]; done))); rintro e w18 ⟨rfl, hb⟩; have n0_ := Zm (Zbt (bk HB.out) hb); clear HB; have HB := n0_; clear n0_; (try clear hb); (try clear hb2); (try clear hk); (try clear hi)))
   go_ret
   exact fin_ HB
 rw [if_pos c7] at H
 have c7b0 : (t502.toList == ([] : List UInt8)) = true := beq_iff_eq.mpr c7
 have c7b1 : (t502.toList != ([] : List UInt8)) = false := bne_eq_false_iff_eq.mpr c7
 clear c7
 (first | rw [c7b0] | (simp only [i64_w, i32_w]; rw [c7b0]) | rw [ie_ c7b0] | skip)
 by_cases c8 : a0_1 = 0
 rotate_left
 · rw [if_neg c8] at H
   have c8b0 : (a0_1 == 0) = false := beq_eq_false_iff_ne.mpr c8
   have c8b1 : (a0_1 != 0) = true := bne_iff_ne.mpr c8
   obtain rfl := Option.some.inj H
   obtain ⟨hcz12_0, hcz12_1, hcz12_2, hcz12_3, hcz12_4⟩ := cz5 BK501.out
   go_wp2
   go_ret
   exact fin_ HB
 rw [if_pos c8] at H
 have c8b0 : (a0_1 == 0) = true := beq_iff_eq.mpr c8
 have c8b1 : (a0_1 != 0) = false := bne_eq_false_iff_eq.mpr c8
 clear c8
 replace H := Option.bind_eq_some_iff.mp H
 obtain ⟨t503, A90, H⟩ := H
 (try dsimp only at H)
 have A9 := Zm A90
 clear A90
 obtain rfl := Option.some.inj H
 obtain ⟨hcz10_0, hcz10_1, hcz10_2, hcz10_3, hcz10_4⟩ := cz5 BK501.out
 (try clear BK501)
 go_wp2_with (first | (go_at_call 40; (first | (with_reducible refine (spec_l03Empty.calls _ _ _ _ _ _ _ A9.out).mono ?_) | (with_reducible refine (calls_of_args ?_ (spec_l03Empty.calls _ _ _ _ _ _ _ A9.out)).mono ?_; focus (simp [*]; done))); rintro e w11 ⟨rfl, hb⟩; have n0_ := Zm (Zbt (bk HB.out) hb); clear HB; have HB := n0_; clear n0_; (try clear hb); (try clear hb2); (try clear hk); (try clear hi)))
 go_ret
 exact fin_ HB
-- NOT PRINTED: function 113 (strconv_ParseInt)

/-! ### impl_numberOf: function 87 -/
def impl_numberOf.f (a0 : ByteArray) : Option (Int × Bool) := if a0.size ≤ 281474976710656 then (match Lib.parseIntB 64 a0.data.toList with | .ok v => ((impl_isInt.f v).bind fun t => if t = true then ((impl_text.f v).bind fun s => if s.toList = a0.toList then some (v, true) else some (0, false)) else some (0, false)) | _ => some (0, false)) else none
set_option maxHeartbeats 8000000 in
set_option maxRecDepth 100000 in
theorem impl_numberOf.calls (a0 : ByteArray) (r1 : Int) (r2 : Bool) (w : World) (h : impl_numberOf.f a0 = some (r1, r2)) (htab : Tabs w := by exact tab_) :
    Calls Tryz.prog 87 #[.string a0] w fun e w' => e = .returned (.tuple #[.int .i64 r1, .bool r2]) ∧ Below w.heap.size w w' := by
  have HTAB := Zm htab
  clear htab
  unfold impl_numberOf.f at h; have HB := Zm (Below.refl w.heap.size w); split at h
  case isFalse => cases h
  case isTrue hs =>
    cases hP : Lib.parseIntB 64 a0.data.toList with
    | ok v =>
      rw [hP] at h; dsimp only at h; obtain ⟨t, ht, h⟩ := Option.bind_eq_some_iff.mp h
      have PI : Aside0 (∀ W : World, Calls Tryz.prog 113 #[.string a0, .int .i64 10, .int .i64 64] W fun e w' => e = .returned (.tuple #[.int .i64 v, .nilIface]) ∧ Below W.heap.size W w') := ⟨fun W => (Tryz.strconv_ParseInt_10_at64_ok a0 (by omega) v hP W).mono fun e w' ⟨he, hw⟩ => ⟨he, by
        rcases hw with rfl | ⟨t, rfl⟩
        · exact Below.refl _ _
        · exact Lib.bytesWorld_below _ _ _⟩⟩
      have A1 := Zm ht; clear ht hP
      cases t with
      | false =>
        rw [if_neg (by simp)] at h; obtain ⟨rfl, rfl⟩ : 0 = r1 ∧ false = r2 := by simpa using h
        go_enter Tryz.func87, Tryz.ntmps87; go_wp2_with (first | ((with_reducible refine gate_callee (f := 113) rfl ?_); refine ge_ (some 8) Tryz.func113 #[.string a0, .int .i64 10, .int .i64 64] ?_; refine (PI.out _).mono ?_; rintro e w' ⟨rfl, hb⟩; refine ⟨_, rfl, ?_⟩; have n0_ := Zm (Zbt (bk HB.out) hb); clear HB hb; have HB := n0_; clear n0_) | (go_at_call 49; (with_reducible refine (impl_isInt.calls _ _ _ A1.out).mono ?_); rintro e w' ⟨rfl, ⟨nd, rfl⟩⟩)); go_ret2
        exact fin_ HB
      | true =>
        rw [if_pos rfl] at h; obtain ⟨s, hs2, h⟩ := Option.bind_eq_some_iff.mp h; have A2 := Zm hs2; clear hs2; by_cases c : s.toList = a0.toList
        · rw [if_pos c] at h; obtain ⟨rfl, rfl⟩ : v = r1 ∧ true = r2 := by simpa using h
          have e2 : (s.toList == a0.toList) = true := beq_iff_eq.mpr c; have e3 : (s.toList != a0.toList) = false := bne_eq_false_iff_eq.mpr c; go_enter Tryz.func87, Tryz.ntmps87; go_wp2_with (first | ((with_reducible refine gate_callee (f := 113) rfl ?_); refine ge_ (some 8) Tryz.func113 #[.string a0, .int .i64 10, .int .i64 64] ?_; refine (PI.out _).mono ?_; rintro e w' ⟨rfl, hb⟩; refine ⟨_, rfl, ?_⟩; have n0_ := Zm (Zbt (bk HB.out) hb); clear HB hb; have HB := n0_; clear n0_) | (go_at_call 49; (with_reducible refine (impl_isInt.calls _ _ _ A1.out).mono ?_); rintro e w' ⟨rfl, ⟨nd, rfl⟩⟩) | (go_at_call 72; (with_reducible refine (impl_text.calls _ _ _ A2.out).mono ?_); rintro e w' ⟨rfl, hb⟩; have n0_ := Zm (Zbt (bk HB.out) hb); clear HB hb; have HB := n0_; clear n0_)); go_ret2; exact fin_ HB
        · rw [if_neg c] at h; obtain ⟨rfl, rfl⟩ : 0 = r1 ∧ false = r2 := by simpa using h
          have e2 : (s.toList == a0.toList) = false := beq_eq_false_iff_ne.mpr c; have e3 : (s.toList != a0.toList) = true := bne_iff_ne.mpr c; go_enter Tryz.func87, Tryz.ntmps87; go_wp2_with (first | ((with_reducible refine gate_callee (f := 113) rfl ?_); refine ge_ (some 8) Tryz.func113 #[.string a0, .int .i64 10, .int .i64 64] ?_; refine (PI.out _).mono ?_; rintro e w' ⟨rfl, hb⟩; refine ⟨_, rfl, ?_⟩; have n0_ := Zm (Zbt (bk HB.out) hb); clear HB hb; have HB := n0_; clear n0_) | (go_at_call 49; (with_reducible refine (impl_isInt.calls _ _ _ A1.out).mono ?_); rintro e w' ⟨rfl, ⟨nd, rfl⟩⟩) | (go_at_call 72; (with_reducible refine (impl_text.calls _ _ _ A2.out).mono ?_); rintro e w' ⟨rfl, hb⟩; have n0_ := Zm (Zbt (bk HB.out) hb); clear HB hb; have HB := n0_; clear n0_)); go_ret2
          exact fin_ HB
    | range =>
      rw [hP] at h; obtain ⟨rfl, rfl⟩ : 0 = r1 ∧ false = r2 := by simpa using h
      obtain ⟨tp, p, hv⟩ := HTAB.out.er; go_enter Tryz.func87, Tryz.ntmps87; go_wp2_with ((with_reducible refine gate_callee (f := 113) rfl ?_); refine ge_ (some 8) Tryz.func113 #[.string a0, .int .i64 10, .int .i64 64] ?_; refine (Tryz.strconv_ParseInt_10_at64_range_var a0 hs hP tp p _ hv).mono ?_; rintro e w' ⟨N_, rfl, _, _, hb⟩; refine ⟨_, rfl, ?_⟩; have n0_ := Zm (Zbt (bk HB.out) hb); clear HB hb; have HB := n0_; clear n0_); go_ret2; exact fin_ HB
    | _ =>
      rw [hP] at h; obtain ⟨rfl, rfl⟩ : 0 = r1 ∧ false = r2 := by simpa using h
      obtain ⟨tp, p, hv⟩ := HTAB.out.es; go_enter Tryz.func87, Tryz.ntmps87; go_wp2_with ((with_reducible refine gate_callee (f := 113) rfl ?_); refine ge_ (some 8) Tryz.func113 #[.string a0, .int .i64 10, .int .i64 64] ?_; refine (Tryz.strconv_ParseInt_10_at64_syntax_var a0 hs hP tp p _ hv).mono ?_; rintro e w' ⟨N_, rfl, _, _, hb⟩; refine ⟨_, rfl, ?_⟩; have n0_ := Zm (Zbt (bk HB.out) hb); clear HB hb; have HB := n0_; clear n0_); go_ret2
      exact fin_ HB

/-! ### map_make46: function 203 -/
theorem map46_ins {P : Program} (w : World) {ops : Array Oper} {rest : List Oper} {o : Oper} {a : Act} {Q : Exit → Act → World → Prop} (hg : o.guard = none) (m x v : Operand) (t : TypeId) (hop : o.op = Op.insert t m x v) (hd : o.dst = none)
    (k e : TypeId) (K : Go.Maps.Keyed P k) (ht : P.underlying t = some (.map k e)) (R : Value → Option (DataW Unit × List MemPlace)) (b n : Nat) (D : DataW Unit)
    (hm : a.eval m = .map (some b)) (hown : w.ownsMap P k R b n D) (hn : n < maxLen) (key val : Value) (kl : Lit) (hx : a.eval x = key) (hv : a.eval v = val) (hkey : keyOf P k key = some kl)
    (d : DataW Unit) (ps : List MemPlace) (hval : R val = some (d, ps)) (hK : ∀ w', w'.ownsMap P k R b (n + 1) (D.put kl d) → w.grownBy w' (some b) → wpList P ops Q rest a w') : wpList P ops Q (o :: rest) a w := by
  refine wpList_plain hg fun K' hK' => ?_
  obtain ⟨w', hrun, r1, r2⟩ := hown.update K ht hn hkey hval; unfold Oper.wp; simp [execOp, hop, hm, hx, hv, hrun, Result.andThen, hd]; exact hK' _ _ (by rw [hd]; exact hK w' r1 r2)
theorem map46_new {P : Program} {w : World} {ops : Array Oper} {rest : List Oper} {o : Oper} {a : Act} {Q : Exit → Act → World → Prop} (hg : o.guard = none) (t : TypeId) (hop : o.op = Op.makeMap t none) (K : ∀ w', w' = w.alloc (.map #[] 0) → wpList P ops Q rest (a.put o.dst (.map (some w.heap.size))) w') : wpList P ops Q (o :: rest) a w := by
  refine wpList_plain hg fun K' hK' => ?_
  unfold Oper.wp; simp [execOp, hop, run_makeMap, Result.andThen]; exact hK' _ _ (K _ rfl)
def map46_D : DataW Unit := ((((((((((.map []) : DataW Unit).put (.string []) (.lit (.int .i64 0))).put (.string [110]) (.lit (.int .i64 1))).put (.string [105]) (.lit (.int .i64 1))).put (.string [116]) (.lit (.int .i64 1))).put (.string [99]) (.lit (.int .i64 1))).put (.string [121]) (.lit (.int .i64 1))).put (.string [102]) (.lit (.int .i64 3))).put (.string [109]) (.lit (.int .i64 3)))
def map46_L (l : List UInt8) : Int × Bool := if l = ([] : List UInt8) then (0, true) else (if l = ([110] : List UInt8) then (1, true) else (if l = ([105] : List UInt8) then (1, true) else (if l = ([116] : List UInt8) then (1, true) else (if l = ([99] : List UInt8) then (1, true) else (if l = ([121] : List UInt8) then (1, true) else (if l = ([102] : List UInt8) then (3, true) else (if l = ([109] : List UInt8) then (3, true) else ((0, false)))))))))
/-- What the map holds at a key. -/
theorem map46_at (l : List UInt8) : map46_D.atKey (.string l) (.lit (.int .i64 0)) = .lit (.int .i64 (map46_L l).1) ∧ Go.Maps.has map46_D (.string l) = (map46_L l).2 := by
  by_cases c0 : l = ([] : List UInt8)
  · subst c0; exact ⟨by kernel_rfl, by kernel_rfl⟩
  by_cases c1 : l = ([110] : List UInt8)
  · subst c1; exact ⟨by kernel_rfl, by kernel_rfl⟩
  by_cases c2 : l = ([105] : List UInt8)
  · subst c2; exact ⟨by kernel_rfl, by kernel_rfl⟩
  by_cases c3 : l = ([116] : List UInt8)
  · subst c3; exact ⟨by kernel_rfl, by kernel_rfl⟩
  by_cases c4 : l = ([99] : List UInt8)
  · subst c4; exact ⟨by kernel_rfl, by kernel_rfl⟩
  by_cases c5 : l = ([121] : List UInt8)
  · subst c5; exact ⟨by kernel_rfl, by kernel_rfl⟩
  by_cases c6 : l = ([102] : List UInt8)
  · subst c6; exact ⟨by kernel_rfl, by kernel_rfl⟩
  by_cases c7 : l = ([109] : List UInt8)
  · subst c7; exact ⟨by kernel_rfl, by kernel_rfl⟩
  have e : map46_D = .map [(.string [], (.lit (.int .i64 0))), (.string [99], (.lit (.int .i64 1))), (.string [102], (.lit (.int .i64 3))), (.string [105], (.lit (.int .i64 1))), (.string [109], (.lit (.int .i64 3))), (.string [110], (.lit (.int .i64 1))), (.string [116], (.lit (.int .i64 1))), (.string [121], (.lit (.int .i64 1)))] := by kernel_rfl
  have sk : ∀ x y : List UInt8, (Lit.string x).sameKey (.string y) = decide (x = y) := fun x y => by by_cases h : x = y <;> simp [Lit.sameKey, h]
  rw [e]; unfold DataW.atKey Go.Maps.has map46_L; simp [sk, c0, c1, c2, c3, c4, c5, c6, c7, Ne.symm c0, Ne.symm c1, Ne.symm c2, Ne.symm c3, Ne.symm c4, Ne.symm c5, Ne.symm c6, Ne.symm c7]
/-- The map is made. -/
theorem map46_walk {ops : Array Oper} {rest : List Oper} {Q : Exit → Act → World → Prop} {a : Act} {w : World} {X : Tmp} {o0 o1 o2 o3 o4 o5 o6 o7 o8 : Oper} (q : o0.op = .makeMap 123 none ∧ o0.guard = none ∧ o0.dst = some X ∧ (a.put (some X) (.map (some w.heap.size))).eval (.tmp X) = .map (some w.heap.size)
    ∧ o1.guard = none ∧ o1.op = .insert 123 (.tmp X) (.const (.string ⟨#[]⟩)) (.const (.int .i64 0)) ∧ o1.dst = none
    ∧ o2.guard = none ∧ o2.op = .insert 123 (.tmp X) (.const (.string ⟨#[110]⟩)) (.const (.int .i64 1)) ∧ o2.dst = none
    ∧ o3.guard = none ∧ o3.op = .insert 123 (.tmp X) (.const (.string ⟨#[105]⟩)) (.const (.int .i64 1)) ∧ o3.dst = none
    ∧ o4.guard = none ∧ o4.op = .insert 123 (.tmp X) (.const (.string ⟨#[116]⟩)) (.const (.int .i64 1)) ∧ o4.dst = none
    ∧ o5.guard = none ∧ o5.op = .insert 123 (.tmp X) (.const (.string ⟨#[99]⟩)) (.const (.int .i64 1)) ∧ o5.dst = none
    ∧ o6.guard = none ∧ o6.op = .insert 123 (.tmp X) (.const (.string ⟨#[121]⟩)) (.const (.int .i64 1)) ∧ o6.dst = none
    ∧ o7.guard = none ∧ o7.op = .insert 123 (.tmp X) (.const (.string ⟨#[102]⟩)) (.const (.int .i64 3)) ∧ o7.dst = none
    ∧ o8.guard = none ∧ o8.op = .insert 123 (.tmp X) (.const (.string ⟨#[109]⟩)) (.const (.int .i64 3)) ∧ o8.dst = none)
    (K : ∀ w', w'.ownsMap Tryz.prog 9 (plainElem Tryz.prog 3) w.heap.size 8 map46_D → Below w.heap.size w w' → wpList Tryz.prog ops Q rest (a.put (some X) (.map (some w.heap.size))) w') : wpList Tryz.prog ops Q (o0 :: o1 :: o2 :: o3 :: o4 :: o5 :: o6 :: o7 :: o8 :: rest) a w := by
  obtain ⟨e0, g0, d0, hX, g1, e1, d1, g2, e2, d2, g3, e3, d3, g4, e4, d4, g5, e5, d5, g6, e6, d6, g7, e7, d7, g8, e8, d8⟩ := q; refine map46_new g0 _ e0 fun w0 hw0 => ?_
  rw [d0]; have b0 : Below w.heap.size w w0 := hw0 ▸ Zba (Below.refl _ _) _; have m0 : w0.ownsMap Tryz.prog 9 (plainElem (H := Unit) Tryz.prog 3) w.heap.size 0 (.map []) := hw0 ▸ World.ownsMap_made w _ _ _; refine map46_ins w0 g1 _ _ _ 123 e1 d1 9 3 (Go.Maps.string_keyed Tryz.underlying9) Tryz.underlying123 _ w.heap.size 0 _ hX m0 (by decide) (.string ⟨#[]⟩) (.int .i64 0) (.string []) rfl rfl (Go.WideMaps.keyOf_string_mk Tryz.underlying9 (by decide)) (.lit (.int .i64 0)) [] (plainElem_int Tryz.underlying3 (by decide)) fun w1 m1 s1 => ?_
  have b1 := b0.grown s1 b0.size (fun k hk => by cases hk; exact Nat.le_refl _); refine map46_ins w1 g2 _ _ _ 123 e2 d2 9 3 (Go.Maps.string_keyed Tryz.underlying9) Tryz.underlying123 _ w.heap.size 1 _ hX m1 (by decide) (.string ⟨#[110]⟩) (.int .i64 1) (.string [110]) rfl rfl (Go.WideMaps.keyOf_string_mk Tryz.underlying9 (by decide)) (.lit (.int .i64 1)) [] (plainElem_int Tryz.underlying3 (by decide)) fun w2 m2 s2 => ?_
  have b2 := b1.grown s2 b1.size (fun k hk => by cases hk; exact Nat.le_refl _); refine map46_ins w2 g3 _ _ _ 123 e3 d3 9 3 (Go.Maps.string_keyed Tryz.underlying9) Tryz.underlying123 _ w.heap.size 2 _ hX m2 (by decide) (.string ⟨#[105]⟩) (.int .i64 1) (.string [105]) rfl rfl (Go.WideMaps.keyOf_string_mk Tryz.underlying9 (by decide)) (.lit (.int .i64 1)) [] (plainElem_int Tryz.underlying3 (by decide)) fun w3 m3 s3 => ?_
  have b3 := b2.grown s3 b2.size (fun k hk => by cases hk; exact Nat.le_refl _); refine map46_ins w3 g4 _ _ _ 123 e4 d4 9 3 (Go.Maps.string_keyed Tryz.underlying9) Tryz.underlying123 _ w.heap.size 3 _ hX m3 (by decide) (.string ⟨#[116]⟩) (.int .i64 1) (.string [116]) rfl rfl (Go.WideMaps.keyOf_string_mk Tryz.underlying9 (by decide)) (.lit (.int .i64 1)) [] (plainElem_int Tryz.underlying3 (by decide)) fun w4 m4 s4 => ?_
  have b4 := b3.grown s4 b3.size (fun k hk => by cases hk; exact Nat.le_refl _); refine map46_ins w4 g5 _ _ _ 123 e5 d5 9 3 (Go.Maps.string_keyed Tryz.underlying9) Tryz.underlying123 _ w.heap.size 4 _ hX m4 (by decide) (.string ⟨#[99]⟩) (.int .i64 1) (.string [99]) rfl rfl (Go.WideMaps.keyOf_string_mk Tryz.underlying9 (by decide)) (.lit (.int .i64 1)) [] (plainElem_int Tryz.underlying3 (by decide)) fun w5 m5 s5 => ?_
  have b5 := b4.grown s5 b4.size (fun k hk => by cases hk; exact Nat.le_refl _); refine map46_ins w5 g6 _ _ _ 123 e6 d6 9 3 (Go.Maps.string_keyed Tryz.underlying9) Tryz.underlying123 _ w.heap.size 5 _ hX m5 (by decide) (.string ⟨#[121]⟩) (.int .i64 1) (.string [121]) rfl rfl (Go.WideMaps.keyOf_string_mk Tryz.underlying9 (by decide)) (.lit (.int .i64 1)) [] (plainElem_int Tryz.underlying3 (by decide)) fun w6 m6 s6 => ?_
  have b6 := b5.grown s6 b5.size (fun k hk => by cases hk; exact Nat.le_refl _); refine map46_ins w6 g7 _ _ _ 123 e7 d7 9 3 (Go.Maps.string_keyed Tryz.underlying9) Tryz.underlying123 _ w.heap.size 6 _ hX m6 (by decide) (.string ⟨#[102]⟩) (.int .i64 3) (.string [102]) rfl rfl (Go.WideMaps.keyOf_string_mk Tryz.underlying9 (by decide)) (.lit (.int .i64 3)) [] (plainElem_int Tryz.underlying3 (by decide)) fun w7 m7 s7 => ?_
  have b7 := b6.grown s7 b6.size (fun k hk => by cases hk; exact Nat.le_refl _); refine map46_ins w7 g8 _ _ _ 123 e8 d8 9 3 (Go.Maps.string_keyed Tryz.underlying9) Tryz.underlying123 _ w.heap.size 7 _ hX m7 (by decide) (.string ⟨#[109]⟩) (.int .i64 3) (.string [109]) rfl rfl (Go.WideMaps.keyOf_string_mk Tryz.underlying9 (by decide)) (.lit (.int .i64 3)) [] (plainElem_int Tryz.underlying3 (by decide)) fun w8 m8 s8 => ?_
  have b8 := b7.grown s8 b7.size (fun k hk => by cases hk; exact Nat.le_refl _); exact K w8 m8 b8
def map_make46.f  : Option (Int) := some 0

/-! ### map_look46: function 204 -/
def map_look46.f (a0 : ByteArray) : Option (Int × Bool) := if a0.size ≤ maxLen then some (map46_L a0.data.toList) else none
/-- A key is looked for. -/
theorem map46_look {ops : Array Oper} {rest : List Oper} {Q : Exit → Act → World → Prop} {a : Act} {w : World} {ty : TypeId} {ps : String} {af : Array Edge} {b : Nat} {m x : Operand} (hown : w.ownsMap Tryz.prog 9 (plainElem Tryz.prog 3) b 8 map46_D) (s : ByteArray) {r1 : Int} {r2 : Bool} (h : map_look46.f s = some (r1, r2)) {Y : Tmp}
    (q : a.eval m = .map (some b) ∧ a.eval x = .string s) (K : wpList Tryz.prog ops Q rest (a.put (some Y) (.tuple #[.int .i64 r1, .bool r2])) w) : wpList Tryz.prog ops Q ({ dst := some Y, op := Op.lookup 123 m x true, type := ty, pos := ps, after := af, guard := none } :: rest) a w := by
  obtain ⟨hm, hx⟩ := q; unfold map_look46.f at h; split at h
  · rename_i hs; have e := Option.some.inj h; refine wpList_lookup_own_ok_int w rfl m x 123 rfl 9 3 .i64 (Go.Maps.string_keyed Tryz.underlying9) Tryz.underlying123 Tryz.underlying3 (by kernel_rfl) b 8 map46_D hm hown (.string s) (.string s.data.toList) hx (Go.WideMaps.keyOf_string_mk Tryz.underlying9 hs) fun c hc _ => ?_
    have h2 := map46_at s.data.toList; rw [hc] at h2; rw [e] at h2; have e1 : c = r1 := by injection h2.1 with h3; injection h3
    have h4 : Go.Maps.has map46_D (.string s.data.toList) = r2 := h2.2; rw [h4, e1]; exact K
  · cases h

end Go.Proofs.YtcpnlfkmfpmkdaaGreatDoor.PFnInsText
