/- Functions of the program as plain Lean functions, each with a proof that the program's call comes to the same; no condition. Written by a program of this session. -/
import Derived.Test.YtdfnljchoomliaaDoorPFnExactInsTextx0
import Derived.Test.YtdfnljchoomliaaDoorPFnExactInsTextx1
import Derived.Test.YtdfnljchoomliaaDoorPFnExactInsTextx2
import Derived.Test.YtdfnljchoomliaaDoorPFnExactInsTextx3
namespace Go.Proofs.YtdfnljchoomliaaDoor.PFnExactInsText
open Go.RowKit Go.Proofs.YtdfnljchoomliaaDoorW.PrintWords Go.Proofs.YtdfnljchoomliaaDoorW.PrintLast Go.Proofs.YtdfnljchoomliaaDoorW.PrintMore
open Go.Proofs.YtdfnljchoomliaaDoorW.PrintWords renaming below_size → Zbz, below_step → Zbt, blk_frozen → Zkf, blk_below → Zkb
open Go.Proofs.YtdfnljchoomliaaDoorW.PrintWords.Aside0 renaming mk → Zm
attribute [local go_sem] max2_int min2_int max_two min_two max_three min_three max_four min_four   -- for this text's walks alone
set_option linter.unusedVariables false
set_option linter.unusedSimpArgs false

/-! ### spec_InsRight: function 30 -/
def spec_InsRight.f (k : Nat) (a0_0 : Int) (a0_1 : Int) (a0_2 : ByteArray) (a0_3 : ByteArray) (a0_4 : ByteArray) : Option (Bool) := (spec_OpForm.f k a0_0).bind fun t182 => (if t182.toList = ([] : List UInt8) then (if a0_1 = 0 then ((spec_l03Empty.f a0_0 a0_1 a0_2 a0_3 a0_4).bind fun t183 => (some t183)) else (some false)) else (if t182.toList = ([110] : List UInt8) then ((spec_l01Int.f a0_1).bind fun t184 => (if t184 = true then ((spec_l03Empty.f a0_0 a0_1 a0_2 a0_3 a0_4).bind fun t185 => (some t185)) else (some false))) else (if t182.toList = ([105] : List UInt8) then (if a0_1 ≥ 0 then (if a0_1 < 16 then ((spec_l03Empty.f a0_0 a0_1 a0_2 a0_3 a0_4).bind fun t186 => (some t186)) else (some false)) else (some false)) else (if t182.toList = ([116] : List UInt8) then (if a0_1 ≥ 0 then (if a0_1 < 60 then ((spec_l03Empty.f a0_0 a0_1 a0_2 a0_3 a0_4).bind fun t187 => (some t187)) else (some false)) else (some false)) else (if t182.toList = ([99] : List UInt8) then (if a0_1 = 0 then ((spec_NameRight.f k a0_2).bind fun t188 => (if t188 = true then (if a0_3.toList = ([] : List UInt8) then (some (a0_4.toList == ([] : List UInt8))) else (some false)) else (some false))) else (some false)) else (if t182.toList = ([121] : List UInt8) then (if a0_1 = 0 then (if a0_2.toList = ([] : List UInt8) then (if a0_3.toList = ([] : List UInt8) then ((spec_TypeRight.f k a0_4).bind fun t189 => (if t189 = true then (if 0 < (a0_4.size : Int) then (some ((bt a0_4 0) != 91)) else (none)) else (some false))) else (some false)) else (some false)) else (some false)) else (if t182.toList = ([102] : List UInt8) then (if a0_1 = 0 then ((spec_NameRight.f k a0_2).bind fun t190 => (if t190 = true then ((spec_NameRight.f k a0_3).bind fun t191 => (if t191 = true then ((spec_TypeRight.f k a0_4).bind fun t192 => (some t192)) else (some false))) else (some false))) else (some false)) else (if t182.toList = ([109] : List UInt8) then (if a0_1 = 0 then ((spec_NameRight.f k a0_2).bind fun t193 => (if t193 = true then ((spec_NameRight.f k a0_3).bind fun t194 => (if t194 = true then ((spec_DescRead.f k a0_4).bind fun bt195 => (some (bt195.2.2.2 == 0))) else (if a0_3.toList = ([60, 105, 110, 105, 116, 62] : List UInt8) then ((spec_DescRead.f k a0_4).bind fun bt201 => (some (bt201.2.2.2 == 0))) else (some false)))) else (some false))) else (some false)) else (some false)))))))))
theorem spec_InsRight.mono : ∀ a0 a1 a2 a3 a4 k, LeO (spec_InsRight.f k a0 a1 a2 a3 a4) (spec_InsRight.f (k + 1) a0 a1 a2 a3 a4) := by
 intro a0 a1 a2 a3 a4 k; unfold spec_InsRight.f
 repeat' first
  | (with_reducible exact spec_DescRead.mono _ _)
  | (with_reducible exact spec_NameRight.mono _ _)
  | (with_reducible exact spec_OpForm.mono _ _)
  | (with_reducible exact spec_TypeRight.mono _ _)
  | (with_reducible exact LeO.refl _)
  | (with_reducible exact LeO.none _)
  | (with_reducible refine LeO.ite ?_ ?_)
  | (with_reducible refine LeO.bind ?_ (fun _ => ?_))
  | exact spec_DescRead.mono _ _
  | exact spec_NameRight.mono _ _
  | exact spec_OpForm.mono _ _
  | exact spec_TypeRight.mono _ _
  | exact LeO.none _
  | refine LeO.ite ?_ ?_
  | refine LeO.bind ?_ (fun _ => ?_)
set_option maxHeartbeats 8000000 in
set_option maxRecDepth 100000 in
theorem spec_InsRight.calls (k : Nat) (a0_0 : Int) (a0_1 : Int) (a0_2 : ByteArray) (a0_3 : ByteArray) (a0_4 : ByteArray) (r : Bool) (w : World) (h : spec_InsRight.f k a0_0 a0_1 a0_2 a0_3 a0_4 = some r) :
 Calls Tryd.prog 30 #[.agg #[.int .i64 a0_0, .int .i64 a0_1, .string a0_2, .string a0_3, .string a0_4]] w fun e w' => e = .returned (.bool r) ∧ Below w.heap.size w w' := by
 have hu44 := Tryd.underlying44; have hf71_2 : ∀ (a0_ a1_ a2_ a3_ : Value) (W_ : World), (Instr.field 71 (.agg #[a0_, a1_, a2_, a3_]) 2).run Tryd.prog W_ = .ok (a3_) W_ := fun _ _ _ _ _ => by rfl
 have HB := Zm (Below.refl w.heap.size w); have H : ((spec_OpForm.f k a0_0).bind fun t182 => (if t182.toList = ([] : List UInt8) then (if a0_1 = 0 then ((spec_l03Empty.f a0_0 a0_1 a0_2 a0_3 a0_4).bind fun t183 => (some t183)) else (some false)) else (if t182.toList = ([110] : List UInt8) then ((spec_l01Int.f a0_1).bind fun t184 => (if t184 = true then ((spec_l03Empty.f a0_0 a0_1 a0_2 a0_3 a0_4).bind fun t185 => (some t185)) else (some false))) else (if t182.toList = ([105] : List UInt8) then (if a0_1 ≥ 0 then (if a0_1 < 16 then ((spec_l03Empty.f a0_0 a0_1 a0_2 a0_3 a0_4).bind fun t186 => (some t186)) else (some false)) else (some false)) else (if t182.toList = ([116] : List UInt8) then (if a0_1 ≥ 0 then (if a0_1 < 60 then ((spec_l03Empty.f a0_0 a0_1 a0_2 a0_3 a0_4).bind fun t187 => (some t187)) else (some false)) else (some false)) else (if t182.toList = ([99] : List UInt8) then (if a0_1 = 0 then ((spec_NameRight.f k a0_2).bind fun t188 => (if t188 = true then (if a0_3.toList = ([] : List UInt8) then (some (a0_4.toList == ([] : List UInt8))) else (some false)) else (some false))) else (some false)) else (if t182.toList = ([121] : List UInt8) then (if a0_1 = 0 then (if a0_2.toList = ([] : List UInt8) then (if a0_3.toList = ([] : List UInt8) then ((spec_TypeRight.f k a0_4).bind fun t189 => (if t189 = true then (if 0 < (a0_4.size : Int) then (some ((bt a0_4 0) != 91)) else (none)) else (some false))) else (some false)) else (some false)) else (some false)) else (if t182.toList = ([102] : List UInt8) then (if a0_1 = 0 then ((spec_NameRight.f k a0_2).bind fun t190 => (if t190 = true then ((spec_NameRight.f k a0_3).bind fun t191 => (if t191 = true then ((spec_TypeRight.f k a0_4).bind fun t192 => (some t192)) else (some false))) else (some false))) else (some false)) else (if t182.toList = ([109] : List UInt8) then (if a0_1 = 0 then ((spec_NameRight.f k a0_2).bind fun t193 => (if t193 = true then ((spec_NameRight.f k a0_3).bind fun t194 => (if t194 = true then ((spec_DescRead.f k a0_4).bind fun bt195 => (some (bt195.2.2.2 == 0))) else (if a0_3.toList = ([60, 105, 110, 105, 116, 62] : List UInt8) then ((spec_DescRead.f k a0_4).bind fun bt201 => (some (bt201.2.2.2 == 0))) else (some false)))) else (some false))) else (some false)) else (some false)))))))))) = some r := h; clear h; replace H := Option.bind_eq_some_iff.mp H; obtain ⟨t182, A20, H⟩ := H; (try dsimp only at H); have A2 := Zm A20; clear A20; have HC3 := Zm H; clear H; go_enter Tryd.func30, Tryd.ntmps30; go_upto_if 6 with (first | ((with_reducible refine gate_dst (N := 1) rfl ?_); refine box_event ?hg (N := 1) ?hd (cs := #[.int .i64 a0_0, .int .i64 a0_1, .string a0_2, .string a0_3, .string a0_4]) (t := 44) ?hr ?_; (case hd => rfl); (case hg => rfl); (case hr => first | (go_simp; done) | (go_simp; rfl)); intro gb181 hg w4 hbox hb; have n0_ := (⟨Zm (Zbt (bk HB.out) hb), Zm (hbox), Zm ((by rw [hg]; exact (Zbz (bk HB.out)) : w.heap.size ≤ gb181)), Zm ((by rw [hg]; exact (Zbz (bk HB.out)) : w.heap.size ≤ gb181))⟩ : _ ∧ _ ∧ _ ∧ _); clear HB; obtain ⟨HB, BK181, GW181, GE181⟩ := n0_; clear hb hbox hg; obtain ⟨hcz5_0, hcz5_1, hcz5_2, hcz5_3, hcz5_4⟩ := cz5 BK181.out; have hfz5_4 := Zkf BK181.out 4) | ((with_reducible refine gate_callee (f := 41) rfl ?_); refine ge_ (some 5) Tryd.func41 #[.int .i64 a0_0] ?_; (with_reducible refine (spec_OpForm.calls _ _ _ _ A2.out).mono ?_); rintro e w6 ⟨rfl, hb⟩; refine ⟨_, rfl, ?_⟩; have n0_ := (⟨Zm (Zkb (pk BK181.out) hb), Zm (Zbt (bk HB.out) hb)⟩ : _ ∧ _); clear BK181 HB; obtain ⟨BK181, HB⟩ := n0_; (try clear hb); (try clear hb2); (try clear hk); (try clear hi))); have H := HC3.out; clear HC3; by_cases c7 : t182.toList = ([] : List UInt8); rotate_left
 · rw [if_neg c7] at H; have c7b0 : (t182.toList == ([] : List UInt8)) = false := beq_eq_false_iff_ne.mpr c7; have c7b1 : (t182.toList != ([] : List UInt8)) = true := bne_iff_ne.mpr c7; (first | rw [c7b0] | (simp only [i64_w, i32_w]; rw [c7b0]) | rw [ie_ c7b0] | skip); by_cases c13 : t182.toList = ([110] : List UInt8); rotate_left
   · rw [if_neg c13] at H; have c13b0 : (t182.toList == ([110] : List UInt8)) = false := beq_eq_false_iff_ne.mpr c13; have c13b1 : (t182.toList != ([110] : List UInt8)) = true := bne_iff_ne.mpr c13; by_cases c20 : t182.toList = ([105] : List UInt8); rotate_left
     · rw [if_neg c20] at H; have c20b0 : (t182.toList == ([105] : List UInt8)) = false := beq_eq_false_iff_ne.mpr c20; have c20b1 : (t182.toList != ([105] : List UInt8)) = true := bne_iff_ne.mpr c20; by_cases c28 : t182.toList = ([116] : List UInt8); rotate_left
       · rw [if_neg c28] at H; have c28b0 : (t182.toList == ([116] : List UInt8)) = false := beq_eq_false_iff_ne.mpr c28; have c28b1 : (t182.toList != ([116] : List UInt8)) = true := bne_iff_ne.mpr c28; by_cases c36 : t182.toList = ([99] : List UInt8); rotate_left
         · rw [if_neg c36] at H; have c36b0 : (t182.toList == ([99] : List UInt8)) = false := beq_eq_false_iff_ne.mpr c36; have c36b1 : (t182.toList != ([99] : List UInt8)) = true := bne_iff_ne.mpr c36; by_cases c45 : t182.toList = ([121] : List UInt8); rotate_left
           · rw [if_neg c45] at H; have c45b0 : (t182.toList == ([121] : List UInt8)) = false := beq_eq_false_iff_ne.mpr c45; have c45b1 : (t182.toList != ([121] : List UInt8)) = true := bne_iff_ne.mpr c45; by_cases c58 : t182.toList = ([102] : List UInt8); rotate_left
             · rw [if_neg c58] at H; have c58b0 : (t182.toList == ([102] : List UInt8)) = false := beq_eq_false_iff_ne.mpr c58; have c58b1 : (t182.toList != ([102] : List UInt8)) = true := bne_iff_ne.mpr c58; by_cases c69 : t182.toList = ([109] : List UInt8); rotate_left
               · rw [if_neg c69] at H; have c69b0 : (t182.toList == ([109] : List UInt8)) = false := beq_eq_false_iff_ne.mpr c69; have c69b1 : (t182.toList != ([109] : List UInt8)) = true := bne_iff_ne.mpr c69; obtain rfl := Option.some.inj H; go_wp2; go_ret; exact fin_ HB

               rw [if_pos c69] at H
               have c69b0 : (t182.toList == ([109] : List UInt8)) = true := beq_iff_eq.mpr c69
               have c69b1 : (t182.toList != ([109] : List UInt8)) = false := bne_eq_false_iff_eq.mpr c69
               clear c69
               by_cases c70 : a0_1 = 0
               rotate_left
               · rw [if_neg c70] at H
                 have c70b0 : (a0_1 == 0) = false := beq_eq_false_iff_ne.mpr c70
                 have c70b1 : (a0_1 != 0) = true := bne_iff_ne.mpr c70
                 obtain rfl := Option.some.inj H
                 obtain ⟨hcz84_0, hcz84_1, hcz84_2, hcz84_3, hcz84_4⟩ := cz5 BK181.out
                 go_wp2
                 go_ret
                 exact fin_ HB
               rw [if_pos c70] at H
               have c70b0 : (a0_1 == 0) = true := beq_iff_eq.mpr c70
               have c70b1 : (a0_1 != 0) = false := bne_eq_false_iff_eq.mpr c70
               clear c70
               replace H := Option.bind_eq_some_iff.mp H
               obtain ⟨t193, A710, H⟩ := H
               (try dsimp only at H)
               have A71 := Zm A710
               clear A710
               by_cases c72 : t193 = true
               rotate_left
               · replace c72 := Bool.eq_false_iff.mpr c72
                 subst c72
                 rw [if_neg (show ¬ (false = true) by decide)] at H
                 obtain rfl := Option.some.inj H
                 obtain ⟨hcz83_0, hcz83_1, hcz83_2, hcz83_3, hcz83_4⟩ := cz5 BK181.out
                 (try clear BK181)
                 go_wp2_with (first | (go_at_call 44; (first | (with_reducible refine (spec_NameRight.calls _ _ _ _ A71.out).mono ?_) | (with_reducible refine (calls_of_args ?_ (spec_NameRight.calls _ _ _ _ A71.out)).mono ?_; focus (simp [*]; done))); rintro e w' ⟨rfl, ⟨nd, rfl⟩⟩))
                 go_ret
                 exact fin_ HB
               subst c72
               rw [if_pos rfl] at H
               replace H := Option.bind_eq_some_iff.mp H
               obtain ⟨t194, A730, H⟩ := H
               (try dsimp only at H)
               have A73 := Zm A730
               clear A730
               by_cases c74 : t194 = true
               rotate_left
               · replace c74 := Bool.eq_false_iff.mpr c74
                 subst c74
                 rw [if_neg (show ¬ (false = true) by decide)] at H
                 by_cases c78 : a0_3.toList = ([60, 105, 110, 105, 116, 62] : List UInt8)
                 rotate_left
                 · rw [if_neg c78] at H
                   have c78b0 : (a0_3.toList == ([60, 105, 110, 105, 116, 62] : List UInt8)) = false := beq_eq_false_iff_ne.mpr c78
                   have c78b1 : (a0_3.toList != ([60, 105, 110, 105, 116, 62] : List UInt8)) = true := bne_iff_ne.mpr c78
                   obtain rfl := Option.some.inj H
                   obtain ⟨hcz82_0, hcz82_1, hcz82_2, hcz82_3, hcz82_4⟩ := cz5 BK181.out
                   go_wp2_with (first | (go_at_call 44; (first | (with_reducible refine (spec_NameRight.calls _ _ _ _ A71.out).mono ?_) | (with_reducible refine (calls_of_args ?_ (spec_NameRight.calls _ _ _ _ A71.out)).mono ?_; focus (simp [*]; done))); rintro e w' ⟨rfl, ⟨nd, rfl⟩⟩) | (go_at_call 44; (first | (with_reducible refine (spec_NameRight.calls _ _ _ _ A73.out).mono ?_) | (with_reducible refine (calls_of_args ?_ (spec_NameRight.calls _ _ _ _ A73.out)).mono ?_; focus (simp [*]; done))); rintro e w' ⟨rfl, ⟨nd, rfl⟩⟩))
                   go_ret
                   exact fin_ HB
                 rw [if_pos c78] at H
                 have c78b0 : (a0_3.toList == ([60, 105, 110, 105, 116, 62] : List UInt8)) = true := beq_iff_eq.mpr c78
                 have c78b1 : (a0_3.toList != ([60, 105, 110, 105, 116, 62] : List UInt8)) = false := bne_eq_false_iff_eq.mpr c78
                 clear c78
                 replace H := Option.bind_eq_some_iff.mp H
                 obtain ⟨⟨t201, t204, t205, t206⟩, A790, H⟩ := H
                 (try dsimp only at H)
                 have A79 := Zm A790
                 clear A790
                 obtain rfl := Option.some.inj H
                 obtain ⟨hcz80_0, hcz80_1, hcz80_2, hcz80_3, hcz80_4⟩ := cz5 BK181.out
                 go_wp2_with (first | (go_at_call 44; (first | (with_reducible refine (spec_NameRight.calls _ _ _ _ A71.out).mono ?_) | (with_reducible refine (calls_of_args ?_ (spec_NameRight.calls _ _ _ _ A71.out)).mono ?_; focus (simp [*]; done))); rintro e w' ⟨rfl, ⟨nd, rfl⟩⟩) | (go_at_call 44; (first | (with_reducible refine (spec_NameRight.calls _ _ _ _ A73.out).mono ?_) | (with_reducible refine (calls_of_args ?_ (spec_NameRight.calls _ _ _ _ A73.out)).mono ?_; focus (simp [*]; done))); rintro e w' ⟨rfl, ⟨nd, rfl⟩⟩; (try clear BK181)) | (go_at_call 46; (first | (with_reducible refine (spec_DescRead.calls _ _ _ _ _ _ _ A79.out).mono ?_) | (with_reducible refine (calls_of_args ?_ (spec_DescRead.calls _ _ _ _ _ _ _ A79.out)).mono ?_; focus (simp [*]; done))); rintro e w81 ⟨v202, rfl, ho0, hb⟩; have n0_ := (⟨Zm (Kd.R_lower ho0 (Zbz (bk HB.out))), Zm (Zbt (bk HB.out) hb)⟩ : _ ∧ _); clear HB; obtain ⟨HO203, HB⟩ := n0_; (try clear hb); (try clear hb2); (try clear hk); (try clear hi); (try clear ho0)))
                 go_ret
                 exact fin_ HB
               subst c74
               rw [if_pos rfl] at H
               replace H := Option.bind_eq_some_iff.mp H
               obtain ⟨⟨t195, t198, t199, t200⟩, A750, H⟩ := H
               (try dsimp only at H)
               have A75 := Zm A750
               clear A750
               obtain rfl := Option.some.inj H
               obtain ⟨hcz76_0, hcz76_1, hcz76_2, hcz76_3, hcz76_4⟩ := cz5 BK181.out
               go_wp2_with (first | (go_at_call 44; (first | (with_reducible refine (spec_NameRight.calls _ _ _ _ A71.out).mono ?_) | (with_reducible refine (calls_of_args ?_ (spec_NameRight.calls _ _ _ _ A71.out)).mono ?_; focus (simp [*]; done))); rintro e w' ⟨rfl, ⟨nd, rfl⟩⟩) | (go_at_call 44; (first | (with_reducible refine (spec_NameRight.calls _ _ _ _ A73.out).mono ?_) | (with_reducible refine (calls_of_args ?_ (spec_NameRight.calls _ _ _ _ A73.out)).mono ?_; focus (simp [*]; done))); rintro e w' ⟨rfl, ⟨nd, rfl⟩⟩; (try clear BK181)) | (go_at_call 46; (first | (with_reducible refine (spec_DescRead.calls _ _ _ _ _ _ _ A75.out).mono ?_) | (with_reducible refine (calls_of_args ?_ (spec_DescRead.calls _ _ _ _ _ _ _ A75.out)).mono ?_; focus (simp [*]; done))); rintro e w77 ⟨v196, rfl, ho0, hb⟩; have n0_ := (⟨Zm (Kd.R_lower ho0 (Zbz (bk HB.out))), Zm (Zbt (bk HB.out) hb)⟩ : _ ∧ _); clear HB; obtain ⟨HO197, HB⟩ := n0_; (try clear hb); (try clear hb2); (try clear hk); (try clear hi); (try clear ho0)))
               go_ret
               exact fin_ HB
             rw [if_pos c58] at H
             have c58b0 : (t182.toList == ([102] : List UInt8)) = true := beq_iff_eq.mpr c58
             have c58b1 : (t182.toList != ([102] : List UInt8)) = false := bne_eq_false_iff_eq.mpr c58
             clear c58
             by_cases c59 : a0_1 = 0
             rotate_left
             · rw [if_neg c59] at H
               have c59b0 : (a0_1 == 0) = false := beq_eq_false_iff_ne.mpr c59
               have c59b1 : (a0_1 != 0) = true := bne_iff_ne.mpr c59
               obtain rfl := Option.some.inj H
               obtain ⟨hcz68_0, hcz68_1, hcz68_2, hcz68_3, hcz68_4⟩ := cz5 BK181.out
               go_wp2
               go_ret
               exact fin_ HB
             rw [if_pos c59] at H
             have c59b0 : (a0_1 == 0) = true := beq_iff_eq.mpr c59
             have c59b1 : (a0_1 != 0) = false := bne_eq_false_iff_eq.mpr c59
             clear c59
             replace H := Option.bind_eq_some_iff.mp H
             obtain ⟨t190, A600, H⟩ := H
             (try dsimp only at H)
             have A60 := Zm A600
             clear A600
             by_cases c61 : t190 = true
             rotate_left
             · replace c61 := Bool.eq_false_iff.mpr c61
               subst c61
               rw [if_neg (show ¬ (false = true) by decide)] at H
               obtain rfl := Option.some.inj H
               obtain ⟨hcz67_0, hcz67_1, hcz67_2, hcz67_3, hcz67_4⟩ := cz5 BK181.out
               (try clear BK181)
               go_wp2_with (first | (go_at_call 44; (first | (with_reducible refine (spec_NameRight.calls _ _ _ _ A60.out).mono ?_) | (with_reducible refine (calls_of_args ?_ (spec_NameRight.calls _ _ _ _ A60.out)).mono ?_; focus (simp [*]; done))); rintro e w' ⟨rfl, ⟨nd, rfl⟩⟩))
               go_ret
               exact fin_ HB
             subst c61
             rw [if_pos rfl] at H
             replace H := Option.bind_eq_some_iff.mp H
             obtain ⟨t191, A620, H⟩ := H
             (try dsimp only at H)
             have A62 := Zm A620
             clear A620
             by_cases c63 : t191 = true
             rotate_left
             · replace c63 := Bool.eq_false_iff.mpr c63
               subst c63
               rw [if_neg (show ¬ (false = true) by decide)] at H
               obtain rfl := Option.some.inj H
               obtain ⟨hcz66_0, hcz66_1, hcz66_2, hcz66_3, hcz66_4⟩ := cz5 BK181.out
               go_wp2_with (first | (go_at_call 44; (first | (with_reducible refine (spec_NameRight.calls _ _ _ _ A60.out).mono ?_) | (with_reducible refine (calls_of_args ?_ (spec_NameRight.calls _ _ _ _ A60.out)).mono ?_; focus (simp [*]; done))); rintro e w' ⟨rfl, ⟨nd, rfl⟩⟩; (try clear BK181)) | (go_at_call 44; (first | (with_reducible refine (spec_NameRight.calls _ _ _ _ A62.out).mono ?_) | (with_reducible refine (calls_of_args ?_ (spec_NameRight.calls _ _ _ _ A62.out)).mono ?_; focus (simp [*]; done))); rintro e w' ⟨rfl, ⟨nd, rfl⟩⟩))
               go_ret
               exact fin_ HB
             subst c63
             rw [if_pos rfl] at H
             replace H := Option.bind_eq_some_iff.mp H
             obtain ⟨t192, A640, H⟩ := H
             (try dsimp only at H)
             have A64 := Zm A640
             clear A640
             obtain rfl := Option.some.inj H
             obtain ⟨hcz65_0, hcz65_1, hcz65_2, hcz65_3, hcz65_4⟩ := cz5 BK181.out
             go_wp2_with (first | (go_at_call 44; (first | (with_reducible refine (spec_NameRight.calls _ _ _ _ A60.out).mono ?_) | (with_reducible refine (calls_of_args ?_ (spec_NameRight.calls _ _ _ _ A60.out)).mono ?_; focus (simp [*]; done))); rintro e w' ⟨rfl, ⟨nd, rfl⟩⟩) | (go_at_call 44; (first | (with_reducible refine (spec_NameRight.calls _ _ _ _ A62.out).mono ?_) | (with_reducible refine (calls_of_args ?_ (spec_NameRight.calls _ _ _ _ A62.out)).mono ?_; focus (simp [*]; done))); rintro e w' ⟨rfl, ⟨nd, rfl⟩⟩; (try clear BK181)) | (go_at_call 45; (first | (with_reducible refine (spec_TypeRight.calls _ _ _ _ A64.out).mono ?_) | (with_reducible refine (calls_of_args ?_ (spec_TypeRight.calls _ _ _ _ A64.out)).mono ?_; focus (simp [*]; done))); rintro e w' ⟨rfl, ⟨nd, rfl⟩⟩))
             go_ret
             exact fin_ HB
           rw [if_pos c45] at H
           have c45b0 : (t182.toList == ([121] : List UInt8)) = true := beq_iff_eq.mpr c45
           have c45b1 : (t182.toList != ([121] : List UInt8)) = false := bne_eq_false_iff_eq.mpr c45
           clear c45
           by_cases c46 : a0_1 = 0
           rotate_left
           · rw [if_neg c46] at H
             have c46b0 : (a0_1 == 0) = false := beq_eq_false_iff_ne.mpr c46
             have c46b1 : (a0_1 != 0) = true := bne_iff_ne.mpr c46
             obtain rfl := Option.some.inj H
             obtain ⟨hcz57_0, hcz57_1, hcz57_2, hcz57_3, hcz57_4⟩ := cz5 BK181.out
             go_wp2
             go_ret
             exact fin_ HB
           rw [if_pos c46] at H
           have c46b0 : (a0_1 == 0) = true := beq_iff_eq.mpr c46
           have c46b1 : (a0_1 != 0) = false := bne_eq_false_iff_eq.mpr c46
           clear c46
           by_cases c47 : a0_2.toList = ([] : List UInt8)
           rotate_left
           · rw [if_neg c47] at H
             have c47b0 : (a0_2.toList == ([] : List UInt8)) = false := beq_eq_false_iff_ne.mpr c47
             have c47b1 : (a0_2.toList != ([] : List UInt8)) = true := bne_iff_ne.mpr c47
             obtain rfl := Option.some.inj H
             obtain ⟨hcz56_0, hcz56_1, hcz56_2, hcz56_3, hcz56_4⟩ := cz5 BK181.out
             go_wp2
             go_ret
             exact fin_ HB
           rw [if_pos c47] at H
           have c47b0 : (a0_2.toList == ([] : List UInt8)) = true := beq_iff_eq.mpr c47
           have c47b1 : (a0_2.toList != ([] : List UInt8)) = false := bne_eq_false_iff_eq.mpr c47
           clear c47
           by_cases c48 : a0_3.toList = ([] : List UInt8)
           rotate_left
           · rw [if_neg c48] at H
             have c48b0 : (a0_3.toList == ([] : List UInt8)) = false := beq_eq_false_iff_ne.mpr c48
             have c48b1 : (a0_3.toList != ([] : List UInt8)) = true := bne_iff_ne.mpr c48
             obtain rfl := Option.some.inj H
             obtain ⟨hcz55_0, hcz55_1, hcz55_2, hcz55_3, hcz55_4⟩ := cz5 BK181.out
             go_wp2
             go_ret
             exact fin_ HB
           rw [if_pos c48] at H
           have c48b0 : (a0_3.toList == ([] : List UInt8)) = true := beq_iff_eq.mpr c48
           have c48b1 : (a0_3.toList != ([] : List UInt8)) = false := bne_eq_false_iff_eq.mpr c48
           clear c48
           replace H := Option.bind_eq_some_iff.mp H
           obtain ⟨t189, A490, H⟩ := H
           (try dsimp only at H)
           have A49 := Zm A490
           clear A490
           by_cases c50 : t189 = true
           rotate_left
           · replace c50 := Bool.eq_false_iff.mpr c50
             subst c50
             rw [if_neg (show ¬ (false = true) by decide)] at H
             obtain rfl := Option.some.inj H
             obtain ⟨hcz54_0, hcz54_1, hcz54_2, hcz54_3, hcz54_4⟩ := cz5 BK181.out
             (try clear BK181)
             go_wp2_with (first | (go_at_call 45; (first | (with_reducible refine (spec_TypeRight.calls _ _ _ _ A49.out).mono ?_) | (with_reducible refine (calls_of_args ?_ (spec_TypeRight.calls _ _ _ _ A49.out)).mono ?_; focus (simp [*]; done))); rintro e w' ⟨rfl, ⟨nd, rfl⟩⟩))
             go_ret
             exact fin_ HB
           subst c50
           rw [if_pos rfl] at H
           by_cases c51 : 0 < (a0_4.size : Int)
           rotate_left
           · rw [if_neg c51] at H
             exact absurd H (by simp)
           rw [if_pos c51] at H
           have c51b0 := decide_eq_true c51
           have c51b1 : decide (0 < a0_4.size) = true := decide_eq_true (by omega)
           clear c51
           obtain rfl := Option.some.inj H
           obtain ⟨hcz53_0, hcz53_1, hcz53_2, hcz53_3, hcz53_4⟩ := cz5 BK181.out
           go_wp2_with (first | (go_at_call 45; (first | (with_reducible refine (spec_TypeRight.calls _ _ _ _ A49.out).mono ?_) | (with_reducible refine (calls_of_args ?_ (spec_TypeRight.calls _ _ _ _ A49.out)).mono ?_; focus (simp [*]; done))); rintro e w' ⟨rfl, ⟨nd, rfl⟩⟩; have p52 : 0 ≤ (0 : Int) := (by omega); have q52 : 0 < a0_4.size := (by have : (0 : Int) < (a0_4.size : Int) := of_decide_eq_true (by first | (with_reducible assumption) | assumption); omega); have hx52 : ∀ h : 0 < a0_4.size, ((a0_4[0]'h).toNat : Int) = bt a0_4 0 := bt_at a0_4 0; clear p52; have qi52 : (0 < (a0_4.size : Int)) = True := eq_true (of_decide_eq_true (by first | (with_reducible assumption) | assumption)); replace q52 := eq_true q52))
           go_ret
           exact fin_ HB
         rw [if_pos c36] at H
         have c36b0 : (t182.toList == ([99] : List UInt8)) = true := beq_iff_eq.mpr c36
         have c36b1 : (t182.toList != ([99] : List UInt8)) = false := bne_eq_false_iff_eq.mpr c36
         clear c36
         by_cases c37 : a0_1 = 0
         rotate_left
         · rw [if_neg c37] at H
           have c37b0 : (a0_1 == 0) = false := beq_eq_false_iff_ne.mpr c37
           have c37b1 : (a0_1 != 0) = true := bne_iff_ne.mpr c37
           obtain rfl := Option.some.inj H
           obtain ⟨hcz44_0, hcz44_1, hcz44_2, hcz44_3, hcz44_4⟩ := cz5 BK181.out
           go_wp2
           go_ret
           exact fin_ HB
         rw [if_pos c37] at H
         have c37b0 : (a0_1 == 0) = true := beq_iff_eq.mpr c37
         have c37b1 : (a0_1 != 0) = false := bne_eq_false_iff_eq.mpr c37
         clear c37
         replace H := Option.bind_eq_some_iff.mp H
         obtain ⟨t188, A380, H⟩ := H
         (try dsimp only at H)
         have A38 := Zm A380
         clear A380
         by_cases c39 : t188 = true
         rotate_left
         · replace c39 := Bool.eq_false_iff.mpr c39
           subst c39
           rw [if_neg (show ¬ (false = true) by decide)] at H
           obtain rfl := Option.some.inj H
           obtain ⟨hcz43_0, hcz43_1, hcz43_2, hcz43_3, hcz43_4⟩ := cz5 BK181.out
           (try clear BK181)
           go_wp2_with (first | (go_at_call 44; (first | (with_reducible refine (spec_NameRight.calls _ _ _ _ A38.out).mono ?_) | (with_reducible refine (calls_of_args ?_ (spec_NameRight.calls _ _ _ _ A38.out)).mono ?_; focus (simp [*]; done))); rintro e w' ⟨rfl, ⟨nd, rfl⟩⟩))
           go_ret
           exact fin_ HB
         subst c39
         rw [if_pos rfl] at H
         by_cases c40 : a0_3.toList = ([] : List UInt8)
         rotate_left
         · rw [if_neg c40] at H
           have c40b0 : (a0_3.toList == ([] : List UInt8)) = false := beq_eq_false_iff_ne.mpr c40
           have c40b1 : (a0_3.toList != ([] : List UInt8)) = true := bne_iff_ne.mpr c40
           obtain rfl := Option.some.inj H
           obtain ⟨hcz42_0, hcz42_1, hcz42_2, hcz42_3, hcz42_4⟩ := cz5 BK181.out
           go_wp2_with (first | (go_at_call 44; (first | (with_reducible refine (spec_NameRight.calls _ _ _ _ A38.out).mono ?_) | (with_reducible refine (calls_of_args ?_ (spec_NameRight.calls _ _ _ _ A38.out)).mono ?_; focus (simp [*]; done))); rintro e w' ⟨rfl, ⟨nd, rfl⟩⟩))
           go_ret
           exact fin_ HB
         rw [if_pos c40] at H
         have c40b0 : (a0_3.toList == ([] : List UInt8)) = true := beq_iff_eq.mpr c40
         have c40b1 : (a0_3.toList != ([] : List UInt8)) = false := bne_eq_false_iff_eq.mpr c40
         clear c40
         obtain rfl := Option.some.inj H
         obtain ⟨hcz41_0, hcz41_1, hcz41_2, hcz41_3, hcz41_4⟩ := cz5 BK181.out
         go_wp2_with (first | (go_at_call 44; (first | (with_reducible refine (spec_NameRight.calls _ _ _ _ A38.out).mono ?_) | (with_reducible refine (calls_of_args ?_ (spec_NameRight.calls _ _ _ _ A38.out)).mono ?_; focus (simp [*]; done))); rintro e w' ⟨rfl, ⟨nd, rfl⟩⟩))
         go_ret
         exact fin_ HB
       rw [if_pos c28] at H
       have c28b0 : (t182.toList == ([116] : List UInt8)) = true := beq_iff_eq.mpr c28
       have c28b1 : (t182.toList != ([116] : List UInt8)) = false := bne_eq_false_iff_eq.mpr c28
       clear c28
       by_cases c29 : a0_1 ≥ 0
       rotate_left
       · rw [if_neg c29] at H
         have c29b0 : decide (0 ≤ a0_1) = false := decide_eq_false c29
         clear c29
         obtain rfl := Option.some.inj H
         obtain ⟨hcz35_0, hcz35_1, hcz35_2, hcz35_3, hcz35_4⟩ := cz5 BK181.out
         go_wp2
         go_ret
         exact fin_ HB
       rw [if_pos c29] at H
       have c29b0 : decide (0 ≤ a0_1) = true := decide_eq_true c29
       clear c29
       by_cases c30 : a0_1 < 60
       rotate_left
       · rw [if_neg c30] at H
         have c30b0 := decide_eq_false c30
         clear c30
         obtain rfl := Option.some.inj H
         obtain ⟨hcz34_0, hcz34_1, hcz34_2, hcz34_3, hcz34_4⟩ := cz5 BK181.out
         go_wp2
         go_ret
         exact fin_ HB
       rw [if_pos c30] at H
       have c30b0 := decide_eq_true c30
       clear c30
       replace H := Option.bind_eq_some_iff.mp H
       obtain ⟨t187, A310, H⟩ := H
       (try dsimp only at H)
       have A31 := Zm A310
       clear A310
       obtain rfl := Option.some.inj H
       obtain ⟨hcz32_0, hcz32_1, hcz32_2, hcz32_3, hcz32_4⟩ := cz5 BK181.out
       (try clear BK181)
       go_wp2_with (first | (go_at_call 42; (first | (with_reducible refine (spec_l03Empty.calls _ _ _ _ _ _ _ A31.out).mono ?_) | (with_reducible refine (calls_of_args ?_ (spec_l03Empty.calls _ _ _ _ _ _ _ A31.out)).mono ?_; focus (simp [*]; done))); rintro e w33 ⟨rfl, hb⟩; have n0_ := Zm (Zbt (bk HB.out) hb); clear HB; have HB := n0_; clear n0_; (try clear hb); (try clear hb2); (try clear hk); (try clear hi)))
       go_ret
       exact fin_ HB
     rw [if_pos c20] at H
     have c20b0 : (t182.toList == ([105] : List UInt8)) = true := beq_iff_eq.mpr c20
     have c20b1 : (t182.toList != ([105] : List UInt8)) = false := bne_eq_false_iff_eq.mpr c20
     clear c20
     by_cases c21 : a0_1 ≥ 0
     rotate_left
     · rw [if_neg c21] at H
       have c21b0 : decide (0 ≤ a0_1) = false := decide_eq_false c21
       clear c21
       obtain rfl := Option.some.inj H
       obtain ⟨hcz27_0, hcz27_1, hcz27_2, hcz27_3, hcz27_4⟩ := cz5 BK181.out
       go_wp2
       go_ret
       exact fin_ HB
     rw [if_pos c21] at H
     have c21b0 : decide (0 ≤ a0_1) = true := decide_eq_true c21
     clear c21
     by_cases c22 : a0_1 < 16
     rotate_left
     · rw [if_neg c22] at H
       have c22b0 := decide_eq_false c22
       clear c22
       obtain rfl := Option.some.inj H
       obtain ⟨hcz26_0, hcz26_1, hcz26_2, hcz26_3, hcz26_4⟩ := cz5 BK181.out
       go_wp2
       go_ret
       exact fin_ HB
     rw [if_pos c22] at H
     have c22b0 := decide_eq_true c22
     clear c22
     replace H := Option.bind_eq_some_iff.mp H
     obtain ⟨t186, A230, H⟩ := H
     (try dsimp only at H)
     have A23 := Zm A230
     clear A230
     obtain rfl := Option.some.inj H
     obtain ⟨hcz24_0, hcz24_1, hcz24_2, hcz24_3, hcz24_4⟩ := cz5 BK181.out
     (try clear BK181)
     go_wp2_with (first | (go_at_call 42; (first | (with_reducible refine (spec_l03Empty.calls _ _ _ _ _ _ _ A23.out).mono ?_) | (with_reducible refine (calls_of_args ?_ (spec_l03Empty.calls _ _ _ _ _ _ _ A23.out)).mono ?_; focus (simp [*]; done))); rintro e w25 ⟨rfl, hb⟩; have n0_ := Zm (Zbt (bk HB.out) hb); clear HB; have HB := n0_; clear n0_; (try clear hb); (try clear hb2); (try clear hk); (try clear hi)))
     go_ret
     exact fin_ HB
   rw [if_pos c13] at H
   have c13b0 : (t182.toList == ([110] : List UInt8)) = true := beq_iff_eq.mpr c13
   have c13b1 : (t182.toList != ([110] : List UInt8)) = false := bne_eq_false_iff_eq.mpr c13
   clear c13
   replace H := Option.bind_eq_some_iff.mp H
   obtain ⟨t184, A140, H⟩ := H
   (try dsimp only at H)
   have A14 := Zm A140
   clear A140
   by_cases c15 : t184 = true
   rotate_left
   · replace c15 := Bool.eq_false_iff.mpr c15
     subst c15
     rw [if_neg (show ¬ (false = true) by decide)] at H
     obtain rfl := Option.some.inj H
     obtain ⟨hcz19_0, hcz19_1, hcz19_2, hcz19_3, hcz19_4⟩ := cz5 BK181.out
     (try clear BK181)
     go_wp2_with (first | ((with_reducible refine gate_callee (f := 43) rfl ?_); refine ge_ (some 19) Tryd.func43 #[.int .i64 a0_1] ?_; (with_reducible refine (spec_l01Int.calls _ _ _ A14.out).mono ?_); rintro e w' ⟨rfl, ⟨nd, rfl⟩⟩; refine ⟨_, rfl, ?_⟩))
     go_ret
     exact fin_ HB
   subst c15
   rw [if_pos rfl] at H
   replace H := Option.bind_eq_some_iff.mp H
   obtain ⟨t185, A160, H⟩ := H
   (try dsimp only at H)
   have A16 := Zm A160
   clear A160
   obtain rfl := Option.some.inj H
   obtain ⟨hcz17_0, hcz17_1, hcz17_2, hcz17_3, hcz17_4⟩ := cz5 BK181.out
   go_wp2_with (first | ((with_reducible refine gate_callee (f := 43) rfl ?_); refine ge_ (some 19) Tryd.func43 #[.int .i64 a0_1] ?_; (with_reducible refine (spec_l01Int.calls _ _ _ A14.out).mono ?_); rintro e w' ⟨rfl, ⟨nd, rfl⟩⟩; refine ⟨_, rfl, ?_⟩; (try clear BK181)) | (go_at_call 42; (first | (with_reducible refine (spec_l03Empty.calls _ _ _ _ _ _ _ A16.out).mono ?_) | (with_reducible refine (calls_of_args ?_ (spec_l03Empty.calls _ _ _ _ _ _ _ A16.out)).mono ?_; focus (simp [*]; done))); rintro e w18 ⟨rfl, hb⟩; have n0_ := Zm (Zbt (bk HB.out) hb); clear HB; have HB := n0_; clear n0_; (try clear hb); (try clear hb2); (try clear hk); (try clear hi)))
   go_ret
   exact fin_ HB
 rw [if_pos c7] at H
 have c7b0 : (t182.toList == ([] : List UInt8)) = true := beq_iff_eq.mpr c7
 have c7b1 : (t182.toList != ([] : List UInt8)) = false := bne_eq_false_iff_eq.mpr c7
 clear c7
 (first | rw [c7b0] | (simp only [i64_w, i32_w]; rw [c7b0]) | rw [ie_ c7b0] | skip)
 by_cases c8 : a0_1 = 0
 rotate_left
 · rw [if_neg c8] at H
   have c8b0 : (a0_1 == 0) = false := beq_eq_false_iff_ne.mpr c8
   have c8b1 : (a0_1 != 0) = true := bne_iff_ne.mpr c8
   obtain rfl := Option.some.inj H
   obtain ⟨hcz12_0, hcz12_1, hcz12_2, hcz12_3, hcz12_4⟩ := cz5 BK181.out
   go_wp2
   go_ret
   exact fin_ HB
 rw [if_pos c8] at H
 have c8b0 : (a0_1 == 0) = true := beq_iff_eq.mpr c8
 have c8b1 : (a0_1 != 0) = false := bne_eq_false_iff_eq.mpr c8
 clear c8
 replace H := Option.bind_eq_some_iff.mp H
 obtain ⟨t183, A90, H⟩ := H
 (try dsimp only at H)
 have A9 := Zm A90
 clear A90
 obtain rfl := Option.some.inj H
 obtain ⟨hcz10_0, hcz10_1, hcz10_2, hcz10_3, hcz10_4⟩ := cz5 BK181.out
 (try clear BK181)
 go_wp2_with (first | (go_at_call 42; (first | (with_reducible refine (spec_l03Empty.calls _ _ _ _ _ _ _ A9.out).mono ?_) | (with_reducible refine (calls_of_args ?_ (spec_l03Empty.calls _ _ _ _ _ _ _ A9.out)).mono ?_; focus (simp [*]; done))); rintro e w11 ⟨rfl, hb⟩; have n0_ := Zm (Zbt (bk HB.out) hb); clear HB; have HB := n0_; clear n0_; (try clear hb); (try clear hb2); (try clear hk); (try clear hi)))
 go_ret
 exact fin_ HB
/-! ### spec_l01Dec: function 23 -/
def spec_l01Dec.l0 : Nat → Int → Bool → ByteArray → Option (ByteArray)
 | 0, _, _, _ => none
 | k + 1, x0, x3, x4 => if x0 = 0 then (if x3 = true then (if 1 + x4.size ≤ 9223372036854775807 then (some ((⟨#[45]⟩ : ByteArray) ++ x4)) else (none)) else (some x4)) else (if (Int.tmod x0 10) < 0 then ((some (([(wrap64 (48 + (wrap64 (-(Int.tmod x0 10))))) % 256] : List Int) : List Int)).bind fun y207 => (if (strOfNums y207).size + x4.size ≤ 9223372036854775807 then (spec_l01Dec.l0 k (wrap64 (Int.tdiv x0 10)) x3 ((strOfNums y207) ++ x4)) else (none))) else ((some (([(wrap64 (48 + (Int.tmod x0 10))) % 256] : List Int) : List Int)).bind fun y210 => (if (strOfNums y210).size + x4.size ≤ 9223372036854775807 then (spec_l01Dec.l0 k (wrap64 (Int.tdiv x0 10)) x3 ((strOfNums y210) ++ x4)) else (none))))
def spec_l01Dec.f (k : Nat) (a0 : Int) : Option (ByteArray) := if a0 = 0 then (some (⟨#[48]⟩ : ByteArray)) else (spec_l01Dec.l0 k a0 (decide (a0 < 0)) (⟨#[]⟩ : ByteArray))
set_option maxHeartbeats 8000000 in
set_option maxRecDepth 100000 in
theorem spec_l01Dec.calls (k : Nat) (a0 : Int) (r : ByteArray) (w : World) (h : spec_l01Dec.f k a0 = some r) :
 Calls Tryd.prog 23 #[.int .i64 a0] w fun e w' => e = .returned (.string r) ∧ Below w.heap.size w w' := by
 have HB := Zm (Below.refl w.heap.size w); have H : (if a0 = 0 then (some (⟨#[48]⟩ : ByteArray)) else (spec_l01Dec.l0 k a0 (decide (a0 < 0)) (⟨#[]⟩ : ByteArray))) = some r := h; clear h; by_cases c2 : a0 = 0; rotate_left
 · rw [if_neg c2] at H; have c2b0 : (a0 == 0) = false := beq_eq_false_iff_ne.mpr c2; have c2b1 : (a0 != 0) = true := bne_iff_ne.mpr c2; have H' := Zm H; clear H; go_enter Tryd.func23, Tryd.ntmps23; go_wp2; go_loopg [0, 4] k (fun kq v0 v4 w' => ∃ (x0_1 : Int) (x4_1 : ByteArray), v0 = .int .i64 x0_1 ∧ v4 = .string x4_1 ∧ Aside0 (spec_l01Dec.l0 kq x0_1 (decide (a0 < 0)) x4_1 = some r) ∧ Aside0 (kq ≤ k) ∧ Aside0 (Below w.heap.size w w'))
   case atStart => exact ⟨(a0), ((⟨#[]⟩ : ByteArray)), (by first | rfl | (simp; done) | (simp [*]; done)), (by first | rfl | (simp; done) | (simp [*]; done)), H', ⟨Nat.le_refl _⟩, ⟨bk HB.out⟩⟩
   case round =>
    clear H'; (try clear c2); (try clear c2b0); (try clear c2b1); obtain ⟨x0_1, x4_1, rfl, rfl, HA, HK1, HB⟩ := hrel
    cases gk with
    | zero => exact absurd HA.out (by simp [spec_l01Dec.l0])
    | succ k1 =>
     have H := HA.out; clear HA; simp only [spec_l01Dec.l0] at H; by_cases c3 : x0_1 = 0; rotate_left
     · rw [if_neg c3] at H; have c3b0 : (x0_1 == 0) = false := beq_eq_false_iff_ne.mpr c3; have c3b1 : (x0_1 != 0) = true := bne_iff_ne.mpr c3; by_cases c6 : (Int.tmod x0_1 10) < 0; rotate_left
       · rw [if_neg c6] at H; have c6b0 := decide_eq_false c6; clear c6; obtain ⟨y210, hy210⟩ : ∃ y_ : List Int, y_ = (([(wrap64 (48 + (Int.tmod x0_1 10))) % 256] : List Int)) := ⟨_, rfl⟩; replace H : (if (strOfNums y210).size + x4_1.size ≤ 9223372036854775807 then (spec_l01Dec.l0 k1 (wrap64 (Int.tdiv x0_1 10)) (decide (a0 < 0)) ((strOfNums y210) ++ x4_1)) else (none)) = some r := by first | (rw [hy210]; with_reducible exact H) | (have H2_ := (Option.bind_some _ _).symm.trans H; rw [hy210]; with_reducible exact H2_) | (have H2_ := (Option.bind_some _ _).symm.trans H; with_reducible exact H2_) | with_reducible exact H | (rw [hy210]; exact H) | exact H
         have Ny210 := Zm hy210; clear hy210; by_cases c11 : (strOfNums y210).size + x4_1.size ≤ 9223372036854775807; rotate_left
         · rw [if_neg c11] at H; exact absurd H (by simp)

         rw [if_pos c11] at H
         have c11b0 := eq_true c11
         have c11b1 := decide_eq_true c11
         try have c11b2 : (9223372036854775807 < (strOfNums y210).size + x4_1.size) = False := eq_false (Nat.not_lt.2 c11)
         have H' := Zm H
         clear H
         go_wp2_with (first | ((with_reducible refine gate_dst (N := 21) rfl ?_); refine Kd.R_lit (Kd.int .u8) _ 5 ?hg (N := 21) ?hd (xs := ([(wrap64 (48 + (Int.tmod x0_1 10))) % 256] : List Int)) (inner := [.int .u8 ((wrap64 (48 + (Int.tmod x0_1 10))) % 256)]) (ok := fun _ => True) (okp := fun _ => True) ?hr ?hp (fun _ hk => hk) trivial (Below.refl _ _) (Nat.le_refl _) (by simp) ?_; (case hd => rfl); (case hg => rfl); (case hr => first | (go_simp; done) | (go_simp; rfl)); (case hp => exact (Reps.one (show Kd.M (Kd.int .u8) _ _ _ ((wrap64 (48 + (Int.tmod x0_1 10))) % 256) [.int .u8 ((wrap64 (48 + (Int.tmod x0_1 10))) % 256)] from rfl) (Reps.none _ _))); intro v211 w12 ho13 hb hg_ hnew_; clear hg_ hnew_; (first | rw [← Ny210.out] at ho13 | (simp only [Int.reduceToNat] at ho13; rw [← Ny210.out] at ho13)); have n0_ := (⟨Zm (Kd.R_lower ho13 (Zbz (bk HB.out))), Zm (Zbt (bk HB.out) hb)⟩ : _ ∧ _); clear HB; obtain ⟨HO212, HB⟩ := n0_; clear hb ho13; have hcv14 := own_string (P := Tryd.prog) Tryd.underlying63 Tryd.underlying5 Tryd.underlying9 (Kd.own_of_R HO212.out)))
         go_roundg k1
         case measure => have := HK1.out; omega
         case rel => exact ⟨(wrap64 (Int.tdiv x0_1 10)), ((strOfNums y210) ++ x4_1), (by first | rfl | (simp; done) | (simp [*]; done)), (by first | rfl | (simp; done) | (simp [*]; done)), H', ⟨by have := HK1.out; omega⟩, ⟨bk HB.out⟩⟩
       rw [if_pos c6] at H
       have c6b0 := decide_eq_true c6
       clear c6
       obtain ⟨y207, hy207⟩ : ∃ y_ : List Int, y_ = (([(wrap64 (48 + (wrap64 (-(Int.tmod x0_1 10))))) % 256] : List Int)) := ⟨_, rfl⟩
       replace H : (if (strOfNums y207).size + x4_1.size ≤ 9223372036854775807 then (spec_l01Dec.l0 k1 (wrap64 (Int.tdiv x0_1 10)) (decide (a0 < 0)) ((strOfNums y207) ++ x4_1)) else (none)) = some r := by first | (rw [hy207]; with_reducible exact H) | (have H2_ := (Option.bind_some _ _).symm.trans H; rw [hy207]; with_reducible exact H2_) | (have H2_ := (Option.bind_some _ _).symm.trans H; with_reducible exact H2_) | with_reducible exact H | (rw [hy207]; exact H) | exact H
       have Ny207 := Zm hy207
       clear hy207
       by_cases c7 : (strOfNums y207).size + x4_1.size ≤ 9223372036854775807
       rotate_left
       · rw [if_neg c7] at H
         exact absurd H (by simp)
       rw [if_pos c7] at H
       have c7b0 := eq_true c7
       have c7b1 := decide_eq_true c7
       try have c7b2 : (9223372036854775807 < (strOfNums y207).size + x4_1.size) = False := eq_false (Nat.not_lt.2 c7)
       have H' := Zm H
       clear H
       go_wp2_with (first | ((with_reducible refine gate_dst (N := 21) rfl ?_); refine Kd.R_lit (Kd.int .u8) _ 5 ?hg (N := 21) ?hd (xs := ([(wrap64 (48 + (wrap64 (-(Int.tmod x0_1 10))))) % 256] : List Int)) (inner := [.int .u8 ((wrap64 (48 + (wrap64 (-(Int.tmod x0_1 10))))) % 256)]) (ok := fun _ => True) (okp := fun _ => True) ?hr ?hp (fun _ hk => hk) trivial (Below.refl _ _) (Nat.le_refl _) (by simp) ?_; (case hd => rfl); (case hg => rfl); (case hr => first | (go_simp; done) | (go_simp; rfl)); (case hp => exact (Reps.one (show Kd.M (Kd.int .u8) _ _ _ ((wrap64 (48 + (wrap64 (-(Int.tmod x0_1 10))))) % 256) [.int .u8 ((wrap64 (48 + (wrap64 (-(Int.tmod x0_1 10))))) % 256)] from rfl) (Reps.none _ _))); intro v208 w8 ho9 hb hg_ hnew_; clear hg_ hnew_; (first | rw [← Ny207.out] at ho9 | (simp only [Int.reduceToNat] at ho9; rw [← Ny207.out] at ho9)); have n0_ := (⟨Zm (Kd.R_lower ho9 (Zbz (bk HB.out))), Zm (Zbt (bk HB.out) hb)⟩ : _ ∧ _); clear HB; obtain ⟨HO209, HB⟩ := n0_; clear hb ho9; have hcv10 := own_string (P := Tryd.prog) Tryd.underlying63 Tryd.underlying5 Tryd.underlying9 (Kd.own_of_R HO209.out)))
       go_roundg k1
       case measure => have := HK1.out; omega
       case rel => exact ⟨(wrap64 (Int.tdiv x0_1 10)), ((strOfNums y207) ++ x4_1), (by first | rfl | (simp; done) | (simp [*]; done)), (by first | rfl | (simp; done) | (simp [*]; done)), H', ⟨by have := HK1.out; omega⟩, ⟨bk HB.out⟩⟩
     rw [if_pos c3] at H
     have c3b0 : (x0_1 == 0) = true := beq_iff_eq.mpr c3
     have c3b1 : (x0_1 != 0) = false := bne_eq_false_iff_eq.mpr c3
     clear c3
     by_cases c4 : (decide (a0 < 0)) = true
     rotate_left
     · rw [if_neg c4] at H
       have c4b0 : (decide (a0 < 0)) = false := by simpa using c4
       try have c4b8 := of_decide_eq_false c4b0
       clear c4
       obtain rfl := Option.some.inj H
       go_wp2
       go_ret
       exact fin_ HB
     rw [if_pos c4] at H
     have c4b0 : (decide (a0 < 0)) = true := c4
     try have c4b8 := of_decide_eq_true c4b0
     clear c4
     by_cases c5 : 1 + x4_1.size ≤ 9223372036854775807
     rotate_left
     · rw [if_neg c5] at H
       exact absurd H (by simp)
     rw [if_pos c5] at H
     have c5b0 := eq_true c5
     have c5b1 := decide_eq_true c5
     try have c5b2 : (9223372036854775807 < 1 + x4_1.size) = False := eq_false (Nat.not_lt.2 c5)
     obtain rfl := Option.some.inj H
     go_wp2
     go_ret
     exact fin_ HB
 rw [if_pos c2] at H
 have c2b0 : (a0 == 0) = true := beq_iff_eq.mpr c2
 have c2b1 : (a0 != 0) = false := bne_eq_false_iff_eq.mpr c2
 clear c2
 obtain rfl := Option.some.inj H
 go_enter Tryd.func23, Tryd.ntmps23
 go_wp2
 go_ret
 exact fin_ HB
/-! ### spec_OpName: function 47 -/
def spec_OpName.f (k : Nat) (a0 : Int) : Option (ByteArray) := (spec_l03Ops.f).bind fun t213 => (if a0 < 1 then (some (⟨#[]⟩ : ByteArray)) else (if a0 ≥ (t213.length : Int) then (some (⟨#[]⟩ : ByteArray)) else (if 0 ≤ a0 then (if a0 < (t213.length : Int) then ((spec_l01Split.f k (rdOf ByteArray.empty t213 a0) 32).bind fun t217 => (if 0 < (t217.length : Int) then (some (rdOf ByteArray.empty t217 0)) else (none))) else (none)) else (none))))
theorem spec_OpName.mono : ∀ a0 k, LeO (spec_OpName.f k a0) (spec_OpName.f (k + 1) a0) := by
 intro a0 k; unfold spec_OpName.f
 repeat' first
  | (with_reducible exact spec_l01Split.mono _ _ _)
  | (with_reducible exact LeO.refl _)
  | (with_reducible exact LeO.none _)
  | (with_reducible refine LeO.ite ?_ ?_)
  | (with_reducible refine LeO.bind ?_ (fun _ => ?_))
  | exact spec_l01Split.mono _ _ _
  | exact LeO.none _
  | refine LeO.ite ?_ ?_
  | refine LeO.bind ?_ (fun _ => ?_)
set_option maxHeartbeats 8000000 in
set_option maxRecDepth 100000 in
theorem spec_OpName.calls (k : Nat) (a0 : Int) (r : ByteArray) (w : World) (h : spec_OpName.f k a0 = some r) :
 Calls Tryd.prog 47 #[.int .i64 a0] w fun e w' => e = .returned (.string r) ∧ Below w.heap.size w w' := by
 have HB := Zm (Below.refl w.heap.size w); have H : ((spec_l03Ops.f).bind fun t213 => (if a0 < 1 then (some (⟨#[]⟩ : ByteArray)) else (if a0 ≥ (t213.length : Int) then (some (⟨#[]⟩ : ByteArray)) else (if 0 ≤ a0 then (if a0 < (t213.length : Int) then ((spec_l01Split.f k (rdOf ByteArray.empty t213 a0) 32).bind fun t217 => (if 0 < (t217.length : Int) then (some (rdOf ByteArray.empty t217 0)) else (none))) else (none)) else (none))))) = some r := h; clear h; replace H := Option.bind_eq_some_iff.mp H; obtain ⟨t213, A20, H⟩ := H; (try dsimp only at H); have A2 := Zm A20; clear A20; by_cases c3 : a0 < 1; rotate_left
 · rw [if_neg c3] at H; have c3b0 := decide_eq_false c3; clear c3; have HC5 := Zm H; clear H; go_enter Tryd.func47, Tryd.ntmps47; go_upto_if 12 with (first | ((with_reducible refine gate_callee (f := 66) rfl ?_); refine ge_ (some 4) Tryd.func66 #[] ?_; (with_reducible refine (spec_l03Ops.calls _ _ A2.out).mono ?_); rintro e w6 ⟨v214, rfl, ho0, hb⟩; refine ⟨_, rfl, ?_⟩; have n0_ := (⟨Zm (Kd.R_lower ho0 (Zbz (bk HB.out))), Zm (Zbt (bk HB.out) hb)⟩ : _ ∧ _); clear HB; obtain ⟨HO215, HB⟩ := n0_; (try clear hb); (try clear hb2); (try clear hk); (try clear hi); (try clear ho0); obtain ⟨Ao7, co7, eo7⟩ := Kd.R_slice HO215.out; subst eo7)); have H := HC5.out; clear HC5; by_cases c8 : a0 ≥ (t213.length : Int); rotate_left
   · rw [if_neg c8] at H; have c8b0 : decide ((t213.length : Int) ≤ a0) = false := decide_eq_false c8; clear c8; (first | rw [c8b0] | (simp only [i64_w, i32_w]; rw [c8b0]) | skip); by_cases c9 : 0 ≤ a0; rotate_left
     · rw [if_neg c9] at H; exact absurd H (by simp)

     rw [if_pos c9] at H
     have c9b0 := decide_eq_true c9
     clear c9
     by_cases c10 : a0 < (t213.length : Int)
     rotate_left
     · rw [if_neg c10] at H
       exact absurd H (by simp)
     rw [if_pos c10] at H
     have c10b0 := decide_eq_true c10
     clear c10
     replace H := Option.bind_eq_some_iff.mp H
     obtain ⟨t217, A110, H⟩ := H
     (try dsimp only at H)
     have A11 := Zm A110
     clear A110
     by_cases c12 : 0 < (t217.length : Int)
     rotate_left
     · rw [if_neg c12] at H
       exact absurd H (by simp)
     rw [if_pos c12] at H
     have c12b0 := decide_eq_true c12
     have c12b1 : decide (0 < t217.length) = true := decide_eq_true (by omega)
     clear c12
     obtain rfl := Option.some.inj H
     have p216 : 0 ≤ (a0 : Int) := of_decide_eq_true (by first | (with_reducible assumption) | assumption)
     have q216 : a0 < (t213.length : Int) := of_decide_eq_true (by first | (with_reducible assumption) | assumption)
     obtain ⟨ad216, e216, hx216_0⟩ := Kd.at_string (Kd.R_reads' HO215.out).2.2 a0 p216 q216
     cases e216
     replace p216 := eq_true p216
     replace q216 := eq_true q216
     (try clear HO215)
     go_wp2_with (first | ((with_reducible refine gate_callee (f := 56) rfl ?_); refine ge_ (some 17) Tryd.func56 #[.string (rdOf ByteArray.empty t213 a0), .int .u8 32] ?_; (with_reducible refine (spec_l01Split.calls _ _ _ _ _ A11.out).mono ?_); rintro e w13 ⟨v218, rfl, ho0, hb⟩; refine ⟨_, rfl, ?_⟩; have n0_ := (⟨Zm (Kd.R_lower ho0 (Zbz (bk HB.out))), Zm (Zbt (bk HB.out) hb)⟩ : _ ∧ _); clear HB; obtain ⟨HO219, HB⟩ := n0_; (try clear hb); (try clear hb2); (try clear hk); (try clear hi); (try clear ho0); obtain ⟨Ao14, co14, eo14⟩ := Kd.R_slice HO219.out; subst eo14; have p220 : 0 ≤ (0 : Int) := (by omega); have q220 : 0 < (t217.length : Int) := of_decide_eq_true (by first | (with_reducible assumption) | assumption); obtain ⟨ad220, e220, hx220_0⟩ := Kd.at_string (Kd.R_reads' HO219.out).2.2 0 p220 q220; cases e220; have qi220 : (0 < t217.length) = True := eq_true (by omega); (try rw [show ((0 : Int)).toNat = 0 from rfl] at hx220_0); (try rw [Addr.add_zero'] at hx220_0); replace p220 := eq_true p220; replace q220 := eq_true q220))
     go_ret
     exact fin_ HB
   rw [if_pos c8] at H
   have c8b0 : decide ((t213.length : Int) ≤ a0) = true := decide_eq_true c8
   clear c8
   (first | rw [c8b0] | (simp only [i64_w, i32_w]; rw [c8b0]) | skip)
   obtain rfl := Option.some.inj H
   go_wp2
   go_ret
   exact fin_ HB
 rw [if_pos c3] at H
 have c3b0 := decide_eq_true c3
 clear c3
 obtain rfl := Option.some.inj H
 go_enter Tryd.func47, Tryd.ntmps47
 go_wp2_with (first | ((with_reducible refine gate_callee (f := 66) rfl ?_); refine ge_ (some 4) Tryd.func66 #[] ?_; (with_reducible refine (spec_l03Ops.calls _ _ A2.out).mono ?_); rintro e w4 ⟨v214, rfl, ho0, hb⟩; refine ⟨_, rfl, ?_⟩; have n0_ := (⟨Zm (Kd.R_lower ho0 (Zbz (bk HB.out))), Zm (Zbt (bk HB.out) hb)⟩ : _ ∧ _); clear HB; obtain ⟨HO215, HB⟩ := n0_; (try clear hb); (try clear hb2); (try clear hk); (try clear hi); (try clear ho0)))
 go_ret
 exact fin_ HB
end Go.Proofs.YtdfnljchoomliaaDoor.PFnExactInsText
