/- The law FnExactWorldText returns true for every argument that can be read as data, out of its pure statement and the walk. Written by a program of this session. -/
import Derived.Test.YtohiakbkkmmjeaaGreatDoorRows
import Derived.Test.YtohiakbkkmmjeaaGreatDoorPFnExactWorldTextx23
import Derived.Test.YtohiakbkkmmjeaaGreatDoorPureFnExactWorldText
import Derived.Test.YtohiakbkkmmjeaaGreatDoorVFnExactWorldTextOpens
import Derived.WalkKit
import Derived.ProofKit
import Derived.OpenShut
import Derived.ShutString
import Derived.ChangeOld
import Derived.Below
import Derived.SizedLaws
import Derived.Carry
import Derived.Handed
import Derived.LaidMore
import Derived.LaidHandle
import Derived.MakeChecks
import Derived.SevenTiedAt
import Derived.Lib.LaidTab
import Derived.Stop.Joined
import Derived.Stop.LaidErr
import Derived.Lay
import Derived.Test.YtohiakbkkmmjeaaGreatDoorCards
import Derived.Test.YtohiakbkkmmjeaaGreatDoorTie
namespace Go.Proofs.YtohiakbkkmmjeaaGreatDoor.fnExactWorldText
open Go.ChangeShapes Go.WideShapes Go.ChangeAt Go.RowKit Go.Proofs.YtohiakbkkmmjeaaGreatDoor.PFnExactWorldText Go.Proofs.YtohiakbkkmmjeaaGreatDoorW.PrintWords Go.Proofs.YtohiakbkkmmjeaaGreatDoorW.Opens
open Go.ChangeMaps (open_string shut_string)
set_option linter.unusedVariables false
theorem own : ownKnob Tryz.prog.godebug = none := by kernel_rfl
theorem laidOut : laidOutB Tryz.prog = true := by kernel_rfl
theorem laid_tail {P : Program} {x : String × DataW Unit} {rest : List (String × DataW Unit)} {w : World} (h : laidMet P (x :: rest) w) : laidMet P rest w := by
  obtain ⟨ps, ⟨g, t, cs, f, p, q, hg, ht, hv, hd, hr, rfl⟩, hn, hb⟩ := h
  exact ⟨q, hr, (List.nodup_append.1 hn).2.1, fun b off hm => hb b off (List.mem_append_right _ hm)⟩
theorem tab_data : (Rows.laid_internal_strconv_uint64pow10 : DataW Unit) = Go.Lib.tabData .u64 Go.Lib.pow10Tab := by kernel_rfl
/-- The door's own heap meets the condition. -/
theorem door_met (os : Os) (args : Array Value) : laidMetH Tryz.prog Rows.fnExactWorldTextRow.laid ((World.doorLaid Tryz.prog 400 os).forCall (fun _ _ => 0) ⟨#[], args, []⟩).memory :=
  laidMetH_of_parts3 (fuel := 8) (laidMet_of_run' 8 (by kernel_rfl) (by kernel_rfl)) (by kernel_rfl) (by kernel_rfl)
theorem table {W : World} (h : laidMetH Tryz.prog Rows.fnExactWorldTextRow.laid W) : Tabs W := by
  rw [MakeChecks.laidMetH_plain _ _ _ (by kernel_rfl)] at h
  have h0 : laidMet Tryz.prog (("internal/strconv.uint64pow10", Rows.laid_internal_strconv_uint64pow10) :: _) W := laid_tail (laid_tail (h))
  rw [tab_data] at h0
  have ht := Go.Lib.tabIs_of_head (g := 0) (t := 151) (e := 144) (n := 20) (by kernel_rfl) (by kernel_rfl) (by kernel_rfl) (by kernel_rfl) (by kernel_rfl) (by kernel_rfl) h0
  exact ⟨ht⟩
theorem op9 : Opens Tryz.prog 9 Kd.string (fun s => s.size ≤ maxLen) := opens_string Tryz.underlying9 (by kernel_rfl)
theorem op4 : Opens Tryz.prog 4 Kd.bool (fun _ => True) := opens_bool Tryz.underlying4 (by kernel_rfl)
instance : Inhabited S60 := ⟨z60⟩
theorem op60 : Opens Tryz.prog 60 k60 ok60 := opens_struct (gi := fun y => (⟨y.1, y.2.1, y.2.2⟩ : S60)) Tryz.underlying60 (by kernel_rfl) (fun _ => rfl) (opens_more rfl op9 (opens_more rfl op9 (opens_last rfl op4)))
theorem op22 : Opens Tryz.prog 22 (Kd.slice 60 k60) (fun x => (x.length ≤ maxLen ∧ ∀ x_ ∈ x, ok60 x_)) := opens_slice Tryz.underlying22 (by kernel_rfl) op60
theorem op2 : Opens Tryz.prog 2 (Kd.int .i64) (fun n => (Lit.int .i64 n).wf = true) := opens_int Tryz.underlying2 (by kernel_rfl)
instance : Inhabited S121 := ⟨z121⟩
theorem op121 : Opens Tryz.prog 121 k121 ok121 := opens_struct (gi := fun y => (⟨y.1, y.2.1, y.2.2.1, y.2.2.2.1, y.2.2.2.2⟩ : S121)) Tryz.underlying121 (by kernel_rfl) (fun _ => rfl) (opens_more rfl op2 (opens_more rfl op2 (opens_more rfl op9 (opens_more rfl op9 (opens_last rfl op9)))))
theorem op62 : Opens Tryz.prog 62 (Kd.slice 121 k121) (fun x => (x.length ≤ maxLen ∧ ∀ x_ ∈ x, ok121 x_)) := opens_slice Tryz.underlying62 (by kernel_rfl) op121
instance : Inhabited S123 := ⟨z123⟩
theorem op123 : Opens Tryz.prog 123 k123 ok123 := opens_struct (gi := fun y => (⟨y.1, y.2.1, y.2.2.1, y.2.2.2⟩ : S123)) Tryz.underlying123 (by kernel_rfl) (fun _ => rfl) (opens_more rfl op2 (opens_more rfl op2 (opens_more rfl op2 (opens_last rfl op9))))
theorem op63 : Opens Tryz.prog 63 (Kd.slice 123 k123) (fun x => (x.length ≤ maxLen ∧ ∀ x_ ∈ x, ok123 x_)) := opens_slice Tryz.underlying63 (by kernel_rfl) op123
instance : Inhabited S65 := ⟨z65⟩
theorem op65 : Opens Tryz.prog 65 k65 ok65 := opens_struct (gi := fun y => (⟨y.1, y.2.1, y.2.2.1, y.2.2.2.1, y.2.2.2.2.1, y.2.2.2.2.2.1, y.2.2.2.2.2.2.1, y.2.2.2.2.2.2.2.1, y.2.2.2.2.2.2.2.2⟩ : S65)) Tryz.underlying65 (by kernel_rfl) (fun _ => rfl) (opens_more rfl op9 (opens_more rfl op9 (opens_more rfl op4 (opens_more rfl op4 (opens_more rfl op4 (opens_more rfl op2 (opens_more rfl op2 (opens_more rfl op62 (opens_last rfl op63)))))))))
theorem op23 : Opens Tryz.prog 23 (Kd.slice 65 k65) (fun x => (x.length ≤ maxLen ∧ ∀ x_ ∈ x, ok65 x_)) := opens_slice Tryz.underlying23 (by kernel_rfl) op65
instance : Inhabited S25 := ⟨z25⟩
theorem op25 : Opens Tryz.prog 25 k25 ok25 := opens_struct (gi := fun y => (⟨y.1, y.2.1, y.2.2.1, y.2.2.2.1, y.2.2.2.2.1, y.2.2.2.2.2⟩ : S25)) Tryz.underlying25 (by kernel_rfl) (fun _ => rfl) (opens_more rfl op9 (opens_more rfl op9 (opens_more rfl op4 (opens_more rfl op4 (opens_more rfl op22 (opens_last rfl op23))))))
theorem op35 : Opens Tryz.prog 35 (Kd.slice 25 k25) (fun x => (x.length ≤ maxLen ∧ ∀ x_ ∈ x, ok25 x_)) := opens_slice Tryz.underlying35 (by kernel_rfl) op25
set_option maxRecDepth 100000 in
theorem lifted (os : Os) (started : os.Started) (H : Type) (enc : TypeId × Value → H) :
    ReturnsInHanded {} Tryz.checked os 4 .any (fun w args => (Rows.fnExactWorldTextSpec.pre enc Tryz.prog Tryz.f4 [] false w args ∧ laidMetH Tryz.prog Rows.fnExactWorldTextRow.laid w) ∧ sizedMet enc Tryz.prog Tryz.f4 (OpenSpec.ofChange Rows.fnExactWorldTextSpec) false w args) (Rows.fnExactWorldTextSpec.post enc Tryz.prog Tryz.f4 false true false false) := by
  refine returnsInHanded_of_change_and (C := Tryz.checked) (X := fun w _ => laidMetH Tryz.prog Rows.fnExactWorldTextRow.laid w) (fun _ _ _ hh h => h.of_heap hh) own started (by kernel_rfl) Tryz.func4
    (ChangeSpec.witness_shaped (enc := enc) (C := Tryz.checked) (os := os) (X := fun w _ => laidMetH Tryz.prog Rows.fnExactWorldTextRow.laid w) false (World.doorLaid Tryz.prog 400 os) #[.slice none 0 0] 8 rfl (World.shaped_of_RefB (by kernel_rfl) (by kernel_rfl)) (by kernel_rfl) (by kernel_rfl) (by kernel_rfl) (door_met os _)) ?_
  intro W base args ds gs before hval0 hW hcnd hsz0 hL _
  have hval : ∀ (j : Nat) t v, Tryz.f4.params[j]? = some t → args[j]? = some v → Value.okWide Tryz.prog W .any base t v := hval0
  have hW' := hW
  obtain ⟨p, q, hA0, hV, rfl, hfz, hnd⟩ := hW
  have hA : DataW.TrodAll enc Tryz.prog W 0 (fun _ => true) true Tryz.f4.params.toList args.toList ds p := hA0
  rw [Tryz.params4] at hA hval
  obtain ⟨v0, vs0, d0, ds0, p0, q0, hargs, rfl, rfl, h0, r0⟩ := trodAll_cons hA
  obtain ⟨rfl, rfl, rfl⟩ := trodAll_nil r0
  obtain rfl : args = #[v0] := by cases args; simp_all
  obtain ⟨rfl, rfl⟩ := trodVars_none hV
  have k0 := h0
  have lt0 : ∀ x ∈ p0, x.block < W.heap.size := by obtain ⟨m, hm⟩ := k0; exact DataW.trod_lt m _ _ _ hm
  obtain ⟨A0, len0, c0, rfl⟩ := okWide_slice Tryz.underlying35 (hval 0 35 v0 rfl rfl)
  obtain ⟨x0, e0, g0, b0⟩ : ∃ x, len0 = x.length ∧ (x.length ≤ c0 ∧ Kd.C k25 W A0 x.length x) ∧ (x.length ≤ maxLen ∧ ∀ x_ ∈ x, ok25 x_) := by
    obtain ⟨m, hm⟩ := h0
    obtain ⟨x, ⟨A_, c_, e_, hl_, hC_⟩, hb_⟩ := op35.2 _ enc W m _ _ hm
    have e1_ : [Value.slice A0 len0 c0] = [.slice A_ x.length c_] := e_
    injection e1_ with e2_ _
    injection e2_ with e3_ e4_ e5_
    subst e3_ e4_ e5_
    exact ⟨x, rfl, ⟨hl_, hC_⟩, hb_⟩
  subst e0
  clear hA0 hval0 hsz0
  obtain ⟨k, h⟩ := Pure.FnExactWorldText x0 b0
  refine (laws_FnExactWorldText.calls k _ _ x0 true W g0.2 g0.1 rfl h (table hL)).mono fun e W' ⟨he, bel0⟩ => ?_
  have bel : Below W.heap.size W W' := bel0
  subst he
  exact ⟨_, rfl, _, _, _, [], _, [], hW', trodAll_mk1 (shut_bool Tryz.underlying4 _), (trodAll_cons_mk (Below.trod laidOut (by kernel_rfl) (of_decide_eq_true (by kernel_rfl)) k0 bel lt0) trodAll_mk0), rfl, bel.frame _, fun h => by cases h⟩
theorem over : Rows.fnExactWorldTextRow.holds Tryz.pinned (OpenSpec.ofChange Rows.fnExactWorldTextSpec) :=
  OpenClaim.holds_of_wide 4 Tryz.f4 rfl rfl rfl rfl rfl rfl rfl ⟨rfl, rfl, rfl, rfl, rfl⟩ rfl rfl rfl rfl rfl (by kernel_rfl) Tryz.func4 (by kernel_rfl)
    (of_decide_eq_true (by kernel_rfl)) (by unfold Func.isWrapper; first | (rw [if_pos (by decide +kernel)]; kernel_rfl) | (rw [if_neg (by decide +kernel)]; exact ⟨rfl, rfl⟩))
    (fun os started H enc _ => lifted os started H enc)
theorem proved : Rows.FnExactWorldTextSaid := over
theorem card_holds : Rows.FnExactWorldTextCardSaid :=
  Claim7.holds_tied_plain_at .later [] [.data, .data, .data] true (true, "ff9cc9d7c9b2ba254d6f83a90a50f2aec047b0613e0bf71aca56ead46a56e56a") false
    proved (fun _ h => by cases h) (by kernel_rfl) (fun _ h => by cases h) fnExactWorldText_row_tie rfl ⟨rfl, rfl⟩ (by kernel_rfl) rfl
    (fun f fn hf hfn => by
      obtain rfl : f = 4 := Option.some.inj ((show Tryz.prog.funcNamed "loop.example/g00175/laws.FnExactWorldText" = some 4 by kernel_rfl).symm.trans hf) |>.symm
      obtain rfl : fn = Tryz.f4 := (Option.some.inj (Tryz.func4.symm.trans hfn)).symm
      exact ⟨by kernel_rfl, fun j t ht => by
        rw [Tryz.params4] at ht
        have hm : t ∈ Tryz.f4.params.toList := by rw [Tryz.params4]; simpa using Array.mem_of_getElem? ht
        have hall : (Tryz.f4.params.toList.all fun u => !Tryz.prog.wantsStandIn u) = true := by kernel_rfl
        exact (show Tryz.prog.wantsStandIn t = false by simpa using List.all_eq_true.1 hall t hm)⟩)
    (by kernel_rfl)
#print axioms card_holds
end Go.Proofs.YtohiakbkkmmjeaaGreatDoor.fnExactWorldText
namespace Go.Proofs.YtohiakbkkmmjeaaGreatDoor
/-- The row, under a short name, for the claim. -/
theorem fnExactWorldText_holds : Rows.FnExactWorldTextCardSaid := fnExactWorldText.card_holds
end Go.Proofs.YtohiakbkkmmjeaaGreatDoor
