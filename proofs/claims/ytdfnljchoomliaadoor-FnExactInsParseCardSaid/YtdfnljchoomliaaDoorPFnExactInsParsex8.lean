/- Functions of the program as plain Lean functions, each with a proof that the program's call comes to the same; no condition. Written by a program of this session. -/
import Derived.Test.YtdfnljchoomliaaDoorPFnExactInsParsex0
import Derived.Test.YtdfnljchoomliaaDoorPFnExactInsParsex7
namespace Go.Proofs.YtdfnljchoomliaaDoor.PFnExactInsParse
open Go.RowKit Go.Proofs.YtdfnljchoomliaaDoorW.PrintWords Go.Proofs.YtdfnljchoomliaaDoorW.PrintLast Go.Proofs.YtdfnljchoomliaaDoorW.PrintMore
open Go.Proofs.YtdfnljchoomliaaDoorW.PrintWords renaming below_alloc → Zba, pw_below_drewN → Zbn, below_drew1 → Zbd, below_set → Zbs, below_size → Zbz, below_step → Zbt, blk_frozen → Zkf
open Go.Proofs.YtdfnljchoomliaaDoorW.PrintWords.Aside0 renaming mk → Zm
attribute [local go_sem] max2_int min2_int max_two min_two max_three min_three max_four min_four   -- for this text's walks alone
set_option linter.unusedVariables false
set_option linter.unusedSimpArgs false

/-! ### impl_reader_kind: function 74 -/
def impl_reader_kind.f (k : Nat) (s0_0 : ByteArray) (s0_1 : Int) (s0_2 : Bool) : Option (ByteArray × ByteArray × Int × Bool) := (impl_reader_take.f s0_0 s0_1 s0_2 91).bind fun bt307 => ((impl_reader_take.f bt307.2.1 bt307.2.2.1 bt307.2.2.2 73).bind fun bt311 => (if bt311.1 = true then (if bt311.2.2.2 = true then (some ((⟨#[]⟩ : ByteArray), bt311.2.1, bt311.2.2.1, bt311.2.2.2)) else (if 0 ≤ s0_1 then (if s0_1 ≤ bt311.2.2.1 then (if bt311.2.2.1 ≤ (bt311.2.1.size : Int) then (some (bt311.2.1.extract (s0_1 : Int).toNat (bt311.2.2.1 : Int).toNat, bt311.2.1, bt311.2.2.1, bt311.2.2.2)) else (none)) else (none)) else (none))) else ((impl_reader_take.f bt311.2.1 bt311.2.2.1 bt311.2.2.2 76).bind fun bt315 => (if bt315.1 = true then ((impl_reader_name.f k bt315.2.1 bt315.2.2.1 bt315.2.2.2).bind fun bt319 => (if bt319.2.2 = true then (some ((⟨#[]⟩ : ByteArray), bt319.1, bt319.2.1, bt319.2.2)) else (if 0 ≤ s0_1 then (if s0_1 ≤ bt319.2.1 then (if bt319.2.1 ≤ (bt319.1.size : Int) then (some (bt319.1.extract (s0_1 : Int).toNat (bt319.2.1 : Int).toNat, bt319.1, bt319.2.1, bt319.2.2)) else (none)) else (none)) else (none)))) else (some ((⟨#[]⟩ : ByteArray), bt315.2.1, bt315.2.2.1, true))))))
theorem impl_reader_kind.mono : ∀ a0 a1 a2 k, LeO (impl_reader_kind.f k a0 a1 a2) (impl_reader_kind.f (k + 1) a0 a1 a2) := by
 intro a0 a1 a2 k; unfold impl_reader_kind.f
 repeat' first
  | (with_reducible exact impl_reader_name.mono _ _ _ _)
  | (with_reducible exact LeO.refl _)
  | (with_reducible exact LeO.none _)
  | (with_reducible refine LeO.ite ?_ ?_)
  | (with_reducible refine LeO.bind ?_ (fun _ => ?_))
  | exact impl_reader_name.mono _ _ _ _
  | exact LeO.none _
  | refine LeO.ite ?_ ?_
  | refine LeO.bind ?_ (fun _ => ?_)
set_option maxHeartbeats 8000000 in
set_option maxRecDepth 100000 in
theorem impl_reader_kind.calls (k : Nat) (g : Nat) (s0_0 : ByteArray) (s0_1 : Int) (s0_2 : Bool) (r1 : ByteArray) (r2 : ByteArray) (r3 : Int) (r4 : Bool) (w0 w : World) (hI : IsS97 w0 w g s0_0 s0_1 s0_2) (hB : Below w0.heap.size w0 w) (h : impl_reader_kind.f k s0_0 s0_1 s0_2 = some (r1, r2, r3, r4)) :
 Calls Tryd.prog 74 #[.pointer (some ⟨g, 0, none⟩)] w fun e w' => e = .returned (.string r1) ∧ IsS97 w0 w' g r2 r3 r4 ∧ Below w0.heap.size w0 w' ∧ KeepBut w w' g none := by
 have HI0 := Zm hI; have HK := Zm (KeepBut.refl w g none); have HL := Zm hB.size; clear hI; have HW0 := Zm hB.size; have HB := Zm hB; clear hB; have H : ((impl_reader_take.f s0_0 s0_1 s0_2 91).bind fun bt307 => ((impl_reader_take.f bt307.2.1 bt307.2.2.1 bt307.2.2.2 73).bind fun bt311 => (if bt311.1 = true then (if bt311.2.2.2 = true then (some ((⟨#[]⟩ : ByteArray), bt311.2.1, bt311.2.2.1, bt311.2.2.2)) else (if 0 ≤ s0_1 then (if s0_1 ≤ bt311.2.2.1 then (if bt311.2.2.1 ≤ (bt311.2.1.size : Int) then (some (bt311.2.1.extract (s0_1 : Int).toNat (bt311.2.2.1 : Int).toNat, bt311.2.1, bt311.2.2.1, bt311.2.2.2)) else (none)) else (none)) else (none))) else ((impl_reader_take.f bt311.2.1 bt311.2.2.1 bt311.2.2.2 76).bind fun bt315 => (if bt315.1 = true then ((impl_reader_name.f k bt315.2.1 bt315.2.2.1 bt315.2.2.2).bind fun bt319 => (if bt319.2.2 = true then (some ((⟨#[]⟩ : ByteArray), bt319.1, bt319.2.1, bt319.2.2)) else (if 0 ≤ s0_1 then (if s0_1 ≤ bt319.2.1 then (if bt319.2.1 ≤ (bt319.1.size : Int) then (some (bt319.1.extract (s0_1 : Int).toNat (bt319.2.1 : Int).toNat, bt319.1, bt319.2.1, bt319.2.2)) else (none)) else (none)) else (none)))) else (some ((⟨#[]⟩ : ByteArray), bt315.2.1, bt315.2.2.1, true))))))) = some (r1, r2, r3, r4) := h; clear h; replace H := Option.bind_eq_some_iff.mp H; obtain ⟨⟨t307, t308, t309, t310⟩, A20, H⟩ := H; replace H : ((impl_reader_take.f t308 t309 t310 73).bind fun bt311 => (if bt311.1 = true then (if bt311.2.2.2 = true then (some ((⟨#[]⟩ : ByteArray), bt311.2.1, bt311.2.2.1, bt311.2.2.2)) else (if 0 ≤ s0_1 then (if s0_1 ≤ bt311.2.2.1 then (if bt311.2.2.1 ≤ (bt311.2.1.size : Int) then (some (bt311.2.1.extract (s0_1 : Int).toNat (bt311.2.2.1 : Int).toNat, bt311.2.1, bt311.2.2.1, bt311.2.2.2)) else (none)) else (none)) else (none))) else ((impl_reader_take.f bt311.2.1 bt311.2.2.1 bt311.2.2.2 76).bind fun bt315 => (if bt315.1 = true then ((impl_reader_name.f k bt315.2.1 bt315.2.2.1 bt315.2.2.2).bind fun bt319 => (if bt319.2.2 = true then (some ((⟨#[]⟩ : ByteArray), bt319.1, bt319.2.1, bt319.2.2)) else (if 0 ≤ s0_1 then (if s0_1 ≤ bt319.2.1 then (if bt319.2.1 ≤ (bt319.1.size : Int) then (some (bt319.1.extract (s0_1 : Int).toNat (bt319.2.1 : Int).toNat, bt319.1, bt319.2.1, bt319.2.2)) else (none)) else (none)) else (none)))) else (some ((⟨#[]⟩ : ByteArray), bt315.2.1, bt315.2.2.1, true)))))) = some (r1, r2, r3, r4) := H; have A2 := Zm A20; clear A20; replace H := Option.bind_eq_some_iff.mp H; obtain ⟨⟨t311, t312, t313, t314⟩, A30, H⟩ := H; replace H : (if t311 = true then (if t314 = true then (some ((⟨#[]⟩ : ByteArray), t312, t313, t314)) else (if 0 ≤ s0_1 then (if s0_1 ≤ t313 then (if t313 ≤ (t312.size : Int) then (some (t312.extract (s0_1 : Int).toNat (t313 : Int).toNat, t312, t313, t314)) else (none)) else (none)) else (none))) else ((impl_reader_take.f t312 t313 t314 76).bind fun bt315 => (if bt315.1 = true then ((impl_reader_name.f k bt315.2.1 bt315.2.2.1 bt315.2.2.2).bind fun bt319 => (if bt319.2.2 = true then (some ((⟨#[]⟩ : ByteArray), bt319.1, bt319.2.1, bt319.2.2)) else (if 0 ≤ s0_1 then (if s0_1 ≤ bt319.2.1 then (if bt319.2.1 ≤ (bt319.1.size : Int) then (some (bt319.1.extract (s0_1 : Int).toNat (bt319.2.1 : Int).toNat, bt319.1, bt319.2.1, bt319.2.2)) else (none)) else (none)) else (none)))) else (some ((⟨#[]⟩ : ByteArray), bt315.2.1, bt315.2.2.1, true))))) = some (r1, r2, r3, r4) := H; have A3 := Zm A30; clear A30; by_cases c4 : t311 = true; rotate_left
 · replace c4 := Bool.eq_false_iff.mpr c4; subst c4; rw [if_neg (show ¬ (false = true) by decide)] at H; replace H := Option.bind_eq_some_iff.mp H; obtain ⟨⟨t315, t316, t317, t318⟩, A170, H⟩ := H; replace H : (if t315 = true then ((impl_reader_name.f k t316 t317 t318).bind fun bt319 => (if bt319.2.2 = true then (some ((⟨#[]⟩ : ByteArray), bt319.1, bt319.2.1, bt319.2.2)) else (if 0 ≤ s0_1 then (if s0_1 ≤ bt319.2.1 then (if bt319.2.1 ≤ (bt319.1.size : Int) then (some (bt319.1.extract (s0_1 : Int).toNat (bt319.2.1 : Int).toNat, bt319.1, bt319.2.1, bt319.2.2)) else (none)) else (none)) else (none)))) else (some ((⟨#[]⟩ : ByteArray), t316, t317, true))) = some (r1, r2, r3, r4) := H; have A17 := Zm A170; clear A170; by_cases c18 : t315 = true; rotate_left
   · replace c18 := Bool.eq_false_iff.mpr c18; subst c18; rw [if_neg (show ¬ (false = true) by decide)] at H; simp only [Option.some.injEq, Prod.mk.injEq] at H; obtain ⟨rfl, rfl, rfl, rfl⟩ := H; obtain ⟨HGz36, hgz36⟩ := HI0.out; have hcz36_0 := cellS97_0 HGz36; have hcz36_1 := cellS97_1 HGz36; have hcz36_2 := cellS97_2 HGz36; have hfz36_0 := Zkf HGz36 0; have hfz36_1 := Zkf HGz36 1; have hfz36_2 := Zkf HGz36 2; clear HGz36 hgz36; go_enter Tryd.func74, Tryd.ntmps74; go_wp2_with (first | (go_at_call 87; (first | (with_reducible refine (impl_reader_take.calls g _ _ _ _ _ _ _ _ w0 _ ?side1 ?side2 A2.out).mono ?_) | (with_reducible refine (calls_of_args ?_ (impl_reader_take.calls g _ _ _ _ _ _ _ _ w0 _ ?side1 ?side2 A2.out)).mono ?_; focus (simp [*]; done))); (case side1 => repeat (first | (with_reducible first | exact HI0.out | apply IsS97.alloc | apply IsS97.drewN | apply IsS97.drew | apply IsS97.set_0 | apply IsS97.set_1 | apply IsS97.set_2) | exact HI0.out)); (case side2 => exact bk HB.out); rintro e w37 ⟨rfl, hi, hb, hk⟩; have n0_ := (⟨Zm (KeepBut.trans (by repeat (first | (with_reducible first | exact HK.out | apply KeepBut.set_ | apply keep_drewN | apply keep_drew | apply keep_alloc) | exact HK.out)) hk (.inl rfl)), Zm (hb), Zm (hi)⟩ : _ ∧ _ ∧ _); clear HK HB HI0; obtain ⟨HK, HB, HI0⟩ := n0_; (try clear hb); (try clear hb2); (try clear hk); (try clear hi)) | (go_at_call 87; (first | (with_reducible refine (impl_reader_take.calls g _ _ _ _ _ _ _ _ w0 _ ?side1 ?side2 A3.out).mono ?_) | (with_reducible refine (calls_of_args ?_ (impl_reader_take.calls g _ _ _ _ _ _ _ _ w0 _ ?side1 ?side2 A3.out)).mono ?_; focus (simp [*]; done))); (case side1 => repeat (first | (with_reducible first | exact HI0.out | apply IsS97.alloc | apply IsS97.drewN | apply IsS97.drew | apply IsS97.set_0 | apply IsS97.set_1 | apply IsS97.set_2) | exact HI0.out)); (case side2 => exact bk HB.out); rintro e w38 ⟨rfl, hi, hb, hk⟩; have n0_ := (⟨Zm (KeepBut.trans (by repeat (first | (with_reducible first | exact HK.out | apply KeepBut.set_ | apply keep_drewN | apply keep_drew | apply keep_alloc) | exact HK.out)) hk (.inl rfl)), Zm (hb), Zm (hi)⟩ : _ ∧ _ ∧ _); clear HK HB HI0; obtain ⟨HK, HB, HI0⟩ := n0_; (try clear hb); (try clear hb2); (try clear hk); (try clear hi)) | (go_at_call 87; (first | (with_reducible refine (impl_reader_take.calls g _ _ _ _ _ _ _ _ w0 _ ?side1 ?side2 A17.out).mono ?_) | (with_reducible refine (calls_of_args ?_ (impl_reader_take.calls g _ _ _ _ _ _ _ _ w0 _ ?side1 ?side2 A17.out)).mono ?_; focus (simp [*]; done))); (case side1 => repeat (first | (with_reducible first | exact HI0.out | apply IsS97.alloc | apply IsS97.drewN | apply IsS97.drew | apply IsS97.set_0 | apply IsS97.set_1 | apply IsS97.set_2) | exact HI0.out)); (case side2 => exact bk HB.out); rintro e w39 ⟨rfl, hi, hb, hk⟩; have n0_ := (⟨Zm (KeepBut.trans (by repeat (first | (with_reducible first | exact HK.out | apply KeepBut.set_ | apply keep_drewN | apply keep_drew | apply keep_alloc) | exact HK.out)) hk (.inl rfl)), Zm (hb), Zm (hi)⟩ : _ ∧ _ ∧ _); clear HK HB HI0; obtain ⟨HK, HB, HI0⟩ := n0_; (try clear hb); (try clear hb2); (try clear hk); (try clear hi); obtain ⟨HGz40, hgz40⟩ := HI0.out; have hcz40_0 := cellS97_0 HGz40; have hcz40_1 := cellS97_1 HGz40; have hcz40_2 := cellS97_2 HGz40; have hfz40_0 := Zkf HGz40 0; have hfz40_1 := Zkf HGz40 1; have hfz40_2 := Zkf HGz40 2; clear HGz40 hgz40))
     repeat (go_quiet (first | (go_at_call 87; (first | (with_reducible refine (impl_reader_take.calls g _ _ _ _ _ _ _ _ w0 _ ?side1 ?side2 A2.out).mono ?_) | (with_reducible refine (calls_of_args ?_ (impl_reader_take.calls g _ _ _ _ _ _ _ _ w0 _ ?side1 ?side2 A2.out)).mono ?_; focus (simp [*]; done))); (case side1 => repeat (first | (with_reducible first | exact HI0.out | apply IsS97.alloc | apply IsS97.drewN | apply IsS97.drew | apply IsS97.set_0 | apply IsS97.set_1 | apply IsS97.set_2) | exact HI0.out)); (case side2 => exact bk HB.out); rintro e w37 ⟨rfl, hi, hb, hk⟩; have n0_ := (⟨Zm (KeepBut.trans (by repeat (first | (with_reducible first | exact HK.out | apply KeepBut.set_ | apply keep_drewN | apply keep_drew | apply keep_alloc) | exact HK.out)) hk (.inl rfl)), Zm (hb), Zm (hi)⟩ : _ ∧ _ ∧ _); clear HK HB HI0; obtain ⟨HK, HB, HI0⟩ := n0_; (try clear hb); (try clear hb2); (try clear hk); (try clear hi)) | (go_at_call 87; (first | (with_reducible refine (impl_reader_take.calls g _ _ _ _ _ _ _ _ w0 _ ?side1 ?side2 A3.out).mono ?_) | (with_reducible refine (calls_of_args ?_ (impl_reader_take.calls g _ _ _ _ _ _ _ _ w0 _ ?side1 ?side2 A3.out)).mono ?_; focus (simp [*]; done))); (case side1 => repeat (first | (with_reducible first | exact HI0.out | apply IsS97.alloc | apply IsS97.drewN | apply IsS97.drew | apply IsS97.set_0 | apply IsS97.set_1 | apply IsS97.set_2) | exact HI0.out)); (case side2 => exact bk HB.out); rintro e w38 ⟨rfl, hi, hb, hk⟩; have n0_ := (⟨Zm (KeepBut.trans (by repeat (first | (with_reducible first | exact HK.out | apply KeepBut.set_ | apply keep_drewN | apply keep_drew | apply keep_alloc) | exact HK.out)) hk (.inl rfl)), Zm (hb), Zm (hi)⟩ : _ ∧ _ ∧ _); clear HK HB HI0; obtain ⟨HK, HB, HI0⟩ := n0_; (try clear hb); (try clear hb2); (try clear hk); (try clear hi)) | (go_at_call 87; (first | (with_reducible refine (impl_reader_take.calls g _ _ _ _ _ _ _ _ w0 _ ?side1 ?side2 A17.out).mono ?_) | (with_reducible refine (calls_of_args ?_ (impl_reader_take.calls g _ _ _ _ _ _ _ _ w0 _ ?side1 ?side2 A17.out)).mono ?_; focus (simp [*]; done))); (case side1 => repeat (first | (with_reducible first | exact HI0.out | apply IsS97.alloc | apply IsS97.drewN | apply IsS97.drew | apply IsS97.set_0 | apply IsS97.set_1 | apply IsS97.set_2) | exact HI0.out)); (case side2 => exact bk HB.out); rintro e w39 ⟨rfl, hi, hb, hk⟩; have n0_ := (⟨Zm (KeepBut.trans (by repeat (first | (with_reducible first | exact HK.out | apply KeepBut.set_ | apply keep_drewN | apply keep_drew | apply keep_alloc) | exact HK.out)) hk (.inl rfl)), Zm (hb), Zm (hi)⟩ : _ ∧ _ ∧ _); clear HK HB HI0; obtain ⟨HK, HB, HI0⟩ := n0_; (try clear hb); (try clear hb2); (try clear hk); (try clear hi); obtain ⟨HGz40, hgz40⟩ := HI0.out; have hcz40_0 := cellS97_0 HGz40; have hcz40_1 := cellS97_1 HGz40; have hcz40_2 := cellS97_2 HGz40; have hfz40_0 := Zkf HGz40 0; have hfz40_1 := Zkf HGz40 1; have hfz40_2 := Zkf HGz40 2; clear HGz40 hgz40)); try go_wp2)
     go_ret; exact ⟨by first | rfl | (simp [*] <;> rfl), by repeat (first | (with_reducible first | exact HI0.out | apply IsS97.alloc | apply IsS97.drewN | apply IsS97.drew | apply IsS97.set_0 | apply IsS97.set_1 | apply IsS97.set_2) | exact HI0.out), by repeat (first | (with_reducible first | exact HB.out | apply Zba | apply Zbn | apply Zbd | refine Zbs ?_ (IsS97.ge HI0.out)) | exact HB.out), by repeat (first | (with_reducible first | exact HK.out | apply KeepBut.set_ | apply keep_drewN | apply keep_drew | apply keep_alloc) | exact HK.out)⟩

   subst c18
   rw [if_pos rfl] at H
   replace H := Option.bind_eq_some_iff.mp H
   obtain ⟨⟨t319, t320, t321⟩, A190, H⟩ := H
   replace H : (if t321 = true then (some ((⟨#[]⟩ : ByteArray), t319, t320, t321)) else (if 0 ≤ s0_1 then (if s0_1 ≤ t320 then (if t320 ≤ (t319.size : Int) then (some (t319.extract (s0_1 : Int).toNat (t320 : Int).toNat, t319, t320, t321)) else (none)) else (none)) else (none))) = some (r1, r2, r3, r4) := H
   have A19 := Zm A190
   clear A190
   by_cases c20 : t321 = true
   rotate_left
   · replace c20 := Bool.eq_false_iff.mpr c20
     subst c20
     rw [if_neg (show ¬ (false = true) by decide)] at H
     by_cases c27 : 0 ≤ s0_1
     rotate_left
     · rw [if_neg c27] at H
       exact absurd H (by simp)
     rw [if_pos c27] at H
     have c27b0 := eq_true c27
     have c27b1 := decide_eq_true c27
     clear c27
     by_cases c28 : s0_1 ≤ t320
     rotate_left
     · rw [if_neg c28] at H
       exact absurd H (by simp)
     rw [if_pos c28] at H
     have c28b0 := eq_true c28
     have c28b1 := decide_eq_true c28
     clear c28
     by_cases c29 : t320 ≤ (t319.size : Int)
     rotate_left
     · rw [if_neg c29] at H
       exact absurd H (by simp)
     rw [if_pos c29] at H
     have c29b0 := eq_true c29
     have c29b1 := decide_eq_true c29
     clear c29
     simp only [Option.some.injEq, Prod.mk.injEq] at H
     obtain ⟨rfl, rfl, rfl, rfl⟩ := H
     obtain ⟨HGz30, hgz30⟩ := HI0.out
     have hcz30_0 := cellS97_0 HGz30
     have hcz30_1 := cellS97_1 HGz30
     have hcz30_2 := cellS97_2 HGz30
     have hfz30_0 := Zkf HGz30 0
     have hfz30_1 := Zkf HGz30 1
     have hfz30_2 := Zkf HGz30 2
     clear HGz30 hgz30
     go_enter Tryd.func74, Tryd.ntmps74
     go_wp2_with (first | (go_at_call 87; (first | (with_reducible refine (impl_reader_take.calls g _ _ _ _ _ _ _ _ w0 _ ?side1 ?side2 A2.out).mono ?_) | (with_reducible refine (calls_of_args ?_ (impl_reader_take.calls g _ _ _ _ _ _ _ _ w0 _ ?side1 ?side2 A2.out)).mono ?_; focus (simp [*]; done))); (case side1 => repeat (first | (with_reducible first | exact HI0.out | apply IsS97.alloc | apply IsS97.drewN | apply IsS97.drew | apply IsS97.set_0 | apply IsS97.set_1 | apply IsS97.set_2) | exact HI0.out)); (case side2 => exact bk HB.out); rintro e w31 ⟨rfl, hi, hb, hk⟩; have n0_ := (⟨Zm (KeepBut.trans (by repeat (first | (with_reducible first | exact HK.out | apply KeepBut.set_ | apply keep_drewN | apply keep_drew | apply keep_alloc) | exact HK.out)) hk (.inl rfl)), Zm (hb), Zm (hi)⟩ : _ ∧ _ ∧ _); clear HK HB HI0; obtain ⟨HK, HB, HI0⟩ := n0_; (try clear hb); (try clear hb2); (try clear hk); (try clear hi)) | (go_at_call 87; (first | (with_reducible refine (impl_reader_take.calls g _ _ _ _ _ _ _ _ w0 _ ?side1 ?side2 A3.out).mono ?_) | (with_reducible refine (calls_of_args ?_ (impl_reader_take.calls g _ _ _ _ _ _ _ _ w0 _ ?side1 ?side2 A3.out)).mono ?_; focus (simp [*]; done))); (case side1 => repeat (first | (with_reducible first | exact HI0.out | apply IsS97.alloc | apply IsS97.drewN | apply IsS97.drew | apply IsS97.set_0 | apply IsS97.set_1 | apply IsS97.set_2) | exact HI0.out)); (case side2 => exact bk HB.out); rintro e w32 ⟨rfl, hi, hb, hk⟩; have n0_ := (⟨Zm (KeepBut.trans (by repeat (first | (with_reducible first | exact HK.out | apply KeepBut.set_ | apply keep_drewN | apply keep_drew | apply keep_alloc) | exact HK.out)) hk (.inl rfl)), Zm (hb), Zm (hi)⟩ : _ ∧ _ ∧ _); clear HK HB HI0; obtain ⟨HK, HB, HI0⟩ := n0_; (try clear hb); (try clear hb2); (try clear hk); (try clear hi)) | (go_at_call 87; (first | (with_reducible refine (impl_reader_take.calls g _ _ _ _ _ _ _ _ w0 _ ?side1 ?side2 A17.out).mono ?_) | (with_reducible refine (calls_of_args ?_ (impl_reader_take.calls g _ _ _ _ _ _ _ _ w0 _ ?side1 ?side2 A17.out)).mono ?_; focus (simp [*]; done))); (case side1 => repeat (first | (with_reducible first | exact HI0.out | apply IsS97.alloc | apply IsS97.drewN | apply IsS97.drew | apply IsS97.set_0 | apply IsS97.set_1 | apply IsS97.set_2) | exact HI0.out)); (case side2 => exact bk HB.out); rintro e w33 ⟨rfl, hi, hb, hk⟩; have n0_ := (⟨Zm (KeepBut.trans (by repeat (first | (with_reducible first | exact HK.out | apply KeepBut.set_ | apply keep_drewN | apply keep_drew | apply keep_alloc) | exact HK.out)) hk (.inl rfl)), Zm (hb), Zm (hi)⟩ : _ ∧ _ ∧ _); clear HK HB HI0; obtain ⟨HK, HB, HI0⟩ := n0_; (try clear hb); (try clear hb2); (try clear hk); (try clear hi)) | (go_at_call 88; (first | (with_reducible refine (impl_reader_name.calls _ g _ _ _ _ _ _ w0 _ ?side1 ?side2 A19.out).mono ?_) | (with_reducible refine (calls_of_args ?_ (impl_reader_name.calls _ g _ _ _ _ _ _ w0 _ ?side1 ?side2 A19.out)).mono ?_; focus (simp [*]; done))); (case side1 => repeat (first | (with_reducible first | exact HI0.out | apply IsS97.alloc | apply IsS97.drewN | apply IsS97.drew | apply IsS97.set_0 | apply IsS97.set_1 | apply IsS97.set_2) | exact HI0.out)); (case side2 => exact bk HB.out); rintro e w34 ⟨rfl, hi, hb, hk⟩; have n0_ := (⟨Zm (KeepBut.trans (by repeat (first | (with_reducible first | exact HK.out | apply KeepBut.set_ | apply keep_drewN | apply keep_drew | apply keep_alloc) | exact HK.out)) hk (.inl rfl)), Zm (hb), Zm (hi)⟩ : _ ∧ _ ∧ _); clear HK HB HI0; obtain ⟨HK, HB, HI0⟩ := n0_; (try clear hb); (try clear hb2); (try clear hk); (try clear hi); obtain ⟨HGz35, hgz35⟩ := HI0.out; have hcz35_0 := cellS97_0 HGz35; have hcz35_1 := cellS97_1 HGz35; have hcz35_2 := cellS97_2 HGz35; have hfz35_0 := Zkf HGz35 0; have hfz35_1 := Zkf HGz35 1; have hfz35_2 := Zkf HGz35 2; clear HGz35 hgz35))
     repeat (go_quiet (first | (go_at_call 87; (first | (with_reducible refine (impl_reader_take.calls g _ _ _ _ _ _ _ _ w0 _ ?side1 ?side2 A2.out).mono ?_) | (with_reducible refine (calls_of_args ?_ (impl_reader_take.calls g _ _ _ _ _ _ _ _ w0 _ ?side1 ?side2 A2.out)).mono ?_; focus (simp [*]; done))); (case side1 => repeat (first | (with_reducible first | exact HI0.out | apply IsS97.alloc | apply IsS97.drewN | apply IsS97.drew | apply IsS97.set_0 | apply IsS97.set_1 | apply IsS97.set_2) | exact HI0.out)); (case side2 => exact bk HB.out); rintro e w31 ⟨rfl, hi, hb, hk⟩; have n0_ := (⟨Zm (KeepBut.trans (by repeat (first | (with_reducible first | exact HK.out | apply KeepBut.set_ | apply keep_drewN | apply keep_drew | apply keep_alloc) | exact HK.out)) hk (.inl rfl)), Zm (hb), Zm (hi)⟩ : _ ∧ _ ∧ _); clear HK HB HI0; obtain ⟨HK, HB, HI0⟩ := n0_; (try clear hb); (try clear hb2); (try clear hk); (try clear hi)) | (go_at_call 87; (first | (with_reducible refine (impl_reader_take.calls g _ _ _ _ _ _ _ _ w0 _ ?side1 ?side2 A3.out).mono ?_) | (with_reducible refine (calls_of_args ?_ (impl_reader_take.calls g _ _ _ _ _ _ _ _ w0 _ ?side1 ?side2 A3.out)).mono ?_; focus (simp [*]; done))); (case side1 => repeat (first | (with_reducible first | exact HI0.out | apply IsS97.alloc | apply IsS97.drewN | apply IsS97.drew | apply IsS97.set_0 | apply IsS97.set_1 | apply IsS97.set_2) | exact HI0.out)); (case side2 => exact bk HB.out); rintro e w32 ⟨rfl, hi, hb, hk⟩; have n0_ := (⟨Zm (KeepBut.trans (by repeat (first | (with_reducible first | exact HK.out | apply KeepBut.set_ | apply keep_drewN | apply keep_drew | apply keep_alloc) | exact HK.out)) hk (.inl rfl)), Zm (hb), Zm (hi)⟩ : _ ∧ _ ∧ _); clear HK HB HI0; obtain ⟨HK, HB, HI0⟩ := n0_; (try clear hb); (try clear hb2); (try clear hk); (try clear hi)) | (go_at_call 87; (first | (with_reducible refine (impl_reader_take.calls g _ _ _ _ _ _ _ _ w0 _ ?side1 ?side2 A17.out).mono ?_) | (with_reducible refine (calls_of_args ?_ (impl_reader_take.calls g _ _ _ _ _ _ _ _ w0 _ ?side1 ?side2 A17.out)).mono ?_; focus (simp [*]; done))); (case side1 => repeat (first | (with_reducible first | exact HI0.out | apply IsS97.alloc | apply IsS97.drewN | apply IsS97.drew | apply IsS97.set_0 | apply IsS97.set_1 | apply IsS97.set_2) | exact HI0.out)); (case side2 => exact bk HB.out); rintro e w33 ⟨rfl, hi, hb, hk⟩; have n0_ := (⟨Zm (KeepBut.trans (by repeat (first | (with_reducible first | exact HK.out | apply KeepBut.set_ | apply keep_drewN | apply keep_drew | apply keep_alloc) | exact HK.out)) hk (.inl rfl)), Zm (hb), Zm (hi)⟩ : _ ∧ _ ∧ _); clear HK HB HI0; obtain ⟨HK, HB, HI0⟩ := n0_; (try clear hb); (try clear hb2); (try clear hk); (try clear hi)) | (go_at_call 88; (first | (with_reducible refine (impl_reader_name.calls _ g _ _ _ _ _ _ w0 _ ?side1 ?side2 A19.out).mono ?_) | (with_reducible refine (calls_of_args ?_ (impl_reader_name.calls _ g _ _ _ _ _ _ w0 _ ?side1 ?side2 A19.out)).mono ?_; focus (simp [*]; done))); (case side1 => repeat (first | (with_reducible first | exact HI0.out | apply IsS97.alloc | apply IsS97.drewN | apply IsS97.drew | apply IsS97.set_0 | apply IsS97.set_1 | apply IsS97.set_2) | exact HI0.out)); (case side2 => exact bk HB.out); rintro e w34 ⟨rfl, hi, hb, hk⟩; have n0_ := (⟨Zm (KeepBut.trans (by repeat (first | (with_reducible first | exact HK.out | apply KeepBut.set_ | apply keep_drewN | apply keep_drew | apply keep_alloc) | exact HK.out)) hk (.inl rfl)), Zm (hb), Zm (hi)⟩ : _ ∧ _ ∧ _); clear HK HB HI0; obtain ⟨HK, HB, HI0⟩ := n0_; (try clear hb); (try clear hb2); (try clear hk); (try clear hi); obtain ⟨HGz35, hgz35⟩ := HI0.out; have hcz35_0 := cellS97_0 HGz35; have hcz35_1 := cellS97_1 HGz35; have hcz35_2 := cellS97_2 HGz35; have hfz35_0 := Zkf HGz35 0; have hfz35_1 := Zkf HGz35 1; have hfz35_2 := Zkf HGz35 2; clear HGz35 hgz35)); try go_wp2)
     go_ret
     exact ⟨by first | rfl | (simp [*] <;> rfl), by repeat (first | (with_reducible first | exact HI0.out | apply IsS97.alloc | apply IsS97.drewN | apply IsS97.drew | apply IsS97.set_0 | apply IsS97.set_1 | apply IsS97.set_2) | exact HI0.out), by exact bk HB.out, by repeat (first | (with_reducible first | exact HK.out | apply KeepBut.set_ | apply keep_drewN | apply keep_drew | apply keep_alloc) | exact HK.out)⟩
   subst c20
   rw [if_pos rfl] at H
   simp only [Option.some.injEq, Prod.mk.injEq] at H
   obtain ⟨rfl, rfl, rfl, rfl⟩ := H
   obtain ⟨HGz21, hgz21⟩ := HI0.out
   have hcz21_0 := cellS97_0 HGz21
   have hcz21_1 := cellS97_1 HGz21
   have hcz21_2 := cellS97_2 HGz21
   have hfz21_0 := Zkf HGz21 0
   have hfz21_1 := Zkf HGz21 1
   have hfz21_2 := Zkf HGz21 2
   clear HGz21 hgz21
   go_enter Tryd.func74, Tryd.ntmps74
   go_wp2_with (first | (go_at_call 87; (first | (with_reducible refine (impl_reader_take.calls g _ _ _ _ _ _ _ _ w0 _ ?side1 ?side2 A2.out).mono ?_) | (with_reducible refine (calls_of_args ?_ (impl_reader_take.calls g _ _ _ _ _ _ _ _ w0 _ ?side1 ?side2 A2.out)).mono ?_; focus (simp [*]; done))); (case side1 => repeat (first | (with_reducible first | exact HI0.out | apply IsS97.alloc | apply IsS97.drewN | apply IsS97.drew | apply IsS97.set_0 | apply IsS97.set_1 | apply IsS97.set_2) | exact HI0.out)); (case side2 => exact bk HB.out); rintro e w22 ⟨rfl, hi, hb, hk⟩; have n0_ := (⟨Zm (KeepBut.trans (by repeat (first | (with_reducible first | exact HK.out | apply KeepBut.set_ | apply keep_drewN | apply keep_drew | apply keep_alloc) | exact HK.out)) hk (.inl rfl)), Zm (hb), Zm (hi)⟩ : _ ∧ _ ∧ _); clear HK HB HI0; obtain ⟨HK, HB, HI0⟩ := n0_; (try clear hb); (try clear hb2); (try clear hk); (try clear hi)) | (go_at_call 87; (first | (with_reducible refine (impl_reader_take.calls g _ _ _ _ _ _ _ _ w0 _ ?side1 ?side2 A3.out).mono ?_) | (with_reducible refine (calls_of_args ?_ (impl_reader_take.calls g _ _ _ _ _ _ _ _ w0 _ ?side1 ?side2 A3.out)).mono ?_; focus (simp [*]; done))); (case side1 => repeat (first | (with_reducible first | exact HI0.out | apply IsS97.alloc | apply IsS97.drewN | apply IsS97.drew | apply IsS97.set_0 | apply IsS97.set_1 | apply IsS97.set_2) | exact HI0.out)); (case side2 => exact bk HB.out); rintro e w23 ⟨rfl, hi, hb, hk⟩; have n0_ := (⟨Zm (KeepBut.trans (by repeat (first | (with_reducible first | exact HK.out | apply KeepBut.set_ | apply keep_drewN | apply keep_drew | apply keep_alloc) | exact HK.out)) hk (.inl rfl)), Zm (hb), Zm (hi)⟩ : _ ∧ _ ∧ _); clear HK HB HI0; obtain ⟨HK, HB, HI0⟩ := n0_; (try clear hb); (try clear hb2); (try clear hk); (try clear hi)) | (go_at_call 87; (first | (with_reducible refine (impl_reader_take.calls g _ _ _ _ _ _ _ _ w0 _ ?side1 ?side2 A17.out).mono ?_) | (with_reducible refine (calls_of_args ?_ (impl_reader_take.calls g _ _ _ _ _ _ _ _ w0 _ ?side1 ?side2 A17.out)).mono ?_; focus (simp [*]; done))); (case side1 => repeat (first | (with_reducible first | exact HI0.out | apply IsS97.alloc | apply IsS97.drewN | apply IsS97.drew | apply IsS97.set_0 | apply IsS97.set_1 | apply IsS97.set_2) | exact HI0.out)); (case side2 => exact bk HB.out); rintro e w24 ⟨rfl, hi, hb, hk⟩; have n0_ := (⟨Zm (KeepBut.trans (by repeat (first | (with_reducible first | exact HK.out | apply KeepBut.set_ | apply keep_drewN | apply keep_drew | apply keep_alloc) | exact HK.out)) hk (.inl rfl)), Zm (hb), Zm (hi)⟩ : _ ∧ _ ∧ _); clear HK HB HI0; obtain ⟨HK, HB, HI0⟩ := n0_; (try clear hb); (try clear hb2); (try clear hk); (try clear hi)) | (go_at_call 88; (first | (with_reducible refine (impl_reader_name.calls _ g _ _ _ _ _ _ w0 _ ?side1 ?side2 A19.out).mono ?_) | (with_reducible refine (calls_of_args ?_ (impl_reader_name.calls _ g _ _ _ _ _ _ w0 _ ?side1 ?side2 A19.out)).mono ?_; focus (simp [*]; done))); (case side1 => repeat (first | (with_reducible first | exact HI0.out | apply IsS97.alloc | apply IsS97.drewN | apply IsS97.drew | apply IsS97.set_0 | apply IsS97.set_1 | apply IsS97.set_2) | exact HI0.out)); (case side2 => exact bk HB.out); rintro e w25 ⟨rfl, hi, hb, hk⟩; have n0_ := (⟨Zm (KeepBut.trans (by repeat (first | (with_reducible first | exact HK.out | apply KeepBut.set_ | apply keep_drewN | apply keep_drew | apply keep_alloc) | exact HK.out)) hk (.inl rfl)), Zm (hb), Zm (hi)⟩ : _ ∧ _ ∧ _); clear HK HB HI0; obtain ⟨HK, HB, HI0⟩ := n0_; (try clear hb); (try clear hb2); (try clear hk); (try clear hi); obtain ⟨HGz26, hgz26⟩ := HI0.out; have hcz26_0 := cellS97_0 HGz26; have hcz26_1 := cellS97_1 HGz26; have hcz26_2 := cellS97_2 HGz26; have hfz26_0 := Zkf HGz26 0; have hfz26_1 := Zkf HGz26 1; have hfz26_2 := Zkf HGz26 2; clear HGz26 hgz26))
   repeat (go_quiet (first | (go_at_call 87; (first | (with_reducible refine (impl_reader_take.calls g _ _ _ _ _ _ _ _ w0 _ ?side1 ?side2 A2.out).mono ?_) | (with_reducible refine (calls_of_args ?_ (impl_reader_take.calls g _ _ _ _ _ _ _ _ w0 _ ?side1 ?side2 A2.out)).mono ?_; focus (simp [*]; done))); (case side1 => repeat (first | (with_reducible first | exact HI0.out | apply IsS97.alloc | apply IsS97.drewN | apply IsS97.drew | apply IsS97.set_0 | apply IsS97.set_1 | apply IsS97.set_2) | exact HI0.out)); (case side2 => exact bk HB.out); rintro e w22 ⟨rfl, hi, hb, hk⟩; have n0_ := (⟨Zm (KeepBut.trans (by repeat (first | (with_reducible first | exact HK.out | apply KeepBut.set_ | apply keep_drewN | apply keep_drew | apply keep_alloc) | exact HK.out)) hk (.inl rfl)), Zm (hb), Zm (hi)⟩ : _ ∧ _ ∧ _); clear HK HB HI0; obtain ⟨HK, HB, HI0⟩ := n0_; (try clear hb); (try clear hb2); (try clear hk); (try clear hi)) | (go_at_call 87; (first | (with_reducible refine (impl_reader_take.calls g _ _ _ _ _ _ _ _ w0 _ ?side1 ?side2 A3.out).mono ?_) | (with_reducible refine (calls_of_args ?_ (impl_reader_take.calls g _ _ _ _ _ _ _ _ w0 _ ?side1 ?side2 A3.out)).mono ?_; focus (simp [*]; done))); (case side1 => repeat (first | (with_reducible first | exact HI0.out | apply IsS97.alloc | apply IsS97.drewN | apply IsS97.drew | apply IsS97.set_0 | apply IsS97.set_1 | apply IsS97.set_2) | exact HI0.out)); (case side2 => exact bk HB.out); rintro e w23 ⟨rfl, hi, hb, hk⟩; have n0_ := (⟨Zm (KeepBut.trans (by repeat (first | (with_reducible first | exact HK.out | apply KeepBut.set_ | apply keep_drewN | apply keep_drew | apply keep_alloc) | exact HK.out)) hk (.inl rfl)), Zm (hb), Zm (hi)⟩ : _ ∧ _ ∧ _); clear HK HB HI0; obtain ⟨HK, HB, HI0⟩ := n0_; (try clear hb); (try clear hb2); (try clear hk); (try clear hi)) | (go_at_call 87; (first | (with_reducible refine (impl_reader_take.calls g _ _ _ _ _ _ _ _ w0 _ ?side1 ?side2 A17.out).mono ?_) | (with_reducible refine (calls_of_args ?_ (impl_reader_take.calls g _ _ _ _ _ _ _ _ w0 _ ?side1 ?side2 A17.out)).mono ?_; focus (simp [*]; done))); (case side1 => repeat (first | (with_reducible first | exact HI0.out | apply IsS97.alloc | apply IsS97.drewN | apply IsS97.drew | apply IsS97.set_0 | apply IsS97.set_1 | apply IsS97.set_2) | exact HI0.out)); (case side2 => exact bk HB.out); rintro e w24 ⟨rfl, hi, hb, hk⟩; have n0_ := (⟨Zm (KeepBut.trans (by repeat (first | (with_reducible first | exact HK.out | apply KeepBut.set_ | apply keep_drewN | apply keep_drew | apply keep_alloc) | exact HK.out)) hk (.inl rfl)), Zm (hb), Zm (hi)⟩ : _ ∧ _ ∧ _); clear HK HB HI0; obtain ⟨HK, HB, HI0⟩ := n0_; (try clear hb); (try clear hb2); (try clear hk); (try clear hi)) | (go_at_call 88; (first | (with_reducible refine (impl_reader_name.calls _ g _ _ _ _ _ _ w0 _ ?side1 ?side2 A19.out).mono ?_) | (with_reducible refine (calls_of_args ?_ (impl_reader_name.calls _ g _ _ _ _ _ _ w0 _ ?side1 ?side2 A19.out)).mono ?_; focus (simp [*]; done))); (case side1 => repeat (first | (with_reducible first | exact HI0.out | apply IsS97.alloc | apply IsS97.drewN | apply IsS97.drew | apply IsS97.set_0 | apply IsS97.set_1 | apply IsS97.set_2) | exact HI0.out)); (case side2 => exact bk HB.out); rintro e w25 ⟨rfl, hi, hb, hk⟩; have n0_ := (⟨Zm (KeepBut.trans (by repeat (first | (with_reducible first | exact HK.out | apply KeepBut.set_ | apply keep_drewN | apply keep_drew | apply keep_alloc) | exact HK.out)) hk (.inl rfl)), Zm (hb), Zm (hi)⟩ : _ ∧ _ ∧ _); clear HK HB HI0; obtain ⟨HK, HB, HI0⟩ := n0_; (try clear hb); (try clear hb2); (try clear hk); (try clear hi); obtain ⟨HGz26, hgz26⟩ := HI0.out; have hcz26_0 := cellS97_0 HGz26; have hcz26_1 := cellS97_1 HGz26; have hcz26_2 := cellS97_2 HGz26; have hfz26_0 := Zkf HGz26 0; have hfz26_1 := Zkf HGz26 1; have hfz26_2 := Zkf HGz26 2; clear HGz26 hgz26)); try go_wp2)
   go_ret
   exact ⟨by first | rfl | (simp [*] <;> rfl), by repeat (first | (with_reducible first | exact HI0.out | apply IsS97.alloc | apply IsS97.drewN | apply IsS97.drew | apply IsS97.set_0 | apply IsS97.set_1 | apply IsS97.set_2) | exact HI0.out), by exact bk HB.out, by repeat (first | (with_reducible first | exact HK.out | apply KeepBut.set_ | apply keep_drewN | apply keep_drew | apply keep_alloc) | exact HK.out)⟩
 subst c4
 rw [if_pos rfl] at H
 by_cases c5 : t314 = true
 rotate_left
 · replace c5 := Bool.eq_false_iff.mpr c5
   subst c5
   rw [if_neg (show ¬ (false = true) by decide)] at H
   by_cases c10 : 0 ≤ s0_1
   rotate_left
   · rw [if_neg c10] at H
     exact absurd H (by simp)
   rw [if_pos c10] at H
   have c10b0 := eq_true c10
   have c10b1 := decide_eq_true c10
   clear c10
   by_cases c11 : s0_1 ≤ t313
   rotate_left
   · rw [if_neg c11] at H
     exact absurd H (by simp)
   rw [if_pos c11] at H
   have c11b0 := eq_true c11
   have c11b1 := decide_eq_true c11
   clear c11
   by_cases c12 : t313 ≤ (t312.size : Int)
   rotate_left
   · rw [if_neg c12] at H
     exact absurd H (by simp)
   rw [if_pos c12] at H
   have c12b0 := eq_true c12
   have c12b1 := decide_eq_true c12
   clear c12
   simp only [Option.some.injEq, Prod.mk.injEq] at H
   obtain ⟨rfl, rfl, rfl, rfl⟩ := H
   obtain ⟨HGz13, hgz13⟩ := HI0.out
   have hcz13_0 := cellS97_0 HGz13
   have hcz13_1 := cellS97_1 HGz13
   have hcz13_2 := cellS97_2 HGz13
   have hfz13_0 := Zkf HGz13 0
   have hfz13_1 := Zkf HGz13 1
   have hfz13_2 := Zkf HGz13 2
   clear HGz13 hgz13
   go_enter Tryd.func74, Tryd.ntmps74
   go_wp2_with (first | (go_at_call 87; (first | (with_reducible refine (impl_reader_take.calls g _ _ _ _ _ _ _ _ w0 _ ?side1 ?side2 A2.out).mono ?_) | (with_reducible refine (calls_of_args ?_ (impl_reader_take.calls g _ _ _ _ _ _ _ _ w0 _ ?side1 ?side2 A2.out)).mono ?_; focus (simp [*]; done))); (case side1 => repeat (first | (with_reducible first | exact HI0.out | apply IsS97.alloc | apply IsS97.drewN | apply IsS97.drew | apply IsS97.set_0 | apply IsS97.set_1 | apply IsS97.set_2) | exact HI0.out)); (case side2 => exact bk HB.out); rintro e w14 ⟨rfl, hi, hb, hk⟩; have n0_ := (⟨Zm (KeepBut.trans (by repeat (first | (with_reducible first | exact HK.out | apply KeepBut.set_ | apply keep_drewN | apply keep_drew | apply keep_alloc) | exact HK.out)) hk (.inl rfl)), Zm (hb), Zm (hi)⟩ : _ ∧ _ ∧ _); clear HK HB HI0; obtain ⟨HK, HB, HI0⟩ := n0_; (try clear hb); (try clear hb2); (try clear hk); (try clear hi)) | (go_at_call 87; (first | (with_reducible refine (impl_reader_take.calls g _ _ _ _ _ _ _ _ w0 _ ?side1 ?side2 A3.out).mono ?_) | (with_reducible refine (calls_of_args ?_ (impl_reader_take.calls g _ _ _ _ _ _ _ _ w0 _ ?side1 ?side2 A3.out)).mono ?_; focus (simp [*]; done))); (case side1 => repeat (first | (with_reducible first | exact HI0.out | apply IsS97.alloc | apply IsS97.drewN | apply IsS97.drew | apply IsS97.set_0 | apply IsS97.set_1 | apply IsS97.set_2) | exact HI0.out)); (case side2 => exact bk HB.out); rintro e w15 ⟨rfl, hi, hb, hk⟩; have n0_ := (⟨Zm (KeepBut.trans (by repeat (first | (with_reducible first | exact HK.out | apply KeepBut.set_ | apply keep_drewN | apply keep_drew | apply keep_alloc) | exact HK.out)) hk (.inl rfl)), Zm (hb), Zm (hi)⟩ : _ ∧ _ ∧ _); clear HK HB HI0; obtain ⟨HK, HB, HI0⟩ := n0_; (try clear hb); (try clear hb2); (try clear hk); (try clear hi); obtain ⟨HGz16, hgz16⟩ := HI0.out; have hcz16_0 := cellS97_0 HGz16; have hcz16_1 := cellS97_1 HGz16; have hcz16_2 := cellS97_2 HGz16; have hfz16_0 := Zkf HGz16 0; have hfz16_1 := Zkf HGz16 1; have hfz16_2 := Zkf HGz16 2; clear HGz16 hgz16))
   repeat (go_quiet (first | (go_at_call 87; (first | (with_reducible refine (impl_reader_take.calls g _ _ _ _ _ _ _ _ w0 _ ?side1 ?side2 A2.out).mono ?_) | (with_reducible refine (calls_of_args ?_ (impl_reader_take.calls g _ _ _ _ _ _ _ _ w0 _ ?side1 ?side2 A2.out)).mono ?_; focus (simp [*]; done))); (case side1 => repeat (first | (with_reducible first | exact HI0.out | apply IsS97.alloc | apply IsS97.drewN | apply IsS97.drew | apply IsS97.set_0 | apply IsS97.set_1 | apply IsS97.set_2) | exact HI0.out)); (case side2 => exact bk HB.out); rintro e w14 ⟨rfl, hi, hb, hk⟩; have n0_ := (⟨Zm (KeepBut.trans (by repeat (first | (with_reducible first | exact HK.out | apply KeepBut.set_ | apply keep_drewN | apply keep_drew | apply keep_alloc) | exact HK.out)) hk (.inl rfl)), Zm (hb), Zm (hi)⟩ : _ ∧ _ ∧ _); clear HK HB HI0; obtain ⟨HK, HB, HI0⟩ := n0_; (try clear hb); (try clear hb2); (try clear hk); (try clear hi)) | (go_at_call 87; (first | (with_reducible refine (impl_reader_take.calls g _ _ _ _ _ _ _ _ w0 _ ?side1 ?side2 A3.out).mono ?_) | (with_reducible refine (calls_of_args ?_ (impl_reader_take.calls g _ _ _ _ _ _ _ _ w0 _ ?side1 ?side2 A3.out)).mono ?_; focus (simp [*]; done))); (case side1 => repeat (first | (with_reducible first | exact HI0.out | apply IsS97.alloc | apply IsS97.drewN | apply IsS97.drew | apply IsS97.set_0 | apply IsS97.set_1 | apply IsS97.set_2) | exact HI0.out)); (case side2 => exact bk HB.out); rintro e w15 ⟨rfl, hi, hb, hk⟩; have n0_ := (⟨Zm (KeepBut.trans (by repeat (first | (with_reducible first | exact HK.out | apply KeepBut.set_ | apply keep_drewN | apply keep_drew | apply keep_alloc) | exact HK.out)) hk (.inl rfl)), Zm (hb), Zm (hi)⟩ : _ ∧ _ ∧ _); clear HK HB HI0; obtain ⟨HK, HB, HI0⟩ := n0_; (try clear hb); (try clear hb2); (try clear hk); (try clear hi); obtain ⟨HGz16, hgz16⟩ := HI0.out; have hcz16_0 := cellS97_0 HGz16; have hcz16_1 := cellS97_1 HGz16; have hcz16_2 := cellS97_2 HGz16; have hfz16_0 := Zkf HGz16 0; have hfz16_1 := Zkf HGz16 1; have hfz16_2 := Zkf HGz16 2; clear HGz16 hgz16)); try go_wp2)
   go_ret
   exact ⟨by first | rfl | (simp [*] <;> rfl), by repeat (first | (with_reducible first | exact HI0.out | apply IsS97.alloc | apply IsS97.drewN | apply IsS97.drew | apply IsS97.set_0 | apply IsS97.set_1 | apply IsS97.set_2) | exact HI0.out), by exact bk HB.out, by repeat (first | (with_reducible first | exact HK.out | apply KeepBut.set_ | apply keep_drewN | apply keep_drew | apply keep_alloc) | exact HK.out)⟩
 subst c5
 rw [if_pos rfl] at H
 simp only [Option.some.injEq, Prod.mk.injEq] at H
 obtain ⟨rfl, rfl, rfl, rfl⟩ := H
 obtain ⟨HGz6, hgz6⟩ := HI0.out
 have hcz6_0 := cellS97_0 HGz6
 have hcz6_1 := cellS97_1 HGz6
 have hcz6_2 := cellS97_2 HGz6
 have hfz6_0 := Zkf HGz6 0
 have hfz6_1 := Zkf HGz6 1
 have hfz6_2 := Zkf HGz6 2
 clear HGz6 hgz6
 go_enter Tryd.func74, Tryd.ntmps74
 go_wp2_with (first | (go_at_call 87; (first | (with_reducible refine (impl_reader_take.calls g _ _ _ _ _ _ _ _ w0 _ ?side1 ?side2 A2.out).mono ?_) | (with_reducible refine (calls_of_args ?_ (impl_reader_take.calls g _ _ _ _ _ _ _ _ w0 _ ?side1 ?side2 A2.out)).mono ?_; focus (simp [*]; done))); (case side1 => repeat (first | (with_reducible first | exact HI0.out | apply IsS97.alloc | apply IsS97.drewN | apply IsS97.drew | apply IsS97.set_0 | apply IsS97.set_1 | apply IsS97.set_2) | exact HI0.out)); (case side2 => exact bk HB.out); rintro e w7 ⟨rfl, hi, hb, hk⟩; have n0_ := (⟨Zm (KeepBut.trans (by repeat (first | (with_reducible first | exact HK.out | apply KeepBut.set_ | apply keep_drewN | apply keep_drew | apply keep_alloc) | exact HK.out)) hk (.inl rfl)), Zm (hb), Zm (hi)⟩ : _ ∧ _ ∧ _); clear HK HB HI0; obtain ⟨HK, HB, HI0⟩ := n0_; (try clear hb); (try clear hb2); (try clear hk); (try clear hi)) | (go_at_call 87; (first | (with_reducible refine (impl_reader_take.calls g _ _ _ _ _ _ _ _ w0 _ ?side1 ?side2 A3.out).mono ?_) | (with_reducible refine (calls_of_args ?_ (impl_reader_take.calls g _ _ _ _ _ _ _ _ w0 _ ?side1 ?side2 A3.out)).mono ?_; focus (simp [*]; done))); (case side1 => repeat (first | (with_reducible first | exact HI0.out | apply IsS97.alloc | apply IsS97.drewN | apply IsS97.drew | apply IsS97.set_0 | apply IsS97.set_1 | apply IsS97.set_2) | exact HI0.out)); (case side2 => exact bk HB.out); rintro e w8 ⟨rfl, hi, hb, hk⟩; have n0_ := (⟨Zm (KeepBut.trans (by repeat (first | (with_reducible first | exact HK.out | apply KeepBut.set_ | apply keep_drewN | apply keep_drew | apply keep_alloc) | exact HK.out)) hk (.inl rfl)), Zm (hb), Zm (hi)⟩ : _ ∧ _ ∧ _); clear HK HB HI0; obtain ⟨HK, HB, HI0⟩ := n0_; (try clear hb); (try clear hb2); (try clear hk); (try clear hi); obtain ⟨HGz9, hgz9⟩ := HI0.out; have hcz9_0 := cellS97_0 HGz9; have hcz9_1 := cellS97_1 HGz9; have hcz9_2 := cellS97_2 HGz9; have hfz9_0 := Zkf HGz9 0; have hfz9_1 := Zkf HGz9 1; have hfz9_2 := Zkf HGz9 2; clear HGz9 hgz9))
 repeat (go_quiet (first | (go_at_call 87; (first | (with_reducible refine (impl_reader_take.calls g _ _ _ _ _ _ _ _ w0 _ ?side1 ?side2 A2.out).mono ?_) | (with_reducible refine (calls_of_args ?_ (impl_reader_take.calls g _ _ _ _ _ _ _ _ w0 _ ?side1 ?side2 A2.out)).mono ?_; focus (simp [*]; done))); (case side1 => repeat (first | (with_reducible first | exact HI0.out | apply IsS97.alloc | apply IsS97.drewN | apply IsS97.drew | apply IsS97.set_0 | apply IsS97.set_1 | apply IsS97.set_2) | exact HI0.out)); (case side2 => exact bk HB.out); rintro e w7 ⟨rfl, hi, hb, hk⟩; have n0_ := (⟨Zm (KeepBut.trans (by repeat (first | (with_reducible first | exact HK.out | apply KeepBut.set_ | apply keep_drewN | apply keep_drew | apply keep_alloc) | exact HK.out)) hk (.inl rfl)), Zm (hb), Zm (hi)⟩ : _ ∧ _ ∧ _); clear HK HB HI0; obtain ⟨HK, HB, HI0⟩ := n0_; (try clear hb); (try clear hb2); (try clear hk); (try clear hi)) | (go_at_call 87; (first | (with_reducible refine (impl_reader_take.calls g _ _ _ _ _ _ _ _ w0 _ ?side1 ?side2 A3.out).mono ?_) | (with_reducible refine (calls_of_args ?_ (impl_reader_take.calls g _ _ _ _ _ _ _ _ w0 _ ?side1 ?side2 A3.out)).mono ?_; focus (simp [*]; done))); (case side1 => repeat (first | (with_reducible first | exact HI0.out | apply IsS97.alloc | apply IsS97.drewN | apply IsS97.drew | apply IsS97.set_0 | apply IsS97.set_1 | apply IsS97.set_2) | exact HI0.out)); (case side2 => exact bk HB.out); rintro e w8 ⟨rfl, hi, hb, hk⟩; have n0_ := (⟨Zm (KeepBut.trans (by repeat (first | (with_reducible first | exact HK.out | apply KeepBut.set_ | apply keep_drewN | apply keep_drew | apply keep_alloc) | exact HK.out)) hk (.inl rfl)), Zm (hb), Zm (hi)⟩ : _ ∧ _ ∧ _); clear HK HB HI0; obtain ⟨HK, HB, HI0⟩ := n0_; (try clear hb); (try clear hb2); (try clear hk); (try clear hi); obtain ⟨HGz9, hgz9⟩ := HI0.out; have hcz9_0 := cellS97_0 HGz9; have hcz9_1 := cellS97_1 HGz9; have hcz9_2 := cellS97_2 HGz9; have hfz9_0 := Zkf HGz9 0; have hfz9_1 := Zkf HGz9 1; have hfz9_2 := Zkf HGz9 2; clear HGz9 hgz9)); try go_wp2)
 go_ret
 exact ⟨by first | rfl | (simp [*] <;> rfl), by repeat (first | (with_reducible first | exact HI0.out | apply IsS97.alloc | apply IsS97.drewN | apply IsS97.drew | apply IsS97.set_0 | apply IsS97.set_1 | apply IsS97.set_2) | exact HI0.out), by exact bk HB.out, by repeat (first | (with_reducible first | exact HK.out | apply KeepBut.set_ | apply keep_drewN | apply keep_drew | apply keep_alloc) | exact HK.out)⟩
/-! ### impl_typeRight: function 52 -/
def impl_typeRight.f (k : Nat) (a0 : ByteArray) : Option (Bool) := (impl_reader_kind.f k a0 0 false).bind fun bt323 => (if bt323.2.2.2 = true then (some false) else ((impl_length.f a0).bind fun t327 => (some (bt323.2.2.1 == t327))))
theorem impl_typeRight.mono : ∀ a0 k, LeO (impl_typeRight.f k a0) (impl_typeRight.f (k + 1) a0) := by
 intro a0 k; unfold impl_typeRight.f
 repeat' first
  | (with_reducible exact impl_reader_kind.mono _ _ _ _)
  | (with_reducible exact LeO.refl _)
  | (with_reducible exact LeO.none _)
  | (with_reducible refine LeO.ite ?_ ?_)
  | (with_reducible refine LeO.bind ?_ (fun _ => ?_))
  | exact impl_reader_kind.mono _ _ _ _
  | exact LeO.none _
  | refine LeO.ite ?_ ?_
  | refine LeO.bind ?_ (fun _ => ?_)
set_option maxHeartbeats 8000000 in
set_option maxRecDepth 100000 in
theorem impl_typeRight.calls (k : Nat) (a0 : ByteArray) (r : Bool) (w : World) (h : impl_typeRight.f k a0 = some r) :
 Calls Tryd.prog 52 #[.string a0] w fun e w' => e = .returned (.bool r) ∧ Below w.heap.size w w' := by
 have hu97 := Tryd.underlying97; have HB := Zm (Below.refl w.heap.size w); have H : ((impl_reader_kind.f k a0 0 false).bind fun bt323 => (if bt323.2.2.2 = true then (some false) else ((impl_length.f a0).bind fun t327 => (some (bt323.2.2.1 == t327))))) = some r := h; clear h; replace H := Option.bind_eq_some_iff.mp H; obtain ⟨⟨t323, t324, t325, t326⟩, A20, H⟩ := H; (try dsimp only at H); have A2 := Zm A20; clear A20; by_cases c3 : t326 = true; rotate_left
 · replace c3 := Bool.eq_false_iff.mpr c3; subst c3; rw [if_neg (show ¬ (false = true) by decide)] at H; replace H := Option.bind_eq_some_iff.mp H; obtain ⟨t327, A70, H⟩ := H; (try dsimp only at H); have A7 := Zm A70; clear A70; obtain rfl := Option.some.inj H; go_enter Tryd.func52, Tryd.ntmps52; go_wp2_with (first | ((with_reducible refine gate_dst (N := 6) rfl ?_); refine box_event ?hg (N := 6) ?hd (cs := #[.string a0, .int .i64 0, .bool false]) (t := 97) ?hr ?_; (case hd => rfl); (case hg => rfl); (case hr => first | (go_simp; done) | (go_simp; rfl)); intro gb322 hg w8 hbox hb; have n0_ := (⟨Zm (Zbt (bk HB.out) hb), Zm ((by rw [hg]; exact (Zbz (bk HB.out)) : w.heap.size ≤ gb322)), Zm ((by rw [hg]; exact (Zbz (bk HB.out)) : w.heap.size ≤ gb322)), Zm ((show IsS97 w w8 gb322 a0 0 false from ⟨hbox, (by rw [hg]; exact (Zbz (bk HB.out)) : w.heap.size ≤ gb322)⟩))⟩ : _ ∧ _ ∧ _ ∧ _); clear HB; obtain ⟨HB, GW322, GE322, HI322⟩ := n0_; clear hb hbox hg) | (go_at_call 74; (first | (with_reducible refine (impl_reader_kind.calls _ gb322 _ _ _ _ _ _ _ w _ ?side1 ?side2 A2.out).mono ?_) | (with_reducible refine (calls_of_args ?_ (impl_reader_kind.calls _ gb322 _ _ _ _ _ _ _ w _ ?side1 ?side2 A2.out)).mono ?_; focus (simp [*]; done))); (case side1 => repeat (first | (with_reducible first | exact HI322.out | apply IsS97.alloc | apply IsS97.drewN | apply IsS97.drew | apply IsS97.set_0 | apply IsS97.set_1 | apply IsS97.set_2) | exact HI322.out)); (case side2 => exact bk HB.out); rintro e w9 ⟨rfl, hi, hb, hk⟩; have n0_ := (⟨Zm (hb), Zm (hi)⟩ : _ ∧ _); clear HB HI322; obtain ⟨HB, HI322⟩ := n0_; (try clear hb); (try clear hb2); (try clear hk); (try clear hi); obtain ⟨HGz10, hgz10⟩ := HI322.out; have hcz10_0 := cellS97_0 HGz10; have hcz10_1 := cellS97_1 HGz10; have hcz10_2 := cellS97_2 HGz10; have hfz10_0 := Zkf HGz10 0; have hfz10_1 := Zkf HGz10 1; have hfz10_2 := Zkf HGz10 2; clear HGz10 hgz10) | (go_at_call 73; (first | (with_reducible refine (impl_length.calls _ _ _ A7.out).mono ?_) | (with_reducible refine (calls_of_args ?_ (impl_length.calls _ _ _ A7.out)).mono ?_; focus (simp [*]; done))); rintro e w' ⟨rfl, ⟨nd, rfl⟩⟩; (try first | exact ⟨rfl, _, World.drewN_drewN _ _ _⟩ | exact ⟨rfl, _, Eq.trans (World.drewN_drewN _ _ _) (congrArg (World.drewN _) (Nat.add_assoc _ _ _))⟩)))
   repeat (go_quiet (first | ((with_reducible refine gate_dst (N := 6) rfl ?_); refine box_event ?hg (N := 6) ?hd (cs := #[.string a0, .int .i64 0, .bool false]) (t := 97) ?hr ?_; (case hd => rfl); (case hg => rfl); (case hr => first | (go_simp; done) | (go_simp; rfl)); intro gb322 hg w8 hbox hb; have n0_ := (⟨Zm (Zbt (bk HB.out) hb), Zm ((by rw [hg]; exact (Zbz (bk HB.out)) : w.heap.size ≤ gb322)), Zm ((by rw [hg]; exact (Zbz (bk HB.out)) : w.heap.size ≤ gb322)), Zm ((show IsS97 w w8 gb322 a0 0 false from ⟨hbox, (by rw [hg]; exact (Zbz (bk HB.out)) : w.heap.size ≤ gb322)⟩))⟩ : _ ∧ _ ∧ _ ∧ _); clear HB; obtain ⟨HB, GW322, GE322, HI322⟩ := n0_; clear hb hbox hg) | (go_at_call 74; (first | (with_reducible refine (impl_reader_kind.calls _ gb322 _ _ _ _ _ _ _ w _ ?side1 ?side2 A2.out).mono ?_) | (with_reducible refine (calls_of_args ?_ (impl_reader_kind.calls _ gb322 _ _ _ _ _ _ _ w _ ?side1 ?side2 A2.out)).mono ?_; focus (simp [*]; done))); (case side1 => repeat (first | (with_reducible first | exact HI322.out | apply IsS97.alloc | apply IsS97.drewN | apply IsS97.drew | apply IsS97.set_0 | apply IsS97.set_1 | apply IsS97.set_2) | exact HI322.out)); (case side2 => exact bk HB.out); rintro e w9 ⟨rfl, hi, hb, hk⟩; have n0_ := (⟨Zm (hb), Zm (hi)⟩ : _ ∧ _); clear HB HI322; obtain ⟨HB, HI322⟩ := n0_; (try clear hb); (try clear hb2); (try clear hk); (try clear hi); obtain ⟨HGz10, hgz10⟩ := HI322.out; have hcz10_0 := cellS97_0 HGz10; have hcz10_1 := cellS97_1 HGz10; have hcz10_2 := cellS97_2 HGz10; have hfz10_0 := Zkf HGz10 0; have hfz10_1 := Zkf HGz10 1; have hfz10_2 := Zkf HGz10 2; clear HGz10 hgz10) | (go_at_call 73; (first | (with_reducible refine (impl_length.calls _ _ _ A7.out).mono ?_) | (with_reducible refine (calls_of_args ?_ (impl_length.calls _ _ _ A7.out)).mono ?_; focus (simp [*]; done))); rintro e w' ⟨rfl, ⟨nd, rfl⟩⟩; (try first | exact ⟨rfl, _, World.drewN_drewN _ _ _⟩ | exact ⟨rfl, _, Eq.trans (World.drewN_drewN _ _ _) (congrArg (World.drewN _) (Nat.add_assoc _ _ _))⟩))); try go_wp2)
   go_ret; exact fin_ HB

 subst c3
 rw [if_pos rfl] at H
 obtain rfl := Option.some.inj H
 go_enter Tryd.func52, Tryd.ntmps52
 go_wp2_with (first | ((with_reducible refine gate_dst (N := 6) rfl ?_); refine box_event ?hg (N := 6) ?hd (cs := #[.string a0, .int .i64 0, .bool false]) (t := 97) ?hr ?_; (case hd => rfl); (case hg => rfl); (case hr => first | (go_simp; done) | (go_simp; rfl)); intro gb322 hg w4 hbox hb; have n0_ := (⟨Zm (Zbt (bk HB.out) hb), Zm ((by rw [hg]; exact (Zbz (bk HB.out)) : w.heap.size ≤ gb322)), Zm ((by rw [hg]; exact (Zbz (bk HB.out)) : w.heap.size ≤ gb322)), Zm ((show IsS97 w w4 gb322 a0 0 false from ⟨hbox, (by rw [hg]; exact (Zbz (bk HB.out)) : w.heap.size ≤ gb322)⟩))⟩ : _ ∧ _ ∧ _ ∧ _); clear HB; obtain ⟨HB, GW322, GE322, HI322⟩ := n0_; clear hb hbox hg) | (go_at_call 74; (first | (with_reducible refine (impl_reader_kind.calls _ gb322 _ _ _ _ _ _ _ w _ ?side1 ?side2 A2.out).mono ?_) | (with_reducible refine (calls_of_args ?_ (impl_reader_kind.calls _ gb322 _ _ _ _ _ _ _ w _ ?side1 ?side2 A2.out)).mono ?_; focus (simp [*]; done))); (case side1 => repeat (first | (with_reducible first | exact HI322.out | apply IsS97.alloc | apply IsS97.drewN | apply IsS97.drew | apply IsS97.set_0 | apply IsS97.set_1 | apply IsS97.set_2) | exact HI322.out)); (case side2 => exact bk HB.out); rintro e w5 ⟨rfl, hi, hb, hk⟩; have n0_ := (⟨Zm (hb), Zm (hi)⟩ : _ ∧ _); clear HB HI322; obtain ⟨HB, HI322⟩ := n0_; (try clear hb); (try clear hb2); (try clear hk); (try clear hi); obtain ⟨HGz6, hgz6⟩ := HI322.out; have hcz6_0 := cellS97_0 HGz6; have hcz6_1 := cellS97_1 HGz6; have hcz6_2 := cellS97_2 HGz6; have hfz6_0 := Zkf HGz6 0; have hfz6_1 := Zkf HGz6 1; have hfz6_2 := Zkf HGz6 2; clear HGz6 hgz6))
 repeat (go_quiet (first | ((with_reducible refine gate_dst (N := 6) rfl ?_); refine box_event ?hg (N := 6) ?hd (cs := #[.string a0, .int .i64 0, .bool false]) (t := 97) ?hr ?_; (case hd => rfl); (case hg => rfl); (case hr => first | (go_simp; done) | (go_simp; rfl)); intro gb322 hg w4 hbox hb; have n0_ := (⟨Zm (Zbt (bk HB.out) hb), Zm ((by rw [hg]; exact (Zbz (bk HB.out)) : w.heap.size ≤ gb322)), Zm ((by rw [hg]; exact (Zbz (bk HB.out)) : w.heap.size ≤ gb322)), Zm ((show IsS97 w w4 gb322 a0 0 false from ⟨hbox, (by rw [hg]; exact (Zbz (bk HB.out)) : w.heap.size ≤ gb322)⟩))⟩ : _ ∧ _ ∧ _ ∧ _); clear HB; obtain ⟨HB, GW322, GE322, HI322⟩ := n0_; clear hb hbox hg) | (go_at_call 74; (first | (with_reducible refine (impl_reader_kind.calls _ gb322 _ _ _ _ _ _ _ w _ ?side1 ?side2 A2.out).mono ?_) | (with_reducible refine (calls_of_args ?_ (impl_reader_kind.calls _ gb322 _ _ _ _ _ _ _ w _ ?side1 ?side2 A2.out)).mono ?_; focus (simp [*]; done))); (case side1 => repeat (first | (with_reducible first | exact HI322.out | apply IsS97.alloc | apply IsS97.drewN | apply IsS97.drew | apply IsS97.set_0 | apply IsS97.set_1 | apply IsS97.set_2) | exact HI322.out)); (case side2 => exact bk HB.out); rintro e w5 ⟨rfl, hi, hb, hk⟩; have n0_ := (⟨Zm (hb), Zm (hi)⟩ : _ ∧ _); clear HB HI322; obtain ⟨HB, HI322⟩ := n0_; (try clear hb); (try clear hb2); (try clear hk); (try clear hi); obtain ⟨HGz6, hgz6⟩ := HI322.out; have hcz6_0 := cellS97_0 HGz6; have hcz6_1 := cellS97_1 HGz6; have hcz6_2 := cellS97_2 HGz6; have hfz6_0 := Zkf HGz6 0; have hfz6_1 := Zkf HGz6 1; have hfz6_2 := Zkf HGz6 2; clear HGz6 hgz6)); try go_wp2)
 go_ret
 exact fin_ HB
/-! ### impl_isMethodName: function 53 -/
def impl_isMethodName.f (k : Nat) (a0 : ByteArray) : Option (Bool) := (impl_NameRight.f k a0).bind fun t328 => (if t328 = true then (some true) else (some (a0.toList == ([60, 105, 110, 105, 116, 62] : List UInt8))))
theorem impl_isMethodName.mono : ∀ a0 k, LeO (impl_isMethodName.f k a0) (impl_isMethodName.f (k + 1) a0) := by
 intro a0 k; unfold impl_isMethodName.f
 repeat' first
  | (with_reducible exact impl_NameRight.mono _ _)
  | (with_reducible exact LeO.refl _)
  | (with_reducible exact LeO.none _)
  | (with_reducible refine LeO.ite ?_ ?_)
  | (with_reducible refine LeO.bind ?_ (fun _ => ?_))
  | exact impl_NameRight.mono _ _
  | exact LeO.none _
  | refine LeO.ite ?_ ?_
  | refine LeO.bind ?_ (fun _ => ?_)
set_option maxHeartbeats 8000000 in
set_option maxRecDepth 100000 in
theorem impl_isMethodName.calls (k : Nat) (a0 : ByteArray) (r : Bool) (w : World) (h : impl_isMethodName.f k a0 = some r) :
 Calls Tryd.prog 53 #[.string a0] w fun e w' => e = .returned (.bool r) ∧ Drawn0 w w' := by
 have H : ((impl_NameRight.f k a0).bind fun t328 => (if t328 = true then (some true) else (some (a0.toList == ([60, 105, 110, 105, 116, 62] : List UInt8))))) = some r := h; clear h; replace H := Option.bind_eq_some_iff.mp H; obtain ⟨t328, A20, H⟩ := H; (try dsimp only at H); have A2 := Zm A20; clear A20; by_cases c3 : t328 = true; rotate_left
 · replace c3 := Bool.eq_false_iff.mpr c3; subst c3; rw [if_neg (show ¬ (false = true) by decide)] at H; obtain rfl := Option.some.inj H; go_enter Tryd.func53, Tryd.ntmps53; go_wp2_with (first | ((with_reducible refine gate_callee (f := 51) rfl ?_); refine ge_ (some 4) Tryd.func51 #[.string a0] ?_; (with_reducible refine (impl_NameRight.calls _ _ _ _ A2.out).mono ?_); rintro e w' ⟨rfl, ⟨nd, rfl⟩⟩; refine ⟨_, rfl, ?_⟩)); go_ret; exact ⟨by first | rfl | (simp; done) | (simp [*]; done), by repeat (first | exact Drawn0.refl _ | apply Drawn0.step)⟩

 subst c3
 rw [if_pos rfl] at H
 obtain rfl := Option.some.inj H
 go_enter Tryd.func53, Tryd.ntmps53
 go_wp2_with (first | ((with_reducible refine gate_callee (f := 51) rfl ?_); refine ge_ (some 4) Tryd.func51 #[.string a0] ?_; (with_reducible refine (impl_NameRight.calls _ _ _ _ A2.out).mono ?_); rintro e w' ⟨rfl, ⟨nd, rfl⟩⟩; refine ⟨_, rfl, ?_⟩))
 go_ret
 exact ⟨by first | rfl | (simp; done) | (simp [*]; done), by repeat (first | exact Drawn0.refl _ | apply Drawn0.step)⟩
/-! ### impl_isText: function 35 -/
def impl_isText.l0 : Nat → List ByteArray → Int → Int → Option (Bool)
 | 0, _, _, _ => none
 | k + 1, x5, x6, x7 => if x7 < x6 then (if 0 ≤ x7 then (if x7 < (x5.length : Int) then (if ((rdOf ByteArray.empty x5 x7).size : Int) > 20000 then (some false) else (impl_isText.l0 k x5 x6 (wrap64 (x7 + 1)))) else (none)) else (none)) else (some true)
def impl_isText.f (k : Nat) (l0 : List ByteArray) : Option (Bool) := impl_isText.l0 k l0 (l0.length : Int) 0
theorem impl_isText.mono_l : ∀ k, (∀ y0 y1 y2, LeO (impl_isText.l0 k y0 y1 y2) (impl_isText.l0 (k + 1) y0 y1 y2))
 | 0 => fun _ _ _ r h => by simp [impl_isText.l0] at h
 | k + 1 => by
  have ih0 := impl_isText.mono_l k
  · intro y0 y1 y2; unfold impl_isText.l0
    repeat' first
    | (with_reducible exact ih0 _ _ _)
    | (with_reducible exact LeO.refl _)
    | (with_reducible exact LeO.none _)
    | (with_reducible refine LeO.ite ?_ ?_)
    | (with_reducible refine LeO.bind ?_ (fun _ => ?_))
    | exact ih0 _ _ _
    | exact LeO.none _
    | refine LeO.ite ?_ ?_
    | refine LeO.bind ?_ (fun _ => ?_)
theorem impl_isText.mono : ∀ a0 k, LeO (impl_isText.f k a0) (impl_isText.f (k + 1) a0) := by
 intro a0 k; have ih0 := impl_isText.mono_l k; unfold impl_isText.f
 repeat' first
  | (with_reducible exact ih0 _ _ _)
  | (with_reducible exact LeO.refl _)
  | (with_reducible exact LeO.none _)
  | (with_reducible refine LeO.ite ?_ ?_)
  | (with_reducible refine LeO.bind ?_ (fun _ => ?_))
  | exact ih0 _ _ _
  | exact LeO.none _
  | refine LeO.ite ?_ ?_
  | refine LeO.bind ?_ (fun _ => ?_)
set_option maxHeartbeats 8000000 in
set_option maxRecDepth 100000 in
theorem impl_isText.calls (k : Nat) (A0 : Option Addr) (c0 : Nat) (l0 : List ByteArray) (r : Bool) (w : World) (hr0 : Kd.C Kd.string w A0 l0.length l0) (hc0 : l0.length ≤ c0) (h : impl_isText.f k l0 = some r) :
 Calls Tryd.prog 35 #[.slice A0 l0.length c0] w fun e w' => e = .returned (.bool r) ∧ Drawn0 w w' := by
 have HR0 := Zm hr0; have HC0 := Zm hc0; clear hr0 hc0; have H : (impl_isText.l0 k l0 (l0.length : Int) 0) = some r := h; clear h; have H' := Zm H; clear H; go_enter Tryd.func35, Tryd.ntmps35; go_wp2; go_loopg [7] k (fun kq v7 w' => ∃ (x7_1 : Int), v7 = .int .i64 x7_1 ∧ Aside0 (impl_isText.l0 kq l0 (l0.length : Int) x7_1 = some r) ∧ Aside0 (kq ≤ k) ∧ Drawn0 w w')
 case atStart => exact ⟨(0), (by first | rfl | (simp; done) | (simp [*]; done)), H', ⟨Nat.le_refl _⟩, by repeat (first | exact Drawn0.refl _ | apply Drawn0.step)⟩
 case round =>
  clear H'; obtain ⟨x7_1, rfl, HA, HK1, ⟨m1, rfl⟩⟩ := hrel
  cases gk with
  | zero => exact absurd HA.out (by simp [impl_isText.l0])
  | succ k1 =>
   have H := HA.out; clear HA; simp only [impl_isText.l0] at H; by_cases c2 : x7_1 < (l0.length : Int); rotate_left
   · rw [if_neg c2] at H; have c2b0 := decide_eq_false c2; clear c2; obtain rfl := Option.some.inj H; go_wp2; go_ret; exact ⟨by first | rfl | (simp; done) | (simp [*]; done), by repeat (first | exact Drawn0.refl _ | apply Drawn0.step)⟩

   rw [if_pos c2] at H
   have c2b0 := decide_eq_true c2
   clear c2
   by_cases c3 : 0 ≤ x7_1
   rotate_left
   · rw [if_neg c3] at H
     exact absurd H (by simp)
   rw [if_pos c3] at H
   have c3b0 := decide_eq_true c3
   clear c3
   by_cases c4 : x7_1 < (l0.length : Int)
   rotate_left
   · rw [if_neg c4] at H
     exact absurd H (by simp)
   rw [if_pos c4] at H
   have c4b0 := decide_eq_true c4
   clear c4
   by_cases c5 : ((rdOf ByteArray.empty l0 x7_1).size : Int) > 20000
   rotate_left
   · rw [if_neg c5] at H
     have c5b0 : decide (20000 < ((rdOf ByteArray.empty l0 x7_1).size : Int)) = false := decide_eq_false c5
     have c5b1 : decide (20000 < (rdOf ByteArray.empty l0 x7_1).size) = false := decide_eq_false (by omega)
     clear c5
     have H' := Zm H
     clear H
     have p329 : 0 ≤ (x7_1 : Int) := of_decide_eq_true (by first | (with_reducible assumption) | assumption)
     have q329 : x7_1 < (l0.length : Int) := of_decide_eq_true (by first | (with_reducible assumption) | assumption)
     obtain ⟨ad329, e329, hx329_0⟩ := Kd.at_string HR0.out x7_1 p329 q329
     cases e329
     replace p329 := eq_true p329
     replace q329 := eq_true q329
     go_wp2
     go_roundg k1
     case measure => have := HK1.out; omega
     case rel => exact ⟨(wrap64 (x7_1 + 1)), (by first | rfl | (simp; done) | (simp [*]; done)), H', ⟨by have := HK1.out; omega⟩, by repeat (first | exact Drawn0.refl _ | apply Drawn0.step)⟩
   rw [if_pos c5] at H
   have c5b0 : decide (20000 < ((rdOf ByteArray.empty l0 x7_1).size : Int)) = true := decide_eq_true c5
   have c5b1 : decide (20000 < (rdOf ByteArray.empty l0 x7_1).size) = true := decide_eq_true (by omega)
   clear c5
   obtain rfl := Option.some.inj H
   have p329 : 0 ≤ (x7_1 : Int) := of_decide_eq_true (by first | (with_reducible assumption) | assumption)
   have q329 : x7_1 < (l0.length : Int) := of_decide_eq_true (by first | (with_reducible assumption) | assumption)
   obtain ⟨ad329, e329, hx329_0⟩ := Kd.at_string HR0.out x7_1 p329 q329
   cases e329
   replace p329 := eq_true p329
   replace q329 := eq_true q329
   go_wp2
   go_ret
   exact ⟨by first | rfl | (simp; done) | (simp [*]; done), by repeat (first | exact Drawn0.refl _ | apply Drawn0.step)⟩
end Go.Proofs.YtdfnljchoomliaaDoor.PFnExactInsParse
