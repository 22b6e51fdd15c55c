/- Functions of the program as plain Lean functions, each with a proof that the program's call comes to the same; no condition. Written by a program of this session. -/
import Derived.Test.YtljeeiijepoenaaGreatPFnExactClassSizex0
import Derived.Test.YtljeeiijepoenaaGreatPFnExactClassSizex10
import Derived.Test.YtljeeiijepoenaaGreatPFnExactClassSizex11
import Derived.Test.YtljeeiijepoenaaGreatPFnExactClassSizex12
namespace Go.Proofs.YtljeeiijepoenaaGreat.PFnExactClassSize
open Go.RowKit Go.Proofs.YtljeeiijepoenaaGreatW.PrintWords Go.Proofs.YtljeeiijepoenaaGreatW.PrintLast Go.Proofs.YtljeeiijepoenaaGreatW.PrintMore
open Go.Proofs.YtljeeiijepoenaaGreatW.PrintWords renaming below_alloc → Zba, pw_below_drewN → Zbn, below_drew1 → Zbd, below_set → Zbs, below_size → Zbz, below_step → Zbt, blk_cell → Zkc, blk_frozen → Zkf, blk_far → Zkr
open Go.Proofs.YtljeeiijepoenaaGreatW.PrintWords.Aside0 renaming mk → Zm
attribute [local go_sem] max2_int min2_int max_two min_two max_three min_three max_four min_four   -- for this text's walks alone
set_option linter.unusedVariables false
set_option linter.unusedSimpArgs false

/-! ### spec_ClassBytes: function 9 -/
theorem Wv58.grownB {w0 W W1 : World} {g : Nat} {P : Nat → Prop} {p : List ByteArray} {o : List Int} {v0 v1 : Value} {row : Option Nat} {B : Nat} (h : Wv58 w0 W g P p o v0 v1) (hP : ∀ k, P k → k < B) (hgB : g < B) (hg : W.grownBy W1 row) (hr : ∀ k, row = some k → B ≤ k) : Wv58 w0 W1 g P p o v0 v1 := by
  obtain ⟨hb, hge, hr0, hr1⟩ := h; refine ⟨blk_grown hb hg (fun e => ?_), hge, Kd.R_grown2 hr0 rfl hg (fun k hk e => ?_), Kd.R_grown2 hr1 rfl hg (fun k hk e => ?_)⟩
  · have := hr g e.symm; omega
  · have h1 := hr k hk; have h2 := hP k (hr0.1 k e.symm).2; omega
  · have h1 := hr k hk; have h2 := hP k (hr1.1 k e.symm).2; omega
def spec_ClassBytes.g (k : Nat) (b : List Int) : List ByteArray → Option (List Int)
 | [] => some b
 | t :: l => (spec_PutText.f k t).bind fun s => if b.length + s.size ≤ 1099511627776 then spec_ClassBytes.g k (b ++ bytesOf s) l else none
def spec_ClassBytes.f (k : Nat) (a0_0 : ByteArray) (a0_1 : ByteArray) (a0_2 : Bool) (a0_3 : Bool) (l0_4 : List (S91)) (l0_5 : List (S95)) : Option ByteArray :=
 (spec_ClassRight.f k a0_0 a0_1 a0_2 a0_3 l0_4 l0_5).bind fun t => if t = true then ((spec_l04Made.f k a0_0 a0_1 a0_2 a0_3 l0_4 l0_5).bind fun st => if (st.1.length : Int) > 200 then some (⟨#[]⟩ : ByteArray) else ((spec_ClassBytes.g k [67, 70, 1, (st.1.length : Int) % 256] st.1).bind fun b => if b.length + st.2.length ≤ 1099511627776 then some (strOfNums (b ++ st.2)) else none)) else some (⟨#[]⟩ : ByteArray)
set_option maxHeartbeats 8000000 in
set_option maxRecDepth 100000 in
theorem spec_ClassBytes.calls (k : Nat) (a0_0 : ByteArray) (a0_1 : ByteArray) (a0_2 : Bool) (a0_3 : Bool) (A0_4 : Option Addr) (c0_4 : Nat) (l0_4 : List (S91)) (A0_5 : Option Addr) (c0_5 : Nat) (l0_5 : List (S95)) (r : ByteArray) (w : World) (hr0_4 : Kd.C k91 w A0_4 l0_4.length l0_4) (hc0_4 : l0_4.length ≤ c0_4) (hr0_5 : Kd.C k95 w A0_5 l0_5.length l0_5) (hc0_5 : l0_5.length ≤ c0_5) (h : spec_ClassBytes.f k a0_0 a0_1 a0_2 a0_3 l0_4 l0_5 = some r) :
 Calls Tryz.prog 9 #[.agg #[.string a0_0, .string a0_1, .bool a0_2, .bool a0_3, .slice A0_4 l0_4.length c0_4, .slice A0_5 l0_5.length c0_5]] w fun e w' => e = .returned (.string r) ∧ Below w.heap.size w w' := by
 have hu26 := Tryz.underlying26; have hu58 := Tryz.underlying58; have HR4 := Zm hr0_4; have HR5 := Zm hr0_5; have HC4 := Zm hc0_4; have HC5 := Zm hc0_5; clear hr0_4 hr0_5 hc0_4 hc0_5; have HB := Zm (Below.refl w.heap.size w); have H := h; clear h; unfold spec_ClassBytes.f at H; replace H := sq_ H; obtain ⟨t, A1, H⟩ := H; have HC := Zm H; clear H; go_enter Tryz.func9, Tryz.ntmps9; go_upto_if 8 with (first | ((with_reducible refine gate_dst (N := 1) rfl ?_); refine bx_ 1 26 #[.string a0_0, .string a0_1, .bool a0_2, .bool a0_3, .slice A0_4 l0_4.length c0_4, .slice A0_5 l0_5.length c0_5] ?_; intro gb hg w3 hbox hb; have BK := Zm hbox; replace HB := bt_ HB hb; clear hb hbox hg; have hcz := cz6 BK.out; have hfz := Zkf BK.out 5) | ((with_reducible refine gate_callee (f := 30) rfl ?_); refine ge_ (some 7) Tryz.func30 #[.agg #[.string a0_0, .string a0_1, .bool a0_2, .bool a0_3, .slice A0_4 l0_4.length c0_4, .slice A0_5 l0_5.length c0_5]] ?_; refine ca_ (spec_ClassRight.calls _ _ _ _ _ _ _ _ _ _ _ _ _ (pd HR4 HB) HC4.out (pd HR5 HB) HC5.out A1.out) ?_; rintro e w4 ⟨rfl, hb⟩; refine ⟨_, rfl, ?_⟩; replace BK := kb BK hb; replace HB := bt_ HB hb; clear hb hcz hfz; have hcz := cz6 BK.out; have hfz := Zkf BK.out 5)); have H := HC.out; clear HC; replace H := sb_ H; rcases H with ⟨rfl, H⟩ | ⟨rfl, H⟩
 · obtain rfl := Option.some.inj H; go_wp2; go_ret; exact fin_ HB
 replace H := sq_ H; obtain ⟨⟨p, o⟩, A2, H⟩ := H; dsimp only at H; have HC := Zm H; clear H; go_upto_if 16 with (first | ((with_reducible refine gate_callee (f := 31) rfl ?_); refine ge_ (some 10) Tryz.func31 #[.agg #[.string a0_0, .string a0_1, .bool a0_2, .bool a0_3, .slice A0_4 l0_4.length c0_4, .slice A0_5 l0_5.length c0_5]] ?_; refine ca_ (spec_l04Made.calls _ _ _ _ _ _ _ _ _ _ _ _ _ _ (pd HR4 HB) HC4.out (pd HR5 HB) HC5.out A2.out) ?_; rintro e w5 ⟨g, rfl, hI, hb⟩; refine ⟨_, rfl, ?_⟩; obtain ⟨v0, v1, hw⟩ := hI.wv; replace HB := bt_ HB hb; obtain ⟨Ap, cp, ep⟩ := Kd.R_slice hw.2.2.1; subst ep; obtain ⟨Ao, co, eo⟩ := Kd.R_slice hw.2.2.2; subst eo; have HW := Zm hw; clear hI hb hw hcz hfz BK; have hcz := cz2 HW.out.1)); have H := HC.out; clear HC; replace H := sp_ H; rcases H with ⟨c1, H⟩ | ⟨c1, H⟩; rotate_left
 · have c1b0 : decide (200 < (p.length : Int)) = true := decide_eq_true c1; have c1b1 : decide (200 < p.length) = true := decide_eq_true (by omega); have c1b2 : ((p.length : Int) ≤ 200) = False := eq_false (by omega); have c1b3 : (p.length ≤ 200) = False := eq_false (by omega); clear c1; rw [c1b0]; obtain rfl := Option.some.inj H; go_wp2; go_ret; exact fin_ HB
 have c1b0 : decide (200 < (p.length : Int)) = false := decide_eq_false c1; have PL := Zm (show p.length ≤ 200 by omega); have c1b1 : decide (200 < p.length) = false := decide_eq_false (by omega); have c1b2 : ((p.length : Int) ≤ 200) = True := eq_true (by omega); have c1b3 : (p.length ≤ 200) = True := eq_true (by omega); clear c1; rw [c1b0]; replace H := sq_ H; obtain ⟨b0, A3, H⟩ := H; replace H := sn_ H; obtain ⟨c3, H⟩ := H; obtain rfl := Option.some.inj H; clear H; have C3 := Zm c3; clear c3; obtain ⟨y0, hy0⟩ : ∃ y : List Int, y = [67, 70, 1, (p.length : Int) % 256] := ⟨_, rfl⟩; have Ny0 := Zm hy0; have A4 := Zm A3.out; rw [← hy0] at A4; clear hy0 A3; have H4 := Zm (Below.refl w5.heap.size w5); have HB5 := Zm HB.out; have GL := Zm (show g < w5.heap.size from blk_lt HW.out.1); go_wp2_with (first | ((with_reducible refine gate_dst (N := 23) rfl ?_); refine Kd.R_lit (Kd.int .u8) _ 5 ?hg (N := 23) ?hd (xs := ([67, 70, 1, (p.length : Int) % 256] : List Int)) (inner := [.int .u8 67, .int .u8 70, .int .u8 1, .int .u8 ((p.length : Int) % 256)]) (ok := fun _ => True) (okp := fun _ => True) ?hr ?hp (fun _ hk => hk) trivial (Below.refl _ _) (Nat.le_refl _) (by simp) ?_; (case hd => rfl); (case hg => rfl); (case hr => exact gs_); (case hp => exact (Reps.one (show Kd.M (Kd.int .u8) _ _ _ 67 [.int .u8 67] from rfl) (Reps.one (show Kd.M (Kd.int .u8) _ _ _ 70 [.int .u8 70] from rfl) (Reps.one (show Kd.M (Kd.int .u8) _ _ _ 1 [.int .u8 1] from rfl) (Reps.one (show Kd.M (Kd.int .u8) _ _ _ ((p.length : Int) % 256) [.int .u8 ((p.length : Int) % 256)] from rfl) (Reps.none _ _)))))); intro vb w6 ho6 hb hg_ hnew_; clear hg_ hnew_; rw [← Ny0.out] at ho6; have HO := Zm ho6; replace HW := Zm (HW.out.below hb); replace HB := bt_ HB hb; replace H4 := bt_ H4 hb; clear ho6 hb hcz; have hcz := cz2 HW.out.1; obtain ⟨Ab, cb, eb⟩ := Kd.R_slice HO.out; subst eb)); go_loopg [4, 5] (p.length + 1) (fun kq v4 v5 w' => ∃ (b : List Int) (x : Int), v5 = .int .i64 x ∧ Aside0 (0 ≤ x ∧ (x ≤ (p.length : Int) ∧ x + kq = p.length + 1) ∧ spec_ClassBytes.g k b (p.drop x.toNat) = some b0) ∧ Aside0 (Wv58 w4 w' g (fun k => k < w5.heap.size) p o (.slice Ap p.length cp) (.slice Ao o.length co)) ∧ Aside0 (Kd.R (Kd.int .u8) 5 w' w5.heap.size (fun _ => True) v4 b) ∧ Aside0 (Below w5.heap.size w5 w'))
 case atStart => exact ⟨_, 0, rfl, ⟨Int.le_refl _, ⟨by omega, by omega⟩, A4.out⟩, HW, HO, H4⟩
 case round =>
  clear HW HO H4 hcz A4 Ny0 HB; obtain ⟨b, x, rfl, HX, HW, HO, H4⟩ := hrel; have hx0 := HX.out.1; obtain ⟨Ab, cb, eb⟩ := Kd.R_slice HO.out; subst eb
  cases gk with
  | zero => exact absurd HX.out.2.1 (by omega)
  | succ k1 =>
   have hcz := cz2 HW.out.1; by_cases hx : x < (p.length : Int); rotate_left
   · have c0 := decide_eq_false hx; have e_ : p.drop x.toNat = [] := List.drop_of_length_le (by omega); have hh := HX.out.2.2; rw [e_] at hh; obtain rfl := Option.some.inj hh; clear hh; obtain ⟨z, hz⟩ : ∃ z : List Int, z = b ++ o := ⟨_, rfl⟩; have Nz := Zm hz; clear hz; go_wp2_with (first | (at_builtin; refine print_append_row (w0 := w5) w5.heap.size rfl (.tmp 43) (.tmp 47) 22 5 .u8 1 rfl Tryz.underlying22 info5 (by decide) (.slice Ab b.length cb) b o Ao o.length co rfl rfl ?aO ?aR ?aB ?aS ?aL ?_; (case aO => exact Kd.own_of_R HO.out); (case aR => exact own_reads' (Kd.own_of_R HW.out.2.2.2)); (case aB => exact H4.out); (case aS => exact H4.out.size); (case aL => have := C3.out; omega); intro u w8 ho hb hg hat; rw [← Nz.out] at ho; obtain ⟨Aq, cq, eq_, _⟩ := own_reads ho; subst eq_; have hcv := own_string (P := Tryz.prog) Tryz.underlying22 Tryz.underlying5 Tryz.underlying9 ho; have HB8 := Zm hb; clear ho hb hg hat hcz)); go_ret; exact ⟨by rw [Nz.out] <;> rfl, Zbt HB5.out HB8.out⟩
   have c0 := decide_eq_true hx; have H := HX.out.2.2; rw [drop_rd hx0 hx] at H; simp only [spec_ClassBytes.g] at H; replace H := sq_ H; obtain ⟨s, A4, H⟩ := H; replace H := sn_ H; obtain ⟨c4, H⟩ := H; obtain ⟨y, hy⟩ : ∃ y : List Int, y = b ++ bytesOf s := ⟨_, rfl⟩; have Ny := Zm hy; rw [← hy] at H; clear hy; obtain ⟨ad, eA, hx2⟩ := Kd.at_string (Kd.R_reads' HW.out.2.2.1).2.2 x hx0 hx; cases eA; have H' := Zm H; clear H; have p0 := eq_true hx0; have q0 := eq_true hx; have HP := Zm hx0; have HQ := Zm hx; clear hx0 hx; have C4 := Zm c4; clear c4; go_wp2_with (first | ((with_reducible refine gate_callee (f := 32) rfl ?_); refine ge_ (some 41) Tryz.func32 #[.string (rdOf ByteArray.empty p x)] ?_; refine ca_ (spec_PutText.calls _ _ _ _ A4.out) ?_; rintro e w6 ⟨rfl, hb⟩; refine ⟨_, rfl, ?_⟩; replace HW := Zm (HW.out.below hb); replace HO := Zm (Kd.R_below HO.out hb); replace H4 := bt_ H4 hb; clear hb hcz hx2) | (at_builtin; refine print_append_str (w0 := w5) w5.heap.size rfl (.tmp 33) (.tmp 41) 22 9 5 rfl Tryz.underlying22 Tryz.underlying9 info5 (.slice Ab b.length cb) b s rfl rfl ?aO ?aB ?aS ?aL ?_; (case aO => exact Kd.own_of_R HO.out); (case aB => exact H4.out); (case aS => exact H4.out.size); (case aL => have := C4.out; omega); intro u w7 ho hb hg; rw [← Ny.out] at ho; obtain ⟨Aq, cq, eq_, _⟩ := own_reads ho; subst eq_; have HW7 := Zm (HW.out.grownB (fun _ h => h) GL.out hg (fun k hk => Kd.R_base HO.out k hk)); have HO7 := Zm (Kd.R_of_own ho (fun _ _ => trivial) : Kd.R (Kd.int .u8) 5 w7 w5.heap.size (fun _ => True) (.slice Aq y.length cq) y); have H7 := Zm hb; clear ho hb hg)); go_roundg k1
   case measure => omega
   case rel =>
    have hq := HQ.out; have hp := HP.out; have pl := PL.out; have hl := HX.out.2.1; have ew : wrap64 (x + 1) = x + 1 := by unfold wrap64; omega
    exact ⟨y, wrap64 (x + 1), s1_, ⟨by rw [ew]; omega, ⟨by rw [ew]; omega, by rw [ew]; omega⟩, by rw [ew]; exact H'.out⟩, HW7, HO7, H7⟩
/-! ### spec_ClassSize: function 16 -/
def spec_ClassSize.f (k : Nat) (a0_0 : ByteArray) (a0_1 : ByteArray) (a0_2 : Bool) (a0_3 : Bool) (l0_4 : List (S91)) (l0_5 : List (S95)) : Option (Int) := (spec_ClassBytes.f k a0_0 a0_1 a0_2 a0_3 l0_4 l0_5).bind fun t419 => (some (t419.size : Int))
set_option maxHeartbeats 8000000 in
set_option maxRecDepth 100000 in
theorem spec_ClassSize.calls (k : Nat) (a0_0 : ByteArray) (a0_1 : ByteArray) (a0_2 : Bool) (a0_3 : Bool) (A0_4 : Option Addr) (c0_4 : Nat) (l0_4 : List (S91)) (A0_5 : Option Addr) (c0_5 : Nat) (l0_5 : List (S95)) (r : Int) (w : World) (hr0_4 : Kd.C k91 w A0_4 l0_4.length l0_4) (hc0_4 : l0_4.length ≤ c0_4) (hr0_5 : Kd.C k95 w A0_5 l0_5.length l0_5) (hc0_5 : l0_5.length ≤ c0_5) (h : spec_ClassSize.f k a0_0 a0_1 a0_2 a0_3 l0_4 l0_5 = some r) :
 Calls Tryz.prog 16 #[.agg #[.string a0_0, .string a0_1, .bool a0_2, .bool a0_3, .slice A0_4 l0_4.length c0_4, .slice A0_5 l0_5.length c0_5]] w fun e w' => e = .returned (.int .i64 r) ∧ Below w.heap.size w w' := by
 have hu26 := Tryz.underlying26; have HR0_4 := Zm hr0_4; have HC0_4 := Zm hc0_4; clear hr0_4 hc0_4; have HR0_5 := Zm hr0_5; have HC0_5 := Zm hc0_5; clear hr0_5 hc0_5; have HB := Zm (Below.refl w.heap.size w); have H := h; clear h; unfold spec_ClassSize.f at H; replace H := sq_ H; obtain ⟨t419, A2, H⟩ := H; obtain rfl := Option.some.inj H; go_enter Tryz.func16, Tryz.ntmps16; go_wp2_with (first | ((with_reducible refine gate_dst (N := 1) rfl ?_); refine bx_ 1 26 #[.string a0_0, .string a0_1, .bool a0_2, .bool a0_3, .slice A0_4 l0_4.length c0_4, .slice A0_5 l0_5.length c0_5] ?_; intro gb418 hg w3 hbox hb; have BK418 := Zm hbox; have GW418 := bz HB hg; have GE418 := bz HB hg; replace HB := bt_ HB hb; clear hb hbox hg; have hcz4 := cz6 BK418.out; (try clear BK418)) | ((with_reducible refine gate_callee (f := 9) rfl ?_); refine ge_ (some 4) Tryz.func9 #[.agg #[.string a0_0, .string a0_1, .bool a0_2, .bool a0_3, .slice A0_4 l0_4.length c0_4, .slice A0_5 l0_5.length c0_5]] ?_; refine ca_ (spec_ClassBytes.calls _ _ _ _ _ _ _ _ _ _ _ _ _ (pd HR0_4 HB) HC0_4.out (pd HR0_5 HB) HC0_5.out A2.out) ?_; rintro e w5 ⟨rfl, hb⟩; refine ⟨_, rfl, ?_⟩; have n0_ := bt_ HB hb; clear HB; have HB := n0_; clear n0_; clear hb)); go_ret; exact fin_ HB
/-! ### impl_length: function 43 -/
def impl_length.f (a0 : ByteArray) : Option (Int) := some (a0.size : Int)
set_option maxHeartbeats 8000000 in
set_option maxRecDepth 100000 in
theorem impl_length.calls (a0 : ByteArray) (r : Int) (w : World) (h : impl_length.f a0 = some r) :
 Calls Tryz.prog 43 #[.string a0] w fun e w' => e = .returned (.int .i64 r) ∧ Drawn0 w w' := by
 have H := h; clear h; unfold impl_length.f at H; obtain rfl := Option.some.inj H; go_enter Tryz.func43, Tryz.ntmps43; go_wp2; go_ret; exact fd_
-- NOT PRINTED: function 169 (bytealg_IndexByteString)
-- NOT PRINTED: function 163 (stringslite_IndexByte)
/-! ### strings_IndexByte: function 151 -/
def strings_IndexByte.f (a0 : ByteArray) (a1 : Int) : Option (Int) := some (Lib.indexByte a0.data.toList a1.toNat.toUInt8)
set_option maxHeartbeats 8000000 in
set_option maxRecDepth 100000 in
theorem strings_IndexByte.calls (a0 : ByteArray) (a1 : Int) (r : Int) (w : World) (h : strings_IndexByte.f a0 a1 = some r) :
    Calls Tryz.prog 151 #[.string a0, .int .u8 a1] w fun e w' => e = .returned (.int .i64 r) ∧ Drawn0 w w' := by
  obtain rfl := Option.some.inj h; exact (Tryz.strings_IndexByte a0 a1 w).mono fun e w' ⟨he, hw⟩ => ⟨he, hw ▸ Drawn0.refl _⟩
/-! ### impl_isNameByte: function 117 -/
def impl_isNameByte.f (a0 : Int) (a1 : Int) : Option (Bool) := (strings_IndexByte.f (⟨#[48, 49, 50, 51, 52, 53, 54, 55, 56, 57, 97, 98, 99, 100, 101, 102, 103, 104, 105, 106, 107, 108, 109, 110, 111, 112, 113, 114, 115, 116, 117, 118, 119, 120, 121, 122, 65, 66, 67, 68, 69, 70, 71, 72, 73, 74, 75, 76, 77, 78, 79, 80, 81, 82, 83, 84, 85, 86, 87, 88, 89, 90, 36]⟩ : ByteArray) a0).bind fun t420 => (if t420 ≥ 10 then (some true) else (if t420 ≥ 0 then (some (decide (a1 > 0))) else (some false)))
set_option maxHeartbeats 8000000 in
set_option maxRecDepth 100000 in
theorem impl_isNameByte.calls (a0 : Int) (a1 : Int) (r : Bool) (w : World) (h : impl_isNameByte.f a0 a1 = some r) :
 Calls Tryz.prog 117 #[.int .u8 a0, .int .i64 a1] w fun e w' => e = .returned (.bool r) ∧ Drawn0 w w' := by
 have H := h; clear h; unfold impl_isNameByte.f at H; replace H := sq_ H; obtain ⟨t420, A3, H⟩ := H; replace H := sp_ H; rcases H with ⟨c4, H⟩ | ⟨c4, H⟩
 · have c4b0 : decide (10 ≤ t420) = false := decide_eq_false c4; clear c4; replace H := sp_ H; rcases H with ⟨c5, H⟩ | ⟨c5, H⟩
   · have c5b0 : decide (0 ≤ t420) = false := decide_eq_false c5; clear c5; obtain rfl := Option.some.inj H; go_enter Tryz.func117, Tryz.ntmps117; go_wp2_with (first | ((with_reducible refine gate_callee (f := 151) rfl ?_); refine ge_ (some 7) Tryz.func151 #[.string (⟨#[48, 49, 50, 51, 52, 53, 54, 55, 56, 57, 97, 98, 99, 100, 101, 102, 103, 104, 105, 106, 107, 108, 109, 110, 111, 112, 113, 114, 115, 116, 117, 118, 119, 120, 121, 122, 65, 66, 67, 68, 69, 70, 71, 72, 73, 74, 75, 76, 77, 78, 79, 80, 81, 82, 83, 84, 85, 86, 87, 88, 89, 90, 36]⟩ : ByteArray), .int .u8 a0] ?_; (with_reducible refine (strings_IndexByte.calls _ _ _ _ A3.out).mono ?_); rintro e w' ⟨rfl, ⟨nd, rfl⟩⟩; refine ⟨_, rfl, ?_⟩)); go_ret; exact fd_
   have c5b0 : decide (0 ≤ t420) = true := decide_eq_true c5; clear c5; obtain rfl := Option.some.inj H; go_enter Tryz.func117, Tryz.ntmps117; go_wp2_with (first | ((with_reducible refine gate_callee (f := 151) rfl ?_); refine ge_ (some 7) Tryz.func151 #[.string (⟨#[48, 49, 50, 51, 52, 53, 54, 55, 56, 57, 97, 98, 99, 100, 101, 102, 103, 104, 105, 106, 107, 108, 109, 110, 111, 112, 113, 114, 115, 116, 117, 118, 119, 120, 121, 122, 65, 66, 67, 68, 69, 70, 71, 72, 73, 74, 75, 76, 77, 78, 79, 80, 81, 82, 83, 84, 85, 86, 87, 88, 89, 90, 36]⟩ : ByteArray), .int .u8 a0] ?_; (with_reducible refine (strings_IndexByte.calls _ _ _ _ A3.out).mono ?_); rintro e w' ⟨rfl, ⟨nd, rfl⟩⟩; refine ⟨_, rfl, ?_⟩)); go_ret; exact fd_
 have c4b0 : decide (10 ≤ t420) = true := decide_eq_true c4; clear c4; obtain rfl := Option.some.inj H; go_enter Tryz.func117, Tryz.ntmps117; go_wp2_with (first | ((with_reducible refine gate_callee (f := 151) rfl ?_); refine ge_ (some 7) Tryz.func151 #[.string (⟨#[48, 49, 50, 51, 52, 53, 54, 55, 56, 57, 97, 98, 99, 100, 101, 102, 103, 104, 105, 106, 107, 108, 109, 110, 111, 112, 113, 114, 115, 116, 117, 118, 119, 120, 121, 122, 65, 66, 67, 68, 69, 70, 71, 72, 73, 74, 75, 76, 77, 78, 79, 80, 81, 82, 83, 84, 85, 86, 87, 88, 89, 90, 36]⟩ : ByteArray), .int .u8 a0] ?_; (with_reducible refine (strings_IndexByte.calls _ _ _ _ A3.out).mono ?_); rintro e w' ⟨rfl, ⟨nd, rfl⟩⟩; refine ⟨_, rfl, ?_⟩)); go_ret; exact fd_
/-! ### impl_within: function 118 -/
def impl_within.f (a0 : Int) (a1 : Int) (a2 : Int) : Option (Bool) := if a0 ≥ a1 then (some (decide (a0 ≤ a2))) else (some false)
set_option maxHeartbeats 8000000 in
set_option maxRecDepth 100000 in
theorem impl_within.calls (a0 : Int) (a1 : Int) (a2 : Int) (r : Bool) (w : World) (h : impl_within.f a0 a1 a2 = some r) :
 Calls Tryz.prog 118 #[.int .i64 a0, .int .i64 a1, .int .i64 a2] w fun e w' => e = .returned (.bool r) ∧ Drawn0 w w' := by
 have H := h; clear h; unfold impl_within.f at H; replace H := sp_ H; rcases H with ⟨c4, H⟩ | ⟨c4, H⟩
 · have c4b0 : decide (a1 ≤ a0) = false := decide_eq_false c4; clear c4; obtain rfl := Option.some.inj H; go_enter Tryz.func118, Tryz.ntmps118; go_wp2; go_ret; exact fd_
 have c4b0 : decide (a1 ≤ a0) = true := decide_eq_true c4; clear c4; obtain rfl := Option.some.inj H; go_enter Tryz.func118, Tryz.ntmps118; go_wp2; go_ret; exact fd_
/-! ### impl_NameRight: function 72 -/
def impl_NameRight.l0 : Nat → ByteArray → Int → Int → Option (Bool)
 | 0, _, _, _ => none
 | k + 1, x0, x5, x6 => if x6 < x5 then (if 0 ≤ x6 then (if x6 < (x0.size : Int) then ((impl_isNameByte.f (bt x0 x6) x6).bind fun t421 => (if t421 = true then (impl_NameRight.l0 k x0 x5 (wrap64 (x6 + 1))) else (some false))) else (none)) else (none)) else ((impl_length.f x0).bind fun t422 => ((impl_within.f t422 1 20).bind fun t423 => (some t423)))
def impl_NameRight.f (k : Nat) (a0 : ByteArray) : Option (Bool) := impl_NameRight.l0 k a0 (a0.size : Int) 0
theorem impl_NameRight.mono_l : ∀ k, (∀ y0 y1 y2, LeO (impl_NameRight.l0 k y0 y1 y2) (impl_NameRight.l0 (k + 1) y0 y1 y2))
 | 0 => by intros; intro r h; simp [impl_NameRight.l0] at h
 | k + 1 => by
  have ih0 := impl_NameRight.mono_l k; intros; unfold impl_NameRight.l0; exact mo_
theorem impl_NameRight.mono : ∀ a0 k, LeO (impl_NameRight.f k a0) (impl_NameRight.f (k + 1) a0) := by
 intro a0 k; have ih0 := impl_NameRight.mono_l k; unfold impl_NameRight.f; exact mo_
set_option maxHeartbeats 8000000 in
set_option maxRecDepth 100000 in
theorem impl_NameRight.calls (k : Nat) (a0 : ByteArray) (r : Bool) (w : World) (h : impl_NameRight.f k a0 = some r) :
 Calls Tryz.prog 72 #[.string a0] w fun e w' => e = .returned (.bool r) ∧ Drawn0 w w' := by
 have H := h; clear h; unfold impl_NameRight.f at H; have H' := Zm H; clear H; go_enter Tryz.func72, Tryz.ntmps72; go_wp2; go_loopg [6] k (fun kq v6 w' => ∃ (x6_1 : Int), v6 = .int .i64 x6_1 ∧ Aside0 (impl_NameRight.l0 kq a0 (a0.size : Int) x6_1 = some r) ∧ Aside0 (kq ≤ k) ∧ Drawn0 w w')
 case atStart => exact ⟨(0), s1_, H', ⟨Nat.le_refl _⟩, dn_⟩
 case round =>
  clear H'; obtain ⟨x6_1, rfl, HA, HK1, ⟨m1, rfl⟩⟩ := hrel
  cases gk with
  | zero => exact absurd HA.out (by simp [impl_NameRight.l0])
  | succ k1 =>
   have H := HA.out; clear HA; simp only [impl_NameRight.l0] at H; replace H := sd_ H; rcases H with ⟨c2b0, H⟩ | ⟨c2b0, H⟩
   · replace H := sq_ H; obtain ⟨t422, A9, H⟩ := H; replace H := sq_ H; obtain ⟨t423, A10, H⟩ := H; obtain rfl := Option.some.inj H; go_wp2_with (first | ((with_reducible refine gate_callee (f := 43) rfl ?_); refine ge_ (some 17) Tryz.func43 #[.string a0] ?_; (with_reducible refine (impl_length.calls _ _ _ A9.out).mono ?_); rintro e w' ⟨rfl, ⟨nd, rfl⟩⟩; refine ⟨_, rfl, ?_⟩) | ((with_reducible refine gate_callee (f := 118) rfl ?_); refine ge_ (some 18) Tryz.func118 #[.int .i64 t422, .int .i64 1, .int .i64 20] ?_; (with_reducible refine (impl_within.calls _ _ _ _ _ A10.out).mono ?_); rintro e w' ⟨rfl, ⟨nd, rfl⟩⟩; refine ⟨_, rfl, ?_⟩)); go_ret; exact fd_
   replace H := snd_ H; obtain ⟨c3b0, H⟩ := H; replace H := snd_ H; obtain ⟨c4b0, H⟩ := H; replace H := sq_ H; obtain ⟨t421, A6, H⟩ := H; have HC7 := Zm H; clear H; have p5 : 0 ≤ (x6_1 : Int) := da_; have q5 : x6_1 < (a0.size : Int) := da_; have hx5 := bt_at a0 x6_1; replace p5 := eq_true p5; replace q5 := eq_true q5; go_upto_if 14 with (first | ((with_reducible refine gate_callee (f := 117) rfl ?_); refine ge_ (some 13) Tryz.func117 #[.int .u8 (bt a0 x6_1), .int .i64 x6_1] ?_; (with_reducible refine (impl_isNameByte.calls _ _ _ _ A6.out).mono ?_); rintro e w' ⟨rfl, ⟨nd, rfl⟩⟩; refine ⟨_, rfl, ?_⟩)); have H := HC7.out; clear HC7; replace H := sb_ H; rcases H with ⟨rfl, H⟩ | ⟨rfl, H⟩
   · obtain rfl := Option.some.inj H; go_wp2; go_ret; exact fd_
   have H' := Zm H; clear H; go_wp2; go_roundg k1
   case measure => have := HK1.out; omega
   case rel => exact ⟨(wrap64 (x6_1 + 1)), s1_, H', ⟨by have := HK1.out; omega⟩, dn_⟩
/-- A state of type 162 at block g of W; what its slices lead to came in by w0. -/
def IsS162 (w0 W : World) (g : Nat) (f0 : ByteArray) (f1 : Int) (f2 : Bool) : Prop := W.heap[g]? = some (.cells #[.string f0, .int .i64 f1, .bool f2] 162 (0, 0)) ∧ w0.heap.size ≤ g
theorem IsS162.grown {w0 W : World} {g : Nat} {f0 : ByteArray} {f1 : Int} {f2 : Bool} {W1 : World} {row : Option Nat} (h : IsS162 w0 W g f0 f1 f2) (hw : W.grownBy W1 row) (hne : some g ≠ row) : IsS162 w0 W1 g f0 f1 f2 := by
 obtain ⟨hb, hg⟩ := h; exact ⟨blk_grown hb hw hne, hg⟩
theorem IsS162.own_neN {w0 W : World} {g : Nat} {f0 : ByteArray} {f1 : Int} {f2 : Bool} {α : Type} {d : Kd α} {e : Nat} {base : Nat} {ok : Nat → Prop} {v : Value} {xs : List α} (h : IsS162 w0 W g f0 f1 f2) (ho : Kd.N d e W base ok v xs) (ht : e ≠ 162) : some g ≠ v.ownBlock := by
 obtain ⟨hb, hg⟩ := h; exact Kd.N_ne ho hb ht
theorem IsS162.fresh {w0 W : World} {g : Nat} {f0 : ByteArray} {f1 : Int} {f2 : Bool} (h : IsS162 w0 W g f0 f1 f2) : ∀ k, W.heap.size ≤ k → k ≠ g := by
 obtain ⟨hb, hg⟩ := h; exact Kd.freshB hb
theorem IsS162.kept {w0 W : World} {g : Nat} {f0 : ByteArray} {f1 : Int} {f2 : Bool} {W1 : World} {S : Nat → Prop} (h : IsS162 w0 W g f0 f1 f2) (hk : Kept W W1 S) (hne : ¬ S g) : IsS162 w0 W1 g f0 f1 f2 := by
 obtain ⟨hb, hg⟩ := h; exact ⟨blk_kept hb hk hne, hg⟩
theorem IsS162.below {w0 W : World} {g : Nat} {f0 : ByteArray} {f1 : Int} {f2 : Bool} {W1 : World} (h : IsS162 w0 W g f0 f1 f2) (hw : Below W.heap.size W W1) : IsS162 w0 W1 g f0 f1 f2 := h.grown (grown_of_below hw none) (by simp)
theorem IsS162.alloc {w0 W : World} {g : Nat} {f0 : ByteArray} {f1 : Int} {f2 : Bool} (h : IsS162 w0 W g f0 f1 f2) (o : Obj) : IsS162 w0 (W.alloc o) g f0 f1 f2 := h.below (Zba (Below.refl _ _) o)
theorem IsS162.drewN {w0 W : World} {g : Nat} {f0 : ByteArray} {f1 : Int} {f2 : Bool} (h : IsS162 w0 W g f0 f1 f2) (m : Nat) : IsS162 w0 (W.drewN m) g f0 f1 f2 := h
theorem IsS162.drew {w0 W : World} {g : Nat} {f0 : ByteArray} {f1 : Int} {f2 : Bool} (h : IsS162 w0 W g f0 f1 f2) : IsS162 w0 W.drew g f0 f1 f2 := h
theorem IsS162.at_ {w0 W : World} {g : Nat} {f0 : ByteArray} {f1 : Int} {f2 : Bool} {w' : World} {m : Nat} (hq : W.drewN m = w') (h : IsS162 w0 W g f0 f1 f2) : IsS162 w0 w' g f0 f1 f2 := by subst hq; exact IsS162.drewN h m
theorem IsS162.apart {w0 W : World} {g : Nat} {f0 : ByteArray} {f1 : Int} {f2 : Bool} {α : Type} {d : Kd α} {e : Nat} {base : Nat} {ok : Nat → Prop} {v : Value} {xs : List α} (h : IsS162 w0 W g f0 f1 f2) (ho : d.R e W base ok v xs) (ht : ∀ q, q ∈ e :: d.E → q ≠ 162) : d.R e W base (fun k => ok k ∧ k ≠ g) v xs := by
 obtain ⟨hb, hg⟩ := h; exact Kd.R_types ho hb ht
theorem IsS162.own_ne {w0 W : World} {g : Nat} {f0 : ByteArray} {f1 : Int} {f2 : Bool} {α : Type} {d : Kd α} {e : Nat} {base : Nat} {ok : Nat → Prop} {v : Value} {xs : List α} (h : IsS162 w0 W g f0 f1 f2) (ho : d.R e W base ok v xs) (ht : e ≠ 162) : some g ≠ v.ownBlock := by
 obtain ⟨hb, hg⟩ := h; exact Kd.R_ne ho hb ht
theorem IsS162.apartQ {w0 W : World} {g : Nat} {f0 : ByteArray} {f1 : Int} {f2 : Bool} {α : Type} {d : Kd α} {e : Nat} {base : Nat} {ok : Nat → Prop} {v : Value} {xs : List α} (h : IsS162 w0 W g f0 f1 f2) (ho : d.Q e W base ok v xs) (ht : ∀ q, q ∈ e :: d.E → q ≠ 162) : d.Q e W base (fun k => ok k ∧ k ≠ g) v xs := by
 obtain ⟨hb, hg⟩ := h; exact Kd.Q_types ho hb ht
theorem IsS162.own_neQ {w0 W : World} {g : Nat} {f0 : ByteArray} {f1 : Int} {f2 : Bool} {α : Type} {d : Kd α} {e : Nat} {base : Nat} {ok : Nat → Prop} {v : Value} {xs : List α} (h : IsS162 w0 W g f0 f1 f2) (ho : d.Q e W base ok v xs) (ht : e ≠ 162) : some g ≠ v.ownBlock := by
 obtain ⟨hb, hg⟩ := h; exact Kd.Q_ne ho hb ht
theorem IsS162.apartS {w0 W : World} {g : Nat} {f0 : ByteArray} {f1 : Int} {f2 : Bool} {α : Type} {d : Kd α} {e : Nat} {base : Nat} {ok : Nat → Prop} {v : Value} {xs : List α} (h : IsS162 w0 W g f0 f1 f2) (ho : d.S e W base ok v xs) (ht : ∀ q, q ∈ e :: d.E → q ≠ 162) : d.S e W base (fun k => ok k ∧ k ≠ g) v xs := by
 obtain ⟨hb, hg⟩ := h; exact Kd.S_types ho hb ht
theorem IsS162.own_neS {w0 W : World} {g : Nat} {f0 : ByteArray} {f1 : Int} {f2 : Bool} {α : Type} {d : Kd α} {e : Nat} {base : Nat} {ok : Nat → Prop} {v : Value} {xs : List α} (h : IsS162 w0 W g f0 f1 f2) (ho : d.S e W base ok v xs) (ht : e ≠ 162) : some g ≠ v.ownBlock := by
 obtain ⟨hb, hg⟩ := h; exact Kd.S_ne ho hb ht
theorem IsS162.lt {w0 W : World} {g : Nat} {f0 : ByteArray} {f1 : Int} {f2 : Bool} (h : IsS162 w0 W g f0 f1 f2) : g < W.heap.size := by
 obtain ⟨hb, hg⟩ := h; exact blk_lt hb
theorem IsS162.ge {w0 W : World} {g : Nat} {f0 : ByteArray} {f1 : Int} {f2 : Bool} (h : IsS162 w0 W g f0 f1 f2) : w0.heap.size ≤ g := by
 obtain ⟨hb, hg⟩ := h; exact hg
theorem IsS162.ne_blk {w0 W : World} {g : Nat} {f0 : ByteArray} {f1 : Int} {f2 : Bool} {a : Nat} {cs : Array Value} {t : TypeId} {fr : Nat × Nat} (h : IsS162 w0 W g f0 f1 f2) (hb2 : W.heap[a]? = some (.cells cs t fr)) (ht : t ≠ 162) : g ≠ a := by
 obtain ⟨hb, hg⟩ := h; rintro rfl; rw [hb] at hb2; injection hb2 with hb2; injection hb2 with _ ht2; exact ht ht2.symm
theorem IsS162.far {w0 W : World} {g : Nat} {f0 : ByteArray} {f1 : Int} {f2 : Bool} {p : Addr} (h : IsS162 w0 W g f0 f1 f2) (hne : g ≠ p.block) (u : Value) : IsS162 w0 (W.setCell p u) g f0 f1 f2 := by
 obtain ⟨hb, hg⟩ := h; exact ⟨Zkr hb hne u, hg⟩
theorem cellS162_0 {W : World} {g : Nat} {f0 : ByteArray} {f1 : Int} {f2 : Bool} (h : W.heap[g]? = some (.cells #[.string f0, .int .i64 f1, .bool f2] 162 (0, 0))) : W.cell? ⟨g, 0, none⟩ = some (.string f0) := (Zkc h 0).trans rfl
theorem IsS162.set_0 {w0 W : World} {g : Nat} {f0 : ByteArray} {f1 : Int} {f2 : Bool} (h : IsS162 w0 W g f0 f1 f2) (x : ByteArray) : IsS162 w0 (W.setCell ⟨g, 0, none⟩ (.string x)) g x f1 f2 := by
 obtain ⟨hb, hg⟩ := h; exact ⟨by simpa using blk_set hb 0 (.string x), hg⟩
theorem cellS162_1 {W : World} {g : Nat} {f0 : ByteArray} {f1 : Int} {f2 : Bool} (h : W.heap[g]? = some (.cells #[.string f0, .int .i64 f1, .bool f2] 162 (0, 0))) : W.cell? ⟨g, 1, none⟩ = some (.int .i64 f1) := (Zkc h 1).trans rfl
theorem IsS162.set_1 {w0 W : World} {g : Nat} {f0 : ByteArray} {f1 : Int} {f2 : Bool} (h : IsS162 w0 W g f0 f1 f2) (x : Int) : IsS162 w0 (W.setCell ⟨g, 1, none⟩ (.int .i64 x)) g f0 x f2 := by
 obtain ⟨hb, hg⟩ := h; exact ⟨by simpa using blk_set hb 1 (.int .i64 x), hg⟩
theorem cellS162_2 {W : World} {g : Nat} {f0 : ByteArray} {f1 : Int} {f2 : Bool} (h : W.heap[g]? = some (.cells #[.string f0, .int .i64 f1, .bool f2] 162 (0, 0))) : W.cell? ⟨g, 2, none⟩ = some (.bool f2) := (Zkc h 2).trans rfl
theorem IsS162.set_2 {w0 W : World} {g : Nat} {f0 : ByteArray} {f1 : Int} {f2 : Bool} (h : IsS162 w0 W g f0 f1 f2) (x : Bool) : IsS162 w0 (W.setCell ⟨g, 2, none⟩ (.bool x)) g f0 f1 x := by
 obtain ⟨hb, hg⟩ := h; exact ⟨by simpa using blk_set hb 2 (.bool x), hg⟩
theorem IsS162.new (w0 W : World) (f0 : ByteArray) (f1 : Int) (f2 : Bool) (hB : Below w0.heap.size w0 W) : IsS162 w0 (W.alloc (.cells #[.string f0, .int .i64 f1, .bool f2] 162)) W.heap.size f0 f1 f2 := ⟨by simpa using heap_alloc_new W _, hB.size⟩
theorem sS162_ {w0 W : World} {g : Nat} {f0 : ByteArray} {f1 : Int} {f2 : Bool} (h : IsS162 w0 W g f0 f1 f2 := by repeat (first | (with_reducible first | (refine Aside0.out ?_; assumption) | apply IsS162.alloc | apply IsS162.drewN | apply IsS162.drew | apply IsS162.set_0 | apply IsS162.set_1 | apply IsS162.set_2 | refine IsS162.far ?_ (Aside0.out (by assumption)) _) | (refine Aside0.out ?_; assumption))) : IsS162 w0 W g f0 f1 f2 := h
theorem hb162_ {w W : World} (h : Below w.heap.size w W := by repeat (first | (with_reducible first | (refine Aside0.out ?_; assumption) | apply below_alloc | apply pw_below_drewN | apply below_drew1 | refine below_set ?_ (Aside0.out (by assumption)) | refine below_set ?_ (IsS162.ge (Aside0.out (by assumption)))) | (refine Aside0.out ?_; assumption))) : Below w.heap.size w W := h

/-! ### impl_reader_is: function 164 -/
def impl_reader_is.f (s0_0 : ByteArray) (s0_1 : Int) (s0_2 : Bool) (a1 : Int) : Option (Bool × ByteArray × Int × Bool) := if s0_2 = true then (some (false, s0_0, s0_1, s0_2)) else ((impl_length.f s0_0).bind fun t424 => (if s0_1 < t424 then (if 0 ≤ s0_1 then (if s0_1 < (s0_0.size : Int) then (some (((bt s0_0 s0_1) == a1), s0_0, s0_1, s0_2)) else (none)) else (none)) else (some (false, s0_0, s0_1, s0_2))))
set_option maxHeartbeats 8000000 in
set_option maxRecDepth 100000 in
theorem impl_reader_is.calls (g : Nat) (s0_0 : ByteArray) (s0_1 : Int) (s0_2 : Bool) (a1 : Int) (r1 : Bool) (r2 : ByteArray) (r3 : Int) (r4 : Bool) (w0 w : World) (hI : IsS162 w0 w g s0_0 s0_1 s0_2) (hB : Below w0.heap.size w0 w) (h : impl_reader_is.f s0_0 s0_1 s0_2 a1 = some (r1, r2, r3, r4)) :
 Calls Tryz.prog 164 #[.pointer (some ⟨g, 0, none⟩), .int .u8 a1] w fun e w' => e = .returned (.bool r1) ∧ IsS162 w0 w' g r2 r3 r4 ∧ Below w0.heap.size w0 w' ∧ KeepBut w w' g none := by
 have HI0 := Zm hI; have HK := Zm (KeepBut.refl w g none); have HL := Zm hB.size; clear hI; have HW0 := Zm hB.size; have HB := Zm hB; clear hB; have H := h; clear h; unfold impl_reader_is.f at H; obtain ⟨hb, hg⟩ := HI0.out; have f0 := cellS162_0 hb; have f1 := cellS162_1 hb; have f2 := cellS162_2 hb; have hu162 := Tryz.underlying162; have hlen : ∀ W : World, Calls Tryz.prog 43 #[.string s0_0] W fun e W' => e = .returned (.int .i64 (s0_0.size : Int)) ∧ Drawn0 W W' := fun W => impl_length.calls s0_0 (s0_0.size : Int) W rfl
 have hlq : ∀ (W : World) (n : Nat), Calls Tryz.prog 43 #[.string s0_0] (W.drewN n) fun e w'' => e = .returned (.int .i64 (s0_0.size : Int)) ∧ ∃ m, w'' = W.drewN m := fun W n => Calls.quiet_of ((hlen (W.drewN n)).mono fun e W' ⟨he, ⟨m, hm⟩⟩ => ⟨he, m, hm⟩)
 clear hb
 cases s0_2 with
 | true =>
  rw [if_pos rfl] at H; simp only [Option.some.injEq, Prod.mk.injEq] at H; obtain ⟨rfl, rfl, rfl, rfl⟩ := H; go_enter Tryz.func164, Tryz.ntmps164; go_wp2; go_quiet (fail); go_wp2; go_ret
  exact ⟨rfl, HI0.out, by repeat (with_reducible first | exact HB.out | apply Zbn | apply Zbd), by repeat (with_reducible first | exact HK.out | apply keep_drewN | apply keep_drew)⟩
 | false =>
  rw [if_neg (by simp)] at H; simp only [impl_length.f, Option.bind_some] at H; replace H := sp_ H; rcases H with ⟨c1, H⟩ | ⟨c1, H⟩
  · have c1b : decide (s0_1 < (s0_0.size : Int)) = false := decide_eq_false c1; simp only [Option.some.injEq, Prod.mk.injEq] at H; obtain ⟨rfl, rfl, rfl, rfl⟩ := H; go_enter Tryz.func164, Tryz.ntmps164; go_wp2; go_quiet ((go_at_call 43; exact hlq _ _)); go_wp2; go_ret; exact ⟨rfl, HI0.out, by repeat (with_reducible first | exact HB.out | apply Zbn | apply Zbd), by repeat (with_reducible first | exact HK.out | apply keep_drewN | apply keep_drew)⟩
  have c1b : decide (s0_1 < (s0_0.size : Int)) = true := decide_eq_true c1; by_cases c2 : 0 ≤ s0_1; rotate_left
  · rw [if_neg c2] at H; exact absurd H (by simp)
  rw [if_pos c2, if_pos c1] at H; have c2b : decide (0 ≤ s0_1) = true := decide_eq_true c2; simp only [Option.some.injEq, Prod.mk.injEq] at H; obtain ⟨rfl, rfl, rfl, rfl⟩ := H; have hbt := bt_at s0_0 s0_1; go_enter Tryz.func164, Tryz.ntmps164; go_wp2; go_quiet ((go_at_call 43; exact hlq _ _)); go_wp2; go_ret; exact ⟨rfl, HI0.out, by repeat (with_reducible first | exact HB.out | apply Zbn | apply Zbd), by repeat (with_reducible first | exact HK.out | apply keep_drewN | apply keep_drew)⟩
/-! ### impl_reader_take: function 152 -/
def impl_reader_take.f (s0_0 : ByteArray) (s0_1 : Int) (s0_2 : Bool) (a1 : Int) : Option (Bool × ByteArray × Int × Bool) := (impl_reader_is.f s0_0 s0_1 s0_2 a1).bind fun bt425 => (if bt425.1 = true then (some (true, bt425.2.1, wrap64 (bt425.2.2.1 + 1), bt425.2.2.2)) else (some (false, bt425.2.1, bt425.2.2.1, bt425.2.2.2)))
set_option maxHeartbeats 8000000 in
set_option maxRecDepth 100000 in
theorem impl_reader_take.calls (g : Nat) (s0_0 : ByteArray) (s0_1 : Int) (s0_2 : Bool) (a1 : Int) (r1 : Bool) (r2 : ByteArray) (r3 : Int) (r4 : Bool) (w0 w : World) (hI : IsS162 w0 w g s0_0 s0_1 s0_2) (hB : Below w0.heap.size w0 w) (h : impl_reader_take.f s0_0 s0_1 s0_2 a1 = some (r1, r2, r3, r4)) :
 Calls Tryz.prog 152 #[.pointer (some ⟨g, 0, none⟩), .int .u8 a1] w fun e w' => e = .returned (.bool r1) ∧ IsS162 w0 w' g r2 r3 r4 ∧ Below w0.heap.size w0 w' ∧ KeepBut w w' g none := by
 have HI0 := Zm hI; have HK := Zm (KeepBut.refl w g none); have HL := Zm hB.size; clear hI; have HW0 := Zm hB.size; have HB := Zm hB; clear hB; have H := h; clear h; unfold impl_reader_take.f at H; replace H := sq_ H; obtain ⟨⟨t425, t426, t427, t428⟩, A3, H⟩ := H; (try dsimp only at H); have HC4 := Zm H; clear H; go_enter Tryz.func152, Tryz.ntmps152; go_upto_if 8 with (first | ((with_reducible refine gate_callee (f := 164) rfl ?_); refine ge_ (some 7) Tryz.func164 #[.pointer (some ⟨g, 0, none⟩), .int .u8 a1] ?_; refine ca_ (impl_reader_is.calls g _ _ _ _ _ _ _ _ w0 _ sS162_ (bk HB.out) A3.out) ?_; rintro e w5 ⟨rfl, hi, hb, hk⟩; refine ⟨_, rfl, ?_⟩; replace HK := Zm (KeepBut.trans hK_ hk (.inl rfl)); replace HB := Zm hb; replace HI0 := Zm hi; clear hb hk hi)); have H := HC4.out; clear HC4; replace H := sb_ H; rcases H with ⟨rfl, H⟩ | ⟨rfl, H⟩
 · simp only [Option.some.injEq, Prod.mk.injEq] at H; obtain ⟨rfl, rfl, rfl, rfl⟩ := H; go_wp2; go_ret; exact ⟨s2_, by exact sS162_, by exact bk HB.out, by repeat (first | (with_reducible first | exact HK.out | apply KeepBut.set_ | apply keep_drewN | apply keep_drew | apply keep_alloc) | exact HK.out)⟩
 simp only [Option.some.injEq, Prod.mk.injEq] at H; obtain ⟨rfl, rfl, rfl, rfl⟩ := H; obtain ⟨HGz7, hgz7⟩ := HI0.out; have hcz7_0 := cellS162_0 HGz7; have hcz7_1 := cellS162_1 HGz7; have hcz7_2 := cellS162_2 HGz7; have hfz7_0 := Zkf HGz7 0; have hfz7_1 := Zkf HGz7 1; have hfz7_2 := Zkf HGz7 2; clear HGz7 hgz7; go_wp2; go_ret; exact ⟨s2_, by exact sS162_, by exact hb162_, by repeat (first | (with_reducible first | exact HK.out | apply KeepBut.set_ | apply keep_drewN | apply keep_drew | apply keep_alloc) | exact HK.out)⟩
/-! ### impl_reader_want: function 159 -/
def impl_reader_want.f (s0_0 : ByteArray) (s0_1 : Int) (s0_2 : Bool) (a1 : Int) : Option (ByteArray × Int × Bool) := (impl_reader_take.f s0_0 s0_1 s0_2 a1).bind fun bt429 => (if bt429.1 = true then (some (bt429.2.1, bt429.2.2.1, bt429.2.2.2)) else (some (bt429.2.1, bt429.2.2.1, true)))
set_option maxHeartbeats 8000000 in
set_option maxRecDepth 100000 in
theorem impl_reader_want.calls (g : Nat) (s0_0 : ByteArray) (s0_1 : Int) (s0_2 : Bool) (a1 : Int) (r1 : ByteArray) (r2 : Int) (r3 : Bool) (w0 w : World) (hI : IsS162 w0 w g s0_0 s0_1 s0_2) (hB : Below w0.heap.size w0 w) (h : impl_reader_want.f s0_0 s0_1 s0_2 a1 = some (r1, r2, r3)) :
 Calls Tryz.prog 159 #[.pointer (some ⟨g, 0, none⟩), .int .u8 a1] w fun e w' => e = .returned (.tuple #[]) ∧ IsS162 w0 w' g r1 r2 r3 ∧ Below w0.heap.size w0 w' ∧ KeepBut w w' g none := by
 have HI0 := Zm hI; have HK := Zm (KeepBut.refl w g none); have HL := Zm hB.size; clear hI; have HW0 := Zm hB.size; have HB := Zm hB; clear hB; have H := h; clear h; unfold impl_reader_want.f at H; replace H := sq_ H; obtain ⟨⟨t429, t430, t431, t432⟩, A3, H⟩ := H; (try dsimp only at H); have HC4 := Zm H; clear H; go_enter Tryz.func159, Tryz.ntmps159; go_upto_if 7 with (first | ((with_reducible refine gate_callee (f := 152) rfl ?_); refine ge_ (some 6) Tryz.func152 #[.pointer (some ⟨g, 0, none⟩), .int .u8 a1] ?_; refine ca_ (impl_reader_take.calls g _ _ _ _ _ _ _ _ w0 _ sS162_ (bk HB.out) A3.out) ?_; rintro e w5 ⟨rfl, hi, hb, hk⟩; refine ⟨_, rfl, ?_⟩; replace HK := Zm (KeepBut.trans hK_ hk (.inl rfl)); replace HB := Zm hb; replace HI0 := Zm hi; clear hb hk hi)); have H := HC4.out; clear HC4; replace H := sb_ H; rcases H with ⟨rfl, H⟩ | ⟨rfl, H⟩
 · simp only [Option.some.injEq, Prod.mk.injEq] at H; obtain ⟨rfl, rfl, rfl⟩ := H; obtain ⟨HGz7, hgz7⟩ := HI0.out; have hcz7_0 := cellS162_0 HGz7; have hcz7_1 := cellS162_1 HGz7; have hcz7_2 := cellS162_2 HGz7; have hfz7_0 := Zkf HGz7 0; have hfz7_1 := Zkf HGz7 1; have hfz7_2 := Zkf HGz7 2; clear HGz7 hgz7; go_wp2
   first | go_end0 | ((try simp only [Exit.inBlock, Exit.then]); refine bodyPost_ret (results_none rfl _ _ _) rfl ?_)
   exact ⟨s2_, by exact sS162_, by exact hb162_, by repeat (first | (with_reducible first | exact HK.out | apply KeepBut.set_ | apply keep_drewN | apply keep_drew | apply keep_alloc) | exact HK.out)⟩
 simp only [Option.some.injEq, Prod.mk.injEq] at H; obtain ⟨rfl, rfl, rfl⟩ := H; go_wp2
 first | go_end0 | ((try simp only [Exit.inBlock, Exit.then]); refine bodyPost_ret (results_none rfl _ _ _) rfl ?_)
 exact ⟨s2_, by exact sS162_, by exact bk HB.out, by repeat (first | (with_reducible first | exact HK.out | apply KeepBut.set_ | apply keep_drewN | apply keep_drew | apply keep_alloc) | exact HK.out)⟩
/-! ### impl_reader_name: function 153 -/
def impl_reader_name.l0 : Nat → Int → ByteArray → Int → Bool → Option (ByteArray × Int × Bool)
 | 0, _, _, _, _ => none
 | k + 1, x2, x1000, x1001, x1002 => if x1002 = true then (if x1001 = x2 then ((impl_reader_want.f x1000 x1001 true 59).bind fun bt433 => (some (bt433.1, bt433.2.1, bt433.2.2))) else ((impl_reader_want.f x1000 x1001 x1002 59).bind fun bt436 => (some (bt436.1, bt436.2.1, bt436.2.2)))) else ((impl_length.f x1000).bind fun t439 => (if x1001 < t439 then (if x1001 < (wrap64 (x2 + 20)) then (if 0 ≤ x1001 then (if x1001 < (x1000.size : Int) then ((impl_isNameByte.f (bt x1000 x1001) (wrap64 (x1001 - x2))).bind fun t440 => (if t440 = true then (impl_reader_name.l0 k x2 x1000 (wrap64 (x1001 + 1)) x1002) else (if x1001 = x2 then ((impl_reader_want.f x1000 x1001 true 59).bind fun bt441 => (some (bt441.1, bt441.2.1, bt441.2.2))) else ((impl_reader_want.f x1000 x1001 x1002 59).bind fun bt444 => (some (bt444.1, bt444.2.1, bt444.2.2)))))) else (none)) else (none)) else (if x1001 = x2 then ((impl_reader_want.f x1000 x1001 true 59).bind fun bt447 => (some (bt447.1, bt447.2.1, bt447.2.2))) else ((impl_reader_want.f x1000 x1001 x1002 59).bind fun bt450 => (some (bt450.1, bt450.2.1, bt450.2.2))))) else (if x1001 = x2 then ((impl_reader_want.f x1000 x1001 true 59).bind fun bt453 => (some (bt453.1, bt453.2.1, bt453.2.2))) else ((impl_reader_want.f x1000 x1001 x1002 59).bind fun bt456 => (some (bt456.1, bt456.2.1, bt456.2.2))))))
def impl_reader_name.f (k : Nat) (s0_0 : ByteArray) (s0_1 : Int) (s0_2 : Bool) : Option (ByteArray × Int × Bool) := impl_reader_name.l0 k s0_1 s0_0 s0_1 s0_2
theorem impl_reader_name.mono_l : ∀ k, (∀ y0 y1 y2 y3, LeO (impl_reader_name.l0 k y0 y1 y2 y3) (impl_reader_name.l0 (k + 1) y0 y1 y2 y3))
 | 0 => by intros; intro r h; simp [impl_reader_name.l0] at h
 | k + 1 => by
  have ih0 := impl_reader_name.mono_l k; intros; unfold impl_reader_name.l0; exact mo_
theorem impl_reader_name.mono : ∀ a0 a1 a2 k, LeO (impl_reader_name.f k a0 a1 a2) (impl_reader_name.f (k + 1) a0 a1 a2) := by
 intro a0 a1 a2 k; have ih0 := impl_reader_name.mono_l k; unfold impl_reader_name.f; exact mo_
set_option maxHeartbeats 8000000 in
set_option maxRecDepth 100000 in
theorem impl_reader_name.calls (k : Nat) (g : Nat) (s0_0 : ByteArray) (s0_1 : Int) (s0_2 : Bool) (r1 : ByteArray) (r2 : Int) (r3 : Bool) (w0 w : World) (hI : IsS162 w0 w g s0_0 s0_1 s0_2) (hB : Below w0.heap.size w0 w) (h : impl_reader_name.f k s0_0 s0_1 s0_2 = some (r1, r2, r3)) :
 Calls Tryz.prog 153 #[.pointer (some ⟨g, 0, none⟩)] w fun e w' => e = .returned (.tuple #[]) ∧ IsS162 w0 w' g r1 r2 r3 ∧ Below w0.heap.size w0 w' ∧ KeepBut w w' g none := by
 have HI0 := Zm hI; have HK := Zm (KeepBut.refl w g none); have HL := Zm hB.size; clear hI; have HW0 := Zm hB.size; have HB := Zm hB; clear hB; have H := h; clear h; unfold impl_reader_name.f at H
 have eta : ∀ (o : Option (ByteArray × Int × Bool)) (r : ByteArray × Int × Bool), (o.bind fun b => some (b.1, b.2.1, b.2.2)) = some r → o = some r := by
  intro o r h
  cases o with
  | none => exact h
  | some b => exact h
 have hg := IsS162.ge HI0.out; have hu162 := Tryz.underlying162; have hlen : ∀ W : World, Calls Tryz.prog 43 #[.string s0_0] W fun e W' => e = .returned (.int .i64 (s0_0.size : Int)) ∧ Drawn0 W W' := fun W => impl_length.calls s0_0 (s0_0.size : Int) W rfl
 have hlq : ∀ (W : World) (n : Nat), Calls Tryz.prog 43 #[.string s0_0] (W.drewN n) fun e w'' => e = .returned (.int .i64 (s0_0.size : Int)) ∧ ∃ m, w'' = W.drewN m := fun W n => Calls.quiet_of ((hlen (W.drewN n)).mono fun e W' ⟨he, ⟨m, hm⟩⟩ => ⟨he, m, hm⟩)
 have HH := Zm H; clear H hlen; obtain ⟨hb0, _⟩ := HI0.out; have g1 := cellS162_1 hb0; clear hb0; go_enter Tryz.func153, Tryz.ntmps153; go_wp2; clear g1; go_loopg [] k (fun kq w' => ∃ (x : Int), Aside0 (impl_reader_name.l0 kq s0_1 s0_0 x s0_2 = some (r1, r2, r3)) ∧ Aside0 (kq ≤ k) ∧ Aside0 (IsS162 w0 w' g s0_0 x s0_2) ∧ Aside0 (Below w0.heap.size w0 w') ∧ Aside0 (KeepBut w w' g none))
 case atStart => exact ⟨s0_1, HH, ⟨Nat.le_refl _⟩, HI0, HB, HK⟩
 case round =>
  clear HH HI0 HB HK; obtain ⟨x, HA, HK1, HI, HB, HK⟩ := hrel
  cases gk with
  | zero => exact absurd HA.out (by simp [impl_reader_name.l0])
  | succ k1 =>
   have H := HA.out; clear HA; simp only [impl_reader_name.l0, impl_length.f, Option.bind_some] at H; obtain ⟨hb, _⟩ := HI.out; have f0 := cellS162_0 hb; have f1 := cellS162_1 hb; have f2 := cellS162_2 hb; have z1 := Zkf hb 1; have z2 := Zkf hb 2; clear hb
   cases s0_2 with
   | true =>
    rw [if_pos rfl] at H; clear hlq; replace H := sp_ H; rcases H with ⟨c9, H⟩ | ⟨c9, H⟩
    · have c9b : (x == s0_1) = false := beq_eq_false_iff_ne.mpr c9; have HW := Zm (eta _ _ H); clear H; go_wp2; go_quiet (fail); go_wp2_with (first | ((with_reducible refine gate_callee (f := 159) rfl ?_); refine goesL_ (some 68) rfl rfl Tryz.func159 (by kernel_rfl) rfl #[.pointer (some ⟨g, 0, none⟩), .int .u8 59] rfl (by (try simp only [List.map_toArray, List.map_cons, List.map_nil]); first | done | rfl) ?_; (with_reducible refine (impl_reader_want.calls g s0_0 x true 59 r1 r2 r3 w0 _ ?side1 ?side2 HW.out).mono ?_); (case side1 => exact sS162_); (case side2 => (with_reducible repeat (first | exact HB.out | apply Zbn | apply Zbd | refine Zbs ?_ hg))); rintro e w5 ⟨rfl, hi, hb, hk⟩; refine ⟨_, rfl, ?_⟩; have HI2 := Zm hi; have HB2 := Zm hb; have HK2 := Zm (KeepBut.trans (by (with_reducible repeat (first | exact HK.out | apply KeepBut.set_ | apply keep_drewN | apply keep_drew))) hk (.inl rfl)); clear hi hb hk))
      first | go_end0 | ((try simp only [Exit.inBlock, Exit.then]); refine bodyPost_ret (results_none rfl _ _ _) rfl ?_)
      exact ⟨rfl, HI2.out, HB2.out, HK2.out⟩
    have c9b : (x == s0_1) = true := beq_iff_eq.mpr c9; have HW := Zm (eta _ _ H); clear H c9; go_wp2; go_quiet (fail); go_wp2_with (first | ((with_reducible refine gate_callee (f := 159) rfl ?_); refine goesL_ (some 68) rfl rfl Tryz.func159 (by kernel_rfl) rfl #[.pointer (some ⟨g, 0, none⟩), .int .u8 59] rfl (by (try simp only [List.map_toArray, List.map_cons, List.map_nil]); first | done | rfl) ?_; (with_reducible refine (impl_reader_want.calls g s0_0 x true 59 r1 r2 r3 w0 _ ?side1 ?side2 HW.out).mono ?_); (case side1 => exact sS162_); (case side2 => (with_reducible repeat (first | exact HB.out | apply Zbn | apply Zbd | refine Zbs ?_ hg))); rintro e w5 ⟨rfl, hi, hb, hk⟩; refine ⟨_, rfl, ?_⟩; have HI2 := Zm hi; have HB2 := Zm hb; have HK2 := Zm (KeepBut.trans (by (with_reducible repeat (first | exact HK.out | apply KeepBut.set_ | apply keep_drewN | apply keep_drew))) hk (.inl rfl)); clear hi hb hk))
    first | go_end0 | ((try simp only [Exit.inBlock, Exit.then]); refine bodyPost_ret (results_none rfl _ _ _) rfl ?_)
    exact ⟨rfl, HI2.out, HB2.out, HK2.out⟩
   | false =>
    rw [if_neg (by simp)] at H; replace H := sp_ H; rcases H with ⟨c1, H⟩ | ⟨c1, H⟩
    · have c1b : decide (x < (s0_0.size : Int)) = false := decide_eq_false c1; clear c1; replace H := sp_ H; rcases H with ⟨c9, H⟩ | ⟨c9, H⟩
      · have c9b : (x == s0_1) = false := beq_eq_false_iff_ne.mpr c9; have HW := Zm (eta _ _ H); clear H; go_wp2; go_quiet ((go_at_call 43; exact hlq _ _)); go_wp2_with (first | ((with_reducible refine gate_callee (f := 159) rfl ?_); refine goesL_ (some 68) rfl rfl Tryz.func159 (by kernel_rfl) rfl #[.pointer (some ⟨g, 0, none⟩), .int .u8 59] rfl (by (try simp only [List.map_toArray, List.map_cons, List.map_nil]); first | done | rfl) ?_; (with_reducible refine (impl_reader_want.calls g s0_0 x false 59 r1 r2 r3 w0 _ ?side1 ?side2 HW.out).mono ?_); (case side1 => exact sS162_); (case side2 => (with_reducible repeat (first | exact HB.out | apply Zbn | apply Zbd | refine Zbs ?_ hg))); rintro e w5 ⟨rfl, hi, hb, hk⟩; refine ⟨_, rfl, ?_⟩; have HI2 := Zm hi; have HB2 := Zm hb; have HK2 := Zm (KeepBut.trans (by (with_reducible repeat (first | exact HK.out | apply KeepBut.set_ | apply keep_drewN | apply keep_drew))) hk (.inl rfl)); clear hi hb hk))
        first | go_end0 | ((try simp only [Exit.inBlock, Exit.then]); refine bodyPost_ret (results_none rfl _ _ _) rfl ?_)
        exact ⟨rfl, HI2.out, HB2.out, HK2.out⟩
      have c9b : (x == s0_1) = true := beq_iff_eq.mpr c9; have HW := Zm (eta _ _ H); clear H c9; go_wp2; go_quiet ((go_at_call 43; exact hlq _ _)); go_wp2_with (first | ((with_reducible refine gate_callee (f := 159) rfl ?_); refine goesL_ (some 68) rfl rfl Tryz.func159 (by kernel_rfl) rfl #[.pointer (some ⟨g, 0, none⟩), .int .u8 59] rfl (by (try simp only [List.map_toArray, List.map_cons, List.map_nil]); first | done | rfl) ?_; (with_reducible refine (impl_reader_want.calls g s0_0 x true 59 r1 r2 r3 w0 _ ?side1 ?side2 HW.out).mono ?_); (case side1 => exact sS162_); (case side2 => (with_reducible repeat (first | exact HB.out | apply Zbn | apply Zbd | refine Zbs ?_ hg))); rintro e w5 ⟨rfl, hi, hb, hk⟩; refine ⟨_, rfl, ?_⟩; have HI2 := Zm hi; have HB2 := Zm hb; have HK2 := Zm (KeepBut.trans (by (with_reducible repeat (first | exact HK.out | apply KeepBut.set_ | apply keep_drewN | apply keep_drew))) hk (.inl rfl)); clear hi hb hk))
      first | go_end0 | ((try simp only [Exit.inBlock, Exit.then]); refine bodyPost_ret (results_none rfl _ _ _) rfl ?_)
      exact ⟨rfl, HI2.out, HB2.out, HK2.out⟩
    have c1b : decide (x < (s0_0.size : Int)) = true := decide_eq_true c1; replace H := sp_ H; rcases H with ⟨c2, H⟩ | ⟨c2, H⟩
    · have c2b : decide (x < wrap64 (s0_1 + 20)) = false := decide_eq_false c2; have c2c : decide (x < IntKind.i64.wrap (s0_1 + 20)) = false := by rw [i64_w]; exact c2b
      clear c1 c2; replace H := sp_ H; rcases H with ⟨c9, H⟩ | ⟨c9, H⟩
      · have c9b : (x == s0_1) = false := beq_eq_false_iff_ne.mpr c9; have HW := Zm (eta _ _ H); clear H; go_wp2; go_quiet ((go_at_call 43; exact hlq _ _)); go_wp2_with (first | ((with_reducible refine gate_callee (f := 159) rfl ?_); refine goesL_ (some 68) rfl rfl Tryz.func159 (by kernel_rfl) rfl #[.pointer (some ⟨g, 0, none⟩), .int .u8 59] rfl (by (try simp only [List.map_toArray, List.map_cons, List.map_nil]); first | done | rfl) ?_; (with_reducible refine (impl_reader_want.calls g s0_0 x false 59 r1 r2 r3 w0 _ ?side1 ?side2 HW.out).mono ?_); (case side1 => exact sS162_); (case side2 => (with_reducible repeat (first | exact HB.out | apply Zbn | apply Zbd | refine Zbs ?_ hg))); rintro e w5 ⟨rfl, hi, hb, hk⟩; refine ⟨_, rfl, ?_⟩; have HI2 := Zm hi; have HB2 := Zm hb; have HK2 := Zm (KeepBut.trans (by (with_reducible repeat (first | exact HK.out | apply KeepBut.set_ | apply keep_drewN | apply keep_drew))) hk (.inl rfl)); clear hi hb hk))
        first | go_end0 | ((try simp only [Exit.inBlock, Exit.then]); refine bodyPost_ret (results_none rfl _ _ _) rfl ?_)
        exact ⟨rfl, HI2.out, HB2.out, HK2.out⟩
      have c9b : (x == s0_1) = true := beq_iff_eq.mpr c9; have HW := Zm (eta _ _ H); clear H c9; go_wp2; go_quiet ((go_at_call 43; exact hlq _ _)); go_wp2_with (first | ((with_reducible refine gate_callee (f := 159) rfl ?_); refine goesL_ (some 68) rfl rfl Tryz.func159 (by kernel_rfl) rfl #[.pointer (some ⟨g, 0, none⟩), .int .u8 59] rfl (by (try simp only [List.map_toArray, List.map_cons, List.map_nil]); first | done | rfl) ?_; (with_reducible refine (impl_reader_want.calls g s0_0 x true 59 r1 r2 r3 w0 _ ?side1 ?side2 HW.out).mono ?_); (case side1 => exact sS162_); (case side2 => (with_reducible repeat (first | exact HB.out | apply Zbn | apply Zbd | refine Zbs ?_ hg))); rintro e w5 ⟨rfl, hi, hb, hk⟩; refine ⟨_, rfl, ?_⟩; have HI2 := Zm hi; have HB2 := Zm hb; have HK2 := Zm (KeepBut.trans (by (with_reducible repeat (first | exact HK.out | apply KeepBut.set_ | apply keep_drewN | apply keep_drew))) hk (.inl rfl)); clear hi hb hk))
      first | go_end0 | ((try simp only [Exit.inBlock, Exit.then]); refine bodyPost_ret (results_none rfl _ _ _) rfl ?_)
      exact ⟨rfl, HI2.out, HB2.out, HK2.out⟩
    have c2b : decide (x < wrap64 (s0_1 + 20)) = true := decide_eq_true c2; have c2c : decide (x < IntKind.i64.wrap (s0_1 + 20)) = true := by rw [i64_w]; exact c2b
    by_cases c3 : 0 ≤ x; rotate_left
    · rw [if_neg c3] at H; exact absurd H (by simp)
    rw [if_pos c3, if_pos c1] at H; have c3b : decide (0 ≤ x) = true := decide_eq_true c3; obtain ⟨t, ht, H⟩ := Option.bind_eq_some_iff.mp H; have hbt := bt_at s0_0 x
    have hnq : ∀ (W : World) (n : Nat), Calls Tryz.prog 117 #[.int .u8 (bt s0_0 x), .int .i64 (wrap64 (x - s0_1))] (W.drewN n) fun e w'' => e = .returned (.bool t) ∧ ∃ m, w'' = W.drewN m := fun W n => by
     exact Calls.quiet_of ((impl_isNameByte.calls (bt s0_0 x) (wrap64 (x - s0_1)) t (W.drewN n) ht).mono fun e W' ⟨he, ⟨m, hm⟩⟩ => ⟨he, m, hm⟩)
    clear ht c2
    cases t with
    | true =>
     rw [if_pos rfl] at H; have H' := Zm H; clear H; go_wp2; go_quiet (first | (go_at_call 43; exact hlq _ _) | (go_at_call 117; with_reducible exact hnq _ _)); go_wp2; go_roundg k1
     case measure => have := HK1.out; omega
     case rel => exact ⟨wrap64 (x + 1), H', ⟨by have := HK1.out; omega⟩, ⟨by exact sS162_⟩, ⟨by (with_reducible repeat (first | exact HB.out | apply Zbn | apply Zbd | refine Zbs ?_ hg))⟩, ⟨by (with_reducible repeat (first | exact HK.out | apply KeepBut.set_ | apply keep_drewN | apply keep_drew))⟩⟩
    | false =>
     rw [if_neg (by simp)] at H; replace H := sp_ H; rcases H with ⟨c9, H⟩ | ⟨c9, H⟩
     · have c9b : (x == s0_1) = false := beq_eq_false_iff_ne.mpr c9; have HW := Zm (eta _ _ H); clear H; go_wp2; go_quiet (first | (go_at_call 43; exact hlq _ _) | (go_at_call 117; with_reducible exact hnq _ _)); go_wp2_with (first | ((with_reducible refine gate_callee (f := 159) rfl ?_); refine goesL_ (some 68) rfl rfl Tryz.func159 (by kernel_rfl) rfl #[.pointer (some ⟨g, 0, none⟩), .int .u8 59] rfl (by (try simp only [List.map_toArray, List.map_cons, List.map_nil]); first | done | rfl) ?_; (with_reducible refine (impl_reader_want.calls g s0_0 x false 59 r1 r2 r3 w0 _ ?side1 ?side2 HW.out).mono ?_); (case side1 => exact sS162_); (case side2 => (with_reducible repeat (first | exact HB.out | apply Zbn | apply Zbd | refine Zbs ?_ hg))); rintro e w5 ⟨rfl, hi, hb, hk⟩; refine ⟨_, rfl, ?_⟩; have HI2 := Zm hi; have HB2 := Zm hb; have HK2 := Zm (KeepBut.trans (by (with_reducible repeat (first | exact HK.out | apply KeepBut.set_ | apply keep_drewN | apply keep_drew))) hk (.inl rfl)); clear hi hb hk))
       first | go_end0 | ((try simp only [Exit.inBlock, Exit.then]); refine bodyPost_ret (results_none rfl _ _ _) rfl ?_)
       exact ⟨rfl, HI2.out, HB2.out, HK2.out⟩
     have c9b : (x == s0_1) = true := beq_iff_eq.mpr c9; have HW := Zm (eta _ _ H); clear H c9; go_wp2; go_quiet (first | (go_at_call 43; exact hlq _ _) | (go_at_call 117; with_reducible exact hnq _ _)); go_wp2_with (first | ((with_reducible refine gate_callee (f := 159) rfl ?_); refine goesL_ (some 68) rfl rfl Tryz.func159 (by kernel_rfl) rfl #[.pointer (some ⟨g, 0, none⟩), .int .u8 59] rfl (by (try simp only [List.map_toArray, List.map_cons, List.map_nil]); first | done | rfl) ?_; (with_reducible refine (impl_reader_want.calls g s0_0 x true 59 r1 r2 r3 w0 _ ?side1 ?side2 HW.out).mono ?_); (case side1 => exact sS162_); (case side2 => (with_reducible repeat (first | exact HB.out | apply Zbn | apply Zbd | refine Zbs ?_ hg))); rintro e w5 ⟨rfl, hi, hb, hk⟩; refine ⟨_, rfl, ?_⟩; have HI2 := Zm hi; have HB2 := Zm hb; have HK2 := Zm (KeepBut.trans (by (with_reducible repeat (first | exact HK.out | apply KeepBut.set_ | apply keep_drewN | apply keep_drew))) hk (.inl rfl)); clear hi hb hk))
     first | go_end0 | ((try simp only [Exit.inBlock, Exit.then]); refine bodyPost_ret (results_none rfl _ _ _) rfl ?_)
     exact ⟨rfl, HI2.out, HB2.out, HK2.out⟩
end Go.Proofs.YtljeeiijepoenaaGreat.PFnExactClassSize
