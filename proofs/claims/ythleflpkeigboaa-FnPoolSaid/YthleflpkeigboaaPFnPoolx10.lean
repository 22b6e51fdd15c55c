/- Functions of the program as plain Lean functions, each with a proof that the program's call comes to the same; no condition. Written by a program of this session. -/
import Derived.Test.YthleflpkeigboaaPFnPoolx0
import Derived.Test.YthleflpkeigboaaPFnPoolx1
import Derived.Test.YthleflpkeigboaaPFnPoolx9
namespace Go.Proofs.Ythleflpkeigboaa.PFnPool
open Go.RowKit Go.Proofs.YthleflpkeigboaaW.PrintWords Go.Proofs.YthleflpkeigboaaW.PrintLast Go.Proofs.YthleflpkeigboaaW.PrintMore
open Go.Proofs.YthleflpkeigboaaW.PrintWords renaming below_alloc→Zba,pw_below_drewN→Zbn,below_drew1→Zbd,below_set→Zbs,below_size→Zbz,below_step→Zbt,blk_drewN→Zkn,blk_drew→Zkd,blk_alloc→Zka,blk_cell→Zkc,blk_frozen→Zkf,blk_far→Zkr,blk_put→Zkp,blk_below→Zkb
open Go.Proofs.YthleflpkeigboaaW.PrintWords.Aside0 renaming mk→Zm
attribute [local go_sem] max2_int min2_int max_two min_two max_three min_three max_four min_four   -- for this text's walks alone
set_option linter.unusedVariables false
set_option linter.unusedSimpArgs false
def spec_DrawPoolOf.f (k:Nat) (l0:List Int):Option (ByteArray×ByteArray×Bool×Bool×(List (S45))×(List (S34))):=(spec_l01Source.f k l0).bind fun bt584=>((spec_l01Src_l03Class.f k bt584.1 bt584.2.1 bt584.2.2.1 bt584.2.2.2 (⟨#[65]⟩:ByteArray) (⟨#[79,98,106,101,99,116]⟩:ByteArray)).bind fun bt589=>(some (bt589.1,bt589.2.1,bt589.2.2.1,bt589.2.2.2.1,bt589.2.2.2.2.1,bt589.2.2.2.2.2.1)))
set_option maxHeartbeats 80000000 in
set_option maxRecDepth 100000 in
theorem spec_DrawPoolOf.calls (k:Nat) (A0:Option Addr) (c0:Nat) (l0:List Int) (r1:ByteArray) (r2:ByteArray) (r3:Bool) (r4:Bool) (r5:List (S45)) (r6:List (S34)) (w:World) (hr0:Kd.C (Kd.int .u8) w A0 l0.length l0) (hc0:l0.length≤c0) (h:spec_DrawPoolOf.f k l0=some (r1,r2,r3,r4,r5,r6)):
 Calls Try.prog 4 #[.slice A0 l0.length c0] w fun e w'=>∃ v4_ v5_:Value,e=.returned (.agg #[.string r1,.string r2,.bool r3,.bool r4,v4_,v5_])∧Kd.R k45 45 w' w.heap.size (fun _=>True) v4_ r5∧Kd.S k34 34 w' w.heap.size (fun _=>True) v5_ r6∧Below w.heap.size w w':=by
 have hu26:=Try.underlying26;have HR0:=Zm hr0;have HC0:=Zm hc0;clear hr0 hc0;have HB:=Zm (Below.refl w.heap.size w);have H:=h;clear h;unfold spec_DrawPoolOf.f at H;replace H:=sq_ H;obtain ⟨⟨t584,t585,t586,t587⟩,A2,H⟩:=H;(try dsimp only at H);replace H:=sq_ H;obtain ⟨⟨t589,t590,t591,t592,t593,t596,t599,t600,t601⟩,A3,H⟩:=H;(try dsimp only at H);simp only [Option.some.injEq,Prod.mk.injEq] at H;obtain ⟨rfl,rfl,rfl,rfl,rfl,rfl⟩:=H;go_enter Try.func4,Try.ntmps4;go_wp2_with (first|((with_reducible refine gate_dst (N:=2) rfl ?_);refine bx_ 2 26 #[.string (⟨#[]⟩:ByteArray),.string (⟨#[]⟩:ByteArray),.bool false,.bool false,.slice none 0 0,.slice none 0 0] ?_;intro gb583 hg w4 hbox hb;have BK583:=Zm hbox;have GW583:=bz HB hg;have GE583:=bz HB hg;replace HB:=bt_ HB hb;clear hb hbox hg)|((with_reducible refine gate_callee (f:=8) rfl ?_);refine ge_ (some 4) Try.func8 #[.slice A0 l0.length c0] ?_;refine ca_ (spec_l01Source.calls _ _ _ _ _ _ _ _ w _ (bk HB.out) HR0.out HC0.out A2.out) ?_;rintro e w5 ⟨g588,rfl,hi,hb,hb2⟩;refine ⟨_,rfl,?_⟩;have HI588:=Zm hi;have NB588_583:=Zm (IsS53.ne_blk hi (Zkb (pk BK583.out) hb2) (by decide));have NB583_588:=Zm (Ne.symm (IsS53.ne_blk hi (Zkb (pk BK583.out) hb2) (by decide)));replace BK583:=Zm (Zkb (pk BK583.out) hb2);replace HB:=Zm hb;clear hb hb2 hi)|((with_reducible refine gate_callee (f:=9) rfl ?_);refine ge_ (some 5) Try.func9 #[.pointer (some ⟨g588,0,none⟩),.string (⟨#[65]⟩:ByteArray),.string (⟨#[79,98,106,101,99,116]⟩:ByteArray)] ?_;refine ca_ (spec_l01Src_l03Class.calls _ g588 _ _ _ _ _ _ _ _ _ _ _ _ _ _ _ w _ sS53_ (bk HB.out) A3.out) ?_;rintro e w6 ⟨v594,v597,rfl,ho0,ho1,hi,hb,hk⟩;refine ⟨_,rfl,?_⟩;have HO595:=Zm (Kd.R_lower ho0 (Zbz (bk HB.out)));have HO598:=Zm (Kd.S_lower ho1 (Zbz (bk HB.out)));replace BK583:=Zm (KeepBut.blk hk (pk BK583.out) NB583_588.out (by simp));replace HB:=Zm hb;replace HI588:=Zm hi;clear hb hk hi ho0 ho1;have hnb7:=NB583_588.out;have hnc7:=NB588_583.out;have hcz8:=cf6 BK583.out;obtain ⟨Ao9,co9,eo9⟩:=Kd.R_slice HO595.out;subst eo9;obtain ⟨Ao10,co10,eo10⟩:=Kd.S_slice HO598.out;subst eo10));refine bodyPost_ret (results_cell_row rfl _ _ gb583 26 #[.string t589,.string t590,.bool t591,.bool t592,.slice Ao9 t593.length co9,.slice Ao10 t596.length co10] (0,0) _ rfl zc_ Try.underlying26 rfl (by kernel_rfl)) rfl ?_;exact ⟨_,_,s2_,by (with_reducible repeat (first|apply Kd.R_alloc|apply Kd.R_drewN|apply Kd.R_drew));exact Kd.R_mono (Kd.R_far (p:=⟨gb583,5,none⟩) (Kd.R_far (p:=⟨gb583,4,none⟩) (Kd.R_far (p:=⟨gb583,3,none⟩) (Kd.R_far (p:=⟨gb583,2,none⟩) (Kd.R_far (p:=⟨gb583,1,none⟩) (Kd.R_far (p:=⟨gb583,0,none⟩) (Kd.R_types HO595.out BK583.out (by decide)) (fun _ hk=>hk.2) (.string t589)) (fun _ hk=>hk.2) (.string t590)) (fun _ hk=>hk.2) (.bool t591)) (fun _ hk=>hk.2) (.bool t592)) (fun _ hk=>hk.2) (.slice Ao9 t593.length co9)) (fun _ hk=>hk.2) (.slice Ao10 t596.length co10)) (fun _ hk=>trivial),by (with_reducible repeat (first|apply Kd.S_alloc|apply Kd.S_drewN|apply Kd.S_drew));exact Kd.S_mono (Kd.S_far (p:=⟨gb583,5,none⟩) (Kd.S_far (p:=⟨gb583,4,none⟩) (Kd.S_far (p:=⟨gb583,3,none⟩) (Kd.S_far (p:=⟨gb583,2,none⟩) (Kd.S_far (p:=⟨gb583,1,none⟩) (Kd.S_far (p:=⟨gb583,0,none⟩) (Kd.S_types HO598.out BK583.out (by decide)) (fun _ hk=>hk.2) (.string t589)) (fun _ hk=>hk.2) (.string t590)) (fun _ hk=>hk.2) (.bool t591)) (fun _ hk=>hk.2) (.bool t592)) (fun _ hk=>hk.2) (.slice Ao9 t593.length co9)) (fun _ hk=>hk.2) (.slice Ao10 t596.length co10)) (fun _ hk=>trivial),by exact hb53_⟩
-- NOT PRINTED: function 88 (bytealg_IndexByteString)
-- NOT PRINTED: function 80 (stringslite_IndexByte)
def strings_IndexByte.f (a0:ByteArray) (a1:Int):Option (Int):=some (Lib.indexByte a0.data.toList a1.toNat.toUInt8)
set_option maxHeartbeats 80000000 in
set_option maxRecDepth 100000 in
theorem strings_IndexByte.calls (a0:ByteArray) (a1:Int) (r:Int) (w:World) (h:strings_IndexByte.f a0 a1=some r):
    Calls Try.prog 68 #[.string a0,.int .u8 a1] w fun e w'=>e=.returned (.int .i64 r)∧Drawn0 w w':=by
  obtain rfl:=Option.some.inj h;exact (Try.strings_IndexByte a0 a1 w).mono fun e w' ⟨he,hw⟩=>⟨he,hw ▸ Drawn0.refl _⟩
def impl_isNameByte.f (a0:Int) (a1:Int):Option (Bool):=(strings_IndexByte.f (⟨#[48,49,50,51,52,53,54,55,56,57,97,98,99,100,101,102,103,104,105,106,107,108,109,110,111,112,113,114,115,116,117,118,119,120,121,122,65,66,67,68,69,70,71,72,73,74,75,76,77,78,79,80,81,82,83,84,85,86,87,88,89,90,36]⟩:ByteArray) a0).bind fun t602=>(if t602 ≥ 10 then (some true) else (if t602 ≥ 0 then (some (decide (a1 > 0))) else (some false)))
set_option maxHeartbeats 80000000 in
set_option maxRecDepth 100000 in
theorem impl_isNameByte.calls (a0:Int) (a1:Int) (r:Bool) (w:World) (h:impl_isNameByte.f a0 a1=some r):
 Calls Try.prog 41 #[.int .u8 a0,.int .i64 a1] w fun e w'=>e=.returned (.bool r)∧Drawn0 w w':=by
 have H:=h;clear h;unfold impl_isNameByte.f at H;replace H:=sq_ H;obtain ⟨t602,A3,H⟩:=H;replace H:=sp_ H;rcases H with ⟨c4,H⟩|⟨c4,H⟩
 · have c4b0:decide (10≤t602)=false:=decide_eq_false c4;clear c4;replace H:=sp_ H;rcases H with ⟨c5,H⟩|⟨c5,H⟩
   · have c5b0:decide (0≤t602)=false:=decide_eq_false c5;clear c5;obtain rfl:=Option.some.inj H;go_enter Try.func41,Try.ntmps41;go_wp2_with (first|((with_reducible refine gate_callee (f:=68) rfl ?_);refine ge_ (some 7) Try.func68 #[.string (⟨#[48,49,50,51,52,53,54,55,56,57,97,98,99,100,101,102,103,104,105,106,107,108,109,110,111,112,113,114,115,116,117,118,119,120,121,122,65,66,67,68,69,70,71,72,73,74,75,76,77,78,79,80,81,82,83,84,85,86,87,88,89,90,36]⟩:ByteArray),.int .u8 a0] ?_;(with_reducible refine (strings_IndexByte.calls _ _ _ _ A3.out).mono ?_);rintro e w' ⟨rfl,⟨nd,rfl⟩⟩;refine ⟨_,rfl,?_⟩));go_ret;exact fd_
   have c5b0:decide (0≤t602)=true:=decide_eq_true c5;clear c5;obtain rfl:=Option.some.inj H;go_enter Try.func41,Try.ntmps41;go_wp2_with (first|((with_reducible refine gate_callee (f:=68) rfl ?_);refine ge_ (some 7) Try.func68 #[.string (⟨#[48,49,50,51,52,53,54,55,56,57,97,98,99,100,101,102,103,104,105,106,107,108,109,110,111,112,113,114,115,116,117,118,119,120,121,122,65,66,67,68,69,70,71,72,73,74,75,76,77,78,79,80,81,82,83,84,85,86,87,88,89,90,36]⟩:ByteArray),.int .u8 a0] ?_;(with_reducible refine (strings_IndexByte.calls _ _ _ _ A3.out).mono ?_);rintro e w' ⟨rfl,⟨nd,rfl⟩⟩;refine ⟨_,rfl,?_⟩));go_ret;exact fd_
 have c4b0:decide (10≤t602)=true:=decide_eq_true c4;clear c4;obtain rfl:=Option.some.inj H;go_enter Try.func41,Try.ntmps41;go_wp2_with (first|((with_reducible refine gate_callee (f:=68) rfl ?_);refine ge_ (some 7) Try.func68 #[.string (⟨#[48,49,50,51,52,53,54,55,56,57,97,98,99,100,101,102,103,104,105,106,107,108,109,110,111,112,113,114,115,116,117,118,119,120,121,122,65,66,67,68,69,70,71,72,73,74,75,76,77,78,79,80,81,82,83,84,85,86,87,88,89,90,36]⟩:ByteArray),.int .u8 a0] ?_;(with_reducible refine (strings_IndexByte.calls _ _ _ _ A3.out).mono ?_);rintro e w' ⟨rfl,⟨nd,rfl⟩⟩;refine ⟨_,rfl,?_⟩));go_ret;exact fd_
def impl_within.f (a0:Int) (a1:Int) (a2:Int):Option (Bool):=if a0 ≥ a1 then (some (decide (a0≤a2))) else (some false)
set_option maxHeartbeats 80000000 in
set_option maxRecDepth 100000 in
theorem impl_within.calls (a0:Int) (a1:Int) (a2:Int) (r:Bool) (w:World) (h:impl_within.f a0 a1 a2=some r):
 Calls Try.prog 42 #[.int .i64 a0,.int .i64 a1,.int .i64 a2] w fun e w'=>e=.returned (.bool r)∧Drawn0 w w':=by
 have H:=h;clear h;unfold impl_within.f at H;replace H:=sp_ H;rcases H with ⟨c4,H⟩|⟨c4,H⟩
 · have c4b0:decide (a1≤a0)=false:=decide_eq_false c4;clear c4;obtain rfl:=Option.some.inj H;go_enter Try.func42,Try.ntmps42;go_wp2;go_ret;exact fd_
 have c4b0:decide (a1≤a0)=true:=decide_eq_true c4;clear c4;obtain rfl:=Option.some.inj H;go_enter Try.func42,Try.ntmps42;go_wp2;go_ret;exact fd_
def impl_length.f (a0:ByteArray):Option (Int):=some (a0.size:Int)
set_option maxHeartbeats 80000000 in
set_option maxRecDepth 100000 in
theorem impl_length.calls (a0:ByteArray) (r:Int) (w:World) (h:impl_length.f a0=some r):
 Calls Try.prog 43 #[.string a0] w fun e w'=>e=.returned (.int .i64 r)∧Drawn0 w w':=by
 have H:=h;clear h;unfold impl_length.f at H;obtain rfl:=Option.some.inj H;go_enter Try.func43,Try.ntmps43;go_wp2;go_ret;exact fd_
def impl_NameRight.l0:Nat→ByteArray→Int→Int→Option (Bool)
 | 0,_,_,_=>none
 | k+1,x0,x5,x6=>if x6 < x5 then (if 0≤x6 then (if x6 < (x0.size:Int) then ((impl_isNameByte.f (bt x0 x6) x6).bind fun t603=>(if t603=true then (impl_NameRight.l0 k x0 x5 (wrap64 (x6+1))) else (some false))) else (none)) else (none)) else ((impl_length.f x0).bind fun t604=>((impl_within.f t604 1 20).bind fun t605=>(some t605)))
def impl_NameRight.f (k:Nat) (a0:ByteArray):Option (Bool):=impl_NameRight.l0 k a0 (a0.size:Int) 0
theorem impl_NameRight.mono_l:∀ k,(∀ y0 y1 y2,LeO (impl_NameRight.l0 k y0 y1 y2) (impl_NameRight.l0 (k+1) y0 y1 y2))
 | 0=>by intros;intro r h;simp [impl_NameRight.l0] at h
 | k+1=>by
  have ih0:=impl_NameRight.mono_l k;intros;unfold impl_NameRight.l0;exact mo_
theorem impl_NameRight.mono:∀ a0 k,LeO (impl_NameRight.f k a0) (impl_NameRight.f (k+1) a0):=by
 intro a0 k;have ih0:=impl_NameRight.mono_l k;unfold impl_NameRight.f;exact mo_
set_option maxHeartbeats 80000000 in
set_option maxRecDepth 100000 in
theorem impl_NameRight.calls (k:Nat) (a0:ByteArray) (r:Bool) (w:World) (h:impl_NameRight.f k a0=some r):
 Calls Try.prog 22 #[.string a0] w fun e w'=>e=.returned (.bool r)∧Drawn0 w w':=by
 have H:=h;clear h;unfold impl_NameRight.f at H;have H':=Zm H;clear H;go_enter Try.func22,Try.ntmps22;go_wp2;go_loopg [6] k (fun kq v6 w'=>∃ (x6_1:Int),v6=.int .i64 x6_1∧Aside0 (impl_NameRight.l0 kq a0 (a0.size:Int) x6_1=some r)∧Aside0 (kq≤k)∧Drawn0 w w')
 case atStart=>exact ⟨(0),s1_,H',⟨Nat.le_refl _⟩,dn_⟩
 case round=>
  clear H';obtain ⟨x6_1,rfl,HA,HK1,⟨m1,rfl⟩⟩:=hrel
  cases gk with
  | zero=>exact absurd HA.out (by simp [impl_NameRight.l0])
  | succ k1=>
   have H:=HA.out;clear HA;simp only [impl_NameRight.l0] at H;replace H:=sd_ H;rcases H with ⟨c2b0,H⟩|⟨c2b0,H⟩
   · replace H:=sq_ H;obtain ⟨t604,A9,H⟩:=H;replace H:=sq_ H;obtain ⟨t605,A10,H⟩:=H;obtain rfl:=Option.some.inj H;go_wp2_with (first|((with_reducible refine gate_callee (f:=43) rfl ?_);refine ge_ (some 17) Try.func43 #[.string a0] ?_;(with_reducible refine (impl_length.calls _ _ _ A9.out).mono ?_);rintro e w' ⟨rfl,⟨nd,rfl⟩⟩;refine ⟨_,rfl,?_⟩)|((with_reducible refine gate_callee (f:=42) rfl ?_);refine ge_ (some 18) Try.func42 #[.int .i64 t604,.int .i64 1,.int .i64 20] ?_;(with_reducible refine (impl_within.calls _ _ _ _ _ A10.out).mono ?_);rintro e w' ⟨rfl,⟨nd,rfl⟩⟩;refine ⟨_,rfl,?_⟩));go_ret;exact fd_
   replace H:=snd_ H;obtain ⟨c3b0,H⟩:=H;replace H:=snd_ H;obtain ⟨c4b0,H⟩:=H;replace H:=sq_ H;obtain ⟨t603,A6,H⟩:=H;have HC7:=Zm H;clear H;have p5:0≤(x6_1:Int):=da_;have q5:x6_1 < (a0.size:Int):=da_;have hx5:=bt_at a0 x6_1;replace p5:=eq_true p5;replace q5:=eq_true q5;go_upto_if 14 with (first|((with_reducible refine gate_callee (f:=41) rfl ?_);refine ge_ (some 13) Try.func41 #[.int .u8 (bt a0 x6_1),.int .i64 x6_1] ?_;(with_reducible refine (impl_isNameByte.calls _ _ _ _ A6.out).mono ?_);rintro e w' ⟨rfl,⟨nd,rfl⟩⟩;refine ⟨_,rfl,?_⟩));have H:=HC7.out;clear HC7;replace H:=sb_ H;rcases H with ⟨rfl,H⟩|⟨rfl,H⟩
   · obtain rfl:=Option.some.inj H;go_wp2;go_ret;exact fd_
   have H':=Zm H;clear H;go_wp2;go_roundg k1
   case measure=>have:=HK1.out;omega
   case rel=>exact ⟨(wrap64 (x6_1+1)),s1_,H',⟨by have:=HK1.out;omega⟩,dn_⟩
def IsS91 (w0 W:World) (g:Nat) (f0:ByteArray) (f1:Int) (f2:Bool):Prop:=W.heap[g]?=some (.cells #[.string f0,.int .i64 f1,.bool f2] 91 (0,0))∧w0.heap.size≤g
theorem IsS91.grown {w0 W:World} {g:Nat} {f0:ByteArray} {f1:Int} {f2:Bool} {W1:World} {row:Option Nat} (h:IsS91 w0 W g f0 f1 f2) (hw:W.grownBy W1 row) (hne:some g≠row):IsS91 w0 W1 g f0 f1 f2:=by
 obtain ⟨hb,hg⟩:=h;exact ⟨blk_grown hb hw hne,hg⟩
theorem IsS91.own_neN {w0 W:World} {g:Nat} {f0:ByteArray} {f1:Int} {f2:Bool} {α:Type} {d:Kd α} {e:Nat} {base:Nat} {ok:Nat→Prop} {v:Value} {xs:List α} (h:IsS91 w0 W g f0 f1 f2) (ho:Kd.N d e W base ok v xs) (ht:e≠91):some g≠v.ownBlock:=by
 obtain ⟨hb,hg⟩:=h;exact Kd.N_ne ho hb ht
theorem IsS91.fresh {w0 W:World} {g:Nat} {f0:ByteArray} {f1:Int} {f2:Bool} (h:IsS91 w0 W g f0 f1 f2):∀ k,W.heap.size≤k→k≠g:=by
 obtain ⟨hb,hg⟩:=h;exact Kd.freshB hb
theorem IsS91.kept {w0 W:World} {g:Nat} {f0:ByteArray} {f1:Int} {f2:Bool} {W1:World} {S:Nat→Prop} (h:IsS91 w0 W g f0 f1 f2) (hk:Kept W W1 S) (hne:¬ S g):IsS91 w0 W1 g f0 f1 f2:=by
 obtain ⟨hb,hg⟩:=h;exact ⟨blk_kept hb hk hne,hg⟩
theorem IsS91.below {w0 W:World} {g:Nat} {f0:ByteArray} {f1:Int} {f2:Bool} {W1:World} (h:IsS91 w0 W g f0 f1 f2) (hw:Below W.heap.size W W1):IsS91 w0 W1 g f0 f1 f2:=h.grown (grown_of_below hw none) (by simp)
theorem IsS91.alloc {w0 W:World} {g:Nat} {f0:ByteArray} {f1:Int} {f2:Bool} (h:IsS91 w0 W g f0 f1 f2) (o:Obj):IsS91 w0 (W.alloc o) g f0 f1 f2:=h.below (Zba (Below.refl _ _) o)
theorem IsS91.drewN {w0 W:World} {g:Nat} {f0:ByteArray} {f1:Int} {f2:Bool} (h:IsS91 w0 W g f0 f1 f2) (m:Nat):IsS91 w0 (W.drewN m) g f0 f1 f2:=h
theorem IsS91.drew {w0 W:World} {g:Nat} {f0:ByteArray} {f1:Int} {f2:Bool} (h:IsS91 w0 W g f0 f1 f2):IsS91 w0 W.drew g f0 f1 f2:=h
theorem IsS91.at_ {w0 W:World} {g:Nat} {f0:ByteArray} {f1:Int} {f2:Bool} {w':World} {m:Nat} (hq:W.drewN m=w') (h:IsS91 w0 W g f0 f1 f2):IsS91 w0 w' g f0 f1 f2:=by subst hq;exact IsS91.drewN h m
theorem IsS91.apart {w0 W:World} {g:Nat} {f0:ByteArray} {f1:Int} {f2:Bool} {α:Type} {d:Kd α} {e:Nat} {base:Nat} {ok:Nat→Prop} {v:Value} {xs:List α} (h:IsS91 w0 W g f0 f1 f2) (ho:d.R e W base ok v xs) (ht:∀ q,q∈e :: d.E→q≠91):d.R e W base (fun k=>ok k∧k≠g) v xs:=by
 obtain ⟨hb,hg⟩:=h;exact Kd.R_types ho hb ht
theorem IsS91.own_ne {w0 W:World} {g:Nat} {f0:ByteArray} {f1:Int} {f2:Bool} {α:Type} {d:Kd α} {e:Nat} {base:Nat} {ok:Nat→Prop} {v:Value} {xs:List α} (h:IsS91 w0 W g f0 f1 f2) (ho:d.R e W base ok v xs) (ht:e≠91):some g≠v.ownBlock:=by
 obtain ⟨hb,hg⟩:=h;exact Kd.R_ne ho hb ht
theorem IsS91.apartQ {w0 W:World} {g:Nat} {f0:ByteArray} {f1:Int} {f2:Bool} {α:Type} {d:Kd α} {e:Nat} {base:Nat} {ok:Nat→Prop} {v:Value} {xs:List α} (h:IsS91 w0 W g f0 f1 f2) (ho:d.Q e W base ok v xs) (ht:∀ q,q∈e :: d.E→q≠91):d.Q e W base (fun k=>ok k∧k≠g) v xs:=by
 obtain ⟨hb,hg⟩:=h;exact Kd.Q_types ho hb ht
theorem IsS91.own_neQ {w0 W:World} {g:Nat} {f0:ByteArray} {f1:Int} {f2:Bool} {α:Type} {d:Kd α} {e:Nat} {base:Nat} {ok:Nat→Prop} {v:Value} {xs:List α} (h:IsS91 w0 W g f0 f1 f2) (ho:d.Q e W base ok v xs) (ht:e≠91):some g≠v.ownBlock:=by
 obtain ⟨hb,hg⟩:=h;exact Kd.Q_ne ho hb ht
theorem IsS91.apartS {w0 W:World} {g:Nat} {f0:ByteArray} {f1:Int} {f2:Bool} {α:Type} {d:Kd α} {e:Nat} {base:Nat} {ok:Nat→Prop} {v:Value} {xs:List α} (h:IsS91 w0 W g f0 f1 f2) (ho:d.S e W base ok v xs) (ht:∀ q,q∈e :: d.E→q≠91):d.S e W base (fun k=>ok k∧k≠g) v xs:=by
 obtain ⟨hb,hg⟩:=h;exact Kd.S_types ho hb ht
theorem IsS91.own_neS {w0 W:World} {g:Nat} {f0:ByteArray} {f1:Int} {f2:Bool} {α:Type} {d:Kd α} {e:Nat} {base:Nat} {ok:Nat→Prop} {v:Value} {xs:List α} (h:IsS91 w0 W g f0 f1 f2) (ho:d.S e W base ok v xs) (ht:e≠91):some g≠v.ownBlock:=by
 obtain ⟨hb,hg⟩:=h;exact Kd.S_ne ho hb ht
theorem IsS91.lt {w0 W:World} {g:Nat} {f0:ByteArray} {f1:Int} {f2:Bool} (h:IsS91 w0 W g f0 f1 f2):g < W.heap.size:=by
 obtain ⟨hb,hg⟩:=h;exact blk_lt hb
theorem IsS91.ge {w0 W:World} {g:Nat} {f0:ByteArray} {f1:Int} {f2:Bool} (h:IsS91 w0 W g f0 f1 f2):w0.heap.size≤g:=by
 obtain ⟨hb,hg⟩:=h;exact hg
theorem IsS91.ne_blk {w0 W:World} {g:Nat} {f0:ByteArray} {f1:Int} {f2:Bool} {a:Nat} {cs:Array Value} {t:TypeId} {fr:Nat×Nat} (h:IsS91 w0 W g f0 f1 f2) (hb2:W.heap[a]?=some (.cells cs t fr)) (ht:t≠91):g≠a:=by
 obtain ⟨hb,hg⟩:=h;rintro rfl;rw [hb] at hb2;injection hb2 with hb2;injection hb2 with _ ht2;exact ht ht2.symm
theorem IsS91.far {w0 W:World} {g:Nat} {f0:ByteArray} {f1:Int} {f2:Bool} {p:Addr} (h:IsS91 w0 W g f0 f1 f2) (hne:g≠p.block) (u:Value):IsS91 w0 (W.setCell p u) g f0 f1 f2:=by
 obtain ⟨hb,hg⟩:=h;exact ⟨Zkr hb hne u,hg⟩
theorem cellS91_0 {W:World} {g:Nat} {f0:ByteArray} {f1:Int} {f2:Bool} (h:W.heap[g]?=some (.cells #[.string f0,.int .i64 f1,.bool f2] 91 (0,0))):W.cell? ⟨g,0,none⟩=some (.string f0):=(Zkc h 0).trans rfl
theorem IsS91.set_0 {w0 W:World} {g:Nat} {f0:ByteArray} {f1:Int} {f2:Bool} (h:IsS91 w0 W g f0 f1 f2) (x:ByteArray):IsS91 w0 (W.setCell ⟨g,0,none⟩ (.string x)) g x f1 f2:=by
 obtain ⟨hb,hg⟩:=h;exact ⟨by simpa using blk_set hb 0 (.string x),hg⟩
theorem cellS91_1 {W:World} {g:Nat} {f0:ByteArray} {f1:Int} {f2:Bool} (h:W.heap[g]?=some (.cells #[.string f0,.int .i64 f1,.bool f2] 91 (0,0))):W.cell? ⟨g,1,none⟩=some (.int .i64 f1):=(Zkc h 1).trans rfl
theorem IsS91.set_1 {w0 W:World} {g:Nat} {f0:ByteArray} {f1:Int} {f2:Bool} (h:IsS91 w0 W g f0 f1 f2) (x:Int):IsS91 w0 (W.setCell ⟨g,1,none⟩ (.int .i64 x)) g f0 x f2:=by
 obtain ⟨hb,hg⟩:=h;exact ⟨by simpa using blk_set hb 1 (.int .i64 x),hg⟩
theorem cellS91_2 {W:World} {g:Nat} {f0:ByteArray} {f1:Int} {f2:Bool} (h:W.heap[g]?=some (.cells #[.string f0,.int .i64 f1,.bool f2] 91 (0,0))):W.cell? ⟨g,2,none⟩=some (.bool f2):=(Zkc h 2).trans rfl
theorem IsS91.set_2 {w0 W:World} {g:Nat} {f0:ByteArray} {f1:Int} {f2:Bool} (h:IsS91 w0 W g f0 f1 f2) (x:Bool):IsS91 w0 (W.setCell ⟨g,2,none⟩ (.bool x)) g f0 f1 x:=by
 obtain ⟨hb,hg⟩:=h;exact ⟨by simpa using blk_set hb 2 (.bool x),hg⟩
theorem IsS91.new (w0 W:World) (f0:ByteArray) (f1:Int) (f2:Bool) (hB:Below w0.heap.size w0 W):IsS91 w0 (W.alloc (.cells #[.string f0,.int .i64 f1,.bool f2] 91)) W.heap.size f0 f1 f2:=⟨by simpa using heap_alloc_new W _,hB.size⟩
theorem sS91_ {w0 W:World} {g:Nat} {f0:ByteArray} {f1:Int} {f2:Bool} (h:IsS91 w0 W g f0 f1 f2:=by repeat (first|(with_reducible first|(refine Aside0.out ?_;assumption)|apply IsS91.alloc|apply IsS91.drewN|apply IsS91.drew|apply IsS91.set_0|apply IsS91.set_1|apply IsS91.set_2|refine IsS91.far ?_ (Aside0.out (by assumption)) _)|(refine Aside0.out ?_;assumption))):IsS91 w0 W g f0 f1 f2:=h
theorem hb91_ {w W:World} (h:Below w.heap.size w W:=by repeat (first|(with_reducible first|(refine Aside0.out ?_;assumption)|apply below_alloc|apply pw_below_drewN|apply below_drew1|refine below_set ?_ (Aside0.out (by assumption))|refine below_set ?_ (IsS91.ge (Aside0.out (by assumption))))|(refine Aside0.out ?_;assumption))):Below w.heap.size w W:=h
def impl_reader_is.f (s0_0:ByteArray) (s0_1:Int) (s0_2:Bool) (a1:Int):Option (Bool×ByteArray×Int×Bool):=if s0_2=true then (some (false,s0_0,s0_1,s0_2)) else ((impl_length.f s0_0).bind fun t606=>(if s0_1 < t606 then (if 0≤s0_1 then (if s0_1 < (s0_0.size:Int) then (some (((bt s0_0 s0_1) == a1),s0_0,s0_1,s0_2)) else (none)) else (none)) else (some (false,s0_0,s0_1,s0_2))))
set_option maxHeartbeats 80000000 in
set_option maxRecDepth 100000 in
theorem impl_reader_is.calls (g:Nat) (s0_0:ByteArray) (s0_1:Int) (s0_2:Bool) (a1:Int) (r1:Bool) (r2:ByteArray) (r3:Int) (r4:Bool) (w0 w:World) (hI:IsS91 w0 w g s0_0 s0_1 s0_2) (hB:Below w0.heap.size w0 w) (h:impl_reader_is.f s0_0 s0_1 s0_2 a1=some (r1,r2,r3,r4)):
 Calls Try.prog 81 #[.pointer (some ⟨g,0,none⟩),.int .u8 a1] w fun e w'=>e=.returned (.bool r1)∧IsS91 w0 w' g r2 r3 r4∧Below w0.heap.size w0 w'∧KeepBut w w' g none:=by
 have HI0:=Zm hI;have HK:=Zm (KeepBut.refl w g none);have HL:=Zm hB.size;clear hI;have HW0:=Zm hB.size;have HB:=Zm hB;clear hB;have H:=h;clear h;unfold impl_reader_is.f at H;obtain ⟨hb,hg⟩:=HI0.out;have f0:=cellS91_0 hb;have f1:=cellS91_1 hb;have f2:=cellS91_2 hb;have hu91:=Try.underlying91;have hlen:∀ W:World,Calls Try.prog 43 #[.string s0_0] W fun e W'=>e=.returned (.int .i64 (s0_0.size:Int))∧Drawn0 W W':=fun W=>impl_length.calls s0_0 (s0_0.size:Int) W rfl
 have hlq:∀ (W:World) (n:Nat),Calls Try.prog 43 #[.string s0_0] (W.drewN n) fun e w''=>e=.returned (.int .i64 (s0_0.size:Int))∧∃ m,w''=W.drewN m:=fun W n=>Calls.quiet_of ((hlen (W.drewN n)).mono fun e W' ⟨he,⟨m,hm⟩⟩=>⟨he,m,hm⟩)
 clear hb
 cases s0_2 with
 | true=>
  rw [if_pos rfl] at H;simp only [Option.some.injEq,Prod.mk.injEq] at H;obtain ⟨rfl,rfl,rfl,rfl⟩:=H;go_enter Try.func81,Try.ntmps81;go_wp2;go_quiet (fail);go_wp2;go_ret
  exact ⟨rfl,HI0.out,by repeat (with_reducible first|exact HB.out|apply Zbn|apply Zbd),by repeat (with_reducible first|exact HK.out|apply keep_drewN|apply keep_drew)⟩
 | false=>
  rw [if_neg (by simp)] at H;simp only [impl_length.f,Option.bind_some] at H;replace H:=sp_ H;rcases H with ⟨c1,H⟩|⟨c1,H⟩
  · have c1b:decide (s0_1 < (s0_0.size:Int))=false:=decide_eq_false c1;simp only [Option.some.injEq,Prod.mk.injEq] at H;obtain ⟨rfl,rfl,rfl,rfl⟩:=H;go_enter Try.func81,Try.ntmps81;go_wp2;go_quiet ((go_at_call 43;exact hlq _ _));go_wp2;go_ret;exact ⟨rfl,HI0.out,by repeat (with_reducible first|exact HB.out|apply Zbn|apply Zbd),by repeat (with_reducible first|exact HK.out|apply keep_drewN|apply keep_drew)⟩
  have c1b:decide (s0_1 < (s0_0.size:Int))=true:=decide_eq_true c1;by_cases c2:0≤s0_1;rotate_left
  · rw [if_neg c2] at H;exact absurd H (by simp)
  rw [if_pos c2,if_pos c1] at H;have c2b:decide (0≤s0_1)=true:=decide_eq_true c2;simp only [Option.some.injEq,Prod.mk.injEq] at H;obtain ⟨rfl,rfl,rfl,rfl⟩:=H;have hbt:=bt_at s0_0 s0_1;go_enter Try.func81,Try.ntmps81;go_wp2;go_quiet ((go_at_call 43;exact hlq _ _));go_wp2;go_ret;exact ⟨rfl,HI0.out,by repeat (with_reducible first|exact HB.out|apply Zbn|apply Zbd),by repeat (with_reducible first|exact HK.out|apply keep_drewN|apply keep_drew)⟩
def impl_reader_take.f (s0_0:ByteArray) (s0_1:Int) (s0_2:Bool) (a1:Int):Option (Bool×ByteArray×Int×Bool):=(impl_reader_is.f s0_0 s0_1 s0_2 a1).bind fun bt607=>(if bt607.1=true then (some (true,bt607.2.1,wrap64 (bt607.2.2.1+1),bt607.2.2.2)) else (some (false,bt607.2.1,bt607.2.2.1,bt607.2.2.2)))
set_option maxHeartbeats 80000000 in
set_option maxRecDepth 100000 in
theorem impl_reader_take.calls (g:Nat) (s0_0:ByteArray) (s0_1:Int) (s0_2:Bool) (a1:Int) (r1:Bool) (r2:ByteArray) (r3:Int) (r4:Bool) (w0 w:World) (hI:IsS91 w0 w g s0_0 s0_1 s0_2) (hB:Below w0.heap.size w0 w) (h:impl_reader_take.f s0_0 s0_1 s0_2 a1=some (r1,r2,r3,r4)):
 Calls Try.prog 69 #[.pointer (some ⟨g,0,none⟩),.int .u8 a1] w fun e w'=>e=.returned (.bool r1)∧IsS91 w0 w' g r2 r3 r4∧Below w0.heap.size w0 w'∧KeepBut w w' g none:=by
 have HI0:=Zm hI;have HK:=Zm (KeepBut.refl w g none);have HL:=Zm hB.size;clear hI;have HW0:=Zm hB.size;have HB:=Zm hB;clear hB;have H:=h;clear h;unfold impl_reader_take.f at H;replace H:=sq_ H;obtain ⟨⟨t607,t608,t609,t610⟩,A3,H⟩:=H;(try dsimp only at H);have HC4:=Zm H;clear H;go_enter Try.func69,Try.ntmps69;go_upto_if 8 with (first|((with_reducible refine gate_callee (f:=81) rfl ?_);refine ge_ (some 7) Try.func81 #[.pointer (some ⟨g,0,none⟩),.int .u8 a1] ?_;refine ca_ (impl_reader_is.calls g _ _ _ _ _ _ _ _ w0 _ sS91_ (bk HB.out) A3.out) ?_;rintro e w5 ⟨rfl,hi,hb,hk⟩;refine ⟨_,rfl,?_⟩;replace HK:=Zm (KeepBut.trans hK_ hk (.inl rfl));replace HB:=Zm hb;replace HI0:=Zm hi;clear hb hk hi));have H:=HC4.out;clear HC4;replace H:=sb_ H;rcases H with ⟨rfl,H⟩|⟨rfl,H⟩
 · simp only [Option.some.injEq,Prod.mk.injEq] at H;obtain ⟨rfl,rfl,rfl,rfl⟩:=H;go_wp2;go_ret;exact ⟨s2_,by exact sS91_,by exact bk HB.out,by repeat (first|(with_reducible first|exact HK.out|apply KeepBut.set_|apply keep_drewN|apply keep_drew|apply keep_alloc)|exact HK.out)⟩
 simp only [Option.some.injEq,Prod.mk.injEq] at H;obtain ⟨rfl,rfl,rfl,rfl⟩:=H;obtain ⟨HGz7,hgz7⟩:=HI0.out;have hcz7_0:=cellS91_0 HGz7;have hcz7_1:=cellS91_1 HGz7;have hcz7_2:=cellS91_2 HGz7;have hfz7_0:=Zkf HGz7 0;have hfz7_1:=Zkf HGz7 1;have hfz7_2:=Zkf HGz7 2;clear HGz7 hgz7;go_wp2;go_ret;exact ⟨s2_,by exact sS91_,by exact hb91_,by repeat (first|(with_reducible first|exact HK.out|apply KeepBut.set_|apply keep_drewN|apply keep_drew|apply keep_alloc)|exact HK.out)⟩
def impl_reader_want.f (s0_0:ByteArray) (s0_1:Int) (s0_2:Bool) (a1:Int):Option (ByteArray×Int×Bool):=(impl_reader_take.f s0_0 s0_1 s0_2 a1).bind fun bt611=>(if bt611.1=true then (some (bt611.2.1,bt611.2.2.1,bt611.2.2.2)) else (some (bt611.2.1,bt611.2.2.1,true)))
set_option maxHeartbeats 80000000 in
set_option maxRecDepth 100000 in
theorem impl_reader_want.calls (g:Nat) (s0_0:ByteArray) (s0_1:Int) (s0_2:Bool) (a1:Int) (r1:ByteArray) (r2:Int) (r3:Bool) (w0 w:World) (hI:IsS91 w0 w g s0_0 s0_1 s0_2) (hB:Below w0.heap.size w0 w) (h:impl_reader_want.f s0_0 s0_1 s0_2 a1=some (r1,r2,r3)):
 Calls Try.prog 77 #[.pointer (some ⟨g,0,none⟩),.int .u8 a1] w fun e w'=>e=.returned (.tuple #[])∧IsS91 w0 w' g r1 r2 r3∧Below w0.heap.size w0 w'∧KeepBut w w' g none:=by
 have HI0:=Zm hI;have HK:=Zm (KeepBut.refl w g none);have HL:=Zm hB.size;clear hI;have HW0:=Zm hB.size;have HB:=Zm hB;clear hB;have H:=h;clear h;unfold impl_reader_want.f at H;replace H:=sq_ H;obtain ⟨⟨t611,t612,t613,t614⟩,A3,H⟩:=H;(try dsimp only at H);have HC4:=Zm H;clear H;go_enter Try.func77,Try.ntmps77;go_upto_if 7 with (first|((with_reducible refine gate_callee (f:=69) rfl ?_);refine ge_ (some 6) Try.func69 #[.pointer (some ⟨g,0,none⟩),.int .u8 a1] ?_;refine ca_ (impl_reader_take.calls g _ _ _ _ _ _ _ _ w0 _ sS91_ (bk HB.out) A3.out) ?_;rintro e w5 ⟨rfl,hi,hb,hk⟩;refine ⟨_,rfl,?_⟩;replace HK:=Zm (KeepBut.trans hK_ hk (.inl rfl));replace HB:=Zm hb;replace HI0:=Zm hi;clear hb hk hi));have H:=HC4.out;clear HC4;replace H:=sb_ H;rcases H with ⟨rfl,H⟩|⟨rfl,H⟩
 · simp only [Option.some.injEq,Prod.mk.injEq] at H;obtain ⟨rfl,rfl,rfl⟩:=H;obtain ⟨HGz7,hgz7⟩:=HI0.out;have hcz7_0:=cellS91_0 HGz7;have hcz7_1:=cellS91_1 HGz7;have hcz7_2:=cellS91_2 HGz7;have hfz7_0:=Zkf HGz7 0;have hfz7_1:=Zkf HGz7 1;have hfz7_2:=Zkf HGz7 2;clear HGz7 hgz7;go_wp2
   first|go_end0|((try simp only [Exit.inBlock,Exit.then]);refine bodyPost_ret (results_none rfl _ _ _) rfl ?_)
   exact ⟨s2_,by exact sS91_,by exact hb91_,by repeat (first|(with_reducible first|exact HK.out|apply KeepBut.set_|apply keep_drewN|apply keep_drew|apply keep_alloc)|exact HK.out)⟩
 simp only [Option.some.injEq,Prod.mk.injEq] at H;obtain ⟨rfl,rfl,rfl⟩:=H;go_wp2
 first|go_end0|((try simp only [Exit.inBlock,Exit.then]);refine bodyPost_ret (results_none rfl _ _ _) rfl ?_)
 exact ⟨s2_,by exact sS91_,by exact bk HB.out,by repeat (first|(with_reducible first|exact HK.out|apply KeepBut.set_|apply keep_drewN|apply keep_drew|apply keep_alloc)|exact HK.out)⟩
def impl_reader_name.l0:Nat→Int→ByteArray→Int→Bool→Option (ByteArray×Int×Bool)
 | 0,_,_,_,_=>none
 | k+1,x2,x1000,x1001,x1002=>if x1002=true then (if x1001=x2 then ((impl_reader_want.f x1000 x1001 true 59).bind fun bt615=>(some (bt615.1,bt615.2.1,bt615.2.2))) else ((impl_reader_want.f x1000 x1001 x1002 59).bind fun bt618=>(some (bt618.1,bt618.2.1,bt618.2.2)))) else ((impl_length.f x1000).bind fun t621=>(if x1001 < t621 then (if x1001 < (wrap64 (x2+20)) then (if 0≤x1001 then (if x1001 < (x1000.size:Int) then ((impl_isNameByte.f (bt x1000 x1001) (wrap64 (x1001 - x2))).bind fun t622=>(if t622=true then (impl_reader_name.l0 k x2 x1000 (wrap64 (x1001+1)) x1002) else (if x1001=x2 then ((impl_reader_want.f x1000 x1001 true 59).bind fun bt623=>(some (bt623.1,bt623.2.1,bt623.2.2))) else ((impl_reader_want.f x1000 x1001 x1002 59).bind fun bt626=>(some (bt626.1,bt626.2.1,bt626.2.2)))))) else (none)) else (none)) else (if x1001=x2 then ((impl_reader_want.f x1000 x1001 true 59).bind fun bt629=>(some (bt629.1,bt629.2.1,bt629.2.2))) else ((impl_reader_want.f x1000 x1001 x1002 59).bind fun bt632=>(some (bt632.1,bt632.2.1,bt632.2.2))))) else (if x1001=x2 then ((impl_reader_want.f x1000 x1001 true 59).bind fun bt635=>(some (bt635.1,bt635.2.1,bt635.2.2))) else ((impl_reader_want.f x1000 x1001 x1002 59).bind fun bt638=>(some (bt638.1,bt638.2.1,bt638.2.2))))))
def impl_reader_name.f (k:Nat) (s0_0:ByteArray) (s0_1:Int) (s0_2:Bool):Option (ByteArray×Int×Bool):=impl_reader_name.l0 k s0_1 s0_0 s0_1 s0_2
theorem impl_reader_name.mono_l:∀ k,(∀ y0 y1 y2 y3,LeO (impl_reader_name.l0 k y0 y1 y2 y3) (impl_reader_name.l0 (k+1) y0 y1 y2 y3))
 | 0=>by intros;intro r h;simp [impl_reader_name.l0] at h
 | k+1=>by
  have ih0:=impl_reader_name.mono_l k;intros;unfold impl_reader_name.l0;exact mo_
theorem impl_reader_name.mono:∀ a0 a1 a2 k,LeO (impl_reader_name.f k a0 a1 a2) (impl_reader_name.f (k+1) a0 a1 a2):=by
 intro a0 a1 a2 k;have ih0:=impl_reader_name.mono_l k;unfold impl_reader_name.f;exact mo_
set_option maxHeartbeats 80000000 in
set_option maxRecDepth 100000 in
theorem impl_reader_name.calls (k:Nat) (g:Nat) (s0_0:ByteArray) (s0_1:Int) (s0_2:Bool) (r1:ByteArray) (r2:Int) (r3:Bool) (w0 w:World) (hI:IsS91 w0 w g s0_0 s0_1 s0_2) (hB:Below w0.heap.size w0 w) (h:impl_reader_name.f k s0_0 s0_1 s0_2=some (r1,r2,r3)):
 Calls Try.prog 70 #[.pointer (some ⟨g,0,none⟩)] w fun e w'=>e=.returned (.tuple #[])∧IsS91 w0 w' g r1 r2 r3∧Below w0.heap.size w0 w'∧KeepBut w w' g none:=by
 have HI0:=Zm hI;have HK:=Zm (KeepBut.refl w g none);have HL:=Zm hB.size;clear hI;have HW0:=Zm hB.size;have HB:=Zm hB;clear hB;have H:=h;clear h;unfold impl_reader_name.f at H
 have eta:∀ (o:Option (ByteArray×Int×Bool)) (r:ByteArray×Int×Bool),(o.bind fun b=>some (b.1,b.2.1,b.2.2))=some r→o=some r:=by
  intro o r h
  cases o with
  | none=>exact h
  | some b=>exact h
 have hg:=IsS91.ge HI0.out;have hu91:=Try.underlying91;have hlen:∀ W:World,Calls Try.prog 43 #[.string s0_0] W fun e W'=>e=.returned (.int .i64 (s0_0.size:Int))∧Drawn0 W W':=fun W=>impl_length.calls s0_0 (s0_0.size:Int) W rfl
 have hlq:∀ (W:World) (n:Nat),Calls Try.prog 43 #[.string s0_0] (W.drewN n) fun e w''=>e=.returned (.int .i64 (s0_0.size:Int))∧∃ m,w''=W.drewN m:=fun W n=>Calls.quiet_of ((hlen (W.drewN n)).mono fun e W' ⟨he,⟨m,hm⟩⟩=>⟨he,m,hm⟩)
 have HH:=Zm H;clear H hlen;obtain ⟨hb0,_⟩:=HI0.out;have g1:=cellS91_1 hb0;clear hb0;go_enter Try.func70,Try.ntmps70;go_wp2;clear g1;go_loopg [] k (fun kq w'=>∃ (x:Int),Aside0 (impl_reader_name.l0 kq s0_1 s0_0 x s0_2=some (r1,r2,r3))∧Aside0 (kq≤k)∧Aside0 (IsS91 w0 w' g s0_0 x s0_2)∧Aside0 (Below w0.heap.size w0 w')∧Aside0 (KeepBut w w' g none))
 case atStart=>exact ⟨s0_1,HH,⟨Nat.le_refl _⟩,HI0,HB,HK⟩
 case round=>
  clear HH HI0 HB HK;obtain ⟨x,HA,HK1,HI,HB,HK⟩:=hrel
  cases gk with
  | zero=>exact absurd HA.out (by simp [impl_reader_name.l0])
  | succ k1=>
   have H:=HA.out;clear HA;simp only [impl_reader_name.l0,impl_length.f,Option.bind_some] at H;obtain ⟨hb,_⟩:=HI.out;have f0:=cellS91_0 hb;have f1:=cellS91_1 hb;have f2:=cellS91_2 hb;have z1:=Zkf hb 1;have z2:=Zkf hb 2;clear hb
   cases s0_2 with
   | true=>
    rw [if_pos rfl] at H;clear hlq;replace H:=sp_ H;rcases H with ⟨c9,H⟩|⟨c9,H⟩
    · have c9b:(x == s0_1)=false:=beq_eq_false_iff_ne.mpr c9;have HW:=Zm (eta _ _ H);clear H;go_wp2;go_quiet (fail);go_wp2_with (first|((with_reducible refine gate_callee (f:=77) rfl ?_);refine goesL_ (some 68) rfl rfl Try.func77 (by kernel_rfl) rfl #[.pointer (some ⟨g,0,none⟩),.int .u8 59] rfl (by (try simp only [List.map_toArray,List.map_cons,List.map_nil]);first|done|rfl) ?_;(with_reducible refine (impl_reader_want.calls g s0_0 x true 59 r1 r2 r3 w0 _ ?side1 ?side2 HW.out).mono ?_);(case side1=>exact sS91_);(case side2=>(with_reducible repeat (first|exact HB.out|apply Zbn|apply Zbd|refine Zbs ?_ hg)));rintro e w5 ⟨rfl,hi,hb,hk⟩;refine ⟨_,rfl,?_⟩;have HI2:=Zm hi;have HB2:=Zm hb;have HK2:=Zm (KeepBut.trans (by (with_reducible repeat (first|exact HK.out|apply KeepBut.set_|apply keep_drewN|apply keep_drew))) hk (.inl rfl));clear hi hb hk))
      first|go_end0|((try simp only [Exit.inBlock,Exit.then]);refine bodyPost_ret (results_none rfl _ _ _) rfl ?_)
      exact ⟨rfl,HI2.out,HB2.out,HK2.out⟩
    have c9b:(x == s0_1)=true:=beq_iff_eq.mpr c9;have HW:=Zm (eta _ _ H);clear H c9;go_wp2;go_quiet (fail);go_wp2_with (first|((with_reducible refine gate_callee (f:=77) rfl ?_);refine goesL_ (some 68) rfl rfl Try.func77 (by kernel_rfl) rfl #[.pointer (some ⟨g,0,none⟩),.int .u8 59] rfl (by (try simp only [List.map_toArray,List.map_cons,List.map_nil]);first|done|rfl) ?_;(with_reducible refine (impl_reader_want.calls g s0_0 x true 59 r1 r2 r3 w0 _ ?side1 ?side2 HW.out).mono ?_);(case side1=>exact sS91_);(case side2=>(with_reducible repeat (first|exact HB.out|apply Zbn|apply Zbd|refine Zbs ?_ hg)));rintro e w5 ⟨rfl,hi,hb,hk⟩;refine ⟨_,rfl,?_⟩;have HI2:=Zm hi;have HB2:=Zm hb;have HK2:=Zm (KeepBut.trans (by (with_reducible repeat (first|exact HK.out|apply KeepBut.set_|apply keep_drewN|apply keep_drew))) hk (.inl rfl));clear hi hb hk))
    first|go_end0|((try simp only [Exit.inBlock,Exit.then]);refine bodyPost_ret (results_none rfl _ _ _) rfl ?_)
    exact ⟨rfl,HI2.out,HB2.out,HK2.out⟩
   | false=>
    rw [if_neg (by simp)] at H;replace H:=sp_ H;rcases H with ⟨c1,H⟩|⟨c1,H⟩
    · have c1b:decide (x < (s0_0.size:Int))=false:=decide_eq_false c1;clear c1;replace H:=sp_ H;rcases H with ⟨c9,H⟩|⟨c9,H⟩
      · have c9b:(x == s0_1)=false:=beq_eq_false_iff_ne.mpr c9;have HW:=Zm (eta _ _ H);clear H;go_wp2;go_quiet ((go_at_call 43;exact hlq _ _));go_wp2_with (first|((with_reducible refine gate_callee (f:=77) rfl ?_);refine goesL_ (some 68) rfl rfl Try.func77 (by kernel_rfl) rfl #[.pointer (some ⟨g,0,none⟩),.int .u8 59] rfl (by (try simp only [List.map_toArray,List.map_cons,List.map_nil]);first|done|rfl) ?_;(with_reducible refine (impl_reader_want.calls g s0_0 x false 59 r1 r2 r3 w0 _ ?side1 ?side2 HW.out).mono ?_);(case side1=>exact sS91_);(case side2=>(with_reducible repeat (first|exact HB.out|apply Zbn|apply Zbd|refine Zbs ?_ hg)));rintro e w5 ⟨rfl,hi,hb,hk⟩;refine ⟨_,rfl,?_⟩;have HI2:=Zm hi;have HB2:=Zm hb;have HK2:=Zm (KeepBut.trans (by (with_reducible repeat (first|exact HK.out|apply KeepBut.set_|apply keep_drewN|apply keep_drew))) hk (.inl rfl));clear hi hb hk))
        first|go_end0|((try simp only [Exit.inBlock,Exit.then]);refine bodyPost_ret (results_none rfl _ _ _) rfl ?_)
        exact ⟨rfl,HI2.out,HB2.out,HK2.out⟩
      have c9b:(x == s0_1)=true:=beq_iff_eq.mpr c9;have HW:=Zm (eta _ _ H);clear H c9;go_wp2;go_quiet ((go_at_call 43;exact hlq _ _));go_wp2_with (first|((with_reducible refine gate_callee (f:=77) rfl ?_);refine goesL_ (some 68) rfl rfl Try.func77 (by kernel_rfl) rfl #[.pointer (some ⟨g,0,none⟩),.int .u8 59] rfl (by (try simp only [List.map_toArray,List.map_cons,List.map_nil]);first|done|rfl) ?_;(with_reducible refine (impl_reader_want.calls g s0_0 x true 59 r1 r2 r3 w0 _ ?side1 ?side2 HW.out).mono ?_);(case side1=>exact sS91_);(case side2=>(with_reducible repeat (first|exact HB.out|apply Zbn|apply Zbd|refine Zbs ?_ hg)));rintro e w5 ⟨rfl,hi,hb,hk⟩;refine ⟨_,rfl,?_⟩;have HI2:=Zm hi;have HB2:=Zm hb;have HK2:=Zm (KeepBut.trans (by (with_reducible repeat (first|exact HK.out|apply KeepBut.set_|apply keep_drewN|apply keep_drew))) hk (.inl rfl));clear hi hb hk))
      first|go_end0|((try simp only [Exit.inBlock,Exit.then]);refine bodyPost_ret (results_none rfl _ _ _) rfl ?_)
      exact ⟨rfl,HI2.out,HB2.out,HK2.out⟩
    have c1b:decide (x < (s0_0.size:Int))=true:=decide_eq_true c1;replace H:=sp_ H;rcases H with ⟨c2,H⟩|⟨c2,H⟩
    · have c2b:decide (x < wrap64 (s0_1+20))=false:=decide_eq_false c2;have c2c:decide (x < IntKind.i64.wrap (s0_1+20))=false:=by rw [i64_w];exact c2b
      clear c1 c2;replace H:=sp_ H;rcases H with ⟨c9,H⟩|⟨c9,H⟩
      · have c9b:(x == s0_1)=false:=beq_eq_false_iff_ne.mpr c9;have HW:=Zm (eta _ _ H);clear H;go_wp2;go_quiet ((go_at_call 43;exact hlq _ _));go_wp2_with (first|((with_reducible refine gate_callee (f:=77) rfl ?_);refine goesL_ (some 68) rfl rfl Try.func77 (by kernel_rfl) rfl #[.pointer (some ⟨g,0,none⟩),.int .u8 59] rfl (by (try simp only [List.map_toArray,List.map_cons,List.map_nil]);first|done|rfl) ?_;(with_reducible refine (impl_reader_want.calls g s0_0 x false 59 r1 r2 r3 w0 _ ?side1 ?side2 HW.out).mono ?_);(case side1=>exact sS91_);(case side2=>(with_reducible repeat (first|exact HB.out|apply Zbn|apply Zbd|refine Zbs ?_ hg)));rintro e w5 ⟨rfl,hi,hb,hk⟩;refine ⟨_,rfl,?_⟩;have HI2:=Zm hi;have HB2:=Zm hb;have HK2:=Zm (KeepBut.trans (by (with_reducible repeat (first|exact HK.out|apply KeepBut.set_|apply keep_drewN|apply keep_drew))) hk (.inl rfl));clear hi hb hk))
        first|go_end0|((try simp only [Exit.inBlock,Exit.then]);refine bodyPost_ret (results_none rfl _ _ _) rfl ?_)
        exact ⟨rfl,HI2.out,HB2.out,HK2.out⟩
      have c9b:(x == s0_1)=true:=beq_iff_eq.mpr c9;have HW:=Zm (eta _ _ H);clear H c9;go_wp2;go_quiet ((go_at_call 43;exact hlq _ _));go_wp2_with (first|((with_reducible refine gate_callee (f:=77) rfl ?_);refine goesL_ (some 68) rfl rfl Try.func77 (by kernel_rfl) rfl #[.pointer (some ⟨g,0,none⟩),.int .u8 59] rfl (by (try simp only [List.map_toArray,List.map_cons,List.map_nil]);first|done|rfl) ?_;(with_reducible refine (impl_reader_want.calls g s0_0 x true 59 r1 r2 r3 w0 _ ?side1 ?side2 HW.out).mono ?_);(case side1=>exact sS91_);(case side2=>(with_reducible repeat (first|exact HB.out|apply Zbn|apply Zbd|refine Zbs ?_ hg)));rintro e w5 ⟨rfl,hi,hb,hk⟩;refine ⟨_,rfl,?_⟩;have HI2:=Zm hi;have HB2:=Zm hb;have HK2:=Zm (KeepBut.trans (by (with_reducible repeat (first|exact HK.out|apply KeepBut.set_|apply keep_drewN|apply keep_drew))) hk (.inl rfl));clear hi hb hk))
      first|go_end0|((try simp only [Exit.inBlock,Exit.then]);refine bodyPost_ret (results_none rfl _ _ _) rfl ?_)
      exact ⟨rfl,HI2.out,HB2.out,HK2.out⟩
    have c2b:decide (x < wrap64 (s0_1+20))=true:=decide_eq_true c2;have c2c:decide (x < IntKind.i64.wrap (s0_1+20))=true:=by rw [i64_w];exact c2b
    by_cases c3:0≤x;rotate_left
    · rw [if_neg c3] at H;exact absurd H (by simp)
    rw [if_pos c3,if_pos c1] at H;have c3b:decide (0≤x)=true:=decide_eq_true c3;obtain ⟨t,ht,H⟩:=Option.bind_eq_some_iff.mp H;have hbt:=bt_at s0_0 x
    have hnq:∀ (W:World) (n:Nat),Calls Try.prog 41 #[.int .u8 (bt s0_0 x),.int .i64 (wrap64 (x - s0_1))] (W.drewN n) fun e w''=>e=.returned (.bool t)∧∃ m,w''=W.drewN m:=fun W n=>by
     exact Calls.quiet_of ((impl_isNameByte.calls (bt s0_0 x) (wrap64 (x - s0_1)) t (W.drewN n) ht).mono fun e W' ⟨he,⟨m,hm⟩⟩=>⟨he,m,hm⟩)
    clear ht c2
    cases t with
    | true=>
     rw [if_pos rfl] at H;have H':=Zm H;clear H;go_wp2;go_quiet (first|(go_at_call 43;exact hlq _ _)|(go_at_call 41;with_reducible exact hnq _ _));go_wp2;go_roundg k1
     case measure=>have:=HK1.out;omega
     case rel=>exact ⟨wrap64 (x+1),H',⟨by have:=HK1.out;omega⟩,⟨by exact sS91_⟩,⟨by (with_reducible repeat (first|exact HB.out|apply Zbn|apply Zbd|refine Zbs ?_ hg))⟩,⟨by (with_reducible repeat (first|exact HK.out|apply KeepBut.set_|apply keep_drewN|apply keep_drew))⟩⟩
    | false=>
     rw [if_neg (by simp)] at H;replace H:=sp_ H;rcases H with ⟨c9,H⟩|⟨c9,H⟩
     · have c9b:(x == s0_1)=false:=beq_eq_false_iff_ne.mpr c9;have HW:=Zm (eta _ _ H);clear H;go_wp2;go_quiet (first|(go_at_call 43;exact hlq _ _)|(go_at_call 41;with_reducible exact hnq _ _));go_wp2_with (first|((with_reducible refine gate_callee (f:=77) rfl ?_);refine goesL_ (some 68) rfl rfl Try.func77 (by kernel_rfl) rfl #[.pointer (some ⟨g,0,none⟩),.int .u8 59] rfl (by (try simp only [List.map_toArray,List.map_cons,List.map_nil]);first|done|rfl) ?_;(with_reducible refine (impl_reader_want.calls g s0_0 x false 59 r1 r2 r3 w0 _ ?side1 ?side2 HW.out).mono ?_);(case side1=>exact sS91_);(case side2=>(with_reducible repeat (first|exact HB.out|apply Zbn|apply Zbd|refine Zbs ?_ hg)));rintro e w5 ⟨rfl,hi,hb,hk⟩;refine ⟨_,rfl,?_⟩;have HI2:=Zm hi;have HB2:=Zm hb;have HK2:=Zm (KeepBut.trans (by (with_reducible repeat (first|exact HK.out|apply KeepBut.set_|apply keep_drewN|apply keep_drew))) hk (.inl rfl));clear hi hb hk))
       first|go_end0|((try simp only [Exit.inBlock,Exit.then]);refine bodyPost_ret (results_none rfl _ _ _) rfl ?_)
       exact ⟨rfl,HI2.out,HB2.out,HK2.out⟩
     have c9b:(x == s0_1)=true:=beq_iff_eq.mpr c9;have HW:=Zm (eta _ _ H);clear H c9;go_wp2;go_quiet (first|(go_at_call 43;exact hlq _ _)|(go_at_call 41;with_reducible exact hnq _ _));go_wp2_with (first|((with_reducible refine gate_callee (f:=77) rfl ?_);refine goesL_ (some 68) rfl rfl Try.func77 (by kernel_rfl) rfl #[.pointer (some ⟨g,0,none⟩),.int .u8 59] rfl (by (try simp only [List.map_toArray,List.map_cons,List.map_nil]);first|done|rfl) ?_;(with_reducible refine (impl_reader_want.calls g s0_0 x true 59 r1 r2 r3 w0 _ ?side1 ?side2 HW.out).mono ?_);(case side1=>exact sS91_);(case side2=>(with_reducible repeat (first|exact HB.out|apply Zbn|apply Zbd|refine Zbs ?_ hg)));rintro e w5 ⟨rfl,hi,hb,hk⟩;refine ⟨_,rfl,?_⟩;have HI2:=Zm hi;have HB2:=Zm hb;have HK2:=Zm (KeepBut.trans (by (with_reducible repeat (first|exact HK.out|apply KeepBut.set_|apply keep_drewN|apply keep_drew))) hk (.inl rfl));clear hi hb hk))
     first|go_end0|((try simp only [Exit.inBlock,Exit.then]);refine bodyPost_ret (results_none rfl _ _ _) rfl ?_)
     exact ⟨rfl,HI2.out,HB2.out,HK2.out⟩
end Go.Proofs.Ythleflpkeigboaa.PFnPool
