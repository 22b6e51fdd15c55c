/- Functions of the program as plain Lean functions, each with a proof that the program's call comes to the same; no condition. Written by a program of this session. -/
import Derived.Test.YthleflpkeigboaaPFnPoolx0
import Derived.Test.YthleflpkeigboaaPFnPoolx3
namespace Go.Proofs.Ythleflpkeigboaa.PFnPool
open Go.RowKit Go.Proofs.YthleflpkeigboaaW.PrintWords Go.Proofs.YthleflpkeigboaaW.PrintLast Go.Proofs.YthleflpkeigboaaW.PrintMore
open Go.Proofs.YthleflpkeigboaaW.PrintWords renaming below_size→Zbz,below_step→Zbt,blk_frozen→Zkf
open Go.Proofs.YthleflpkeigboaaW.PrintWords.Aside0 renaming mk→Zm
attribute [local go_sem] max2_int min2_int max_two min_two max_three min_three max_four min_four   -- for this text's walks alone
set_option maxHeartbeats 8000000
set_option maxRecDepth 100000
set_option linter.unusedVariables false
set_option linter.unusedSimpArgs false
def spec_l01Split.l0:Nat→ByteArray→Int→List ByteArray→Int→Int→Option (List ByteArray)
 | 0,_,_,_,_,_=>none
 | k+1,x0,x1,x5,x6,x7=>if x7 < (x0.size:Int) then (if 0≤x7 then (if (bt x0 x7)=x1 then (if 0≤x6 then (if x6≤x7 then (if x7≤(x0.size:Int) then (if x5.length < 8796093022208 then (spec_l01Split.l0 k x0 x1 (x5++[x0.extract (x6:Int).toNat (x7:Int).toNat]) (wrap64 (x7+1)) (wrap64 (x7+1))) else (none)) else (none)) else (none)) else (none)) else (spec_l01Split.l0 k x0 x1 x5 x6 (wrap64 (x7+1)))) else (none)) else (if 0≤x6 then (if x6≤(x0.size:Int) then (if x5.length < 8796093022208 then (some (x5++[x0.extract (x6:Int).toNat x0.size])) else (none)) else (none)) else (none))
def spec_l01Split.f (k:Nat) (a0:ByteArray) (a1:Int):Option (List ByteArray):=spec_l01Split.l0 k a0 a1 (([]:List ByteArray)) 0 0
theorem spec_l01Split.mono_l:∀ k,(∀ y0 y1 y2 y3 y4,LeO (spec_l01Split.l0 k y0 y1 y2 y3 y4) (spec_l01Split.l0 (k+1) y0 y1 y2 y3 y4))
 | 0=>by intros;intro r h;simp [spec_l01Split.l0] at h
 | k+1=>by
  have ih0:=spec_l01Split.mono_l k;intros;unfold spec_l01Split.l0;exact mo_
theorem spec_l01Split.mono:∀ a0 a1 k,LeO (spec_l01Split.f k a0 a1) (spec_l01Split.f (k+1) a0 a1):=by
 intro a0 a1 k;have ih0:=spec_l01Split.mono_l k;unfold spec_l01Split.f;exact mo_
theorem spec_l01Split.calls (k:Nat) (a0:ByteArray) (a1:Int) (r:List ByteArray) (w:World) (h:spec_l01Split.f k a0 a1=some r):
 Calls Try.prog 62 #[.string a0,.int .u8 a1] w fun e w'=>∃ v0_:Value,e=.returned (v0_)∧Kd.R Kd.string 9 w' w.heap.size (fun _=>True) v0_ r∧Below w.heap.size w w':=by
 have HB:=Zm (Below.refl w.heap.size w);have H:=h;clear h;unfold spec_l01Split.f at H;obtain ⟨y164,hy_⟩:∃ y_:List ByteArray,y_=(([]:List ByteArray)):=⟨_,rfl⟩;replace H:(spec_l01Split.l0 k a0 a1 y164 0 0)=some r:=ry_
 have Ny164:=Zm hy_;clear hy_;have H':=Zm H;clear H;go_enter Try.func62,Try.ntmps62;go_wp2_with (first|((with_reducible refine gate_dst (N:=8) rfl ?_);refine Kd.R_lit Kd.string _ 9 ?hg (N:=8) ?hd (xs:=([]:List ByteArray)) (inner:=[]) (ok:=fun _=>True) (okp:=fun _=>True) ?hr ?hp (fun _ hk=>hk) trivial (Below.refl _ _) (Nat.le_refl _) (by simp) ?_;(case hd=>rfl);(case hg=>rfl);(case hr=>exact gs_);(case hp=>exact (Reps.none _ _));intro v165 w3 ho4 hb hg_ hnew_;clear hg_ hnew_;(first|rw [← Ny164.out] at ho4|(simp only [Int.reduceToNat] at ho4;rw [← Ny164.out] at ho4));have HO166:=Zm (Kd.R_lower ho4 (Zbz (bk HB.out)));replace HB:=bt_ HB hb;clear hb ho4));go_loopg [5,6,7] k (fun kq v5 v6 v7 w'=>∃ (x5_1:List ByteArray) (x6_1:Int) (x7_1:Int),v6=.int .i64 x6_1∧v7=.int .i64 x7_1∧Aside0 (spec_l01Split.l0 kq a0 a1 x5_1 x6_1 x7_1=some r)∧Aside0 (kq≤k)∧Aside0 (Kd.R Kd.string 9 w' w.heap.size (fun _=>True) v5 x5_1)∧Aside0 (Below w.heap.size w w'))
 case atStart=>exact ⟨(y164),(0),(0),s1_,s1_,H',⟨Nat.le_refl _⟩,⟨pr HO166.out⟩,⟨bk HB.out⟩⟩
 case round=>
  clear H';obtain ⟨x5_1,x6_1,x7_1,rfl,rfl,HA,HK1,HO_5,HB⟩:=hrel
  cases gk with
  | zero=>exact absurd HA.out (by simp [spec_l01Split.l0])
  | succ k1=>
   have H:=HA.out;clear HA;simp only [spec_l01Split.l0] at H;replace H:=sd_ H;rcases H with ⟨c5b0,H⟩|⟨c5b0,H⟩
   · replace H:=sn_ H;obtain ⟨c14,H⟩:=H;have c14b0:=eq_true c14;have c14b1:=decide_eq_true c14;clear c14;replace H:=sn_ H;obtain ⟨c15,H⟩:=H;have c15b0:=eq_true c15;have c15b1:=decide_eq_true c15;clear c15;replace H:=sn_ H;obtain ⟨c16,H⟩:=H;have LMc16:=Zm c16;clear c16;obtain ⟨y170,hy_⟩:∃ y_:List ByteArray,y_=(x5_1++[a0.extract (x6_1:Int).toNat a0.size]):=⟨_,rfl⟩;replace H:(some y170)=some r:=ry_
     have Ny170:=Zm hy_;clear hy_;obtain rfl:=Option.some.inj H;go_wp2_with (first|((with_reducible refine gate_builtin (b:=.append) (xs:=#[.tmp 29,.tmp 33]) rfl ?_);at_builtin;refine Kd.R_append Kd.string (w0:=w) w.heap.size rfl (.tmp 29) (.tmp 33) 28 9 (.string ⟨#[]⟩) 16 rfl Try.underlying28 info9 rfl (by decide) (by omega) u5 x5_1 (a0.extract (x6_1:Int).toNat a0.size) [.string (a0.extract (x6_1:Int).toNat a0.size)] (fun _=>True) (fun _=>False) rfl rfl ?aP (fun _ hk=>hk.elim) ?aF ?aO ?aB ?aS ?aL ?_;(case aP=>exact rfl);(case aB=>exact (bk HB.out));(case aF=>exact (fun _ _=>trivial));(case aO=>exact (pr HO_5.out));(case aS=>exact (Zbz (bk HB.out)));(case aL=>have:=LMc16.out;omega);intro v171 w17 ho hb hg hat;rw [← Ny170.out] at ho;have n0_:=(⟨Zm hb,Zm ho⟩:_∧_);clear HB HO_5;obtain ⟨HB,HO172⟩:=n0_;clear ho hb hg hat));go_ret;exact ⟨_,s2_,pr HO172.out,bk HB.out⟩
   replace H:=snd_ H;obtain ⟨c6b0,H⟩:=H;replace H:=se_ H;rcases H with ⟨c8,c8b0,c8b1,H⟩|⟨c8,c8b0,c8b1,H⟩
   · have H':=Zm H;clear H;have p7:0≤(x7_1:Int):=da_;have q7:x7_1 < (a0.size:Int):=da_;have hx7:=bt_at a0 x7_1;replace p7:=eq_true p7;replace q7:=eq_true q7;go_wp2;go_roundg k1
     case measure=>have:=HK1.out;omega
     case rel=>exact ⟨(x5_1),(x6_1),(wrap64 (x7_1+1)),s1_,s1_,H',⟨by have:=HK1.out;omega⟩,⟨pr HO_5.out⟩,⟨bk HB.out⟩⟩
   clear c8;replace H:=sn_ H;obtain ⟨c9,H⟩:=H;have c9b0:=eq_true c9;have c9b1:=decide_eq_true c9;clear c9;replace H:=sn_ H;obtain ⟨c10,H⟩:=H;have c10b0:=eq_true c10;have c10b1:=decide_eq_true c10;clear c10;replace H:=sn_ H;obtain ⟨c11,H⟩:=H;have c11b0:=eq_true c11;have c11b1:=decide_eq_true c11;clear c11;replace H:=sn_ H;obtain ⟨c12,H⟩:=H;have LMc12:=Zm c12;clear c12;obtain ⟨y167,hy_⟩:∃ y_:List ByteArray,y_=(x5_1++[a0.extract (x6_1:Int).toNat (x7_1:Int).toNat]):=⟨_,rfl⟩;replace H:(spec_l01Split.l0 k1 a0 a1 y167 (wrap64 (x7_1+1)) (wrap64 (x7_1+1)))=some r:=ry_
   have Ny167:=Zm hy_;clear hy_;have H':=Zm H;clear H;have p7:0≤(x7_1:Int):=da_;have q7:x7_1 < (a0.size:Int):=da_;have hx7:=bt_at a0 x7_1;replace p7:=eq_true p7;replace q7:=eq_true q7;go_wp2_with (first|((with_reducible refine gate_builtin (b:=.append) (xs:=#[.tmp 20,.tmp 25]) rfl ?_);at_builtin;refine Kd.R_append Kd.string (w0:=w) w.heap.size rfl (.tmp 20) (.tmp 25) 28 9 (.string ⟨#[]⟩) 16 rfl Try.underlying28 info9 rfl (by decide) (by omega) u5 x5_1 (a0.extract (x6_1:Int).toNat (x7_1:Int).toNat) [.string (a0.extract (x6_1:Int).toNat (x7_1:Int).toNat)] (fun _=>True) (fun _=>False) rfl rfl ?aP (fun _ hk=>hk.elim) ?aF ?aO ?aB ?aS ?aL ?_;(case aP=>exact rfl);(case aB=>exact (bk HB.out));(case aF=>exact (fun _ _=>trivial));(case aO=>exact (pr HO_5.out));(case aS=>exact (Zbz (bk HB.out)));(case aL=>have:=LMc12.out;omega);intro v168 w13 ho hb hg hat;rw [← Ny167.out] at ho;have n0_:=(⟨Zm hb,Zm ho⟩:_∧_);clear HB HO_5;obtain ⟨HB,HO169⟩:=n0_;clear ho hb hg hat));go_roundg k1
   case measure=>have:=HK1.out;omega
   case rel=>exact ⟨(y167),(wrap64 (x7_1+1)),(wrap64 (x7_1+1)),s1_,s1_,H',⟨by have:=HK1.out;omega⟩,⟨pr HO169.out⟩,⟨bk HB.out⟩⟩
def spec_OpForm.j0:Nat→Int→List ByteArray→Bool→Option (ByteArray)
 | 0,_,_,_=>none
 | k+1,x0,x3,x13=>if x13=true then (some (⟨#[33]⟩:ByteArray)) else (if 0≤x0 then (if x0 < (x3.length:Int) then ((spec_l01Split.f k (rdOf ByteArray.empty x3 x0) 32).bind fun t177=>(if (t177.length:Int)=2 then (if 1 < (t177.length:Int) then (some (rdOf ByteArray.empty t177 1)) else (none)) else (some (⟨#[]⟩:ByteArray)))) else (none)) else (none))
def spec_OpForm.f (k:Nat) (a0:Int):Option (ByteArray):=(spec_l03Ops.f).bind fun t173=>(if a0 < 1 then (spec_OpForm.j0 k a0 t173 true) else (spec_OpForm.j0 k a0 t173 (decide (a0 ≥ (t173.length:Int)))))
theorem spec_OpForm.mono_l:∀ k,(∀ y0 y1 y2,LeO (spec_OpForm.j0 k y0 y1 y2) (spec_OpForm.j0 (k+1) y0 y1 y2))
 | 0=>by intros;intro r h;simp [spec_OpForm.j0] at h
 | k+1=>by
  have ih0:=spec_OpForm.mono_l k;have m0:=@spec_l01Split.mono;intros;unfold spec_OpForm.j0;exact mo_
theorem spec_OpForm.mono:∀ a0 k,LeO (spec_OpForm.f k a0) (spec_OpForm.f (k+1) a0):=by
 intro a0 k;have ih0:=spec_OpForm.mono_l k;unfold spec_OpForm.f;have m0:=@spec_l01Split.mono;exact mo_
theorem spec_OpForm.calls (k:Nat) (a0:Int) (r:ByteArray) (w:World) (h:spec_OpForm.f k a0=some r):
 Calls Try.prog 37 #[.int .i64 a0] w fun e w'=>e=.returned (.string r)∧Below w.heap.size w w':=by
 have HB:=Zm (Below.refl w.heap.size w);have H:=h;clear h;unfold spec_OpForm.f at H;replace H:=sq_ H;obtain ⟨t173,A2,H⟩:=H;have HC3:=Zm H;clear H;go_enter Try.func37,Try.ntmps37;go_upto_region 2 with (first|((with_reducible refine gate_callee (f:=61) rfl ?_);refine ge_ (some 5) Try.func61 #[] ?_;(with_reducible refine (spec_l03Ops.calls _ _ A2.out).mono ?_);rintro e w4 ⟨v174,rfl,ho0,hb⟩;refine ⟨_,rfl,?_⟩;have HO175:=Zm (Kd.R_lower ho0 (Zbz (bk HB.out)));replace HB:=bt_ HB hb;clear hb ho0));(try simp only [Act.put,List.setIfInBounds_toArray,List.set_cons_zero,List.set_cons_succ]);go_cut [13] (fun v13 wc=>∃ (kq:Nat) (x13_2:Bool),v13=.bool x13_2∧Aside0 (spec_OpForm.j0 kq a0 t173 x13_2=some r)∧Aside0 (kq≤k)∧Aside0 (Kd.R Kd.string 9 wc w.heap.size (fun _=>True) v174 t173)∧Aside0 (Below w.heap.size w wc))
 case first=>
  have H:=HC3.out;clear HC3;replace H:=sd_ H;rcases H with ⟨c5b0,H⟩|⟨c5b0,H⟩
  · (first|rw [c5b0]|(simp only [i64_w,i32_w];rw [c5b0])|skip);have H':=Zm H;clear H;obtain ⟨Ao6,co6,eo6⟩:=Kd.R_slice HO175.out;subst eo6;go_wp2;go_meet
    case rel=>exact ⟨_,(decide (a0 ≥ (t173.length:Int))),s1_,H',⟨o1_⟩,⟨pr HO175.out⟩,⟨bk HB.out⟩⟩
  (first|rw [c5b0]|(simp only [i64_w,i32_w];rw [c5b0])|skip);have H':=Zm H;clear H;go_wp2;go_meet
  case rel=>exact ⟨_,(true),s1_,H',⟨o1_⟩,⟨pr HO175.out⟩,⟨bk HB.out⟩⟩
 case rest=>
  clear HC3;obtain ⟨kq,x13_2,rfl,HA,HJ2,HO_3,HB⟩:=hcut
  cases kq with
  | zero=>exact absurd HA.out (by simp [spec_OpForm.j0])
  | succ kj2=>
   have H:=HA.out;clear HA;simp only [spec_OpForm.j0] at H;replace H:=sb_ H;rcases H with ⟨rfl,H⟩|⟨rfl,H⟩
   · replace H:=snd_ H;obtain ⟨c8b0,H⟩:=H;replace H:=snd_ H;obtain ⟨c9b0,H⟩:=H;replace H:=sq_ H;obtain ⟨t177,A10,H⟩:=H;have HC11:=Zm H;clear H;obtain ⟨Ao12,co12,eo12⟩:=Kd.R_slice HO_3.out;subst eo12;have p176:0≤(a0:Int):=da_;have q176:a0 < (t173.length:Int):=da_;obtain ⟨ad176,e176,hx176_0⟩:=Kd.at_string (Kd.R_reads' HO_3.out).2.2 a0 p176 q176;cases e176;replace p176:=eq_true p176;replace q176:=eq_true q176;(try clear HO_3);go_upto_if 21 with (first|((with_reducible refine gate_callee (f:=62) rfl ?_);refine ge_ (some 18) Try.func62 #[.string (rdOf ByteArray.empty t173 a0),.int .u8 32] ?_;(with_reducible refine (spec_l01Split.calls _ _ _ _ _ A10.out).mono ?_);rintro e w13 ⟨v178,rfl,ho0,hb⟩;refine ⟨_,rfl,?_⟩;have HO179:=Zm (Kd.R_lower ho0 (Zbz (bk HB.out)));replace HB:=bt_ HB hb;clear hb ho0;obtain ⟨Ao14,co14,eo14⟩:=Kd.R_slice HO179.out;subst eo14));have H:=HC11.out;clear HC11;replace H:=se_ H;rcases H with ⟨c15,c15b0,c15b1,H⟩|⟨c15,c15b0,c15b1,H⟩
     · (first|rw [c15b0]|(simp only [i64_w,i32_w];rw [c15b0])|rw [c15b1]|skip);obtain rfl:=Option.some.inj H;go_wp2;go_ret;exact fin_ HB
     clear c15;(first|rw [c15b0]|(simp only [i64_w,i32_w];rw [c15b0])|rw [c15b1]|skip);replace H:=sn_ H;obtain ⟨c16,H⟩:=H;have c16b0:=decide_eq_true c16;have c16b1:decide (1 < t177.length)=true:=decide_eq_true (by omega);clear c16;obtain rfl:=Option.some.inj H;have p180:0≤(1:Int):=(by omega);have q180:1 < (t177.length:Int):=da_;obtain ⟨ad180,e180,hx180_0⟩:=Kd.at_string (Kd.R_reads' HO179.out).2.2 1 p180 q180;cases e180;(try simp only [show (1:Int).toNat=1 from rfl,Nat.reduceMul,Nat.reduceEqDiff,Go.Addr.add,↓reduceIte] at hx180_0);have qi180:(1 < t177.length)=True:=eq_true (by omega);(try rw [show ((1:Int)).toNat=1 from rfl] at hx180_0);replace p180:=eq_true p180;replace q180:=eq_true q180;go_wp2;go_ret;exact fin_ HB
   obtain rfl:=Option.some.inj H;go_wp2;go_ret;exact fin_ HB
def spec_l03Empty.f (a0_0:Int) (a0_1:Int) (a0_2:ByteArray) (a0_3:ByteArray) (a0_4:ByteArray):Option (Bool):=if a0_2.toList=([]:List UInt8) then (if a0_3.toList=([]:List UInt8) then (some (a0_4.toList == ([]:List UInt8))) else (some false)) else (some false)
theorem spec_l03Empty.calls (a0_0:Int) (a0_1:Int) (a0_2:ByteArray) (a0_3:ByteArray) (a0_4:ByteArray) (r:Bool) (w:World) (h:spec_l03Empty.f a0_0 a0_1 a0_2 a0_3 a0_4=some r):
 Calls Try.prog 59 #[.agg #[.int .i64 a0_0,.int .i64 a0_1,.string a0_2,.string a0_3,.string a0_4]] w fun e w'=>e=.returned (.bool r)∧Below w.heap.size w w':=by
 have hu77:=Try.underlying77;have HB:=Zm (Below.refl w.heap.size w);have H:=h;clear h;unfold spec_l03Empty.f at H;replace H:=se_ H;rcases H with ⟨c2,c2b0,c2b1,H⟩|⟨c2,c2b0,c2b1,H⟩
 · obtain rfl:=Option.some.inj H;go_enter Try.func59,Try.ntmps59;go_wp2_with (first|((with_reducible refine gate_dst (N:=1) rfl ?_);refine bx_ 1 77 #[.int .i64 a0_0,.int .i64 a0_1,.string a0_2,.string a0_3,.string a0_4] ?_;intro gb181 hg w8 hbox hb;have BK181:=Zm hbox;have GW181:=bz HB hg;have GE181:=bz HB hg;replace HB:=bt_ HB hb;clear hb hbox hg;have hcz9:=cz5 BK181.out;have hfz9_4:=Zkf BK181.out 4));go_ret;exact fin_ HB
 clear c2;replace H:=se_ H;rcases H with ⟨c3,c3b0,c3b1,H⟩|⟨c3,c3b0,c3b1,H⟩
 · obtain rfl:=Option.some.inj H;go_enter Try.func59,Try.ntmps59;go_wp2_with (first|((with_reducible refine gate_dst (N:=1) rfl ?_);refine bx_ 1 77 #[.int .i64 a0_0,.int .i64 a0_1,.string a0_2,.string a0_3,.string a0_4] ?_;intro gb181 hg w6 hbox hb;have BK181:=Zm hbox;have GW181:=bz HB hg;have GE181:=bz HB hg;replace HB:=bt_ HB hb;clear hb hbox hg;have hcz7:=cz5 BK181.out;have hfz7_4:=Zkf BK181.out 4));go_ret;exact fin_ HB
 clear c3;obtain rfl:=Option.some.inj H;go_enter Try.func59,Try.ntmps59;go_wp2_with (first|((with_reducible refine gate_dst (N:=1) rfl ?_);refine bx_ 1 77 #[.int .i64 a0_0,.int .i64 a0_1,.string a0_2,.string a0_3,.string a0_4] ?_;intro gb181 hg w4 hbox hb;have BK181:=Zm hbox;have GW181:=bz HB hg;have GE181:=bz HB hg;replace HB:=bt_ HB hb;clear hb hbox hg;have hcz5:=cz5 BK181.out;have hfz5_4:=Zkf BK181.out 4));go_ret;exact fin_ HB
def spec_l01Int.f (a0:Int):Option (Bool):=if a0 ≥ (-2147483648) then (some (decide (a0≤2147483647))) else (some false)
theorem spec_l01Int.calls (a0:Int) (r:Bool) (w:World) (h:spec_l01Int.f a0=some r):
 Calls Try.prog 60 #[.int .i64 a0] w fun e w'=>e=.returned (.bool r)∧Drawn0 w w':=by
 have H:=h;clear h;unfold spec_l01Int.f at H;replace H:=sp_ H;rcases H with ⟨c2,H⟩|⟨c2,H⟩
 · have c2b0:decide ((-2147483648)≤a0)=false:=decide_eq_false c2;clear c2;obtain rfl:=Option.some.inj H;go_enter Try.func60,Try.ntmps60;go_wp2;go_ret;exact fd_
 have c2b0:decide ((-2147483648)≤a0)=true:=decide_eq_true c2;clear c2;obtain rfl:=Option.some.inj H;go_enter Try.func60,Try.ntmps60;go_wp2;go_ret;exact fd_
end Go.Proofs.Ythleflpkeigboaa.PFnPool
