/- Functions of the program as plain Lean functions, each with a proof that the program's call comes to the same; no condition. Written by a program of this session. -/
import Derived.Test.YtkbebmifpccofaaGreatPFnClassCutx0
import Derived.Test.YtkbebmifpccofaaGreatPFnClassCutx1
import Derived.Test.YtkbebmifpccofaaGreatPFnClassCutx4
import Derived.Test.YtkbebmifpccofaaGreatPFnClassCutx5
namespace Go.Proofs.YtkbebmifpccofaaGreat.PFnClassCut
open Go.RowKit Go.Proofs.YtkbebmifpccofaaGreatW.PrintWords Go.Proofs.YtkbebmifpccofaaGreatW.PrintLast Go.Proofs.YtkbebmifpccofaaGreatW.PrintMore
open Go.Proofs.YtkbebmifpccofaaGreatW.PrintWords renaming below_size→Zbz,below_step→Zbt,blk_frozen→Zkf,blk_below→Zkb
open Go.Proofs.YtkbebmifpccofaaGreatW.PrintWords.Aside0 renaming mk→Zm
attribute [local go_sem] max2_int min2_int max_two min_two max_three min_three max_four min_four   -- for this text's walks alone
set_option maxHeartbeats 80000000
set_option maxRecDepth 100000
set_option linter.unusedVariables false
set_option linter.unusedSimpArgs false
def dB.f (k:Nat) (i:Int) (a:Int) (d:ByteArray) (c:ByteArray) (b:ByteArray):Option (Bool):=(bU.f k i).bind fun e=>(if e.toList=([]:List UInt8) then (if a=0 then ((eC.f i a d c b).bind fun n=>(some n)) else (some false)) else (if e.toList=([110]:List UInt8) then ((eQ.f a).bind fun o=>(if o=true then ((eC.f i a d c b).bind fun p=>(some p)) else (some false))) else (if e.toList=([105]:List UInt8) then (if a ≥ 0 then (if a < 16 then ((eC.f i a d c b).bind fun q=>(some q)) else (some false)) else (some false)) else (if e.toList=([116]:List UInt8) then (if a ≥ 0 then (if a < 60 then ((eC.f i a d c b).bind fun r=>(some r)) else (some false)) else (some false)) else (if e.toList=([99]:List UInt8) then (if a=0 then ((aE.f k d).bind fun s=>(if s=true then (if c.toList=([]:List UInt8) then (some (b.toList == ([]:List UInt8))) else (some false)) else (some false))) else (some false)) else (if e.toList=([121]:List UInt8) then (if a=0 then (if d.toList=([]:List UInt8) then (if c.toList=([]:List UInt8) then ((cT.f k b).bind fun t=>(if t=true then (if 0 < (b.size:Int) then (some ((bt b 0) != 91)) else (none)) else (some false))) else (some false)) else (some false)) else (some false)) else (if e.toList=([102]:List UInt8) then (if a=0 then ((aE.f k d).bind fun u=>(if u=true then ((aE.f k c).bind fun v=>(if v=true then ((cT.f k b).bind fun x=>(some x)) else (some false))) else (some false))) else (some false)) else (if e.toList=([109]:List UInt8) then (if a=0 then ((aE.f k d).bind fun y=>(if y=true then ((aE.f k c).bind fun z=>(if z=true then ((aT.f k b).bind fun j=>(some (j.2.2.2 == 0))) else (if c.toList=([60,105,110,105,116,62]:List UInt8) then ((aT.f k b).bind fun m=>(some (m.2.2.2 == 0))) else (some false)))) else (some false))) else (some false)) else (some false)))))))))
theorem dB.mono:∀ a b c d e k,LeO (dB.f k a b c d e) (dB.f (k+1) a b c d e):=by
 intro a b c d e k;unfold dB.f;have m0:=@aT.mono;have m1:=@aE.mono;have m2:=@bU.mono;have m3:=@cT.mono;exact lM
theorem dB.calls (k:Nat) (s:Int) (m:Int) (u:ByteArray) (v:ByteArray) (i:ByteArray) (r:Bool) (w:World) (h:dB.f k s m u v i=some r):
 Calls Tryz.prog 145 #[.agg #[.int .i64 s,.int .i64 m,.string u,.string v,.string i]] w fun e w'=>e=.returned (.bool r)∧Below w.heap.size w w':=by
 have bs:=Tryz.underlying159;have bq:∀ (bc be bf D:Value) (W_:World),(Instr.field 167 (.agg #[bc,be,bf,D]) 2).run Tryz.prog W_=.ok (D) W_:=fun _ _ _ _ _=>by rfl
 have a:=Zm (Below.refl w.heap.size w);have H:=h;clear h;unfold dB.f at H;replace H:=cM H;obtain⟨cv,A2,H⟩:=H;have E:=Zm H;clear H;go_enter Tryz.func145,Tryz.ntmps145;go_upto_if 6 with (first|((with_reducible refine gate_dst (N:=1) rfl ?_);refine fH 1 159 #[.int .i64 s,.int .i64 m,.string u,.string v,.string i] ?_;intro bu A w4 B c;have b:=Zm B;have bv:=bz a A;have bw:=bz a A;replace a:=dJ a c;clear c B A;have cw:=fR b.out;have br:=Zkf b.out 4)|((with_reducible refine gate_callee (f:=143) rfl ?_);refine cQ (some 5) Tryz.func143 #[.int .i64 s] ?_;(with_reducible refine(bU.calls _ _ _ _ A2.out).mono ?_);rintro e w6 ⟨rfl,c⟩;refine⟨_,rfl,?_⟩;replace b:=kb b c;replace a:=dJ a c;clear c));have H:=E.out;clear E;replace H:=eM H;rcases H with ⟨c7,n,a_,H⟩|⟨c7,n,a_,H⟩
 · (first|rw [n]|(simp only [i64_w,i32_w];rw [n])|rw [vF n]|skip);replace H:=eM H;rcases H with ⟨G,ah,ai,H⟩|⟨G,ah,ai,H⟩
   · replace H:=eM H;rcases H with ⟨I,aj,ak,H⟩|⟨I,aj,ak,H⟩
     · replace H:=eM H;rcases H with ⟨J,al,am,H⟩|⟨J,al,am,H⟩
       · replace H:=eM H;rcases H with ⟨K,an,ao,H⟩|⟨K,an,ao,H⟩
         · replace H:=eM H;rcases H with ⟨L,ap,aq,H⟩|⟨L,ap,aq,H⟩
           · replace H:=eM H;rcases H with ⟨M,ar,au,H⟩|⟨M,ar,au,H⟩
             · replace H:=eM H;rcases H with ⟨O,av,aw,H⟩|⟨O,av,aw,H⟩
               · obtain rfl:=Option.some.inj H;go_wp2;go_ret;exact cI a
               clear O;replace H:=eM H;rcases H with ⟨P,ax,ay,H⟩|⟨P,ax,ay,H⟩
               · obtain rfl:=Option.some.inj H;have bx:=fR b.out;go_wp2;go_ret;exact cI a
               clear P;replace H:=cM H;obtain⟨cx,t,H⟩:=H;replace H:=eN H;rcases H with ⟨rfl,H⟩|⟨rfl,H⟩
               · obtain rfl:=Option.some.inj H;have b0:=fR b.out;(try clear b);go_wp2_with (first|(go_at_call 93;refine cD (aE.calls _ _ _ _ t.out) ?_;rintro e w' ⟨rfl,⟨d,rfl⟩⟩));go_ret;exact cI a
               replace H:=cM H;obtain⟨cy,x,H⟩:=H;replace H:=eN H;rcases H with ⟨rfl,H⟩|⟨rfl,H⟩
               · replace H:=eM H;rcases H with ⟨T,az,aB,H⟩|⟨T,az,aB,H⟩
                 · obtain rfl:=Option.some.inj H;have b1:=fR b.out;go_wp2_with (first|(go_at_call 93;refine cD (aE.calls _ _ _ _ t.out) ?_;rintro e w' ⟨rfl,⟨d,rfl⟩⟩)|(go_at_call 93;refine cD (aE.calls _ _ _ _ x.out) ?_;rintro e w' ⟨rfl,⟨d,rfl⟩⟩));go_ret;exact cI a
                 clear T;replace H:=cM H;obtain⟨⟨cz,cH,cW,c0⟩,bh,H⟩:=H;(try dsimp only at H);obtain rfl:=Option.some.inj H;have b2:=fR b.out;go_wp2_with (first|(go_at_call 93;refine cD (aE.calls _ _ _ _ t.out) ?_;rintro e w' ⟨rfl,⟨d,rfl⟩⟩)|(go_at_call 93;refine cD (aE.calls _ _ _ _ x.out) ?_;rintro e w' ⟨rfl,⟨d,rfl⟩⟩;(try clear b))|(go_at_call 144;refine cD (aT.calls _ _ _ _ _ _ _ bh.out) ?_;rintro e dl ⟨c1,rfl,o,c⟩;have b3:=Zm (Kd.R_lower o (Zbz (bk a.out)));replace a:=dJ a c;clear c o));go_ret;exact cI a
               replace H:=cM H;obtain⟨⟨c2,c3,c4,c5⟩,bi,H⟩:=H;(try dsimp only at H);obtain rfl:=Option.some.inj H;have b4:=fR b.out;go_wp2_with (first|(go_at_call 93;refine cD (aE.calls _ _ _ _ t.out) ?_;rintro e w' ⟨rfl,⟨d,rfl⟩⟩)|(go_at_call 93;refine cD (aE.calls _ _ _ _ x.out) ?_;rintro e w' ⟨rfl,⟨d,rfl⟩⟩;(try clear b))|(go_at_call 144;refine cD (aT.calls _ _ _ _ _ _ _ bi.out) ?_;rintro e dm ⟨c6,rfl,o,c⟩;have b5:=Zm (Kd.R_lower o (Zbz (bk a.out)));replace a:=dJ a c;clear c o));go_ret;exact cI a
             clear M;replace H:=eM H;rcases H with ⟨U,aF,aL,H⟩|⟨U,aF,aL,H⟩
             · obtain rfl:=Option.some.inj H;have b6:=fR b.out;go_wp2;go_ret;exact cI a
             clear U;replace H:=cM H;obtain⟨c9,y,H⟩:=H;replace H:=eN H;rcases H with ⟨rfl,H⟩|⟨rfl,H⟩
             · obtain rfl:=Option.some.inj H;have b7:=fR b.out;(try clear b);go_wp2_with (first|(go_at_call 93;refine cD (aE.calls _ _ _ _ y.out) ?_;rintro e w' ⟨rfl,⟨d,rfl⟩⟩));go_ret;exact cI a
             replace H:=cM H;obtain⟨c_,X,H⟩:=H;replace H:=eN H;rcases H with ⟨rfl,H⟩|⟨rfl,H⟩
             · obtain rfl:=Option.some.inj H;have b8:=fR b.out;go_wp2_with (first|(go_at_call 93;refine cD (aE.calls _ _ _ _ y.out) ?_;rintro e w' ⟨rfl,⟨d,rfl⟩⟩;(try clear b))|(go_at_call 93;refine cD (aE.calls _ _ _ _ X.out) ?_;rintro e w' ⟨rfl,⟨d,rfl⟩⟩));go_ret;exact cI a
             replace H:=cM H;obtain⟨da,bj,H⟩:=H;obtain rfl:=Option.some.inj H;have b9:=fR b.out;go_wp2_with (first|(go_at_call 93;refine cD (aE.calls _ _ _ _ y.out) ?_;rintro e w' ⟨rfl,⟨d,rfl⟩⟩)|(go_at_call 93;refine cD (aE.calls _ _ _ _ X.out) ?_;rintro e w' ⟨rfl,⟨d,rfl⟩⟩;(try clear b))|(go_at_call 94;refine cD (cT.calls _ _ _ _ bj.out) ?_;rintro e w' ⟨rfl,⟨d,rfl⟩⟩));go_ret;exact cI a
           clear L;replace H:=eM H;rcases H with ⟨Y,aO,aP,H⟩|⟨Y,aO,aP,H⟩
           · obtain rfl:=Option.some.inj H;have b_:=fR b.out;go_wp2;go_ret;exact cI a
           clear Y;replace H:=eM H;rcases H with ⟨Z,aR,aS,H⟩|⟨Z,aR,aS,H⟩
           · obtain rfl:=Option.some.inj H;have ca:=fR b.out;go_wp2;go_ret;exact cI a
           clear Z;replace H:=eM H;rcases H with ⟨aa,a0,a1,H⟩|⟨aa,a0,a1,H⟩
           · obtain rfl:=Option.some.inj H;have cb:=fR b.out;go_wp2;go_ret;exact cI a
           clear aa;replace H:=cM H;obtain⟨db,ab,H⟩:=H;replace H:=eN H;rcases H with ⟨rfl,H⟩|⟨rfl,H⟩
           · obtain rfl:=Option.some.inj H;have cc:=fR b.out;(try clear b);go_wp2_with (first|(go_at_call 94;refine cD (cT.calls _ _ _ _ ab.out) ?_;rintro e w' ⟨rfl,⟨d,rfl⟩⟩));go_ret;exact cI a
           replace H:=hY H;obtain⟨ac,H⟩:=H;have cd:=decide_eq_true ac;have ce:decide (0 < i.size)=true:=decide_eq_true (by omega);clear ac;obtain rfl:=Option.some.inj H;have cf:=fR b.out;go_wp2_with (first|(go_at_call 94;refine cD (cT.calls _ _ _ _ ab.out) ?_;rintro e w' ⟨rfl,⟨d,rfl⟩⟩;have bm:0≤(0:Int):=(by omega);have ad:0 < i.size:=(by have:(0:Int) < (i.size:Int):=eF;omega);have dc:∀ h:0 < i.size,((i[0]'h).toNat:Int)=bt i 0:=bt_at i 0;clear bm;have dd:(0 < (i.size:Int))=True:=eq_true eF;replace ad:=eq_true ad));go_ret;exact cI a
         clear K;replace H:=eM H;rcases H with ⟨ae,a2,a3,H⟩|⟨ae,a2,a3,H⟩
         · obtain rfl:=Option.some.inj H;have cg:=fR b.out;go_wp2;go_ret;exact cI a
         clear ae;replace H:=cM H;obtain⟨de,z,H⟩:=H;replace H:=eN H;rcases H with ⟨rfl,H⟩|⟨rfl,H⟩
         · obtain rfl:=Option.some.inj H;have ch:=fR b.out;(try clear b);go_wp2_with (first|(go_at_call 93;refine cD (aE.calls _ _ _ _ z.out) ?_;rintro e w' ⟨rfl,⟨d,rfl⟩⟩));go_ret;exact cI a
         replace H:=eM H;rcases H with ⟨af,a4,a5,H⟩|⟨af,a4,a5,H⟩
         · obtain rfl:=Option.some.inj H;have ci:=fR b.out;go_wp2_with (first|(go_at_call 93;refine cD (aE.calls _ _ _ _ z.out) ?_;rintro e w' ⟨rfl,⟨d,rfl⟩⟩));go_ret;exact cI a
         clear af;obtain rfl:=Option.some.inj H;have cj:=fR b.out;go_wp2_with (first|(go_at_call 93;refine cD (aE.calls _ _ _ _ z.out) ?_;rintro e w' ⟨rfl,⟨d,rfl⟩⟩));go_ret;exact cI a
       clear J;replace H:=iG H;rcases H with ⟨p,H⟩|⟨p,H⟩
       · have a6:decide (0≤m)=false:=decide_eq_false p;clear p;obtain rfl:=Option.some.inj H;have ck:=fR b.out;go_wp2;go_ret;exact cI a
       have a6:decide (0≤m)=true:=decide_eq_true p;clear p;replace H:=jC H;rcases H with ⟨a7,H⟩|⟨a7,H⟩
       · obtain rfl:=Option.some.inj H;have cl:=fR b.out;go_wp2;go_ret;exact cI a
       replace H:=cM H;obtain⟨df,bn,H⟩:=H;obtain rfl:=Option.some.inj H;have cm:=fR b.out;(try clear b);go_wp2_with (first|(go_at_call 195;refine cD (eC.calls _ _ _ _ _ _ _ bn.out) ?_;rintro e dq ⟨rfl,c⟩;have j:=dJ a c;clear a;have a:=j;clear j;clear c));go_ret;exact cI a
     clear I;replace H:=iG H;rcases H with ⟨q,H⟩|⟨q,H⟩
     · have a8:decide (0≤m)=false:=decide_eq_false q;clear q;obtain rfl:=Option.some.inj H;have cn:=fR b.out;go_wp2;go_ret;exact cI a
     have a8:decide (0≤m)=true:=decide_eq_true q;clear q;replace H:=jC H;rcases H with ⟨a9,H⟩|⟨a9,H⟩
     · obtain rfl:=Option.some.inj H;have co:=fR b.out;go_wp2;go_ret;exact cI a
     replace H:=cM H;obtain⟨dg,bo,H⟩:=H;obtain rfl:=Option.some.inj H;have cp:=fR b.out;(try clear b);go_wp2_with (first|(go_at_call 195;refine cD (eC.calls _ _ _ _ _ _ _ bo.out) ?_;rintro e dr ⟨rfl,c⟩;have j:=dJ a c;clear a;have a:=j;clear j;clear c));go_ret;exact cI a
   clear G;replace H:=cM H;obtain⟨dh,ag,H⟩:=H;replace H:=eN H;rcases H with ⟨rfl,H⟩|⟨rfl,H⟩
   · obtain rfl:=Option.some.inj H;have cq:=fR b.out;(try clear b);go_wp2_with (first|((with_reducible refine gate_callee (f:=196) rfl ?_);refine cQ (some 19) Tryz.func196 #[.int .i64 m] ?_;(with_reducible refine(eQ.calls _ _ _ ag.out).mono ?_);rintro e w' ⟨rfl,⟨d,rfl⟩⟩;refine⟨_,rfl,?_⟩));go_ret;exact cI a
   replace H:=cM H;obtain⟨dj,bp,H⟩:=H;obtain rfl:=Option.some.inj H;have cs:=fR b.out;go_wp2_with (first|((with_reducible refine gate_callee (f:=196) rfl ?_);refine cQ (some 19) Tryz.func196 #[.int .i64 m] ?_;(with_reducible refine(eQ.calls _ _ _ ag.out).mono ?_);rintro e w' ⟨rfl,⟨d,rfl⟩⟩;refine⟨_,rfl,?_⟩;(try clear b))|(go_at_call 195;refine cD (eC.calls _ _ _ _ _ _ _ bp.out) ?_;rintro e ds ⟨rfl,c⟩;have j:=dJ a c;clear a;have a:=j;clear j;clear c));go_ret;exact cI a
 clear c7;(first|rw [n]|(simp only [i64_w,i32_w];rw [n])|rw [vF n]|skip);replace H:=eM H;rcases H with ⟨c8,ba,bb,H⟩|⟨c8,ba,bb,H⟩
 · obtain rfl:=Option.some.inj H;have ct:=fR b.out;go_wp2;go_ret;exact cI a
 clear c8;replace H:=cM H;obtain⟨dk,A9,H⟩:=H;obtain rfl:=Option.some.inj H;have cu:=fR b.out;(try clear b);go_wp2_with (first|(go_at_call 195;refine cD (eC.calls _ _ _ _ _ _ _ A9.out) ?_;rintro e du ⟨rfl,c⟩;have j:=dJ a c;clear a;have a:=j;clear j;clear c));go_ret;exact cI a
def fL.f (k:Nat) (a:Int) (b:Int) (c:Int) (e:ByteArray) (d:Int):Option (Bool):=if a ≥ 0 then (if a < b then (if b≤d then (if c ≥ 0 then (if c < d then ((aE.f k e).bind fun i=>(some i)) else (some false)) else (some false)) else (some false)) else (some false)) else (some false)
theorem fL.calls (k:Nat) (j:Int) (n:Int) (m:Int) (o:ByteArray) (v:Int) (r:Bool) (w:World) (h:fL.f k j n m o v=some r):
 Calls Tryz.prog 146 #[.agg #[.int .i64 j,.int .i64 n,.int .i64 m,.string o],.int .i64 v] w fun e w'=>e=.returned (.bool r)∧Below w.heap.size w w':=by
 have L:=Tryz.underlying162;have a:=Zm (Below.refl w.heap.size w);have H:=h;clear h;unfold fL.f at H;replace H:=iG H;rcases H with ⟨t,H⟩|⟨t,H⟩
 · have x:decide (0≤j)=false:=decide_eq_false t;clear t;obtain rfl:=Option.some.inj H;go_enter Tryz.func146,Tryz.ntmps146;go_wp2_with (first|((with_reducible refine gate_dst (N:=2) rfl ?_);refine fH 2 162 #[.int .i64 j,.int .i64 n,.int .i64 m,.string o] ?_;intro p b Z d i;have c:=Zm d;have q:=bz a b;have s:=bz a b;replace a:=dJ a i;clear i d b;have M:=sP c.out;have E:=Zkf c.out 3));go_ret;exact cI a
 have x:decide (0≤j)=true:=decide_eq_true t;clear t;replace H:=jC H;rcases H with ⟨y,H⟩|⟨y,H⟩
 · obtain rfl:=Option.some.inj H;go_enter Tryz.func146,Tryz.ntmps146;go_wp2_with (first|((with_reducible refine gate_dst (N:=2) rfl ?_);refine fH 2 162 #[.int .i64 j,.int .i64 n,.int .i64 m,.string o] ?_;intro p b aa d i;have c:=Zm d;have q:=bz a b;have s:=bz a b;replace a:=dJ a i;clear i d b;have O:=sP c.out;have G:=Zkf c.out 3));go_ret;exact cI a
 replace H:=jC H;rcases H with ⟨z,H⟩|⟨z,H⟩
 · obtain rfl:=Option.some.inj H;go_enter Tryz.func146,Tryz.ntmps146;go_wp2_with (first|((with_reducible refine gate_dst (N:=2) rfl ?_);refine fH 2 162 #[.int .i64 j,.int .i64 n,.int .i64 m,.string o] ?_;intro p b ab d i;have c:=Zm d;have q:=bz a b;have s:=bz a b;replace a:=dJ a i;clear i d b;have P:=sP c.out;have I:=Zkf c.out 3));go_ret;exact cI a
 replace H:=iG H;rcases H with ⟨u,H⟩|⟨u,H⟩
 · have A:decide (0≤m)=false:=decide_eq_false u;clear u;obtain rfl:=Option.some.inj H;go_enter Tryz.func146,Tryz.ntmps146;go_wp2_with (first|((with_reducible refine gate_dst (N:=2) rfl ?_);refine fH 2 162 #[.int .i64 j,.int .i64 n,.int .i64 m,.string o] ?_;intro p b ac d i;have c:=Zm d;have q:=bz a b;have s:=bz a b;replace a:=dJ a i;clear i d b;have T:=sP c.out;have J:=Zkf c.out 3));go_ret;exact cI a
 have A:decide (0≤m)=true:=decide_eq_true u;clear u;replace H:=jC H;rcases H with ⟨B,H⟩|⟨B,H⟩
 · obtain rfl:=Option.some.inj H;go_enter Tryz.func146,Tryz.ntmps146;go_wp2_with (first|((with_reducible refine gate_dst (N:=2) rfl ?_);refine fH 2 162 #[.int .i64 j,.int .i64 n,.int .i64 m,.string o] ?_;intro p b ad d i;have c:=Zm d;have q:=bz a b;have s:=bz a b;replace a:=dJ a i;clear i d b;have U:=sP c.out;have K:=Zkf c.out 3));go_ret;exact cI a
 replace H:=cM H;obtain⟨Y,D,H⟩:=H;obtain rfl:=Option.some.inj H;go_enter Tryz.func146,Tryz.ntmps146;go_wp2_with (first|((with_reducible refine gate_dst (N:=2) rfl ?_);refine fH 2 162 #[.int .i64 j,.int .i64 n,.int .i64 m,.string o] ?_;intro p b w9 d i;have c:=Zm d;have q:=bz a b;have s:=bz a b;replace a:=dJ a i;clear i d b;have X:=sP c.out;(try clear c))|(go_at_call 93;refine cD (aE.calls _ _ _ _ D.out) ?_;rintro e w' ⟨rfl,⟨nd,rfl⟩⟩));go_ret;exact cI a
end Go.Proofs.YtkbebmifpccofaaGreat.PFnClassCut
