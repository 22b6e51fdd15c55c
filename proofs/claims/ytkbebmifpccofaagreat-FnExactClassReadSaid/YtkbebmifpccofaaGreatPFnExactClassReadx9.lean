/- Functions of the program as plain Lean functions, each with its proof; no condition. -/
import Derived.Test.YtkbebmifpccofaaGreatPFnExactClassReadx0
import Derived.Test.YtkbebmifpccofaaGreatPFnExactClassReadx8
namespace Go.Proofs.YtkbebmifpccofaaGreat.PFnExactClassRead
open Go.RowKit Go.Proofs.YtkbebmifpccofaaGreatW.PrintWords Go.Proofs.YtkbebmifpccofaaGreatW.PrintLast Go.Proofs.YtkbebmifpccofaaGreatW.PrintMore
open Go.Proofs.YtkbebmifpccofaaGreatW.PrintWords renaming below_size→Zbz,below_step→Zbt,blk_frozen→Zkf,blk_below→Zkb
open Go.Proofs.YtkbebmifpccofaaGreatW.PrintWords.Aside0 renaming mk→Zm
attribute [local go_sem] max2_int min2_int max_two min_two max_three min_three max_four min_four
set_option maxHeartbeats 80000000
set_option maxRecDepth 100000
set_option linter.unusedVariables false
set_option linter.unusedSimpArgs false
def dW.f (k:Nat) (i:Int) (a:Int) (d:ByteArray) (c:ByteArray) (b:ByteArray):Option (Bool):=(cO.f k i).bind fun e=>(if e.toList=([]:List UInt8) then (if a=0 then ((fE.f i a d c b).bind fun n=>(some n)) else (some false)) else (if e.toList=([110]:List UInt8) then ((fU.f a).bind fun o=>(if o=true then ((fE.f i a d c b).bind fun p=>(some p)) else (some false))) else (if e.toList=([105]:List UInt8) then (if a ≥ 0 then (if a < 16 then ((fE.f i a d c b).bind fun q=>(some q)) else (some false)) else (some false)) else (if e.toList=([116]:List UInt8) then (if a ≥ 0 then (if a < 60 then ((fE.f i a d c b).bind fun r=>(some r)) else (some false)) else (some false)) else (if e.toList=([99]:List UInt8) then (if a=0 then ((aD.f k d).bind fun s=>(if s=true then (if c.toList=([]:List UInt8) then (some (b.toList == ([]:List UInt8))) else (some false)) else (some false))) else (some false)) else (if e.toList=([121]:List UInt8) then (if a=0 then (if d.toList=([]:List UInt8) then (if c.toList=([]:List UInt8) then ((dG.f k b).bind fun t=>(if t=true then (if 0 < (b.size:Int) then (some ((bt b 0) != 91)) else (none)) else (some false))) else (some false)) else (some false)) else (some false)) else (if e.toList=([102]:List UInt8) then (if a=0 then ((aD.f k d).bind fun u=>(if u=true then ((aD.f k c).bind fun v=>(if v=true then ((dG.f k b).bind fun w=>(some w)) else (some false))) else (some false))) else (some false)) else (if e.toList=([109]:List UInt8) then (if a=0 then ((aD.f k d).bind fun x=>(if x=true then ((aD.f k c).bind fun y=>(if y=true then ((aU.f k b).bind fun j=>(some (j.2.2.2 == 0))) else (if c.toList=([60,105,110,105,116,62]:List UInt8) then ((aU.f k b).bind fun m=>(some (m.2.2.2 == 0))) else (some false)))) else (some false))) else (some false)) else (some false)))))))))
theorem dW.mono:∀ a b c d e k,LeO (dW.f k a b c d e) (dW.f (k+1) a b c d e):=by
 intro a b c d e k;unfold dW.f;have m0:=@aU.mono;have m1:=@aD.mono;have m2:=@cO.mono;have m3:=@dG.mono;exact mT
theorem dW.calls (k:Nat) (s:Int) (m:Int) (u:ByteArray) (v:ByteArray) (i:ByteArray) (r:Bool) (w:World) (h:dW.f k s m u v i=some r):
 Calls Tryz.prog 145 #[.agg #[.int .i64 s,.int .i64 m,.string u,.string v,.string i]] w fun e w'=>e=.returned (.bool r)∧Below w.heap.size w w':=by
 have br:=Tryz.underlying159;have bp:∀ (bb bc be D:Value) (W_:World),(Instr.field 167 (.agg #[bb,bc,be,D]) 2).run Tryz.prog W_=.ok (D) W_:=fun _ _ _ _ _=>by rfl
 have a:=Zm (Below.refl w.heap.size w);have H:=h;clear h;unfold dW.f at H;replace H:=cU H;obtain⟨cu,A2,H⟩:=H;have E:=Zm H;clear H;go_enter Tryz.func145,Tryz.ntmps145;go_upto_if 6 with (first|((with_reducible refine gd_ 1 rfl ?_);refine fQ 1 159 #[.int .i64 s,.int .i64 m,.string u,.string v,.string i] ?_;intro bs A w4 B c;have b:=Zm B;have bu:=bz a A;have bv:=bz a A;replace a:=dJ a c;clear c B A;have cv:=hY b.out;have bq:=Zkf b.out 4)|((with_reducible refine gk_ 143 rfl ?_);refine gW (some 5) Tryz.func143 #[.int .i64 s] ?_;(with_reducible refine(cO.calls _ _ _ _ A2.out).mono ?_);rintro e w6 ⟨rfl,c⟩;refine⟨_,rfl,?_⟩;replace b:=kb b c;replace a:=dJ a c;clear c));have H:=E.out;clear E;replace H:=fB H;rcases H with ⟨c7,n,a9,H⟩|⟨c7,n,a9,H⟩
 · (first|rw [n]|(simp only [i64_w,i32_w];rw [n])|rw [zJ n]|skip);replace H:=fB H;rcases H with ⟨G,ag,ah,H⟩|⟨G,ag,ah,H⟩
   · replace H:=fB H;rcases H with ⟨I,ai,aj,H⟩|⟨I,ai,aj,H⟩
     · replace H:=fB H;rcases H with ⟨J,ak,al,H⟩|⟨J,ak,al,H⟩
       · replace H:=fB H;rcases H with ⟨K,am,an,H⟩|⟨K,am,an,H⟩
         · replace H:=fB H;rcases H with ⟨L,ao,ap,H⟩|⟨L,ao,ap,H⟩
           · replace H:=fB H;rcases H with ⟨M,aq,ar,H⟩|⟨M,aq,ar,H⟩
             · replace H:=fB H;rcases H with ⟨O,au,av,H⟩|⟨O,au,av,H⟩
               · obtain rfl:=Option.some.inj H;go_wp2;go_ret;exact bU a
               clear O;replace H:=fB H;rcases H with ⟨P,aw,ax,H⟩|⟨P,aw,ax,H⟩
               · obtain rfl:=Option.some.inj H;have bw:=hY b.out;go_wp2;go_ret;exact bU a
               clear P;replace H:=cU H;obtain⟨cw,t,H⟩:=H;replace H:=fM H;rcases H with ⟨rfl,H⟩|⟨rfl,H⟩
               · obtain rfl:=Option.some.inj H;have bx:=hY b.out;(try clear b);go_wp2_with (first|(go_at_call 93;refine eV (aD.calls _ _ _ _ t.out) ?_;rintro e w' ⟨rfl,⟨d,rfl⟩⟩));go_ret;exact bU a
               replace H:=cU H;obtain⟨cx,x,H⟩:=H;replace H:=fM H;rcases H with ⟨rfl,H⟩|⟨rfl,H⟩
               · replace H:=fB H;rcases H with ⟨T,ay,az,H⟩|⟨T,ay,az,H⟩
                 · obtain rfl:=Option.some.inj H;have b0:=hY b.out;go_wp2_with (first|(go_at_call 93;refine eV (aD.calls _ _ _ _ t.out) ?_;rintro e w' ⟨rfl,⟨d,rfl⟩⟩)|(go_at_call 93;refine eV (aD.calls _ _ _ _ x.out) ?_;rintro e w' ⟨rfl,⟨d,rfl⟩⟩));go_ret;exact bU a
                 clear T;replace H:=cU H;obtain⟨⟨cy,cz,cW,c0⟩,bf,H⟩:=H;(try dsimp only at H);obtain rfl:=Option.some.inj H;have b1:=hY b.out;go_wp2_with (first|(go_at_call 93;refine eV (aD.calls _ _ _ _ t.out) ?_;rintro e w' ⟨rfl,⟨d,rfl⟩⟩)|(go_at_call 93;refine eV (aD.calls _ _ _ _ x.out) ?_;rintro e w' ⟨rfl,⟨d,rfl⟩⟩;(try clear b))|(go_at_call 144;refine eV (aU.calls _ _ _ _ _ _ _ bf.out) ?_;rintro e dk ⟨c1,rfl,o,c⟩;have b2:=Zm (Kd.R_lower o (Zbz (bk a.out)));replace a:=dJ a c;clear c o));go_ret;exact bU a
               replace H:=cU H;obtain⟨⟨c2,c3,c4,c5⟩,bh,H⟩:=H;(try dsimp only at H);obtain rfl:=Option.some.inj H;have b4:=hY b.out;go_wp2_with (first|(go_at_call 93;refine eV (aD.calls _ _ _ _ t.out) ?_;rintro e w' ⟨rfl,⟨d,rfl⟩⟩)|(go_at_call 93;refine eV (aD.calls _ _ _ _ x.out) ?_;rintro e w' ⟨rfl,⟨d,rfl⟩⟩;(try clear b))|(go_at_call 144;refine eV (aU.calls _ _ _ _ _ _ _ bh.out) ?_;rintro e dl ⟨c6,rfl,o,c⟩;have b5:=Zm (Kd.R_lower o (Zbz (bk a.out)));replace a:=dJ a c;clear c o));go_ret;exact bU a
             clear M;replace H:=fB H;rcases H with ⟨U,aB,aF,H⟩|⟨U,aB,aF,H⟩
             · obtain rfl:=Option.some.inj H;have b6:=hY b.out;go_wp2;go_ret;exact bU a
             clear U;replace H:=cU H;obtain⟨c9,y,H⟩:=H;replace H:=fM H;rcases H with ⟨rfl,H⟩|⟨rfl,H⟩
             · obtain rfl:=Option.some.inj H;have b7:=hY b.out;(try clear b);go_wp2_with (first|(go_at_call 93;refine eV (aD.calls _ _ _ _ y.out) ?_;rintro e w' ⟨rfl,⟨d,rfl⟩⟩));go_ret;exact bU a
             replace H:=cU H;obtain⟨c_,W,H⟩:=H;replace H:=fM H;rcases H with ⟨rfl,H⟩|⟨rfl,H⟩
             · obtain rfl:=Option.some.inj H;have b8:=hY b.out;go_wp2_with (first|(go_at_call 93;refine eV (aD.calls _ _ _ _ y.out) ?_;rintro e w' ⟨rfl,⟨d,rfl⟩⟩;(try clear b))|(go_at_call 93;refine eV (aD.calls _ _ _ _ W.out) ?_;rintro e w' ⟨rfl,⟨d,rfl⟩⟩));go_ret;exact bU a
             replace H:=cU H;obtain⟨da,bi,H⟩:=H;obtain rfl:=Option.some.inj H;have b9:=hY b.out;go_wp2_with (first|(go_at_call 93;refine eV (aD.calls _ _ _ _ y.out) ?_;rintro e w' ⟨rfl,⟨d,rfl⟩⟩)|(go_at_call 93;refine eV (aD.calls _ _ _ _ W.out) ?_;rintro e w' ⟨rfl,⟨d,rfl⟩⟩;(try clear b))|(go_at_call 94;refine eV (dG.calls _ _ _ _ bi.out) ?_;rintro e w' ⟨rfl,⟨d,rfl⟩⟩));go_ret;exact bU a
           clear L;replace H:=fB H;rcases H with ⟨X,aL,aO,H⟩|⟨X,aL,aO,H⟩
           · obtain rfl:=Option.some.inj H;have b_:=hY b.out;go_wp2;go_ret;exact bU a
           clear X;replace H:=fB H;rcases H with ⟨Y,aP,aR,H⟩|⟨Y,aP,aR,H⟩
           · obtain rfl:=Option.some.inj H;have ca:=hY b.out;go_wp2;go_ret;exact bU a
           clear Y;replace H:=fB H;rcases H with ⟨Z,aS,a0,H⟩|⟨Z,aS,a0,H⟩
           · obtain rfl:=Option.some.inj H;have cb:=hY b.out;go_wp2;go_ret;exact bU a
           clear Z;replace H:=cU H;obtain⟨db,aa,H⟩:=H;replace H:=fM H;rcases H with ⟨rfl,H⟩|⟨rfl,H⟩
           · obtain rfl:=Option.some.inj H;have cc:=hY b.out;(try clear b);go_wp2_with (first|(go_at_call 94;refine eV (dG.calls _ _ _ _ aa.out) ?_;rintro e w' ⟨rfl,⟨d,rfl⟩⟩));go_ret;exact bU a
           replace H:=jQ H;obtain⟨ab,H⟩:=H;have cd:=decide_eq_true ab;have ce:decide (0 < i.size)=true:=decide_eq_true (by omega);clear ab;obtain rfl:=Option.some.inj H;have cf:=hY b.out;go_wp2_with (first|(go_at_call 94;refine eV (dG.calls _ _ _ _ aa.out) ?_;rintro e w' ⟨rfl,⟨d,rfl⟩⟩;have bj:0≤(0:Int):=(by omega);have ac:0 < i.size:=(by have:(0:Int) < (i.size:Int):=dT;omega);have dc:∀ h:0 < i.size,((i[0]'h).toNat:Int)=bt i 0:=bt_at i 0;clear bj;have dd:(0 < (i.size:Int))=True:=eq_true dT;replace ac:=eq_true ac));go_ret;exact bU a
         clear K;replace H:=fB H;rcases H with ⟨ad,a1,a2,H⟩|⟨ad,a1,a2,H⟩
         · obtain rfl:=Option.some.inj H;have cg:=hY b.out;go_wp2;go_ret;exact bU a
         clear ad;replace H:=cU H;obtain⟨de,z,H⟩:=H;replace H:=fM H;rcases H with ⟨rfl,H⟩|⟨rfl,H⟩
         · obtain rfl:=Option.some.inj H;have ch:=hY b.out;(try clear b);go_wp2_with (first|(go_at_call 93;refine eV (aD.calls _ _ _ _ z.out) ?_;rintro e w' ⟨rfl,⟨d,rfl⟩⟩));go_ret;exact bU a
         replace H:=fB H;rcases H with ⟨ae,a3,a4,H⟩|⟨ae,a3,a4,H⟩
         · obtain rfl:=Option.some.inj H;have ci:=hY b.out;go_wp2_with (first|(go_at_call 93;refine eV (aD.calls _ _ _ _ z.out) ?_;rintro e w' ⟨rfl,⟨d,rfl⟩⟩));go_ret;exact bU a
         clear ae;obtain rfl:=Option.some.inj H;have cj:=hY b.out;go_wp2_with (first|(go_at_call 93;refine eV (aD.calls _ _ _ _ z.out) ?_;rintro e w' ⟨rfl,⟨d,rfl⟩⟩));go_ret;exact bU a
       clear J;replace H:=jF H;rcases H with ⟨p,H⟩|⟨p,H⟩
       · have a5:decide (0≤m)=false:=decide_eq_false p;clear p;obtain rfl:=Option.some.inj H;have ck:=hY b.out;go_wp2;go_ret;exact bU a
       have a5:decide (0≤m)=true:=decide_eq_true p;clear p;replace H:=iY H;rcases H with ⟨a6,H⟩|⟨a6,H⟩
       · obtain rfl:=Option.some.inj H;have cl:=hY b.out;go_wp2;go_ret;exact bU a
       replace H:=cU H;obtain⟨df,bm,H⟩:=H;obtain rfl:=Option.some.inj H;have cm:=hY b.out;(try clear b);go_wp2_with (first|(go_at_call 195;refine eV (fE.calls _ _ _ _ _ _ _ bm.out) ?_;rintro e dm ⟨rfl,c⟩;have j:=dJ a c;clear a;have a:=j;clear j;clear c));go_ret;exact bU a
     clear I;replace H:=jF H;rcases H with ⟨q,H⟩|⟨q,H⟩
     · have a7:decide (0≤m)=false:=decide_eq_false q;clear q;obtain rfl:=Option.some.inj H;have cn:=hY b.out;go_wp2;go_ret;exact bU a
     have a7:decide (0≤m)=true:=decide_eq_true q;clear q;replace H:=iY H;rcases H with ⟨a8,H⟩|⟨a8,H⟩
     · obtain rfl:=Option.some.inj H;have co:=hY b.out;go_wp2;go_ret;exact bU a
     replace H:=cU H;obtain⟨dg,bn,H⟩:=H;obtain rfl:=Option.some.inj H;have cp:=hY b.out;(try clear b);go_wp2_with (first|(go_at_call 195;refine eV (fE.calls _ _ _ _ _ _ _ bn.out) ?_;rintro e dn ⟨rfl,c⟩;have j:=dJ a c;clear a;have a:=j;clear j;clear c));go_ret;exact bU a
   clear G;replace H:=cU H;obtain⟨dh,af,H⟩:=H;replace H:=fM H;rcases H with ⟨rfl,H⟩|⟨rfl,H⟩
   · obtain rfl:=Option.some.inj H;have cq:=hY b.out;(try clear b);go_wp2_with (first|((with_reducible refine gk_ 196 rfl ?_);refine gW (some 19) Tryz.func196 #[.int .i64 m] ?_;(with_reducible refine(fU.calls _ _ _ af.out).mono ?_);rintro e w' ⟨rfl,⟨d,rfl⟩⟩;refine⟨_,rfl,?_⟩));go_ret;exact bU a
   replace H:=cU H;obtain⟨di,bo,H⟩:=H;obtain rfl:=Option.some.inj H;have cr:=hY b.out;go_wp2_with (first|((with_reducible refine gk_ 196 rfl ?_);refine gW (some 19) Tryz.func196 #[.int .i64 m] ?_;(with_reducible refine(fU.calls _ _ _ af.out).mono ?_);rintro e w' ⟨rfl,⟨d,rfl⟩⟩;refine⟨_,rfl,?_⟩;(try clear b))|(go_at_call 195;refine eV (fE.calls _ _ _ _ _ _ _ bo.out) ?_;rintro e dp ⟨rfl,c⟩;have j:=dJ a c;clear a;have a:=j;clear j;clear c));go_ret;exact bU a
 clear c7;(first|rw [n]|(simp only [i64_w,i32_w];rw [n])|rw [zJ n]|skip);replace H:=fB H;rcases H with ⟨c8,a_,ba,H⟩|⟨c8,a_,ba,H⟩
 · obtain rfl:=Option.some.inj H;have cs:=hY b.out;go_wp2;go_ret;exact bU a
 clear c8;replace H:=cU H;obtain⟨dj,A9,H⟩:=H;obtain rfl:=Option.some.inj H;have ct:=hY b.out;(try clear b);go_wp2_with (first|(go_at_call 195;refine eV (fE.calls _ _ _ _ _ _ _ A9.out) ?_;rintro e dq ⟨rfl,c⟩;have j:=dJ a c;clear a;have a:=j;clear j;clear c));go_ret;exact bU a
def hJ.f (k:Nat) (a:Int) (b:Int) (c:Int) (e:ByteArray) (d:Int):Option (Bool):=if a ≥ 0 then (if a < b then (if b≤d then (if c ≥ 0 then (if c < d then ((aD.f k e).bind fun i=>(some i)) else (some false)) else (some false)) else (some false)) else (some false)) else (some false)
theorem hJ.calls (k:Nat) (j:Int) (n:Int) (m:Int) (o:ByteArray) (v:Int) (r:Bool) (w:World) (h:hJ.f k j n m o v=some r):
 Calls Tryz.prog 146 #[.agg #[.int .i64 j,.int .i64 n,.int .i64 m,.string o],.int .i64 v] w fun e w'=>e=.returned (.bool r)∧Below w.heap.size w w':=by
 have L:=Tryz.underlying162;have a:=Zm (Below.refl w.heap.size w);have H:=h;clear h;unfold hJ.f at H;replace H:=jF H;rcases H with ⟨t,H⟩|⟨t,H⟩
 · have x:decide (0≤j)=false:=decide_eq_false t;clear t;obtain rfl:=Option.some.inj H;go_enter Tryz.func146,Tryz.ntmps146;go_wp2_with (first|((with_reducible refine gd_ 2 rfl ?_);refine fQ 2 162 #[.int .i64 j,.int .i64 n,.int .i64 m,.string o] ?_;intro p b Y d i;have c:=Zm d;have q:=bz a b;have s:=bz a b;replace a:=dJ a i;clear i d b;have M:=pT c.out;have E:=Zkf c.out 3));go_ret;exact bU a
 have x:decide (0≤j)=true:=decide_eq_true t;clear t;replace H:=iY H;rcases H with ⟨y,H⟩|⟨y,H⟩
 · obtain rfl:=Option.some.inj H;go_enter Tryz.func146,Tryz.ntmps146;go_wp2_with (first|((with_reducible refine gd_ 2 rfl ?_);refine fQ 2 162 #[.int .i64 j,.int .i64 n,.int .i64 m,.string o] ?_;intro p b Z d i;have c:=Zm d;have q:=bz a b;have s:=bz a b;replace a:=dJ a i;clear i d b;have O:=pT c.out;have G:=Zkf c.out 3));go_ret;exact bU a
 replace H:=iY H;rcases H with ⟨z,H⟩|⟨z,H⟩
 · obtain rfl:=Option.some.inj H;go_enter Tryz.func146,Tryz.ntmps146;go_wp2_with (first|((with_reducible refine gd_ 2 rfl ?_);refine fQ 2 162 #[.int .i64 j,.int .i64 n,.int .i64 m,.string o] ?_;intro p b aa d i;have c:=Zm d;have q:=bz a b;have s:=bz a b;replace a:=dJ a i;clear i d b;have P:=pT c.out;have I:=Zkf c.out 3));go_ret;exact bU a
 replace H:=jF H;rcases H with ⟨u,H⟩|⟨u,H⟩
 · have A:decide (0≤m)=false:=decide_eq_false u;clear u;obtain rfl:=Option.some.inj H;go_enter Tryz.func146,Tryz.ntmps146;go_wp2_with (first|((with_reducible refine gd_ 2 rfl ?_);refine fQ 2 162 #[.int .i64 j,.int .i64 n,.int .i64 m,.string o] ?_;intro p b ab d i;have c:=Zm d;have q:=bz a b;have s:=bz a b;replace a:=dJ a i;clear i d b;have T:=pT c.out;have J:=Zkf c.out 3));go_ret;exact bU a
 have A:decide (0≤m)=true:=decide_eq_true u;clear u;replace H:=iY H;rcases H with ⟨B,H⟩|⟨B,H⟩
 · obtain rfl:=Option.some.inj H;go_enter Tryz.func146,Tryz.ntmps146;go_wp2_with (first|((with_reducible refine gd_ 2 rfl ?_);refine fQ 2 162 #[.int .i64 j,.int .i64 n,.int .i64 m,.string o] ?_;intro p b ac d i;have c:=Zm d;have q:=bz a b;have s:=bz a b;replace a:=dJ a i;clear i d b;have U:=pT c.out;have K:=Zkf c.out 3));go_ret;exact bU a
 replace H:=cU H;obtain⟨X,D,H⟩:=H;obtain rfl:=Option.some.inj H;go_enter Tryz.func146,Tryz.ntmps146;go_wp2_with (first|((with_reducible refine gd_ 2 rfl ?_);refine fQ 2 162 #[.int .i64 j,.int .i64 n,.int .i64 m,.string o] ?_;intro p b w9 d i;have c:=Zm d;have q:=bz a b;have s:=bz a b;replace a:=dJ a i;clear i d b;have W:=pT c.out;(try clear c))|(go_at_call 93;refine eV (aD.calls _ _ _ _ D.out) ?_;rintro e w' ⟨rfl,⟨nd,rfl⟩⟩));go_ret;exact bU a
end Go.Proofs.YtkbebmifpccofaaGreat.PFnExactClassRead
