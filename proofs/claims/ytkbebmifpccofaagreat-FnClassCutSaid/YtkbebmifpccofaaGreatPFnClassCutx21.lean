/- Functions of the program as plain Lean functions, each with a proof that the program's call comes to the same; no condition. Written by a program of this session. -/
import Derived.Test.YtkbebmifpccofaaGreatPFnClassCutx0
import Derived.Test.YtkbebmifpccofaaGreatPFnClassCutx13
import Derived.Test.YtkbebmifpccofaaGreatPFnClassCutx14
import Derived.Test.YtkbebmifpccofaaGreatPFnClassCutx18
import Derived.Test.YtkbebmifpccofaaGreatPFnClassCutx19
import Derived.Test.YtkbebmifpccofaaGreatPFnClassCutx20
namespace Go.Proofs.YtkbebmifpccofaaGreat.PFnClassCut
open Go.RowKit Go.Proofs.YtkbebmifpccofaaGreatW.PrintWords Go.Proofs.YtkbebmifpccofaaGreatW.PrintLast Go.Proofs.YtkbebmifpccofaaGreatW.PrintMore
open Go.Proofs.YtkbebmifpccofaaGreatW.PrintWords renaming below_size→Zbz,below_step→Zbt,blk_drewN→Zkn,blk_drew→Zkd,blk_alloc→Zka,blk_cell→Zkc,blk_frozen→Zkf,blk_below→Zkb
open Go.World renaming block_lt_of_cell?→Zlt
open Go.Proofs.YtkbebmifpccofaaGreatW.PrintWords.Aside0 renaming mk→Zm
attribute [local go_sem] max2_int min2_int max_two min_two max_three min_three max_four min_four   -- for this text's walks alone
set_option maxHeartbeats 80000000
set_option maxRecDepth 100000
set_option linter.unusedVariables false
set_option linter.unusedSimpArgs false
def cP.f (k:Nat) (a:ByteArray):Option (Bool):=(aV.f k a).bind fun b=>(if b=true then (some true) else (some (a.toList == ([60,105,110,105,116,62]:List UInt8))))
theorem cP.mono:∀ a k,LeO (cP.f k a) (cP.f (k+1) a):=by
 intro a k;unfold cP.f;have m0:=@aV.mono;exact lM
theorem cP.calls (k:Nat) (a:ByteArray) (r:Bool) (w:World) (h:cP.f k a=some r):
 Calls Tryz.prog 201 #[.string a] w fun e w'=>e=.returned (.bool r)∧Drawn0 w w':=by
 have H:=h;clear h;unfold cP.f at H;replace H:=cM H;obtain⟨d,b,H⟩:=H;replace H:=eN H;rcases H with ⟨rfl,H⟩|⟨rfl,H⟩
 · obtain rfl:=Option.some.inj H;go_enter Tryz.func201,Tryz.ntmps201;go_wp2_with (first|((with_reducible refine gate_callee (f:=159) rfl ?_);refine cQ (some 4) Tryz.func159 #[.string a] ?_;(with_reducible refine(aV.calls _ _ _ _ b.out).mono ?_);rintro e w' ⟨rfl,⟨c,rfl⟩⟩;refine⟨_,rfl,?_⟩));go_ret;exact hU
 obtain rfl:=Option.some.inj H;go_enter Tryz.func201,Tryz.ntmps201;go_wp2_with (first|((with_reducible refine gate_callee (f:=159) rfl ?_);refine cQ (some 4) Tryz.func159 #[.string a] ?_;(with_reducible refine(aV.calls _ _ _ _ b.out).mono ?_);rintro e w' ⟨rfl,⟨c,rfl⟩⟩;refine⟨_,rfl,?_⟩));go_ret;exact hU
def dX.f (k:Nat) (a:ByteArray):Option (Bool):=(cB.f k (([a]:List ByteArray))).bind fun c=>(if c=true then ((aM.f k a).bind fun b=>(some (b.2.2.2 == 0))) else (some false))
theorem dX.mono:∀ a k,LeO (dX.f k a) (dX.f (k+1) a):=by
 intro a k;unfold dX.f;have m0:=@aM.mono;have m1:=@cB.mono;exact lM
theorem dX.calls (k:Nat) (c:ByteArray) (r:Bool) (w:World) (h:dX.f k c=some r):
 Calls Tryz.prog 202 #[.string c] w fun e w'=>e=.returned (.bool r)∧Below w.heap.size w w':=by
 have T:∀ (E G I t:Value) (v:World),(Instr.field 167 (.agg #[E,G,I,t]) 2).run Tryz.prog v=.ok (t) v:=fun _ _ _ _ _=>by rfl
 have a:=Zm (Below.refl w.heap.size w);have H:=h;clear h;unfold dX.f at H;obtain⟨n,hy_⟩:∃ M:List ByteArray,M=(([c]:List ByteArray)):=⟨_,rfl⟩;replace H:((cB.f k n).bind fun s=>(if s=true then ((aM.f k c).bind fun y=>(some (y.2.2.2 == 0))) else (some false)))=some r:=iU
 have m:=Zm hy_;clear hy_;replace H:=cM H;obtain⟨s,x,H⟩:=H;replace H:=eN H;rcases H with ⟨rfl,H⟩|⟨rfl,H⟩
 · obtain rfl:=Option.some.inj H;go_enter Tryz.func202,Tryz.ntmps202;go_wp2_with (first|((with_reducible refine gate_dst (N:=4) rfl ?_);refine Kd.R_lit Kd.string _ 9 ?hg (N:=4) ?hd (xs:=([c]:List ByteArray)) (inner:=[.string c]) (ok:=fun _=>True) (okp:=fun _=>True) ?hr ?hp (fun _ q=>q) trivial (Below.refl _ _) (Nat.le_refl _) (by simp) ?_;(case hd=>rfl);(case hg=>rfl);(case hr=>exact jE);(case hp=>exact nE _);intro z w9 i d p o;clear p o;(first|rw [← m.out] at i|(simp only [Int.reduceToNat] at i;rw [← m.out] at i));have b:=Zm (Kd.R_lower i (Zbz (bk a.out)));replace a:=dJ a d;clear d i;obtain⟨A,B,D⟩:=Kd.R_slice b.out;subst D)|((with_reducible refine gate_callee (f:=47) rfl ?_);refine cQ (some 5) Tryz.func47 #[.slice A n.length B] ?_;refine cD (cB.calls _ _ _ _ _ _ (pc (Kd.R_reads' b.out).2.2) ((Kd.R_reads' b.out).2.1) x.out) ?_;rintro e w' ⟨rfl,⟨O,rfl⟩⟩;refine⟨_,rfl,?_⟩));go_ret;exact cI a
 replace H:=cM H;obtain⟨⟨X,Y,Z,aa⟩,P,H⟩:=H;(try dsimp only at H);obtain rfl:=Option.some.inj H;go_enter Tryz.func202,Tryz.ntmps202;go_wp2_with (first|((with_reducible refine gate_dst (N:=4) rfl ?_);refine Kd.R_lit Kd.string _ 9 ?hg (N:=4) ?hd (xs:=([c]:List ByteArray)) (inner:=[.string c]) (ok:=fun _=>True) (okp:=fun _=>True) ?hr ?hp (fun _ q=>q) trivial (Below.refl _ _) (Nat.le_refl _) (by simp) ?_;(case hd=>rfl);(case hg=>rfl);(case hr=>exact jE);(case hp=>exact nE _);intro z w5 j d p o;clear p o;(first|rw [← m.out] at j|(simp only [Int.reduceToNat] at j;rw [← m.out] at j));have b:=Zm (Kd.R_lower j (Zbz (bk a.out)));replace a:=dJ a d;clear d j;obtain⟨J,K,L⟩:=Kd.R_slice b.out;subst L)|((with_reducible refine gate_callee (f:=47) rfl ?_);refine cQ (some 5) Tryz.func47 #[.slice J n.length K] ?_;refine cD (cB.calls _ _ _ _ _ _ (pc (Kd.R_reads' b.out).2.2) ((Kd.R_reads' b.out).2.1) x.out) ?_;rintro e w' ⟨rfl,⟨O,rfl⟩⟩;refine⟨_,rfl,?_⟩;(try clear b))|(go_at_call 182;refine cD (aM.calls _ _ _ _ _ _ _ P.out) ?_;rintro e w8 ⟨ab,rfl,u,d⟩;have U:=Zm (Kd.R_lower u (Zbz (bk a.out)));replace a:=dJ a d;clear d u));go_ret;exact cI a
def iW.f (l0:List (cR)):Option (Int):=some (l0.length:Int)
theorem iW.calls (c:Option Addr) (d:Nat) (l0:List (cR)) (r:Int) (w:World) (a:Kd.C iN w c l0.length l0) (b:l0.length≤d) (h:iW.f l0=some r):
 Calls Tryz.prog 218 #[.slice c l0.length d] w fun e w'=>e=.returned (.int .i64 r)∧Drawn0 w w':=by
 have i:=Zm a;have j:=Zm b;clear a b;have H:=h;clear h;unfold iW.f at H;obtain rfl:=Option.some.inj H;go_enter Tryz.func218,Tryz.ntmps218;go_wp2;go_ret;exact hU
def jF.f (b:Int):Option (Bool):=(cX.f b (-2147483648) 2147483647).bind fun a=>(some a)
theorem jF.calls (a:Int) (r:Bool) (w:World) (h:jF.f a=some r):
 Calls Tryz.prog 230 #[.int .i64 a] w fun e w'=>e=.returned (.bool r)∧Drawn0 w w':=by
 have H:=h;clear h;unfold jF.f at H;replace H:=cM H;obtain⟨c,b,H⟩:=H;obtain rfl:=Option.some.inj H;go_enter Tryz.func230,Tryz.ntmps230;go_wp2_with (first|((with_reducible refine gate_callee (f:=135) rfl ?_);refine cQ (some 4) Tryz.func135 #[.int .i64 a,.int .i64 (-2147483648),.int .i64 2147483647] ?_;(with_reducible refine(cX.calls _ _ _ _ _ b.out).mono ?_);rintro e w' ⟨rfl,⟨d,rfl⟩⟩;refine⟨_,rfl,?_⟩));go_ret;exact hU
def bY.j0:Nat→Bool→Int→Int→ByteArray→ByteArray→ByteArray→Option (Bool)
 | 0,_,_,_,_,_,_=>none
 | k+1,i,j,a,d,e,c=>(cO.f j).bind fun b=>(if b.toList=([]:List UInt8) then (if i=true then (some (a == 0)) else (some false)) else (if b.toList=([110]:List UInt8) then (if i=true then ((jF.f a).bind fun m=>(some m)) else (some false)) else (if b.toList=([105]:List UInt8) then (if i=true then ((cX.f a 0 15).bind fun n=>(some n)) else (some false)) else (if b.toList=([116]:List UInt8) then (if i=true then ((cX.f a 0 59).bind fun o=>(some o)) else (some false)) else (if b.toList=([99]:List UInt8) then (if a=0 then ((aV.f k d).bind fun p=>(if p=true then (if e.toList=([]:List UInt8) then (some (c.toList == ([]:List UInt8))) else (some false)) else (some false))) else (some false)) else (if b.toList=([121]:List UInt8) then (if a=0 then (if d.toList=([]:List UInt8) then (if e.toList=([]:List UInt8) then (if c.toList=([73]:List UInt8) then (some true) else ((dD.f k c).bind fun q=>(if q=true then (if 0 < (c.size:Int) then (some ((bt c 0) == 76)) else (none)) else (some false)))) else (some false)) else (some false)) else (some false)) else (if b.toList=([102]:List UInt8) then (if a=0 then ((aV.f k d).bind fun r=>(if r=true then ((aV.f k e).bind fun s=>(if s=true then ((dD.f k c).bind fun t=>(some t)) else (some false))) else (some false))) else (some false)) else (if b.toList=([109]:List UInt8) then (if a=0 then ((aV.f k d).bind fun u=>(if u=true then ((cP.f k e).bind fun v=>(if v=true then ((dX.f k c).bind fun x=>(some x)) else (some false))) else (some false))) else (some false)) else (some false)))))))))
def bY.f (k:Nat) (d:Int) (e:Int) (a:ByteArray) (b:ByteArray) (c:ByteArray):Option (Bool):=if a.toList=([]:List UInt8) then (if b.toList=([]:List UInt8) then (bY.j0 k (c.toList == ([]:List UInt8)) d e a b c) else (bY.j0 k false d e a b c)) else (bY.j0 k false d e a b c)
theorem bY.mono_l:∀ k,(∀ a b c d e i,LeO (bY.j0 k a b c d e i) (bY.j0 (k+1) a b c d e i))
 | 0=>by intros;intro r h;simp [bY.j0] at h
 | k+1=>by
  have ih0:=bY.mono_l k;have m0:=@aV.mono;have m1:=@dX.mono;have m2:=@cP.mono;have m3:=@dD.mono;intros;unfold bY.j0;exact lM
theorem bY.mono:∀ a b c d e k,LeO (bY.f k a b c d e) (bY.f (k+1) a b c d e):=by
 intro a b c d e k;have ih0:=bY.mono_l k;unfold bY.f;have m0:=@aV.mono;have m1:=@dX.mono;have m2:=@cP.mono;have m3:=@dD.mono;exact lM
theorem bY.calls (k:Nat) (o:Int) (p:Int) (q:ByteArray) (s:ByteArray) (i:ByteArray) (r:Bool) (w:World) (h:bY.f k o p q s i=some r):
 Calls Tryz.prog 219 #[.agg #[.int .i64 o,.int .i64 p,.string q,.string s,.string i]] w fun e w'=>e=.returned (.bool r)∧Below w.heap.size w w':=by
 have bn:=Tryz.underlying159;have a:=Zm (Below.refl w.heap.size w);have H:=h;clear h;unfold bY.f at H;have x:=Zm H;clear H;go_enter Tryz.func219,Tryz.ntmps219;go_upto_region 1 with (first|((with_reducible refine gate_dst (N:=1) rfl ?_);refine fH 1 159 #[.int .i64 o,.int .i64 p,.string q,.string s,.string i] ?_;intro ai B w3 D c;have b:=Zm D;have bj:=bz a B;have bm:=bz a B;replace a:=dJ a c;clear c D B));(try simp only [Act.put,List.setIfInBounds_toArray,List.set_cons_zero,List.set_cons_succ]);go_cut [3] (fun v3 wc=>∃ (u:Nat) (v:Bool),v3=.bool v∧Aside0 (bY.j0 u v o p q s i=some r)∧Aside0 (u≤k)∧Aside0 (wc.heap[ai]?=some (.cells #[.int .i64 o,.int .i64 p,.string q,.string s,.string i] 159 (0,0)))∧Aside0 (Below w.heap.size w wc))
 case first=>
  have H:=x.out;clear x;replace H:=eM H;rcases H with ⟨c4,n,a9,H⟩|⟨c4,n,a9,H⟩
  · (first|rw [n]|(simp only [i64_w,i32_w];rw [n])|rw [vF n]|skip);have t:=Zm H;clear H;have ct:=fR b.out;go_wp2;go_meet
    case rel=>exact⟨_,(false),dS,t,⟨iS⟩,⟨pk b.out⟩,⟨bk a.out⟩⟩
  clear c4;(first|rw [n]|(simp only [i64_w,i32_w];rw [n])|rw [vF n]|skip);replace H:=eM H;rcases H with ⟨c5,a_,ba,H⟩|⟨c5,a_,ba,H⟩
  · have t:=Zm H;clear H;have cu:=fR b.out;go_wp2;go_meet
    case rel=>exact⟨_,(false),dS,t,⟨iS⟩,⟨pk b.out⟩,⟨bk a.out⟩⟩
  clear c5;have t:=Zm H;clear H;have cv:=fR b.out;go_wp2;go_meet
  case rel=>exact⟨_,((i.toList == ([]:List UInt8))),dS,t,⟨iS⟩,⟨pk b.out⟩,⟨bk a.out⟩⟩
 case rest=>
  clear x;obtain⟨u,v,rfl,HA,cy,b,a⟩:=hcut
  cases u with
  | zero=>exact absurd HA.out (by simp [bY.j0])
  | succ cz=>
   have H:=HA.out;clear HA;simp only [bY.j0] at H;replace H:=cM H;obtain⟨bo,A9,H⟩:=H;have E:=Zm H;clear H;have bp:=fR b.out;go_upto_if 20 with (first|((with_reducible refine gate_callee (f:=215) rfl ?_);refine cQ (some 19) Tryz.func215 #[.int .i64 o] ?_;(with_reducible refine(cO.calls _ _ _ A9.out).mono ?_);rintro e cH ⟨rfl,c⟩;refine⟨_,rfl,?_⟩;replace b:=kb b c;replace a:=dJ a c;clear c));have H:=E.out;clear E;replace H:=eM H;rcases H with ⟨G,m,aj,H⟩|⟨G,m,aj,H⟩
   · (first|rw [m]|(simp only [i64_w,i32_w];rw [m])|rw [vF m]|skip);replace H:=eM H;rcases H with ⟨I,ak,al,H⟩|⟨I,ak,al,H⟩
     · replace H:=eM H;rcases H with ⟨J,am,an,H⟩|⟨J,am,an,H⟩
       · replace H:=eM H;rcases H with ⟨K,ao,ap,H⟩|⟨K,ao,ap,H⟩
         · replace H:=eM H;rcases H with ⟨L,aq,ar,H⟩|⟨L,aq,ar,H⟩
           · replace H:=eM H;rcases H with ⟨M,au,av,H⟩|⟨M,au,av,H⟩
             · replace H:=eM H;rcases H with ⟨O,aw,ax,H⟩|⟨O,aw,ax,H⟩
               · replace H:=eM H;rcases H with ⟨P,ay,az,H⟩|⟨P,ay,az,H⟩
                 · obtain rfl:=Option.some.inj H;go_wp2;go_ret;exact cI a
                 clear P;replace H:=eM H;rcases H with ⟨T,aB,aF,H⟩|⟨T,aB,aF,H⟩
                 · obtain rfl:=Option.some.inj H;have bq:=fR b.out;go_wp2;go_ret;exact cI a
                 clear T;replace H:=cM H;obtain⟨br,y,H⟩:=H;replace H:=eN H;rcases H with ⟨rfl,H⟩|⟨rfl,H⟩
                 · obtain rfl:=Option.some.inj H;have bs:=fR b.out;(try clear b);go_wp2_with (first|(go_at_call 159;refine cD (aV.calls _ _ _ _ y.out) ?_;rintro e w' ⟨rfl,⟨d,rfl⟩⟩));go_ret;exact cI a
                 replace H:=cM H;obtain⟨bu,U,H⟩:=H;replace H:=eN H;rcases H with ⟨rfl,H⟩|⟨rfl,H⟩
                 · obtain rfl:=Option.some.inj H;have bv:=fR b.out;go_wp2_with (first|(go_at_call 159;refine cD (aV.calls _ _ _ _ y.out) ?_;rintro e w' ⟨rfl,⟨d,rfl⟩⟩;(try clear b))|(go_at_call 201;refine cD (cP.calls _ _ _ _ U.out) ?_;rintro e w' ⟨rfl,⟨d,rfl⟩⟩));go_ret;exact cI a
                 replace H:=cM H;obtain⟨bw,bb,H⟩:=H;obtain rfl:=Option.some.inj H;have bx:=fR b.out;go_wp2_with (first|(go_at_call 159;refine cD (aV.calls _ _ _ _ y.out) ?_;rintro e w' ⟨rfl,⟨d,rfl⟩⟩)|(go_at_call 201;refine cD (cP.calls _ _ _ _ U.out) ?_;rintro e w' ⟨rfl,⟨d,rfl⟩⟩;(try clear b))|(go_at_call 202;refine cD (dX.calls _ _ _ _ bb.out) ?_;rintro e cW ⟨rfl,c⟩;have j:=dJ a c;clear a;have a:=j;clear j;clear c));go_ret;exact cI a
               clear O;replace H:=eM H;rcases H with ⟨X,aL,aO,H⟩|⟨X,aL,aO,H⟩
               · obtain rfl:=Option.some.inj H;have b0:=fR b.out;go_wp2;go_ret;exact cI a
               clear X;replace H:=cM H;obtain⟨b1,z,H⟩:=H;replace H:=eN H;rcases H with ⟨rfl,H⟩|⟨rfl,H⟩
               · obtain rfl:=Option.some.inj H;have b2:=fR b.out;(try clear b);go_wp2_with (first|(go_at_call 159;refine cD (aV.calls _ _ _ _ z.out) ?_;rintro e w' ⟨rfl,⟨d,rfl⟩⟩));go_ret;exact cI a
               replace H:=cM H;obtain⟨b3,Y,H⟩:=H;replace H:=eN H;rcases H with ⟨rfl,H⟩|⟨rfl,H⟩
               · obtain rfl:=Option.some.inj H;have b4:=fR b.out;go_wp2_with (first|(go_at_call 159;refine cD (aV.calls _ _ _ _ z.out) ?_;rintro e w' ⟨rfl,⟨d,rfl⟩⟩;(try clear b))|(go_at_call 159;refine cD (aV.calls _ _ _ _ Y.out) ?_;rintro e w' ⟨rfl,⟨d,rfl⟩⟩));go_ret;exact cI a
               replace H:=cM H;obtain⟨b5,bc,H⟩:=H;obtain rfl:=Option.some.inj H;have b6:=fR b.out;go_wp2_with (first|(go_at_call 159;refine cD (aV.calls _ _ _ _ z.out) ?_;rintro e w' ⟨rfl,⟨d,rfl⟩⟩)|(go_at_call 159;refine cD (aV.calls _ _ _ _ Y.out) ?_;rintro e w' ⟨rfl,⟨d,rfl⟩⟩;(try clear b))|(go_at_call 160;refine cD (dD.calls _ _ _ _ bc.out) ?_;rintro e c0 ⟨rfl,c⟩;have j:=dJ a c;clear a;have a:=j;clear j;clear c));go_ret;exact cI a
             clear M;replace H:=eM H;rcases H with ⟨Z,aP,aR,H⟩|⟨Z,aP,aR,H⟩
             · obtain rfl:=Option.some.inj H;have b7:=fR b.out;go_wp2;go_ret;exact cI a
             clear Z;replace H:=eM H;rcases H with ⟨aa,aS,a0,H⟩|⟨aa,aS,a0,H⟩
             · obtain rfl:=Option.some.inj H;have b8:=fR b.out;go_wp2;go_ret;exact cI a
             clear aa;replace H:=eM H;rcases H with ⟨ab,a1,a2,H⟩|⟨ab,a1,a2,H⟩
             · obtain rfl:=Option.some.inj H;have b9:=fR b.out;go_wp2;go_ret;exact cI a
             clear ab;replace H:=eM H;rcases H with ⟨ac,a3,a4,H⟩|⟨ac,a3,a4,H⟩
             · replace H:=cM H;obtain⟨b_,ad,H⟩:=H;replace H:=eN H;rcases H with ⟨rfl,H⟩|⟨rfl,H⟩
               · obtain rfl:=Option.some.inj H;have ca:=fR b.out;(try clear b);go_wp2_with (first|(go_at_call 160;refine cD (dD.calls _ _ _ _ ad.out) ?_;rintro e c1 ⟨rfl,c⟩;have j:=dJ a c;clear a;have a:=j;clear j;clear c));go_ret;exact cI a
               replace H:=hY H;obtain⟨ae,H⟩:=H;have cb:=decide_eq_true ae;have cc:decide (0 < i.size)=true:=decide_eq_true (by omega);clear ae;obtain rfl:=Option.some.inj H;have cd:=fR b.out;go_wp2_with (first|(go_at_call 160;refine cD (dD.calls _ _ _ _ ad.out) ?_;rintro e c2 ⟨rfl,c⟩;replace b:=kb b c;replace a:=dJ a c;clear c;have ce:=fR b.out;have be:0≤(0:Int):=(by omega);have af:0 < i.size:=(by have:(0:Int) < (i.size:Int):=eF;omega);have cw:∀ h:0 < i.size,((i[0]'h).toNat:Int)=bt i 0:=bt_at i 0;clear be;have cx:(0 < (i.size:Int))=True:=eq_true eF;replace af:=eq_true af));go_ret;exact cI a
             clear ac;obtain rfl:=Option.some.inj H;have cf:=fR b.out;go_wp2;go_ret;exact cI a
           clear L;replace H:=eM H;rcases H with ⟨ag,a5,a6,H⟩|⟨ag,a5,a6,H⟩
           · obtain rfl:=Option.some.inj H;have cg:=fR b.out;go_wp2;go_ret;exact cI a
           clear ag;replace H:=cM H;obtain⟨ch,A,H⟩:=H;replace H:=eN H;rcases H with ⟨rfl,H⟩|⟨rfl,H⟩
           · obtain rfl:=Option.some.inj H;have ci:=fR b.out;(try clear b);go_wp2_with (first|(go_at_call 159;refine cD (aV.calls _ _ _ _ A.out) ?_;rintro e w' ⟨rfl,⟨d,rfl⟩⟩));go_ret;exact cI a
           replace H:=eM H;rcases H with ⟨ah,a7,a8,H⟩|⟨ah,a7,a8,H⟩
           · obtain rfl:=Option.some.inj H;have cj:=fR b.out;go_wp2_with (first|(go_at_call 159;refine cD (aV.calls _ _ _ _ A.out) ?_;rintro e w' ⟨rfl,⟨d,rfl⟩⟩));go_ret;exact cI a
           clear ah;obtain rfl:=Option.some.inj H;have ck:=fR b.out;go_wp2_with (first|(go_at_call 159;refine cD (aV.calls _ _ _ _ A.out) ?_;rintro e w' ⟨rfl,⟨d,rfl⟩⟩));go_ret;exact cI a
         clear K;replace H:=eN H;rcases H with ⟨rfl,H⟩|⟨rfl,H⟩
         · obtain rfl:=Option.some.inj H;go_wp2;go_ret;exact cI a
         replace H:=cM H;obtain⟨cl,bf,H⟩:=H;obtain rfl:=Option.some.inj H;have cm:=fR b.out;(try clear b);go_wp2_with (first|(go_at_call 135;refine cD (cX.calls _ _ _ _ _ bf.out) ?_;rintro e w' ⟨rfl,⟨d,rfl⟩⟩));go_ret;exact cI a
       clear J;replace H:=eN H;rcases H with ⟨rfl,H⟩|⟨rfl,H⟩
       · obtain rfl:=Option.some.inj H;go_wp2;go_ret;exact cI a
       replace H:=cM H;obtain⟨cn,bh,H⟩:=H;obtain rfl:=Option.some.inj H;have co:=fR b.out;(try clear b);go_wp2_with (first|(go_at_call 135;refine cD (cX.calls _ _ _ _ _ bh.out) ?_;rintro e w' ⟨rfl,⟨d,rfl⟩⟩));go_ret;exact cI a
     clear I;replace H:=eN H;rcases H with ⟨rfl,H⟩|⟨rfl,H⟩
     · obtain rfl:=Option.some.inj H;go_wp2;go_ret;exact cI a
     replace H:=cM H;obtain⟨cp,bi,H⟩:=H;obtain rfl:=Option.some.inj H;have cq:=fR b.out;(try clear b);go_wp2_with (first|(go_at_call 230;refine cD (jF.calls _ _ _ bi.out) ?_;rintro e w' ⟨rfl,⟨d,rfl⟩⟩));go_ret;exact cI a
   clear G;(first|rw [m]|(simp only [i64_w,i32_w];rw [m])|rw [vF m]|skip);replace H:=eN H;rcases H with ⟨rfl,H⟩|⟨rfl,H⟩
   · obtain rfl:=Option.some.inj H;go_wp2;go_ret;exact cI a
   obtain rfl:=Option.some.inj H;have cs:=fR b.out;go_wp2;go_ret;exact cI a
def gA.f (k:Nat) (a:Int) (b:Int) (i:Int) (j:ByteArray) (c:Int):Option (Bool):=if a < 0 then (some true) else (if a ≥ b then (some true) else (if b > c then (some true) else ((cX.f i 0 (wrap64 (c - 1))).bind fun d=>(if d=true then ((aV.f k j).bind fun e=>(some (!e))) else (some true)))))
theorem gA.calls (k:Nat) (n:Int) (m:Int) (o:Int) (p:ByteArray) (u:Nat) (q:Int) (r:Bool) (w:World) (B:w.heap[u]?=some (.cells #[.int .i64 q] 2 (0,0))) (h:gA.f k n m o p q=some r):
 Calls Tryz.prog 221 #[.agg #[.int .i64 n,.int .i64 m,.int .i64 o,.string p],.pointer (some ⟨u,0,none⟩)] w fun e w'=>e=.returned (.bool r)∧Below w.heap.size w w':=by
 have aa:=Tryz.underlying162;have c:=Zm B;clear B;have a:=Zm (Below.refl w.heap.size w);have H:=h;clear h;unfold gA.f at H;replace H:=jC H;rcases H with ⟨G,H⟩|⟨G,H⟩
 · replace H:=iG H;rcases H with ⟨v,H⟩|⟨v,H⟩
   · have I:decide (m≤n)=false:=decide_eq_false v;clear v;replace H:=iG H;rcases H with ⟨x,H⟩|⟨x,H⟩
     · have J:decide (q < m)=false:=decide_eq_false x;clear x;replace H:=cM H;obtain⟨ab,D,H⟩:=H;replace H:=eN H;rcases H with ⟨rfl,H⟩|⟨rfl,H⟩
       · obtain rfl:=Option.some.inj H;go_enter Tryz.func221,Tryz.ntmps221;go_wp2_with (first|((with_reducible refine gate_dst (N:=2) rfl ?_);refine fH 2 162 #[.int .i64 n,.int .i64 m,.int .i64 o,.string p] ?_;intro y b K i d;have j:=Zm i;have z:=bz a b;have A:=bz a b;have s:=bl c b;have t:=bg c b;replace c:=kb c d;replace a:=dJ a d;clear d i b;have ac:=t.out;have ad:=s.out;have ae:=sP j.out;have P:K.cell? ⟨u,0,none⟩=some (.int .i64 q):=(Zkc c.out 0).trans rfl;(try clear c);(try clear j))|(go_at_call 135;refine cD (cX.calls _ _ _ _ _ D.out) ?_;rintro e w' ⟨rfl,⟨E,rfl⟩⟩));go_ret;exact cI a
       replace H:=cM H;obtain⟨af,L,H⟩:=H;obtain rfl:=Option.some.inj H;go_enter Tryz.func221,Tryz.ntmps221;go_wp2_with (first|((with_reducible refine gate_dst (N:=2) rfl ?_);refine fH 2 162 #[.int .i64 n,.int .i64 m,.int .i64 o,.string p] ?_;intro y b M i d;have j:=Zm i;have z:=bz a b;have A:=bz a b;have s:=bl c b;have t:=bg c b;replace c:=kb c d;replace a:=dJ a d;clear d i b;have ag:=t.out;have ah:=s.out;have ai:=sP j.out;have T:M.cell? ⟨u,0,none⟩=some (.int .i64 q):=(Zkc c.out 0).trans rfl;(try clear c))|(go_at_call 135;refine cD (cX.calls _ _ _ _ _ D.out) ?_;rintro e w' ⟨rfl,⟨E,rfl⟩⟩;(try clear j))|(go_at_call 159;refine cD (aV.calls _ _ _ _ L.out) ?_;rintro e w' ⟨rfl,⟨E,rfl⟩⟩));go_ret;exact cI a
     have J:decide (q < m)=true:=decide_eq_true x;clear x;obtain rfl:=Option.some.inj H;go_enter Tryz.func221,Tryz.ntmps221;go_wp2_with (first|((with_reducible refine gate_dst (N:=2) rfl ?_);refine fH 2 162 #[.int .i64 n,.int .i64 m,.int .i64 o,.string p] ?_;intro y b O i d;have j:=Zm i;have z:=bz a b;have A:=bz a b;have s:=bl c b;have t:=bg c b;replace c:=kb c d;replace a:=dJ a d;clear d i b;have aj:=t.out;have ak:=s.out;have al:=sP j.out;have U:O.cell? ⟨u,0,none⟩=some (.int .i64 q):=(Zkc c.out 0).trans rfl;have X:=Zkf c.out 0));go_ret;exact cI a
   have I:decide (m≤n)=true:=decide_eq_true v;clear v;obtain rfl:=Option.some.inj H;(try clear c);go_enter Tryz.func221,Tryz.ntmps221;go_wp2_with (first|((with_reducible refine gate_dst (N:=2) rfl ?_);refine fH 2 162 #[.int .i64 n,.int .i64 m,.int .i64 o,.string p] ?_;intro y b w7 i d;have j:=Zm i;have z:=bz a b;have A:=bz a b;replace a:=dJ a d;clear d i b;have am:=sP j.out;have Y:=Zkf j.out 3));go_ret;exact cI a
 obtain rfl:=Option.some.inj H;(try clear c);go_enter Tryz.func221,Tryz.ntmps221;go_wp2_with (first|((with_reducible refine gate_dst (N:=2) rfl ?_);refine fH 2 162 #[.int .i64 n,.int .i64 m,.int .i64 o,.string p] ?_;intro y b w4 i d;have j:=Zm i;have z:=bz a b;have A:=bz a b;replace a:=dJ a d;clear d i b;have an:=sP j.out;have Z:=Zkf j.out 3));go_ret;exact cI a
def dW.l0:Nat→List (dG)→Int→Int→Int→Option (Int)
 | 0,_,_,_,_=>none
 | k+1,b,d,a,c=>if a < d then (if 0≤a then (if a < (b.length:Int) then ((gA.f k ((cL b a).f0) ((cL b a).f1) ((cL b a).f2) ((cL b a).f3) c).bind fun e=>(if e=true then (some a) else (dW.l0 k b d (wrap64 (a+1)) c))) else (none)) else (none)) else (some (-1))
def dW.f (k:Nat) (l0:List (dG)) (a:Int):Option (Int):=dW.l0 k l0 (l0.length:Int) 0 a
theorem dW.calls (k:Nat) (t:Option Addr) (u:Nat) (l0:List (dG)) (d:Nat) (i:Int) (r:Int) (w:World) (o:Kd.C iY w t l0.length l0) (p:l0.length≤u) (n:w.heap[d]?=some (.cells #[.int .i64 i] 2 (0,0))) (h:dW.f k l0 i=some r):
 Calls Tryz.prog 231 #[.slice t l0.length u,.func (.func 221) #[] #[.pointer (some ⟨d,0,none⟩)]] w fun e w'=>e=.returned (.int .i64 r)∧Below w.heap.size w w':=by
 have I:=Tryz.underlying162;have z:=Zm o;have K:=Zm p;clear o p;have b:=Zm n;clear n;have a:=Zm (Below.refl w.heap.size w);have H:=h;clear h;unfold dW.f at H;have j:=Zm H;clear H;go_enter Tryz.func231,Tryz.ntmps231;go_wp2;go_loopg [8] k (fun v A w'=>∃ (c:Int),A=.int .i64 c∧Aside0 (dW.l0 v l0 (l0.length:Int) c i=some r)∧Aside0 (v≤k)∧Aside0 (w'.heap[d]?=some (.cells #[.int .i64 i] 2 (0,0)))∧Aside0 (Below w.heap.size w w'))
 case atStart=>exact⟨(0),dS,j,⟨Nat.le_refl _⟩,⟨pk b.out⟩,⟨bk a.out⟩⟩
 case round=>
  clear j;obtain⟨c,rfl,HA,q,b,a⟩:=hrel
  cases gk with
  | zero=>exact absurd HA.out (by simp [dW.l0])
  | succ B=>
   have H:=HA.out;clear HA;simp only [dW.l0] at H;replace H:=jC H;rcases H with ⟨y,H⟩|⟨y,H⟩
   · obtain rfl:=Option.some.inj H;go_wp2;go_ret;exact cI a
   replace H:=eG H;obtain⟨c4b0,H⟩:=H;replace H:=eG H;obtain⟨c5b0,H⟩:=H;replace H:=cM H;obtain⟨J,D,H⟩:=H;have s:=Zm H;clear H;obtain⟨E,x,G⟩:=qV z a c;cases x;go_upto_if 16 with (first|(go_at_call 221;refine cD (gA.calls _ _ _ _ _ d _ _ _ ?side1 D.out) ?_;(case side1=>(with_reducible repeat (first|refine Zkn ?_ _|refine Zkd ?_|refine Zka ?_ _));exact b.out);rintro e L ⟨rfl,m⟩;replace b:=kb b m;replace a:=dJ a m;clear m));have H:=s.out;clear s;replace H:=eN H;rcases H with ⟨rfl,H⟩|⟨rfl,H⟩
   · have j:=Zm H;clear H;go_wp2;go_roundg B
     case measure=>have:=q.out;omega
     case rel=>exact⟨(wrap64 (c+1)),dS,j,⟨by have:=q.out;omega⟩,⟨pk b.out⟩,⟨bk a.out⟩⟩
   obtain rfl:=Option.some.inj H;go_wp2;go_ret;exact cI a
end Go.Proofs.YtkbebmifpccofaaGreat.PFnClassCut
