/- Functions of the program as plain Lean functions, each with a proof that the program's call comes to the same; no condition. Written by a program of this session. -/
import Derived.Test.YtkbebmifpccofaaGreatPFnClassCutx0
namespace Go.Proofs.YtkbebmifpccofaaGreat.PFnClassCut
open Go.RowKit Go.Proofs.YtkbebmifpccofaaGreatW.PrintWords Go.Proofs.YtkbebmifpccofaaGreatW.PrintLast Go.Proofs.YtkbebmifpccofaaGreatW.PrintMore
attribute [local go_sem] max2_int min2_int max_two min_two max_three min_three max_four min_four   -- for this text's walks alone
set_option maxHeartbeats 80000000
set_option maxRecDepth 100000
set_option linter.unusedVariables false
set_option linter.unusedSimpArgs false
def dK.f (a:Int) (b:Bool):Option (Bool):=if a ≥ 97 then (if a≤122 then (some true) else (if a ≥ 65 then (if a≤90 then (some true) else (if a=36 then (some true) else (if b=true then (some false) else (if a ≥ 48 then (some (decide (a≤57))) else (some false))))) else (if a=36 then (some true) else (if b=true then (some false) else (if a ≥ 48 then (some (decide (a≤57))) else (some false)))))) else (if a ≥ 65 then (if a≤90 then (some true) else (if a=36 then (some true) else (if b=true then (some false) else (if a ≥ 48 then (some (decide (a≤57))) else (some false))))) else (if a=36 then (some true) else (if b=true then (some false) else (if a ≥ 48 then (some (decide (a≤57))) else (some false)))))
theorem dK.calls (a:Int) (q:Bool) (r:Bool) (w:World) (h:dK.f a q=some r):
 Calls Tryz.prog 147 #[.int .u8 a,.bool q] w fun e w'=>e=.returned (.bool r)∧Drawn0 w w':=by
 have H:=h;clear h;unfold dK.f at H;replace H:=iG H;rcases H with ⟨j,H⟩|⟨j,H⟩
 · have I:decide (97≤a)=false:=decide_eq_false j;clear j;replace H:=iG H;rcases H with ⟨b,H⟩|⟨b,H⟩
   · have t:decide (65≤a)=false:=decide_eq_false b;clear b;replace H:=eM H;rcases H with ⟨n,u,v,H⟩|⟨n,u,v,H⟩
     · replace H:=eN H;rcases H with ⟨rfl,H⟩|⟨rfl,H⟩
       · replace H:=iG H;rcases H with ⟨c,H⟩|⟨c,H⟩
         · have x:decide (48≤a)=false:=decide_eq_false c;clear c;obtain rfl:=Option.some.inj H;go_enter Tryz.func147,Tryz.ntmps147;go_wp2;go_ret;exact hU
         have x:decide (48≤a)=true:=decide_eq_true c;clear c;obtain rfl:=Option.some.inj H;go_enter Tryz.func147,Tryz.ntmps147;go_wp2;go_ret;exact hU
       obtain rfl:=Option.some.inj H;go_enter Tryz.func147,Tryz.ntmps147;go_wp2;go_ret;exact hU
     clear n;obtain rfl:=Option.some.inj H;go_enter Tryz.func147,Tryz.ntmps147;go_wp2;go_ret;exact hU
   have t:decide (65≤a)=true:=decide_eq_true b;clear b;replace H:=jC H;rcases H with ⟨y,H⟩|⟨y,H⟩
   · replace H:=eM H;rcases H with ⟨o,z,A,H⟩|⟨o,z,A,H⟩
     · replace H:=eN H;rcases H with ⟨rfl,H⟩|⟨rfl,H⟩
       · replace H:=iG H;rcases H with ⟨d,H⟩|⟨d,H⟩
         · have B:decide (48≤a)=false:=decide_eq_false d;clear d;obtain rfl:=Option.some.inj H;go_enter Tryz.func147,Tryz.ntmps147;go_wp2;go_ret;exact hU
         have B:decide (48≤a)=true:=decide_eq_true d;clear d;obtain rfl:=Option.some.inj H;go_enter Tryz.func147,Tryz.ntmps147;go_wp2;go_ret;exact hU
       obtain rfl:=Option.some.inj H;go_enter Tryz.func147,Tryz.ntmps147;go_wp2;go_ret;exact hU
     clear o;obtain rfl:=Option.some.inj H;go_enter Tryz.func147,Tryz.ntmps147;go_wp2;go_ret;exact hU
   obtain rfl:=Option.some.inj H;go_enter Tryz.func147,Tryz.ntmps147;go_wp2;go_ret;exact hU
 have I:decide (97≤a)=true:=decide_eq_true j;clear j;replace H:=jC H;rcases H with ⟨J,H⟩|⟨J,H⟩
 · replace H:=iG H;rcases H with ⟨k,H⟩|⟨k,H⟩
   · have K:decide (65≤a)=false:=decide_eq_false k;clear k;replace H:=eM H;rcases H with ⟨p,D,E,H⟩|⟨p,D,E,H⟩
     · replace H:=eN H;rcases H with ⟨rfl,H⟩|⟨rfl,H⟩
       · replace H:=iG H;rcases H with ⟨i,H⟩|⟨i,H⟩
         · have G:decide (48≤a)=false:=decide_eq_false i;clear i;obtain rfl:=Option.some.inj H;go_enter Tryz.func147,Tryz.ntmps147;go_wp2;go_ret;exact hU
         have G:decide (48≤a)=true:=decide_eq_true i;clear i;obtain rfl:=Option.some.inj H;go_enter Tryz.func147,Tryz.ntmps147;go_wp2;go_ret;exact hU
       obtain rfl:=Option.some.inj H;go_enter Tryz.func147,Tryz.ntmps147;go_wp2;go_ret;exact hU
     clear p;obtain rfl:=Option.some.inj H;go_enter Tryz.func147,Tryz.ntmps147;go_wp2;go_ret;exact hU
   have K:decide (65≤a)=true:=decide_eq_true k;clear k;replace H:=jC H;rcases H with ⟨L,H⟩|⟨L,H⟩
   · replace H:=eM H;rcases H with ⟨s,M,O,H⟩|⟨s,M,O,H⟩
     · replace H:=eN H;rcases H with ⟨rfl,H⟩|⟨rfl,H⟩
       · replace H:=iG H;rcases H with ⟨m,H⟩|⟨m,H⟩
         · have P:decide (48≤a)=false:=decide_eq_false m;clear m;obtain rfl:=Option.some.inj H;go_enter Tryz.func147,Tryz.ntmps147;go_wp2;go_ret;exact hU
         have P:decide (48≤a)=true:=decide_eq_true m;clear m;obtain rfl:=Option.some.inj H;go_enter Tryz.func147,Tryz.ntmps147;go_wp2;go_ret;exact hU
       obtain rfl:=Option.some.inj H;go_enter Tryz.func147,Tryz.ntmps147;go_wp2;go_ret;exact hU
     clear s;obtain rfl:=Option.some.inj H;go_enter Tryz.func147,Tryz.ntmps147;go_wp2;go_ret;exact hU
   obtain rfl:=Option.some.inj H;go_enter Tryz.func147,Tryz.ntmps147;go_wp2;go_ret;exact hU
 obtain rfl:=Option.some.inj H;go_enter Tryz.func147,Tryz.ntmps147;go_wp2;go_ret;exact hU
mutual
def aE.j0:Nat→ByteArray→Bool→Option (Bool)
 | 0,_,_=>none
 | k+1,a,x11=>if x11=true then (some false) else (aE.l0 k a 0)
def aE.l0:Nat→ByteArray→Int→Option (Bool)
 | 0,_,_=>none
 | k+1,b,a=>if a < (b.size:Int) then (if 0≤a then ((dK.f (bt b a) (a == 0)).bind fun c=>(if c=true then (aE.l0 k b (wrap64 (a+1))) else (some false))) else (none)) else (some true)
end
def aE.f (k:Nat) (a:ByteArray):Option (Bool):=if (a.size:Int) < 1 then (aE.j0 k a true) else (aE.j0 k a (decide ((a.size:Int) > 20)))
theorem aE.mono_l:∀ k,(∀ a b,LeO (aE.j0 k a b) (aE.j0 (k+1) a b))∧(∀ a b,LeO (aE.l0 k a b) (aE.l0 (k+1) a b))
 | 0=>by refine⟨?_,?_⟩ <;> (intros;intro r h;simp [aE.j0,aE.l0] at h)
 | k+1=>by
  obtain⟨ih0,ih1⟩:=aE.mono_l k;refine⟨?_,?_⟩ <;> (intros;(first|unfold aE.j0|unfold aE.l0)) <;> exact lM
theorem aE.mono:∀ a k,LeO (aE.f k a) (aE.f (k+1) a):=by
 intro a k;obtain⟨ih0,ih1⟩:=aE.mono_l k;unfold aE.f;exact lM
theorem aE.calls (k:Nat) (a:ByteArray) (r:Bool) (w:World) (h:aE.f k a=some r):
 Calls Tryz.prog 93 #[.string a] w fun e w'=>e=.returned (.bool r)∧Drawn0 w w':=by
 have H:=h;clear h;unfold aE.f at H;have n:=Aside0.mk H;clear H;go_enter Tryz.func93,Tryz.ntmps93;go_upto_region 1 with (fail);go_cut [11] (fun y wc=>∃ (d:Nat) (m:Bool),y=.bool m∧Aside0 (aE.j0 d a m=some r)∧Aside0 (d≤k)∧Drawn0 w wc)
 case first=>
  have H:=n.out;clear n;replace H:=iG H;rcases H with ⟨j,H⟩|⟨j,H⟩
  · have i:=decide_eq_false j;have v:decide (a.size < 1)=false:=decide_eq_false (by omega);clear j;(first|rw [i]|(simp only [i64_w,i32_w];rw [i])|skip);have c:=Aside0.mk H;clear H;go_wp2;go_meet
    case rel=>exact⟨_,(decide ((a.size:Int) > 20)),dS,c,⟨iS⟩,mX⟩
  have i:=decide_eq_true j;have v:decide (a.size < 1)=true:=decide_eq_true (by omega);clear j;(first|rw [i]|(simp only [i64_w,i32_w];rw [i])|skip);have c:=Aside0.mk H;clear H;go_wp2;go_meet
  case rel=>exact⟨_,(true),dS,c,⟨iS⟩,mX⟩
 case rest=>
  clear n;obtain⟨d,m,rfl,HA,o,⟨E,rfl⟩⟩:=hcut
  cases d with
  | zero=>exact absurd HA.out (by simp [aE.j0])
  | succ p=>
   have H:=HA.out;clear HA;simp only [aE.j0] at H;replace H:=eN H;rcases H with ⟨rfl,H⟩|⟨rfl,H⟩
   · have c:=Aside0.mk H;clear H;go_wp2;go_loopg [3] p (fun d z w'=>∃ (b:Int),z=.int .i64 b∧Aside0 (aE.l0 d a b=some r)∧Aside0 (d≤p)∧Drawn0 w w')
     case atStart=>exact⟨(0),dS,c,⟨Nat.le_refl _⟩,mX⟩
     case round=>
      clear c;(try clear c4);obtain⟨b,rfl,HA,q,⟨m2,rfl⟩⟩:=hrel
      cases gk with
      | zero=>exact absurd HA.out (by simp [aE.l0])
      | succ A=>
       have H:=HA.out;clear HA;simp only [aE.l0] at H;replace H:=jC H;rcases H with ⟨x,H⟩|⟨x,H⟩
       · obtain rfl:=Option.some.inj H;go_wp2;go_ret;exact hU
       replace H:=eG H;obtain⟨c6b0,H⟩:=H;replace H:=cM H;obtain⟨D,B,H⟩:=H;have s:=Aside0.mk H;clear H;have t:0≤(b:Int):=eF;have u:b < (a.size:Int):=eF;have G:=bt_at a b;replace t:=eq_true t;replace u:=eq_true u;go_upto_if 24 with (first|((with_reducible refine gate_callee (f:=147) rfl ?_);refine cQ (some 23) Tryz.func147 #[.int .u8 (bt a b),.bool (b == 0)] ?_;(with_reducible refine(dK.calls _ _ _ _ B.out).mono ?_);rintro e w' ⟨rfl,⟨I,rfl⟩⟩;refine⟨_,rfl,?_⟩));have H:=s.out;clear s;replace H:=eN H;rcases H with ⟨rfl,H⟩|⟨rfl,H⟩
       · obtain rfl:=Option.some.inj H;go_wp2;go_ret;exact hU
       have c:=Aside0.mk H;clear H;go_wp2;go_roundg A
       case measure=>have:=o.out;have:=q.out;omega
       case rel=>exact⟨(wrap64 (b+1)),dS,c,⟨by have:=o.out;have:=q.out;omega⟩,mX⟩
   obtain rfl:=Option.some.inj H;go_wp2;go_ret;exact hU
mutual
def bG.j0:Nat→ByteArray→Int→Bool→Option (Int×Bool)
 | 0,_,_,_=>none
 | k+1,b,a,d=>if d=true then ((bG.f k b (wrap64 (a+1)) true).bind fun c=>(some (c.1,c.2))) else (if 0≤a then (if a < (b.size:Int) then (if (bt b a)=76 then (bG.l0 k b (wrap64 (a+1)) (wrap64 (a+1))) else (some (a,false))) else (none)) else (none))
def bG.l0:Nat→ByteArray→Int→Int→Option (Int×Bool)
 | 0,_,_,_=>none
 | k+1,b,c,a=>if a < (b.size:Int) then (if (wrap64 (a - c)) < 20 then (if 0≤a then ((dK.f (bt b a) (a == c)).bind fun d=>(if d=true then (bG.l0 k b c (wrap64 (a+1))) else (if a=(b.size:Int) then (some (a,false)) else (if (bt b a)=59 then (if a=c then (some (a,false)) else (some (wrap64 (a+1),true))) else (some (a,false)))))) else (none)) else (if a=(b.size:Int) then (some (a,false)) else (if 0≤a then (if (bt b a)=59 then (if a=c then (some (a,false)) else (some (wrap64 (a+1),true))) else (some (a,false))) else (none)))) else (if a=(b.size:Int) then (some (a,false)) else (if 0≤a then (none) else (none)))
def bG.f:Nat→ByteArray→Int→Bool→Option (Int×Bool)
 | 0,_,_,_=>none
 | k+1,a0,a1,a=>if a1 ≥ (a0.size:Int) then (some (a1,false)) else (if 0≤a1 then (if a1 < (a0.size:Int) then (if (bt a0 a1)=73 then (some (wrap64 (a1+1),true)) else (if (bt a0 a1)=91 then (bG.j0 k a0 a1 (!a)) else (bG.j0 k a0 a1 false))) else (none)) else (none))
end
theorem bG.mono_l:∀ k,(∀ a b c,LeO (bG.f k a b c) (bG.f (k+1) a b c))∧(∀ a b c,LeO (bG.j0 k a b c) (bG.j0 (k+1) a b c))∧(∀ a b c,LeO (bG.l0 k a b c) (bG.l0 (k+1) a b c))
 | 0=>by refine⟨?_,?_,?_⟩ <;> (intros;intro r h;simp [bG.f,bG.j0,bG.l0] at h)
 | k+1=>by
  obtain⟨ih0,ih1,ih2⟩:=bG.mono_l k;refine⟨?_,?_,?_⟩ <;> (intros;(first|unfold bG.f|unfold bG.j0|unfold bG.l0)) <;> exact lM
theorem bG.mono:∀ a b c k,LeO (bG.f k a b c) (bG.f (k+1) a b c):=by
 intro a b c k;obtain⟨ih0,ih1,ih2⟩:=bG.mono_l k;exact ih0 a b c
theorem bG.calls (k:Nat):∀ (b:ByteArray) (a:Int) (E:Bool) (r1:Int) (y:Bool) (w:World) (h:bG.f k b a E=some (r1,y)),
 Calls Tryz.prog 148 #[.string b,.int .i64 a,.bool E] w fun e w'=>e=.returned (.tuple #[.int .i64 r1,.bool y])∧Drawn0 w w':=by
 induction k using Nat.strongRecOn with
 | _ k ih=>
 intro b a E r1 y w h
 cases k with
 | zero=>exact absurd h (by simp [bG.f])
 | succ k=>
 simp only [bG.f] at h;have H:(if a ≥ (b.size:Int) then (some (a,false)) else (if 0≤a then (if a < (b.size:Int) then (if (bt b a)=73 then (some (wrap64 (a+1),true)) else (if (bt b a)=91 then (bG.j0 k b a (!E)) else (bG.j0 k b a false))) else (none)) else (none)))=some (r1,y):=h;clear h;replace H:=iG H;rcases H with ⟨t,H⟩|⟨t,H⟩
 · have J:decide ((b.size:Int)≤a)=false:=decide_eq_false t;clear t;replace H:=eG H;obtain⟨c5b0,H⟩:=H;replace H:=eG H;obtain⟨c6b0,H⟩:=H;replace H:=eM H;rcases H with ⟨G,K,L,H⟩|⟨G,K,L,H⟩
   · have M:=Aside0.mk H;clear H;have d:0≤(a:Int):=eF;have i:a < (b.size:Int):=eF;have O:=bt_at b a;replace d:=eq_true d;replace i:=eq_true i;go_enter Tryz.func148,Tryz.ntmps148;go_upto_region 5 with (fail);go_cut [22] (fun a8 wc=>∃ (u:Nat) (I:Bool),a8=.bool I∧Aside0 (bG.j0 u b a I=some (r1,y))∧Aside0 (u≤k)∧Drawn0 w wc)
     case first=>
      have H:=M.out;clear M;replace H:=eM H;rcases H with ⟨ad,z,am,H⟩|⟨ad,z,am,H⟩
      · (first|rw [z]|(simp only [i64_w,i32_w];rw [z])|skip);have p:=Aside0.mk H;clear H;have B:0≤(a:Int):=eF;have D:a < (b.size:Int):=eF;have a5:=bt_at b a;replace B:=eq_true B;replace D:=eq_true D;go_wp2;go_meet
        case rel=>exact⟨_,(false),dS,p,⟨iS⟩,mX⟩
      clear ad;(first|rw [z]|(simp only [i64_w,i32_w];rw [z])|skip);have p:=Aside0.mk H;clear H;have B:0≤(a:Int):=eF;have D:a < (b.size:Int):=eF;have a5:=bt_at b a;replace B:=eq_true B;replace D:=eq_true D;go_wp2;go_meet
      case rel=>exact⟨_,(!E),dS,p,⟨iS⟩,mX⟩
     case rest=>
      clear M;(try clear t);(try clear J);(try clear c5);(try clear c5b0);(try clear c6);(try clear c6b0);(try clear d);(try clear i);(try clear O);(try clear G);(try clear K);(try clear L);(try clear d);(try clear i);obtain⟨u,I,rfl,HA,P,⟨bc,rfl⟩⟩:=hcut
      cases u with
      | zero=>exact absurd HA.out (by simp [bG.j0])
      | succ T=>
       have H:=HA.out;clear HA;simp only [bG.j0] at H;replace H:=eN H;rcases H with ⟨rfl,H⟩|⟨rfl,H⟩
       · replace H:=eG H;obtain⟨c14b0,H⟩:=H;replace H:=eG H;obtain⟨c15b0,H⟩:=H;replace H:=eM H;rcases H with ⟨U,X,Y,H⟩|⟨U,X,Y,H⟩
         · simp only [Option.some.injEq,Prod.mk.injEq] at H;obtain⟨rfl,rfl⟩:=H;have q:0≤(a:Int):=eF;have r:a < (b.size:Int):=eF;have Z:=bt_at b a;replace q:=eq_true q;replace r:=eq_true r;go_wp2;go_ret2;exact hU
         clear U;have p:=Aside0.mk H;clear H;have q:0≤(a:Int):=eF;have r:a < (b.size:Int):=eF;have Z:=bt_at b a;replace q:=eq_true q;replace r:=eq_true r;go_wp2;go_loopg [9] T (fun u v9 w'=>∃ (c:Int),v9=.int .i64 c∧Aside0 (bG.l0 u b (wrap64 (a+1)) c=some (r1,y))∧Aside0 (u≤T)∧Drawn0 w w')
         case atStart=>exact⟨(wrap64 (a+1)),dS,p,⟨Nat.le_refl _⟩,mX⟩
         case round=>
          clear p;(try clear t);(try clear J);(try clear c5);(try clear c5b0);(try clear c6);(try clear c6b0);(try clear d);(try clear i);(try clear O);(try clear G);(try clear K);(try clear L);(try clear be);(try clear bf);(try clear c14b0);(try clear bh);(try clear c15b0);(try clear q);(try clear r);(try clear Z);(try clear U);(try clear X);(try clear Y);(try clear q);(try clear d);(try clear r);(try clear i);obtain⟨c,rfl,HA,ae,⟨m2,rfl⟩⟩:=hrel
          cases gk with
          | zero=>exact absurd HA.out (by simp [bG.l0])
          | succ k2=>
           have H:=HA.out;clear HA;simp only [bG.l0] at H;replace H:=jC H;rcases H with ⟨an,H⟩|⟨an,H⟩
           · replace H:=eM H;rcases H with ⟨af,ao,ap,H⟩|⟨af,ao,ap,H⟩
             · replace H:=hY H;obtain⟨bi,H⟩:=H;exact absurd H (by simp)
             clear af;simp only [Option.some.injEq,Prod.mk.injEq] at H;obtain⟨rfl,rfl⟩:=H;go_wp2;go_ret2;exact hU
           replace H:=iG H;rcases H with ⟨s,H⟩|⟨s,H⟩
           · have aq:=decide_eq_false s;(try (have ar:decide ((IntKind.i64.wrap (c - (IntKind.i64.wrap (a+1)))) < 20)=false:=by simp only [i64_w];exact(decide_eq_false s)));clear s;replace H:=eM H;rcases H with ⟨ag,au,av,H⟩|⟨ag,au,av,H⟩
             · replace H:=eG H;obtain⟨c30b0,H⟩:=H;replace H:=eM H;rcases H with ⟨ah,aw,ax,H⟩|⟨ah,aw,ax,H⟩
               · simp only [Option.some.injEq,Prod.mk.injEq] at H;obtain⟨rfl,rfl⟩:=H;have j:0≤(c:Int):=eF;have m:c < (b.size:Int):=eF;have aa:=bt_at b c;replace j:=eq_true j;replace m:=eq_true m;go_wp2;go_ret2;exact hU
               clear ah;replace H:=eM H;rcases H with ⟨v,ay,az,H⟩|⟨v,ay,az,H⟩
               · (try (have aB:(c == (IntKind.i64.wrap (a+1)))=false:=by simp only [i64_w];exact(beq_eq_false_iff_ne.mpr v)));(try (have aF:(c != (IntKind.i64.wrap (a+1)))=true:=by simp only [i64_w];exact(bne_iff_ne.mpr v)));simp only [Option.some.injEq,Prod.mk.injEq] at H;obtain⟨rfl,rfl⟩:=H;have j:0≤(c:Int):=eF;have m:c < (b.size:Int):=eF;have aa:=bt_at b c;replace j:=eq_true j;replace m:=eq_true m;go_wp2;go_ret2;exact hU
               (try (have aB:(c == (IntKind.i64.wrap (a+1)))=true:=by simp only [i64_w];exact(beq_iff_eq.mpr v)));(try (have aF:(c != (IntKind.i64.wrap (a+1)))=false:=by simp only [i64_w];exact(bne_eq_false_iff_eq.mpr v)));clear v;simp only [Option.some.injEq,Prod.mk.injEq] at H;obtain⟨rfl,rfl⟩:=H;have j:0≤(c:Int):=eF;have m:c < (b.size:Int):=eF;have aa:=bt_at b c;replace j:=eq_true j;replace m:=eq_true m;go_wp2;go_ret2;exact hU
             clear ag;simp only [Option.some.injEq,Prod.mk.injEq] at H;obtain⟨rfl,rfl⟩:=H;go_wp2;go_ret2;exact hU
           have aq:=decide_eq_true s;(try (have ar:decide ((IntKind.i64.wrap (c - (IntKind.i64.wrap (a+1)))) < 20)=true:=by simp only [i64_w];exact(decide_eq_true s)));clear s;replace H:=eG H;obtain⟨c20b0,H⟩:=H;replace H:=cM H;obtain⟨ba,a9,H⟩:=H;(try dsimp only at H);have ab:=Aside0.mk H;clear H;have ai:0≤(c:Int):=eF;have aj:c < (b.size:Int):=eF;have bb:=bt_at b c;replace ai:=eq_true ai;replace aj:=eq_true aj;go_upto_if 63 with (first|(go_at_call 147;refine cD (dK.calls _ _ _ _ a9.out) ?_;rintro e w' ⟨rfl,⟨nd,rfl⟩⟩));have H:=ab.out;clear ab;replace H:=eN H;rcases H with ⟨rfl,H⟩|⟨rfl,H⟩
           · replace H:=eM H;rcases H with ⟨ak,A,aL,H⟩|⟨ak,A,aL,H⟩
             · (first|rw [A]|(simp only [i64_w,i32_w];rw [A])|skip);replace H:=eM H;rcases H with ⟨al,aO,aP,H⟩|⟨al,aO,aP,H⟩
               · simp only [Option.some.injEq,Prod.mk.injEq] at H;obtain⟨rfl,rfl⟩:=H;have n:0≤(c:Int):=eF;have o:c < (b.size:Int):=eF;have ac:=bt_at b c;replace n:=eq_true n;replace o:=eq_true o;go_wp2;go_ret2;exact hU
               clear al;replace H:=eM H;rcases H with ⟨x,aR,aS,H⟩|⟨x,aR,aS,H⟩
               · (try (have a3:(c == (IntKind.i64.wrap (a+1)))=false:=by simp only [i64_w];exact(beq_eq_false_iff_ne.mpr x)));(try (have a4:(c != (IntKind.i64.wrap (a+1)))=true:=by simp only [i64_w];exact(bne_iff_ne.mpr x)));simp only [Option.some.injEq,Prod.mk.injEq] at H;obtain⟨rfl,rfl⟩:=H;have n:0≤(c:Int):=eF;have o:c < (b.size:Int):=eF;have ac:=bt_at b c;replace n:=eq_true n;replace o:=eq_true o;go_wp2;go_ret2;exact hU
               (try (have a3:(c == (IntKind.i64.wrap (a+1)))=true:=by simp only [i64_w];exact(beq_iff_eq.mpr x)));(try (have a4:(c != (IntKind.i64.wrap (a+1)))=false:=by simp only [i64_w];exact(bne_eq_false_iff_eq.mpr x)));clear x;simp only [Option.some.injEq,Prod.mk.injEq] at H;obtain⟨rfl,rfl⟩:=H;have n:0≤(c:Int):=eF;have o:c < (b.size:Int):=eF;have ac:=bt_at b c;replace n:=eq_true n;replace o:=eq_true o;go_wp2;go_ret2;exact hU
             clear ak;(first|rw [A]|(simp only [i64_w,i32_w];rw [A])|skip);simp only [Option.some.injEq,Prod.mk.injEq] at H;obtain⟨rfl,rfl⟩:=H;go_wp2;go_ret2;exact hU
           have p:=Aside0.mk H;clear H;go_wp2;go_roundg k2
           case measure=>have:=P.out;have:=ae.out;omega
           case rel=>exact⟨(wrap64 (c+1)),dS,p,⟨by have:=P.out;have:=ae.out;omega⟩,mX⟩
       replace H:=cM H;obtain⟨⟨a6,a7⟩,a_,H⟩:=H;(try dsimp only at H);simp only [Option.some.injEq,Prod.mk.injEq] at H;obtain⟨rfl,rfl⟩:=H;go_wp2_with (first|((with_reducible refine gate_callee (f:=148) rfl ?_);refine cQ (some 34) Tryz.func148 #[.string b,.int .i64 (wrap64 (a+1)),.bool true] ?_;(with_reducible refine(ih T (by have:=P.out;omega) b (wrap64 (a+1)) true a6 a7 _ a_.out).mono ?_);rintro e w' ⟨rfl,⟨nd,rfl⟩⟩;refine⟨_,rfl,?_⟩));go_ret2;exact hU
   clear G;simp only [Option.some.injEq,Prod.mk.injEq] at H;obtain⟨rfl,rfl⟩:=H;have d:0≤(a:Int):=eF;have i:a < (b.size:Int):=eF;have O:=bt_at b a;replace d:=eq_true d;replace i:=eq_true i;go_enter Tryz.func148,Tryz.ntmps148;go_wp2;go_ret2;exact hU
 have J:decide ((b.size:Int)≤a)=true:=decide_eq_true t;clear t;simp only [Option.some.injEq,Prod.mk.injEq] at H;obtain⟨rfl,rfl⟩:=H;go_enter Tryz.func148,Tryz.ntmps148;go_wp2;go_ret2;exact hU
end Go.Proofs.YtkbebmifpccofaaGreat.PFnClassCut
