/- Functions of the program as plain Lean functions, each with its proof; no condition. -/
import Derived.Test.YtkbebmifpccofaaGreatPFnExactClassReadx0
namespace Go.Proofs.YtkbebmifpccofaaGreat.PFnExactClassRead
open Go.RowKit Go.Proofs.YtkbebmifpccofaaGreatW.PrintWords Go.Proofs.YtkbebmifpccofaaGreatW.PrintLast Go.Proofs.YtkbebmifpccofaaGreatW.PrintMore
open Go.Proofs.YtkbebmifpccofaaGreatW.PrintWords renaming below_size→Zbz,below_step→Zbt,below_alloc→Zba,pw_below_drewN→Zbn,below_drew1→Zbd,below_set→Zbs,blk_drewN→Zkn,blk_drew→Zkd,blk_alloc→Zka,blk_frozen→Zkf,blk_put→Zkp,blk_cell→Zkc,blk_far→Zkr,blk_below→Zkb
open Go.Proofs.YtkbebmifpccofaaGreatW.PrintWords.Aside0 renaming mk→Zm
attribute [local go_sem] max2_int min2_int max_two min_two max_three min_three max_four min_four
set_option maxHeartbeats 80000000
set_option maxRecDepth 100000
set_option linter.unusedVariables false
set_option linter.unusedSimpArgs false
def eF.f (a:Int) (b:Bool):Option (Bool):=if a ≥ 97 then (if a≤122 then (some true) else (if a ≥ 65 then (if a≤90 then (some true) else (if a=36 then (some true) else (if b=true then (some false) else (if a ≥ 48 then (some (decide (a≤57))) else (some false))))) else (if a=36 then (some true) else (if b=true then (some false) else (if a ≥ 48 then (some (decide (a≤57))) else (some false)))))) else (if a ≥ 65 then (if a≤90 then (some true) else (if a=36 then (some true) else (if b=true then (some false) else (if a ≥ 48 then (some (decide (a≤57))) else (some false))))) else (if a=36 then (some true) else (if b=true then (some false) else (if a ≥ 48 then (some (decide (a≤57))) else (some false)))))
theorem eF.calls (a:Int) (q:Bool) (r:Bool) (w:World) (h:eF.f a q=some r):
 Calls Tryz.prog 147 #[.int .u8 a,.bool q] w fun e w'=>e=.returned (.bool r)∧Drawn0 w w':=by
 have H:=h;clear h;unfold eF.f at H;replace H:=jF H;rcases H with ⟨j,H⟩|⟨j,H⟩
 · have I:decide (97≤a)=false:=decide_eq_false j;clear j;replace H:=jF H;rcases H with ⟨b,H⟩|⟨b,H⟩
   · have t:decide (65≤a)=false:=decide_eq_false b;clear b;replace H:=fB H;rcases H with ⟨n,u,v,H⟩|⟨n,u,v,H⟩
     · replace H:=fM H;rcases H with ⟨rfl,H⟩|⟨rfl,H⟩
       · replace H:=jF H;rcases H with ⟨c,H⟩|⟨c,H⟩
         · have x:decide (48≤a)=false:=decide_eq_false c;clear c;obtain rfl:=Option.some.inj H;go_enter Tryz.func147,Tryz.ntmps147;go_wp2;go_ret;exact jH
         have x:decide (48≤a)=true:=decide_eq_true c;clear c;obtain rfl:=Option.some.inj H;go_enter Tryz.func147,Tryz.ntmps147;go_wp2;go_ret;exact jH
       obtain rfl:=Option.some.inj H;go_enter Tryz.func147,Tryz.ntmps147;go_wp2;go_ret;exact jH
     clear n;obtain rfl:=Option.some.inj H;go_enter Tryz.func147,Tryz.ntmps147;go_wp2;go_ret;exact jH
   have t:decide (65≤a)=true:=decide_eq_true b;clear b;replace H:=iY H;rcases H with ⟨y,H⟩|⟨y,H⟩
   · replace H:=fB H;rcases H with ⟨o,z,A,H⟩|⟨o,z,A,H⟩
     · replace H:=fM H;rcases H with ⟨rfl,H⟩|⟨rfl,H⟩
       · replace H:=jF H;rcases H with ⟨d,H⟩|⟨d,H⟩
         · have B:decide (48≤a)=false:=decide_eq_false d;clear d;obtain rfl:=Option.some.inj H;go_enter Tryz.func147,Tryz.ntmps147;go_wp2;go_ret;exact jH
         have B:decide (48≤a)=true:=decide_eq_true d;clear d;obtain rfl:=Option.some.inj H;go_enter Tryz.func147,Tryz.ntmps147;go_wp2;go_ret;exact jH
       obtain rfl:=Option.some.inj H;go_enter Tryz.func147,Tryz.ntmps147;go_wp2;go_ret;exact jH
     clear o;obtain rfl:=Option.some.inj H;go_enter Tryz.func147,Tryz.ntmps147;go_wp2;go_ret;exact jH
   obtain rfl:=Option.some.inj H;go_enter Tryz.func147,Tryz.ntmps147;go_wp2;go_ret;exact jH
 have I:decide (97≤a)=true:=decide_eq_true j;clear j;replace H:=iY H;rcases H with ⟨J,H⟩|⟨J,H⟩
 · replace H:=jF H;rcases H with ⟨k,H⟩|⟨k,H⟩
   · have K:decide (65≤a)=false:=decide_eq_false k;clear k;replace H:=fB H;rcases H with ⟨p,D,E,H⟩|⟨p,D,E,H⟩
     · replace H:=fM H;rcases H with ⟨rfl,H⟩|⟨rfl,H⟩
       · replace H:=jF H;rcases H with ⟨i,H⟩|⟨i,H⟩
         · have G:decide (48≤a)=false:=decide_eq_false i;clear i;obtain rfl:=Option.some.inj H;go_enter Tryz.func147,Tryz.ntmps147;go_wp2;go_ret;exact jH
         have G:decide (48≤a)=true:=decide_eq_true i;clear i;obtain rfl:=Option.some.inj H;go_enter Tryz.func147,Tryz.ntmps147;go_wp2;go_ret;exact jH
       obtain rfl:=Option.some.inj H;go_enter Tryz.func147,Tryz.ntmps147;go_wp2;go_ret;exact jH
     clear p;obtain rfl:=Option.some.inj H;go_enter Tryz.func147,Tryz.ntmps147;go_wp2;go_ret;exact jH
   have K:decide (65≤a)=true:=decide_eq_true k;clear k;replace H:=iY H;rcases H with ⟨L,H⟩|⟨L,H⟩
   · replace H:=fB H;rcases H with ⟨s,M,O,H⟩|⟨s,M,O,H⟩
     · replace H:=fM H;rcases H with ⟨rfl,H⟩|⟨rfl,H⟩
       · replace H:=jF H;rcases H with ⟨m,H⟩|⟨m,H⟩
         · have P:decide (48≤a)=false:=decide_eq_false m;clear m;obtain rfl:=Option.some.inj H;go_enter Tryz.func147,Tryz.ntmps147;go_wp2;go_ret;exact jH
         have P:decide (48≤a)=true:=decide_eq_true m;clear m;obtain rfl:=Option.some.inj H;go_enter Tryz.func147,Tryz.ntmps147;go_wp2;go_ret;exact jH
       obtain rfl:=Option.some.inj H;go_enter Tryz.func147,Tryz.ntmps147;go_wp2;go_ret;exact jH
     clear s;obtain rfl:=Option.some.inj H;go_enter Tryz.func147,Tryz.ntmps147;go_wp2;go_ret;exact jH
   obtain rfl:=Option.some.inj H;go_enter Tryz.func147,Tryz.ntmps147;go_wp2;go_ret;exact jH
 obtain rfl:=Option.some.inj H;go_enter Tryz.func147,Tryz.ntmps147;go_wp2;go_ret;exact jH
mutual
def aD.j0:Nat→ByteArray→Bool→Option (Bool)
 | 0,_,_=>none
 | k+1,a,x11=>if x11=true then (some false) else (aD.l0 k a 0)
def aD.l0:Nat→ByteArray→Int→Option (Bool)
 | 0,_,_=>none
 | k+1,b,a=>if a < (b.size:Int) then (if 0≤a then ((eF.f (bt b a) (a == 0)).bind fun c=>(if c=true then (aD.l0 k b (wrap64 (a+1))) else (some false))) else (none)) else (some true)
end
def aD.f (k:Nat) (a:ByteArray):Option (Bool):=if (a.size:Int) < 1 then (aD.j0 k a true) else (aD.j0 k a (decide ((a.size:Int) > 20)))
theorem aD.mono_l:∀ k,(∀ a b,LeO (aD.j0 k a b) (aD.j0 (k+1) a b))∧(∀ a b,LeO (aD.l0 k a b) (aD.l0 (k+1) a b))
 | 0=>by refine⟨?_,?_⟩ <;> (intros;intro r h;simp [aD.j0,aD.l0] at h)
 | k+1=>by
  obtain⟨ih0,ih1⟩:=aD.mono_l k;refine⟨?_,?_⟩ <;> (intros;(first|unfold aD.j0|unfold aD.l0)) <;> exact mT
theorem aD.mono:∀ a k,LeO (aD.f k a) (aD.f (k+1) a):=by
 intro a k;obtain⟨ih0,ih1⟩:=aD.mono_l k;unfold aD.f;exact mT
theorem aD.calls (k:Nat) (a:ByteArray) (r:Bool) (w:World) (h:aD.f k a=some r):
 Calls Tryz.prog 93 #[.string a] w fun e w'=>e=.returned (.bool r)∧Drawn0 w w':=by
 have H:=h;clear h;unfold aD.f at H;have n:=Zm H;clear H;go_enter Tryz.func93,Tryz.ntmps93;go_upto_region 1 with (fail);go_cut [11] (fun y wc=>∃ (d:Nat) (m:Bool),y=.bool m∧Aside0 (aD.j0 d a m=some r)∧Aside0 (d≤k)∧Drawn0 w wc)
 case first=>
  have H:=n.out;clear n;replace H:=jF H;rcases H with ⟨j,H⟩|⟨j,H⟩
  · have i:=decide_eq_false j;have v:decide (a.size < 1)=false:=decide_eq_false (by omega);clear j;(first|rw [i]|(simp only [i64_w,i32_w];rw [i])|skip);have c:=Zm H;clear H;go_wp2;go_meet
    case rel=>exact⟨_,(decide ((a.size:Int) > 20)),dX,c,⟨kU⟩,pD⟩
  have i:=decide_eq_true j;have v:decide (a.size < 1)=true:=decide_eq_true (by omega);clear j;(first|rw [i]|(simp only [i64_w,i32_w];rw [i])|skip);have c:=Zm H;clear H;go_wp2;go_meet
  case rel=>exact⟨_,(true),dX,c,⟨kU⟩,pD⟩
 case rest=>
  clear n;obtain⟨d,m,rfl,HA,o,⟨E,rfl⟩⟩:=hcut
  cases d with
  | zero=>exact absurd HA.out (by simp [aD.j0])
  | succ p=>
   have H:=HA.out;clear HA;simp only [aD.j0] at H;replace H:=fM H;rcases H with ⟨rfl,H⟩|⟨rfl,H⟩
   · have c:=Zm H;clear H;go_wp2;go_loopg [3] p (fun d z w'=>∃ (b:Int),z=.int .i64 b∧Aside0 (aD.l0 d a b=some r)∧Aside0 (d≤p)∧Drawn0 w w')
     case atStart=>exact⟨(0),dX,c,⟨Nat.le_refl _⟩,pD⟩
     case round=>
      clear c;(try clear c4);obtain⟨b,rfl,HA,q,⟨m2,rfl⟩⟩:=hrel
      cases gk with
      | zero=>exact absurd HA.out (by simp [aD.l0])
      | succ A=>
       have H:=HA.out;clear HA;simp only [aD.l0] at H;replace H:=iY H;rcases H with ⟨x,H⟩|⟨x,H⟩
       · obtain rfl:=Option.some.inj H;go_wp2;go_ret;exact jH
       replace H:=eZ H;obtain⟨c6b0,H⟩:=H;replace H:=cU H;obtain⟨D,B,H⟩:=H;have s:=Zm H;clear H;have t:0≤(b:Int):=dT;have u:b < (a.size:Int):=dT;have G:=bt_at a b;replace t:=eq_true t;replace u:=eq_true u;go_upto_if 24 with (first|((with_reducible refine gk_ 147 rfl ?_);refine gW (some 23) Tryz.func147 #[.int .u8 (bt a b),.bool (b == 0)] ?_;(with_reducible refine(eF.calls _ _ _ _ B.out).mono ?_);rintro e w' ⟨rfl,⟨I,rfl⟩⟩;refine⟨_,rfl,?_⟩));have H:=s.out;clear s;replace H:=fM H;rcases H with ⟨rfl,H⟩|⟨rfl,H⟩
       · obtain rfl:=Option.some.inj H;go_wp2;go_ret;exact jH
       have c:=Zm H;clear H;go_wp2;go_roundg A
       case measure=>have:=o.out;have:=q.out;omega
       case rel=>exact⟨(wrap64 (b+1)),dX,c,⟨by have:=o.out;have:=q.out;omega⟩,pD⟩
   obtain rfl:=Option.some.inj H;go_wp2;go_ret;exact jH
def kT.f  : Option (List ByteArray):=some (([(⟨#[]⟩:ByteArray),(⟨#[99,111,110,115,116,32,110]⟩:ByteArray),(⟨#[110,117,108,108]⟩:ByteArray),(⟨#[108,111,97,100,32,105]⟩:ByteArray),(⟨#[115,116,111,114,101,32,105]⟩:ByteArray),(⟨#[112,111,112]⟩:ByteArray),(⟨#[100,117,112]⟩:ByteArray),(⟨#[115,119,97,112]⟩:ByteArray),(⟨#[97,100,100]⟩:ByteArray),(⟨#[115,117,98]⟩:ByteArray),(⟨#[109,117,108]⟩:ByteArray),(⟨#[100,105,118]⟩:ByteArray),(⟨#[114,101,109]⟩:ByteArray),(⟨#[97,110,100]⟩:ByteArray),(⟨#[111,114]⟩:ByteArray),(⟨#[120,111,114]⟩:ByteArray),(⟨#[115,104,108]⟩:ByteArray),(⟨#[115,104,114]⟩:ByteArray),(⟨#[117,115,104,114]⟩:ByteArray),(⟨#[103,111,116,111,32,116]⟩:ByteArray),(⟨#[105,102,101,113,32,116]⟩:ByteArray),(⟨#[105,102,108,116,32,116]⟩:ByteArray),(⟨#[105,102,115,97,109,101,32,116]⟩:ByteArray),(⟨#[105,102,108,101,115,115,32,116]⟩:ByteArray),(⟨#[105,102,110,117,108,108,32,116]⟩:ByteArray),(⟨#[105,102,105,115,32,116]⟩:ByteArray),(⟨#[114,101,116,117,114,110]⟩:ByteArray),(⟨#[105,114,101,116,117,114,110]⟩:ByteArray),(⟨#[97,114,101,116,117,114,110]⟩:ByteArray),(⟨#[116,104,114,111,119]⟩:ByteArray),(⟨#[100,117,112,50]⟩:ByteArray),(⟨#[110,101,119,32,99]⟩:ByteArray),(⟨#[103,101,116,102,105,101,108,100,32,102]⟩:ByteArray),(⟨#[112,117,116,102,105,101,108,100,32,102]⟩:ByteArray),(⟨#[103,101,116,115,116,97,116,105,99,32,102]⟩:ByteArray),(⟨#[112,117,116,115,116,97,116,105,99,32,102]⟩:ByteArray),(⟨#[99,97,108,108,32,109]⟩:ByteArray),(⟨#[99,97,108,108,115,116,97,116,105,99,32,109]⟩:ByteArray),(⟨#[99,97,108,108,115,112,101,99,105,97,108,32,109]⟩:ByteArray),(⟨#[99,97,115,116,32,99]⟩:ByteArray),(⟨#[105,115,111,102,32,99]⟩:ByteArray),(⟨#[110,101,119,108,105,115,116,32,121]⟩:ByteArray),(⟨#[103,101,116]⟩:ByteArray),(⟨#[112,117,116]⟩:ByteArray),(⟨#[115,105,122,101]⟩:ByteArray)]:List ByteArray))
theorem kT.calls  (r:List ByteArray) (w:World) (h:kT.f  = some r):
 Calls Tryz.prog 192 #[] w fun e w'=>∃ d:Value,e=.returned (d)∧Kd.R Kd.string 9 w' w.heap.size (fun _=>True) d r∧Below w.heap.size w w':=by
 have b:=Zm (Below.refl w.heap.size w);have H:(some (([(⟨#[]⟩:ByteArray),(⟨#[99,111,110,115,116,32,110]⟩:ByteArray),(⟨#[110,117,108,108]⟩:ByteArray),(⟨#[108,111,97,100,32,105]⟩:ByteArray),(⟨#[115,116,111,114,101,32,105]⟩:ByteArray),(⟨#[112,111,112]⟩:ByteArray),(⟨#[100,117,112]⟩:ByteArray),(⟨#[115,119,97,112]⟩:ByteArray),(⟨#[97,100,100]⟩:ByteArray),(⟨#[115,117,98]⟩:ByteArray),(⟨#[109,117,108]⟩:ByteArray),(⟨#[100,105,118]⟩:ByteArray),(⟨#[114,101,109]⟩:ByteArray),(⟨#[97,110,100]⟩:ByteArray),(⟨#[111,114]⟩:ByteArray),(⟨#[120,111,114]⟩:ByteArray),(⟨#[115,104,108]⟩:ByteArray),(⟨#[115,104,114]⟩:ByteArray),(⟨#[117,115,104,114]⟩:ByteArray),(⟨#[103,111,116,111,32,116]⟩:ByteArray),(⟨#[105,102,101,113,32,116]⟩:ByteArray),(⟨#[105,102,108,116,32,116]⟩:ByteArray),(⟨#[105,102,115,97,109,101,32,116]⟩:ByteArray),(⟨#[105,102,108,101,115,115,32,116]⟩:ByteArray),(⟨#[105,102,110,117,108,108,32,116]⟩:ByteArray),(⟨#[105,102,105,115,32,116]⟩:ByteArray),(⟨#[114,101,116,117,114,110]⟩:ByteArray),(⟨#[105,114,101,116,117,114,110]⟩:ByteArray),(⟨#[97,114,101,116,117,114,110]⟩:ByteArray),(⟨#[116,104,114,111,119]⟩:ByteArray),(⟨#[100,117,112,50]⟩:ByteArray),(⟨#[110,101,119,32,99]⟩:ByteArray),(⟨#[103,101,116,102,105,101,108,100,32,102]⟩:ByteArray),(⟨#[112,117,116,102,105,101,108,100,32,102]⟩:ByteArray),(⟨#[103,101,116,115,116,97,116,105,99,32,102]⟩:ByteArray),(⟨#[112,117,116,115,116,97,116,105,99,32,102]⟩:ByteArray),(⟨#[99,97,108,108,32,109]⟩:ByteArray),(⟨#[99,97,108,108,115,116,97,116,105,99,32,109]⟩:ByteArray),(⟨#[99,97,108,108,115,112,101,99,105,97,108,32,109]⟩:ByteArray),(⟨#[99,97,115,116,32,99]⟩:ByteArray),(⟨#[105,115,111,102,32,99]⟩:ByteArray),(⟨#[110,101,119,108,105,115,116,32,121]⟩:ByteArray),(⟨#[103,101,116]⟩:ByteArray),(⟨#[112,117,116]⟩:ByteArray),(⟨#[115,105,122,101]⟩:ByteArray)]:List ByteArray)))=some r:=h;clear h;obtain⟨m,hy_⟩:∃ o:List ByteArray,o=(([(⟨#[]⟩:ByteArray),(⟨#[99,111,110,115,116,32,110]⟩:ByteArray),(⟨#[110,117,108,108]⟩:ByteArray),(⟨#[108,111,97,100,32,105]⟩:ByteArray),(⟨#[115,116,111,114,101,32,105]⟩:ByteArray),(⟨#[112,111,112]⟩:ByteArray),(⟨#[100,117,112]⟩:ByteArray),(⟨#[115,119,97,112]⟩:ByteArray),(⟨#[97,100,100]⟩:ByteArray),(⟨#[115,117,98]⟩:ByteArray),(⟨#[109,117,108]⟩:ByteArray),(⟨#[100,105,118]⟩:ByteArray),(⟨#[114,101,109]⟩:ByteArray),(⟨#[97,110,100]⟩:ByteArray),(⟨#[111,114]⟩:ByteArray),(⟨#[120,111,114]⟩:ByteArray),(⟨#[115,104,108]⟩:ByteArray),(⟨#[115,104,114]⟩:ByteArray),(⟨#[117,115,104,114]⟩:ByteArray),(⟨#[103,111,116,111,32,116]⟩:ByteArray),(⟨#[105,102,101,113,32,116]⟩:ByteArray),(⟨#[105,102,108,116,32,116]⟩:ByteArray),(⟨#[105,102,115,97,109,101,32,116]⟩:ByteArray),(⟨#[105,102,108,101,115,115,32,116]⟩:ByteArray),(⟨#[105,102,110,117,108,108,32,116]⟩:ByteArray),(⟨#[105,102,105,115,32,116]⟩:ByteArray),(⟨#[114,101,116,117,114,110]⟩:ByteArray),(⟨#[105,114,101,116,117,114,110]⟩:ByteArray),(⟨#[97,114,101,116,117,114,110]⟩:ByteArray),(⟨#[116,104,114,111,119]⟩:ByteArray),(⟨#[100,117,112,50]⟩:ByteArray),(⟨#[110,101,119,32,99]⟩:ByteArray),(⟨#[103,101,116,102,105,101,108,100,32,102]⟩:ByteArray),(⟨#[112,117,116,102,105,101,108,100,32,102]⟩:ByteArray),(⟨#[103,101,116,115,116,97,116,105,99,32,102]⟩:ByteArray),(⟨#[112,117,116,115,116,97,116,105,99,32,102]⟩:ByteArray),(⟨#[99,97,108,108,32,109]⟩:ByteArray),(⟨#[99,97,108,108,115,116,97,116,105,99,32,109]⟩:ByteArray),(⟨#[99,97,108,108,115,112,101,99,105,97,108,32,109]⟩:ByteArray),(⟨#[99,97,115,116,32,99]⟩:ByteArray),(⟨#[105,115,111,102,32,99]⟩:ByteArray),(⟨#[110,101,119,108,105,115,116,32,121]⟩:ByteArray),(⟨#[103,101,116]⟩:ByteArray),(⟨#[112,117,116]⟩:ByteArray),(⟨#[115,105,122,101]⟩:ByteArray)]:List ByteArray)):=⟨_,rfl⟩;replace H:(some m)=some r:=mE
 have c:=Zm hy_;clear hy_;obtain rfl:=Option.some.inj H;go_enter Tryz.func192,Tryz.ntmps192;go_wp2_with (first|((with_reducible refine gd_ 1 rfl ?_);refine Kd.R_lit Kd.string _ 9 ?hg (N:=1) ?hd (xs:=([(⟨#[]⟩:ByteArray),(⟨#[99,111,110,115,116,32,110]⟩:ByteArray),(⟨#[110,117,108,108]⟩:ByteArray),(⟨#[108,111,97,100,32,105]⟩:ByteArray),(⟨#[115,116,111,114,101,32,105]⟩:ByteArray),(⟨#[112,111,112]⟩:ByteArray),(⟨#[100,117,112]⟩:ByteArray),(⟨#[115,119,97,112]⟩:ByteArray),(⟨#[97,100,100]⟩:ByteArray),(⟨#[115,117,98]⟩:ByteArray),(⟨#[109,117,108]⟩:ByteArray),(⟨#[100,105,118]⟩:ByteArray),(⟨#[114,101,109]⟩:ByteArray),(⟨#[97,110,100]⟩:ByteArray),(⟨#[111,114]⟩:ByteArray),(⟨#[120,111,114]⟩:ByteArray),(⟨#[115,104,108]⟩:ByteArray),(⟨#[115,104,114]⟩:ByteArray),(⟨#[117,115,104,114]⟩:ByteArray),(⟨#[103,111,116,111,32,116]⟩:ByteArray),(⟨#[105,102,101,113,32,116]⟩:ByteArray),(⟨#[105,102,108,116,32,116]⟩:ByteArray),(⟨#[105,102,115,97,109,101,32,116]⟩:ByteArray),(⟨#[105,102,108,101,115,115,32,116]⟩:ByteArray),(⟨#[105,102,110,117,108,108,32,116]⟩:ByteArray),(⟨#[105,102,105,115,32,116]⟩:ByteArray),(⟨#[114,101,116,117,114,110]⟩:ByteArray),(⟨#[105,114,101,116,117,114,110]⟩:ByteArray),(⟨#[97,114,101,116,117,114,110]⟩:ByteArray),(⟨#[116,104,114,111,119]⟩:ByteArray),(⟨#[100,117,112,50]⟩:ByteArray),(⟨#[110,101,119,32,99]⟩:ByteArray),(⟨#[103,101,116,102,105,101,108,100,32,102]⟩:ByteArray),(⟨#[112,117,116,102,105,101,108,100,32,102]⟩:ByteArray),(⟨#[103,101,116,115,116,97,116,105,99,32,102]⟩:ByteArray),(⟨#[112,117,116,115,116,97,116,105,99,32,102]⟩:ByteArray),(⟨#[99,97,108,108,32,109]⟩:ByteArray),(⟨#[99,97,108,108,115,116,97,116,105,99,32,109]⟩:ByteArray),(⟨#[99,97,108,108,115,112,101,99,105,97,108,32,109]⟩:ByteArray),(⟨#[99,97,115,116,32,99]⟩:ByteArray),(⟨#[105,115,111,102,32,99]⟩:ByteArray),(⟨#[110,101,119,108,105,115,116,32,121]⟩:ByteArray),(⟨#[103,101,116]⟩:ByteArray),(⟨#[112,117,116]⟩:ByteArray),(⟨#[115,105,122,101]⟩:ByteArray)]:List ByteArray)) (inner:=[.string ⟨#[]⟩,.string ⟨#[99,111,110,115,116,32,110]⟩,.string ⟨#[110,117,108,108]⟩,.string ⟨#[108,111,97,100,32,105]⟩,.string ⟨#[115,116,111,114,101,32,105]⟩,.string ⟨#[112,111,112]⟩,.string ⟨#[100,117,112]⟩,.string ⟨#[115,119,97,112]⟩,.string ⟨#[97,100,100]⟩,.string ⟨#[115,117,98]⟩,.string ⟨#[109,117,108]⟩,.string ⟨#[100,105,118]⟩,.string ⟨#[114,101,109]⟩,.string ⟨#[97,110,100]⟩,.string ⟨#[111,114]⟩,.string ⟨#[120,111,114]⟩,.string ⟨#[115,104,108]⟩,.string ⟨#[115,104,114]⟩,.string ⟨#[117,115,104,114]⟩,.string ⟨#[103,111,116,111,32,116]⟩,.string ⟨#[105,102,101,113,32,116]⟩,.string ⟨#[105,102,108,116,32,116]⟩,.string ⟨#[105,102,115,97,109,101,32,116]⟩,.string ⟨#[105,102,108,101,115,115,32,116]⟩,.string ⟨#[105,102,110,117,108,108,32,116]⟩,.string ⟨#[105,102,105,115,32,116]⟩,.string ⟨#[114,101,116,117,114,110]⟩,.string ⟨#[105,114,101,116,117,114,110]⟩,.string ⟨#[97,114,101,116,117,114,110]⟩,.string ⟨#[116,104,114,111,119]⟩,.string ⟨#[100,117,112,50]⟩,.string ⟨#[110,101,119,32,99]⟩,.string ⟨#[103,101,116,102,105,101,108,100,32,102]⟩,.string ⟨#[112,117,116,102,105,101,108,100,32,102]⟩,.string ⟨#[103,101,116,115,116,97,116,105,99,32,102]⟩,.string ⟨#[112,117,116,115,116,97,116,105,99,32,102]⟩,.string ⟨#[99,97,108,108,32,109]⟩,.string ⟨#[99,97,108,108,115,116,97,116,105,99,32,109]⟩,.string ⟨#[99,97,108,108,115,112,101,99,105,97,108,32,109]⟩,.string ⟨#[99,97,115,116,32,99]⟩,.string ⟨#[105,115,111,102,32,99]⟩,.string ⟨#[110,101,119,108,105,115,116,32,121]⟩,.string ⟨#[103,101,116]⟩,.string ⟨#[112,117,116]⟩,.string ⟨#[115,105,122,101]⟩]) (ok:=fun _=>True) (okp:=fun _=>True) ?hr ?hp (fun _ p=>p) trivial (Below.refl _ _) (Nat.le_refl _) (by simp) ?_;(case hd=>rfl);(case hg=>rfl);(case hr=>exact jZ);(case hp=>exact wY _);intro q w1 a i n j;clear n j;(first|rw [← c.out] at a|(simp only [Int.reduceToNat] at a;rw [← c.out] at a));have k:=Zm (Kd.R_lower a (Zbz (bk b.out)));replace b:=dJ b i;clear i a));go_ret;exact⟨_,iO,pr k.out,bk b.out⟩
def dA.l0:Nat→ByteArray→Int→List ByteArray→Int→Int→Option (List ByteArray)
 | 0,_,_,_,_,_=>none
 | k+1,a,e,d,c,b=>if b < (a.size:Int) then (if 0≤b then (if (bt a b)=e then (if 0≤c then (if c≤b then (if b≤(a.size:Int) then (if d.length < 8796093022208 then (dA.l0 k a e (d++[a.extract (c:Int).toNat (b:Int).toNat]) (wrap64 (b+1)) (wrap64 (b+1))) else (none)) else (none)) else (none)) else (none)) else (dA.l0 k a e d c (wrap64 (b+1)))) else (none)) else (if 0≤c then (if c≤(a.size:Int) then (if d.length < 8796093022208 then (some (d++[a.extract (c:Int).toNat a.size])) else (none)) else (none)) else (none))
def dA.f (k:Nat) (a:ByteArray) (b:Int):Option (List ByteArray):=dA.l0 k a b (([]:List ByteArray)) 0 0
theorem dA.mono_l:∀ k,(∀ a b c d e,LeO (dA.l0 k a b c d e) (dA.l0 (k+1) a b c d e))
 | 0=>by intros;intro r h;simp [dA.l0] at h
 | k+1=>by
  have ih0:=dA.mono_l k;intros;unfold dA.l0;exact mT
theorem dA.mono:∀ a b k,LeO (dA.f k a b) (dA.f (k+1) a b):=by
 intro a b k;have ih0:=dA.mono_l k;unfold dA.f;exact mT
theorem dA.calls (k:Nat) (a:ByteArray) (s:Int) (r:List ByteArray) (w:World) (h:dA.f k a s=some r):
 Calls Tryz.prog 193 #[.string a,.int .u8 s] w fun e w'=>∃ O:Value,e=.returned (O)∧Kd.R Kd.string 9 w' w.heap.size (fun _=>True) O r∧Below w.heap.size w w':=by
 have d:=Zm (Below.refl w.heap.size w);have H:=h;clear h;unfold dA.f at H;obtain⟨L,hy_⟩:∃ t:List ByteArray,t=(([]:List ByteArray)):=⟨_,rfl⟩;replace H:(dA.l0 k a s L 0 0)=some r:=mE
 have K:=Zm hy_;clear hy_;have o:=Zm H;clear H;go_enter Tryz.func193,Tryz.ntmps193;go_wp2_with (first|((with_reducible refine gd_ 8 rfl ?_);refine Kd.R_lit Kd.string _ 9 ?hg (N:=8) ?hd (xs:=([]:List ByteArray)) (inner:=[]) (ok:=fun _=>True) (okp:=fun _=>True) ?hr ?hp (fun _ u=>u) trivial (Below.refl _ _) (Nat.le_refl _) (by simp) ?_;(case hd=>rfl);(case hg=>rfl);(case hr=>exact jZ);(case hp=>exact(Reps.none _ _));intro av w3 q m aj X;clear aj X;(first|rw [← K.out] at q|(simp only [Int.reduceToNat] at q;rw [← K.out] at q));have Y:=Zm (Kd.R_lower q (Zbz (bk d.out)));replace d:=dJ d m;clear m q));go_loopg [5,6,7] k (fun U v5 v6 v7 w'=>∃ (j:List ByteArray) (i:Int) (c:Int),v6=.int .i64 i∧v7=.int .i64 c∧Aside0 (dA.l0 U a s j i c=some r)∧Aside0 (U≤k)∧Aside0 (Kd.R Kd.string 9 w' w.heap.size (fun _=>True) v5 j)∧Aside0 (Below w.heap.size w w'))
 case atStart=>exact⟨(L),(0),(0),dX,dX,o,⟨Nat.le_refl _⟩,⟨pr Y.out⟩,⟨bk d.out⟩⟩
 case round=>
  clear o;obtain⟨j,i,c,rfl,rfl,HA,y,p,d⟩:=hrel
  cases gk with
  | zero=>exact absurd HA.out (by simp [dA.l0])
  | succ I=>
   have H:=HA.out;clear HA;simp only [dA.l0] at H;replace H:=iY H;rcases H with ⟨af,H⟩|⟨af,H⟩
   · replace H:=jQ H;obtain⟨z,H⟩:=H;have al:=eq_true z;have am:=decide_eq_true z;clear z;replace H:=jQ H;obtain⟨A,H⟩:=H;have an:=eq_true A;have ao:=decide_eq_true A;clear A;replace H:=jQ H;obtain⟨P,H⟩:=H;have Z:=Zm P;clear P;obtain⟨ag,hy_⟩:∃ t:List ByteArray,t=(j++[a.extract (i:Int).toNat a.size]):=⟨_,rfl⟩;replace H:(some ag)=some r:=mE
     have aa:=Zm hy_;clear hy_;obtain rfl:=Option.some.inj H;go_wp2_with (first|((with_reducible refine gate_builtin (b:=.append) (xs:=#[.tmp 29,.tmp 33]) rfl ?_);at_builtin;refine Kd.R_append Kd.string (w0:=w) w.heap.size rfl (.tmp 29) (.tmp 33) 74 9 (.string ⟨#[]⟩) 16 rfl Tryz.underlying74 info9 rfl (by decide) (by omega) u5 j (a.extract (i:Int).toNat a.size) [.string (a.extract (i:Int).toNat a.size)] (fun _=>True) (fun _=>False) rfl rfl ?aP (fun _ u=>u.elim) ?aF ?aO ?aB ?aS ?aL ?_;(case aP=>exact rfl);(case aB=>exact(bk d.out));(case aF=>exact(fun _ _=>trivial));(case aO=>exact(pr p.out));(case aS=>exact(Zbz (bk d.out)));(case aL=>have:=Z.out;omega);intro aw aR n m hg B;rw [← aa.out] at n;have D:=(⟨Zm m,Zm n⟩:_∧_);clear d p;obtain⟨d,ab⟩:=D;clear n m hg B));go_ret;exact⟨_,iO,pr ab.out,bk d.out⟩
   replace H:=eZ H;obtain⟨c6b0,H⟩:=H;replace H:=fB H;rcases H with ⟨W,ah,ai,H⟩|⟨W,ah,ai,H⟩
   · have o:=Zm H;clear H;have v:0≤(c:Int):=dT;have x:c < (a.size:Int):=dT;have ak:=bt_at a c;replace v:=eq_true v;replace x:=eq_true x;go_wp2;go_roundg I
     case measure=>have:=y.out;omega
     case rel=>exact⟨(j),(i),(wrap64 (c+1)),dX,dX,o,⟨by have:=y.out;omega⟩,⟨pr p.out⟩,⟨bk d.out⟩⟩
   clear W;replace H:=jQ H;obtain⟨J,H⟩:=H;have ax:=eq_true J;have ay:=decide_eq_true J;clear J;replace H:=jQ H;obtain⟨E,H⟩:=H;have ap:=eq_true E;have aq:=decide_eq_true E;clear E;replace H:=jQ H;obtain⟨G,H⟩:=H;have ar:=eq_true G;have au:=decide_eq_true G;clear G;replace H:=jQ H;obtain⟨T,H⟩:=H;have ac:=Zm T;clear T;obtain⟨M,hy_⟩:∃ t:List ByteArray,t=(j++[a.extract (i:Int).toNat (c:Int).toNat]):=⟨_,rfl⟩;replace H:(dA.l0 I a s M (wrap64 (c+1)) (wrap64 (c+1)))=some r:=mE
   have ad:=Zm hy_;clear hy_;have o:=Zm H;clear H;have v:0≤(c:Int):=dT;have x:c < (a.size:Int):=dT;have ak:=bt_at a c;replace v:=eq_true v;replace x:=eq_true x;go_wp2_with (first|((with_reducible refine gate_builtin (b:=.append) (xs:=#[.tmp 20,.tmp 25]) rfl ?_);at_builtin;refine Kd.R_append Kd.string (w0:=w) w.heap.size rfl (.tmp 20) (.tmp 25) 74 9 (.string ⟨#[]⟩) 16 rfl Tryz.underlying74 info9 rfl (by decide) (by omega) u5 j (a.extract (i:Int).toNat (c:Int).toNat) [.string (a.extract (i:Int).toNat (c:Int).toNat)] (fun _=>True) (fun _=>False) rfl rfl ?aP (fun _ u=>u.elim) ?aF ?aO ?aB ?aS ?aL ?_;(case aP=>exact rfl);(case aB=>exact(bk d.out));(case aF=>exact(fun _ _=>trivial));(case aO=>exact(pr p.out));(case aS=>exact(Zbz (bk d.out)));(case aL=>have:=ac.out;omega);intro az a2 n m hg B;rw [← ad.out] at n;have D:=(⟨Zm m,Zm n⟩:_∧_);clear d p;obtain⟨d,ae⟩:=D;clear n m hg B));go_roundg I
   case measure=>have:=y.out;omega
   case rel=>exact⟨(M),(wrap64 (c+1)),(wrap64 (c+1)),dX,dX,o,⟨by have:=y.out;omega⟩,⟨pr ae.out⟩,⟨bk d.out⟩⟩
def cO.j0:Nat→Int→List ByteArray→Bool→Option (ByteArray)
 | 0,_,_,_=>none
 | k+1,b,c,d=>if d=true then (some (⟨#[33]⟩:ByteArray)) else (if 0≤b then (if b < (c.length:Int) then ((dA.f k (rdOf ByteArray.empty c b) 32).bind fun a=>(if (a.length:Int)=2 then (if 1 < (a.length:Int) then (some (rdOf ByteArray.empty a 1)) else (none)) else (some (⟨#[]⟩:ByteArray)))) else (none)) else (none))
def cO.f (k:Nat) (a:Int):Option (ByteArray):=(kT.f).bind fun b=>(if a < 1 then (cO.j0 k a b true) else (cO.j0 k a b (decide (a ≥ (b.length:Int)))))
theorem cO.mono_l:∀ k,(∀ a b c,LeO (cO.j0 k a b c) (cO.j0 (k+1) a b c))
 | 0=>by intros;intro r h;simp [cO.j0] at h
 | k+1=>by
  have ih0:=cO.mono_l k;have m0:=@dA.mono;intros;unfold cO.j0;exact mT
theorem cO.mono:∀ a k,LeO (cO.f k a) (cO.f (k+1) a):=by
 intro a k;have ih0:=cO.mono_l k;unfold cO.f;have m0:=@dA.mono;exact mT
theorem cO.calls (k:Nat) (b:Int) (r:ByteArray) (w:World) (h:cO.f k b=some r):
 Calls Tryz.prog 143 #[.int .i64 b] w fun e w'=>e=.returned (.string r)∧Below w.heap.size w w':=by
 have a:=Zm (Below.refl w.heap.size w);have H:=h;clear h;unfold cO.f at H;replace H:=cU H;obtain⟨d,W,H⟩:=H;have z:=Zm H;clear H;go_enter Tryz.func143,Tryz.ntmps143;go_upto_region 2 with (first|((with_reducible refine gk_ 192 rfl ?_);refine gW (some 5) Tryz.func192 #[] ?_;(with_reducible refine(kT.calls _ _ W.out).mono ?_);rintro e w4 ⟨J,rfl,j,m⟩;refine⟨_,rfl,?_⟩;have o:=Zm (Kd.R_lower j (Zbz (bk a.out)));replace a:=dJ a m;clear m j));(try simp only [Act.put,List.setIfInBounds_toArray,List.set_cons_zero,List.set_cons_succ]);go_cut [13] (fun P wc=>∃ (n:Nat) (p:Bool),P=.bool p∧Aside0 (cO.j0 n b d p=some r)∧Aside0 (n≤k)∧Aside0 (Kd.R Kd.string 9 wc w.heap.size (fun _=>True) J d)∧Aside0 (Below w.heap.size w wc))
 case first=>
  have H:=z.out;clear z;replace H:=iY H;rcases H with ⟨i,H⟩|⟨i,H⟩
  · (first|rw [i]|(simp only [i64_w,i32_w];rw [i])|skip);have A:=Zm H;clear H;obtain⟨ai,aj,T⟩:=Kd.R_slice o.out;subst T;go_wp2;go_meet
    case rel=>exact⟨_,(decide (b ≥ (d.length:Int))),dX,A,⟨kU⟩,⟨pr o.out⟩,⟨bk a.out⟩⟩
  (first|rw [i]|(simp only [i64_w,i32_w];rw [i])|skip);have A:=Zm H;clear H;go_wp2;go_meet
  case rel=>exact⟨_,(true),dX,A,⟨kU⟩,⟨pr o.out⟩,⟨bk a.out⟩⟩
 case rest=>
  clear z;obtain⟨n,p,rfl,HA,ak,s,a⟩:=hcut
  cases n with
  | zero=>exact absurd HA.out (by simp [cO.j0])
  | succ al=>
   have H:=HA.out;clear HA;simp only [cO.j0] at H;replace H:=fM H;rcases H with ⟨rfl,H⟩|⟨rfl,H⟩
   · replace H:=eZ H;obtain⟨c8b0,H⟩:=H;replace H:=eZ H;obtain⟨c9b0,H⟩:=H;replace H:=cU H;obtain⟨t,U,H⟩:=H;have E:=Zm H;clear H;obtain⟨ad,ae,K⟩:=Kd.R_slice s.out;subst K;have u:0≤(b:Int):=dT;have v:b < (d.length:Int):=dT;obtain⟨Y,L,X⟩:=Kd.at_string (Kd.R_reads' s.out).2.2 b u v;cases L;replace u:=eq_true u;replace v:=eq_true v;(try clear s);go_upto_if 21 with (first|((with_reducible refine gk_ 193 rfl ?_);refine gW (some 18) Tryz.func193 #[.string (rdOf ByteArray.empty d b),.int .u8 32] ?_;(with_reducible refine(dA.calls _ _ _ _ _ U.out).mono ?_);rintro e am ⟨af,rfl,j,m⟩;refine⟨_,rfl,?_⟩;have D:=Zm (Kd.R_lower j (Zbz (bk a.out)));replace a:=dJ a m;clear m j;obtain⟨ag,ah,M⟩:=Kd.R_slice D.out;subst M));have H:=E.out;clear E;replace H:=fB H;rcases H with ⟨G,c,q,H⟩|⟨G,c,q,H⟩
     · (first|rw [c]|(simp only [i64_w,i32_w];rw [c])|rw [q]|skip);obtain rfl:=Option.some.inj H;go_wp2;go_ret;exact bU a
     clear G;(first|rw [c]|(simp only [i64_w,i32_w];rw [c])|rw [q]|skip);replace H:=jQ H;obtain⟨I,H⟩:=H;have Z:=decide_eq_true I;have aa:decide (1 < t.length)=true:=decide_eq_true (by omega);clear I;obtain rfl:=Option.some.inj H;have x:0≤(1:Int):=(by omega);have y:1 < (t.length:Int):=dT;obtain⟨ab,O,B⟩:=Kd.at_string (Kd.R_reads' D.out).2.2 1 x y;cases O;(try simp only [show (1:Int).toNat=1 from rfl,Nat.reduceMul,Nat.reduceEqDiff,Go.Addr.add,↓reduceIte] at B);have ac:(1 < t.length)=True:=eq_true (by omega);(try rw [show ((1:Int)).toNat=1 from rfl] at B);replace x:=eq_true x;replace y:=eq_true y;go_wp2;go_ret;exact bU a
   obtain rfl:=Option.some.inj H;go_wp2;go_ret;exact bU a
mutual
def bI.j0:Nat→ByteArray→Int→Bool→Option (Int×Bool)
 | 0,_,_,_=>none
 | k+1,b,a,d=>if d=true then ((bI.f k b (wrap64 (a+1)) true).bind fun c=>(some (c.1,c.2))) else (if 0≤a then (if a < (b.size:Int) then (if (bt b a)=76 then (bI.l0 k b (wrap64 (a+1)) (wrap64 (a+1))) else (some (a,false))) else (none)) else (none))
def bI.l0:Nat→ByteArray→Int→Int→Option (Int×Bool)
 | 0,_,_,_=>none
 | k+1,b,c,a=>if a < (b.size:Int) then (if (wrap64 (a - c)) < 20 then (if 0≤a then ((eF.f (bt b a) (a == c)).bind fun d=>(if d=true then (bI.l0 k b c (wrap64 (a+1))) else (if a=(b.size:Int) then (some (a,false)) else (if (bt b a)=59 then (if a=c then (some (a,false)) else (some (wrap64 (a+1),true))) else (some (a,false)))))) else (none)) else (if a=(b.size:Int) then (some (a,false)) else (if 0≤a then (if (bt b a)=59 then (if a=c then (some (a,false)) else (some (wrap64 (a+1),true))) else (some (a,false))) else (none)))) else (if a=(b.size:Int) then (some (a,false)) else (if 0≤a then (none) else (none)))
def bI.f:Nat→ByteArray→Int→Bool→Option (Int×Bool)
 | 0,_,_,_=>none
 | k+1,a0,a1,a=>if a1 ≥ (a0.size:Int) then (some (a1,false)) else (if 0≤a1 then (if a1 < (a0.size:Int) then (if (bt a0 a1)=73 then (some (wrap64 (a1+1),true)) else (if (bt a0 a1)=91 then (bI.j0 k a0 a1 (!a)) else (bI.j0 k a0 a1 false))) else (none)) else (none))
end
theorem bI.mono_l:∀ k,(∀ a b c,LeO (bI.f k a b c) (bI.f (k+1) a b c))∧(∀ a b c,LeO (bI.j0 k a b c) (bI.j0 (k+1) a b c))∧(∀ a b c,LeO (bI.l0 k a b c) (bI.l0 (k+1) a b c))
 | 0=>by refine⟨?_,?_,?_⟩ <;> (intros;intro r h;simp [bI.f,bI.j0,bI.l0] at h)
 | k+1=>by
  obtain⟨ih0,ih1,ih2⟩:=bI.mono_l k;refine⟨?_,?_,?_⟩ <;> (intros;(first|unfold bI.f|unfold bI.j0|unfold bI.l0)) <;> exact mT
theorem bI.mono:∀ a b c k,LeO (bI.f k a b c) (bI.f (k+1) a b c):=by
 intro a b c k;obtain⟨ih0,ih1,ih2⟩:=bI.mono_l k;exact ih0 a b c
theorem bI.calls (k:Nat):∀ (b:ByteArray) (a:Int) (E:Bool) (r1:Int) (y:Bool) (w:World) (h:bI.f k b a E=some (r1,y)),
 Calls Tryz.prog 148 #[.string b,.int .i64 a,.bool E] w fun e w'=>e=.returned (.tuple #[.int .i64 r1,.bool y])∧Drawn0 w w':=by
 induction k using Nat.strongRecOn with
 | _ k ih=>
 intro b a E r1 y w h
 cases k with
 | zero=>exact absurd h (by simp [bI.f])
 | succ k=>
 simp only [bI.f] at h;have H:(if a ≥ (b.size:Int) then (some (a,false)) else (if 0≤a then (if a < (b.size:Int) then (if (bt b a)=73 then (some (wrap64 (a+1),true)) else (if (bt b a)=91 then (bI.j0 k b a (!E)) else (bI.j0 k b a false))) else (none)) else (none)))=some (r1,y):=h;clear h;replace H:=jF H;rcases H with ⟨t,H⟩|⟨t,H⟩
 · have J:decide ((b.size:Int)≤a)=false:=decide_eq_false t;clear t;replace H:=eZ H;obtain⟨c5b0,H⟩:=H;replace H:=eZ H;obtain⟨c6b0,H⟩:=H;replace H:=fB H;rcases H with ⟨G,K,L,H⟩|⟨G,K,L,H⟩
   · have M:=Zm H;clear H;have d:0≤(a:Int):=dT;have i:a < (b.size:Int):=dT;have O:=bt_at b a;replace d:=eq_true d;replace i:=eq_true i;go_enter Tryz.func148,Tryz.ntmps148;go_upto_region 5 with (fail);go_cut [22] (fun a7 wc=>∃ (u:Nat) (I:Bool),a7=.bool I∧Aside0 (bI.j0 u b a I=some (r1,y))∧Aside0 (u≤k)∧Drawn0 w wc)
     case first=>
      have H:=M.out;clear M;replace H:=fB H;rcases H with ⟨ac,z,al,H⟩|⟨ac,z,al,H⟩
      · (first|rw [z]|(simp only [i64_w,i32_w];rw [z])|skip);have p:=Zm H;clear H;have B:0≤(a:Int):=dT;have D:a < (b.size:Int):=dT;have a4:=bt_at b a;replace B:=eq_true B;replace D:=eq_true D;go_wp2;go_meet
        case rel=>exact⟨_,(false),dX,p,⟨kU⟩,pD⟩
      clear ac;(first|rw [z]|(simp only [i64_w,i32_w];rw [z])|skip);have p:=Zm H;clear H;have B:0≤(a:Int):=dT;have D:a < (b.size:Int):=dT;have a4:=bt_at b a;replace B:=eq_true B;replace D:=eq_true D;go_wp2;go_meet
      case rel=>exact⟨_,(!E),dX,p,⟨kU⟩,pD⟩
     case rest=>
      clear M;(try clear t);(try clear J);(try clear c5);(try clear c5b0);(try clear c6);(try clear c6b0);(try clear d);(try clear i);(try clear O);(try clear G);(try clear K);(try clear L);(try clear d);(try clear i);obtain⟨u,I,rfl,HA,P,⟨bb,rfl⟩⟩:=hcut
      cases u with
      | zero=>exact absurd HA.out (by simp [bI.j0])
      | succ T=>
       have H:=HA.out;clear HA;simp only [bI.j0] at H;replace H:=fM H;rcases H with ⟨rfl,H⟩|⟨rfl,H⟩
       · replace H:=eZ H;obtain⟨c14b0,H⟩:=H;replace H:=eZ H;obtain⟨c15b0,H⟩:=H;replace H:=fB H;rcases H with ⟨U,W,X,H⟩|⟨U,W,X,H⟩
         · simp only [Option.some.injEq,Prod.mk.injEq] at H;obtain⟨rfl,rfl⟩:=H;have q:0≤(a:Int):=dT;have r:a < (b.size:Int):=dT;have Y:=bt_at b a;replace q:=eq_true q;replace r:=eq_true r;go_wp2;go_ret2;exact jH
         clear U;have p:=Zm H;clear H;have q:0≤(a:Int):=dT;have r:a < (b.size:Int):=dT;have Y:=bt_at b a;replace q:=eq_true q;replace r:=eq_true r;go_wp2;go_loopg [9] T (fun u v9 w'=>∃ (c:Int),v9=.int .i64 c∧Aside0 (bI.l0 u b (wrap64 (a+1)) c=some (r1,y))∧Aside0 (u≤T)∧Drawn0 w w')
         case atStart=>exact⟨(wrap64 (a+1)),dX,p,⟨Nat.le_refl _⟩,pD⟩
         case round=>
          clear p;(try clear t);(try clear J);(try clear c5);(try clear c5b0);(try clear c6);(try clear c6b0);(try clear d);(try clear i);(try clear O);(try clear G);(try clear K);(try clear L);(try clear bc);(try clear be);(try clear c14b0);(try clear bf);(try clear c15b0);(try clear q);(try clear r);(try clear Y);(try clear U);(try clear W);(try clear X);(try clear q);(try clear d);(try clear r);(try clear i);obtain⟨c,rfl,HA,ad,⟨m2,rfl⟩⟩:=hrel
          cases gk with
          | zero=>exact absurd HA.out (by simp [bI.l0])
          | succ k2=>
           have H:=HA.out;clear HA;simp only [bI.l0] at H;replace H:=iY H;rcases H with ⟨am,H⟩|⟨am,H⟩
           · replace H:=fB H;rcases H with ⟨ae,an,ao,H⟩|⟨ae,an,ao,H⟩
             · replace H:=jQ H;obtain⟨bh,H⟩:=H;exact absurd H (by simp)
             clear ae;simp only [Option.some.injEq,Prod.mk.injEq] at H;obtain⟨rfl,rfl⟩:=H;go_wp2;go_ret2;exact jH
           replace H:=jF H;rcases H with ⟨s,H⟩|⟨s,H⟩
           · have ap:=decide_eq_false s;(try (have aq:decide ((IntKind.i64.wrap (c - (IntKind.i64.wrap (a+1)))) < 20)=false:=by simp only [i64_w];exact(decide_eq_false s)));clear s;replace H:=fB H;rcases H with ⟨af,ar,au,H⟩|⟨af,ar,au,H⟩
             · replace H:=eZ H;obtain⟨c30b0,H⟩:=H;replace H:=fB H;rcases H with ⟨ag,av,aw,H⟩|⟨ag,av,aw,H⟩
               · simp only [Option.some.injEq,Prod.mk.injEq] at H;obtain⟨rfl,rfl⟩:=H;have j:0≤(c:Int):=dT;have m:c < (b.size:Int):=dT;have Z:=bt_at b c;replace j:=eq_true j;replace m:=eq_true m;go_wp2;go_ret2;exact jH
               clear ag;replace H:=fB H;rcases H with ⟨v,ax,ay,H⟩|⟨v,ax,ay,H⟩
               · (try (have az:(c == (IntKind.i64.wrap (a+1)))=false:=by simp only [i64_w];exact(beq_eq_false_iff_ne.mpr v)));(try (have aB:(c != (IntKind.i64.wrap (a+1)))=true:=by simp only [i64_w];exact(bne_iff_ne.mpr v)));simp only [Option.some.injEq,Prod.mk.injEq] at H;obtain⟨rfl,rfl⟩:=H;have j:0≤(c:Int):=dT;have m:c < (b.size:Int):=dT;have Z:=bt_at b c;replace j:=eq_true j;replace m:=eq_true m;go_wp2;go_ret2;exact jH
               (try (have az:(c == (IntKind.i64.wrap (a+1)))=true:=by simp only [i64_w];exact(beq_iff_eq.mpr v)));(try (have aB:(c != (IntKind.i64.wrap (a+1)))=false:=by simp only [i64_w];exact(bne_eq_false_iff_eq.mpr v)));clear v;simp only [Option.some.injEq,Prod.mk.injEq] at H;obtain⟨rfl,rfl⟩:=H;have j:0≤(c:Int):=dT;have m:c < (b.size:Int):=dT;have Z:=bt_at b c;replace j:=eq_true j;replace m:=eq_true m;go_wp2;go_ret2;exact jH
             clear af;simp only [Option.some.injEq,Prod.mk.injEq] at H;obtain⟨rfl,rfl⟩:=H;go_wp2;go_ret2;exact jH
           have ap:=decide_eq_true s;(try (have aq:decide ((IntKind.i64.wrap (c - (IntKind.i64.wrap (a+1)))) < 20)=true:=by simp only [i64_w];exact(decide_eq_true s)));clear s;replace H:=eZ H;obtain⟨c20b0,H⟩:=H;replace H:=cU H;obtain⟨a_,a8,H⟩:=H;(try dsimp only at H);have aa:=Zm H;clear H;have ah:0≤(c:Int):=dT;have ai:c < (b.size:Int):=dT;have ba:=bt_at b c;replace ah:=eq_true ah;replace ai:=eq_true ai;go_upto_if 63 with (first|(go_at_call 147;refine eV (eF.calls _ _ _ _ a8.out) ?_;rintro e w' ⟨rfl,⟨nd,rfl⟩⟩));have H:=aa.out;clear aa;replace H:=fM H;rcases H with ⟨rfl,H⟩|⟨rfl,H⟩
           · replace H:=fB H;rcases H with ⟨aj,A,aF,H⟩|⟨aj,A,aF,H⟩
             · (first|rw [A]|(simp only [i64_w,i32_w];rw [A])|skip);replace H:=fB H;rcases H with ⟨ak,aL,aO,H⟩|⟨ak,aL,aO,H⟩
               · simp only [Option.some.injEq,Prod.mk.injEq] at H;obtain⟨rfl,rfl⟩:=H;have n:0≤(c:Int):=dT;have o:c < (b.size:Int):=dT;have ab:=bt_at b c;replace n:=eq_true n;replace o:=eq_true o;go_wp2;go_ret2;exact jH
               clear ak;replace H:=fB H;rcases H with ⟨x,aP,aR,H⟩|⟨x,aP,aR,H⟩
               · (try (have aS:(c == (IntKind.i64.wrap (a+1)))=false:=by simp only [i64_w];exact(beq_eq_false_iff_ne.mpr x)));(try (have a3:(c != (IntKind.i64.wrap (a+1)))=true:=by simp only [i64_w];exact(bne_iff_ne.mpr x)));simp only [Option.some.injEq,Prod.mk.injEq] at H;obtain⟨rfl,rfl⟩:=H;have n:0≤(c:Int):=dT;have o:c < (b.size:Int):=dT;have ab:=bt_at b c;replace n:=eq_true n;replace o:=eq_true o;go_wp2;go_ret2;exact jH
               (try (have aS:(c == (IntKind.i64.wrap (a+1)))=true:=by simp only [i64_w];exact(beq_iff_eq.mpr x)));(try (have a3:(c != (IntKind.i64.wrap (a+1)))=false:=by simp only [i64_w];exact(bne_eq_false_iff_eq.mpr x)));clear x;simp only [Option.some.injEq,Prod.mk.injEq] at H;obtain⟨rfl,rfl⟩:=H;have n:0≤(c:Int):=dT;have o:c < (b.size:Int):=dT;have ab:=bt_at b c;replace n:=eq_true n;replace o:=eq_true o;go_wp2;go_ret2;exact jH
             clear aj;(first|rw [A]|(simp only [i64_w,i32_w];rw [A])|skip);simp only [Option.some.injEq,Prod.mk.injEq] at H;obtain⟨rfl,rfl⟩:=H;go_wp2;go_ret2;exact jH
           have p:=Zm H;clear H;go_wp2;go_roundg k2
           case measure=>have:=P.out;have:=ad.out;omega
           case rel=>exact⟨(wrap64 (c+1)),dX,p,⟨by have:=P.out;have:=ad.out;omega⟩,pD⟩
       replace H:=cU H;obtain⟨⟨a5,a6⟩,a9,H⟩:=H;(try dsimp only at H);simp only [Option.some.injEq,Prod.mk.injEq] at H;obtain⟨rfl,rfl⟩:=H;go_wp2_with (first|((with_reducible refine gk_ 148 rfl ?_);refine gW (some 34) Tryz.func148 #[.string b,.int .i64 (wrap64 (a+1)),.bool true] ?_;(with_reducible refine(ih T (by have:=P.out;omega) b (wrap64 (a+1)) true a5 a6 _ a9.out).mono ?_);rintro e w' ⟨rfl,⟨nd,rfl⟩⟩;refine⟨_,rfl,?_⟩));go_ret2;exact jH
   clear G;simp only [Option.some.injEq,Prod.mk.injEq] at H;obtain⟨rfl,rfl⟩:=H;have d:0≤(a:Int):=dT;have i:a < (b.size:Int):=dT;have O:=bt_at b a;replace d:=eq_true d;replace i:=eq_true i;go_enter Tryz.func148,Tryz.ntmps148;go_wp2;go_ret2;exact jH
 have J:decide ((b.size:Int)≤a)=true:=decide_eq_true t;clear t;simp only [Option.some.injEq,Prod.mk.injEq] at H;obtain⟨rfl,rfl⟩:=H;go_enter Tryz.func148,Tryz.ntmps148;go_wp2;go_ret2;exact jH
def dL.f (a:Int):Option (List ByteArray×ByteArray×Int×Int):=some (([]:List ByteArray),(⟨#[]⟩:ByteArray),a,3)
theorem dL.calls (b:Int) (r1:List ByteArray) (j:ByteArray) (k:Int) (r4:Int) (w:World) (h:dL.f b=some (r1,j,k,r4)):
 Calls Tryz.prog 194 #[.int .i64 b] w fun e w'=>∃ i:Value,e=.returned (.agg #[i,.string j,.int .i64 k,.int .i64 r4])∧Kd.R Kd.string 9 w' w.heap.size (fun _=>True) i r1∧Below w.heap.size w w':=by
 have p:=Tryz.underlying167;have a:=Zm (Below.refl w.heap.size w);have H:=h;clear h;unfold dL.f at H;simp only [Option.some.injEq,Prod.mk.injEq] at H;obtain⟨rfl,rfl,rfl,rfl⟩:=H;go_enter Tryz.func194,Tryz.ntmps194;go_wp2_with (first|((with_reducible refine gd_ 2 rfl ?_);refine fQ 2 167 #[.slice none 0 0,.string ⟨#[]⟩,.int .i64 0,.int .i64 0] ?_;intro n c t d m;have o:=Zm d;have q:=bz a c;have r:=bz a c;replace a:=dJ a m;clear m d c;have s:=lA o.out));refine bodyPost_ret (results_cell_row rfl _ _ n 167 #[.slice none 0 0,.string ⟨#[]⟩,.int .i64 b,.int .i64 3] (0,0) _ rfl eY Tryz.underlying167 rfl (by kernel_rfl)) rfl ?_;exact⟨_,iO,by first|exact Kd.R_nil _ _ _ _ _|exact Kd.N_nil _ _ _ _ _|exact Kd.V_nil _ _ _ _ _|exact Kd.Q_nil _ _ _ _ _|exact Kd.S_nil _ _ _ _ _,hU⟩
mutual
def aU.j0:Nat→ByteArray→Bool→Option (List ByteArray×ByteArray×Int×Int)
 | 0,_,_=>none
 | k+1,c,b=>if b=true then ((dL.f 0).bind fun a=>(some (a.1,a.2.1,a.2.2.1,a.2.2.2))) else (aU.l0 k c 1 ([]:List ByteArray) (⟨#[]⟩:ByteArray))
def aU.l0:Nat→ByteArray→Int→List ByteArray→ByteArray→Option (List ByteArray×ByteArray×Int×Int)
 | 0,_,_,_,_=>none
 | k+1,b,a,c,d=>if a < (b.size:Int) then (if 0≤a then (aU.j2 k b a ((bt b a) != 41) c d) else (none)) else (aU.j2 k b a false c d)
def aU.j2:Nat→ByteArray→Int→Bool→List ByteArray→ByteArray→Option (List ByteArray×ByteArray×Int×Int)
 | 0,_,_,_,_,_=>none
 | k+1,b,a,n,d,m=>if n=true then (if (d.length:Int)=8 then ((dL.f a).bind fun e=>(some (e.1,e.2.1,e.2.2.1,e.2.2.2))) else ((bI.f k b a false).bind fun c=>(if c.2=true then (if 0≤a then (if a≤c.1 then (if c.1≤(b.size:Int) then (if d.length < 8796093022208 then (aU.l0 k b c.1 (d++[b.extract (a:Int).toNat (c.1:Int).toNat]) m) else (none)) else (none)) else (none)) else (none)) else ((dL.f c.1).bind fun i=>(some (i.1,i.2.1,i.2.2.1,i.2.2.2)))))) else (if a=(b.size:Int) then ((dL.f a).bind fun j=>(some (j.1,j.2.1,j.2.2.1,j.2.2.2))) else (if (wrap64 (a+1)) < (b.size:Int) then (if 0≤(wrap64 (a+1)) then (aU.j3 k b (wrap64 (a+1)) ((bt b (wrap64 (a+1))) == 86) d m) else (none)) else (aU.j3 k b (wrap64 (a+1)) false d m)))
def aU.j3:Nat→ByteArray→Int→Bool→List ByteArray→ByteArray→Option (List ByteArray×ByteArray×Int×Int)
 | 0,_,_,_,_,_=>none
 | k+1,c,b,m,j,n=>if m=true then (if (wrap64 (b+1)) < (c.size:Int) then ((dL.f (wrap64 (b+1))).bind fun d=>(some (d.1,d.2.1,d.2.2.1,d.2.2.2))) else (some (j,(⟨#[86]⟩:ByteArray),0,0))) else ((bI.f k c b false).bind fun a=>(if a.2=true then (if 0≤b then (if b≤a.1 then (if a.1≤(c.size:Int) then (if a.1 < (c.size:Int) then ((dL.f a.1).bind fun e=>(some (e.1,e.2.1,e.2.2.1,e.2.2.2))) else (some (j,c.extract (b:Int).toNat (a.1:Int).toNat,0,0))) else (none)) else (none)) else (none)) else ((dL.f a.1).bind fun i=>(some (i.1,i.2.1,i.2.2.1,i.2.2.2)))))
end
def aU.f (k:Nat) (a:ByteArray):Option (List ByteArray×ByteArray×Int×Int):=if (a.size:Int) > 20000 then (some (([]:List ByteArray),(⟨#[]⟩:ByteArray),0,2)) else (if (a.size:Int)=0 then (aU.j0 k a true) else (if 0 < (a.size:Int) then (aU.j0 k a ((bt a 0) != 40)) else (none)))
theorem aU.mono_l:∀ k,(∀ a b,LeO (aU.j0 k a b) (aU.j0 (k+1) a b))∧(∀ a b c d,LeO (aU.l0 k a b c d) (aU.l0 (k+1) a b c d))∧(∀ a b c d e,LeO (aU.j2 k a b c d e) (aU.j2 (k+1) a b c d e))∧(∀ a b c d e,LeO (aU.j3 k a b c d e) (aU.j3 (k+1) a b c d e))
 | 0=>by refine⟨?_,?_,?_,?_⟩ <;> (intros;intro r h;simp [aU.j0,aU.l0,aU.j2,aU.j3] at h)
 | k+1=>by
  obtain⟨ih0,ih1,ih2,ih3⟩:=aU.mono_l k;have m0:=@bI.mono;refine⟨?_,?_,?_,?_⟩ <;> (intros;(first|unfold aU.j0|unfold aU.l0|unfold aU.j2|unfold aU.j3)) <;> exact mT
theorem aU.mono:∀ a k,LeO (aU.f k a) (aU.f (k+1) a):=by
 intro a k;obtain⟨ih0,ih1,ih2,ih3⟩:=aU.mono_l k;unfold aU.f;have m0:=@bI.mono;exact mT
def aU.T13:Bool×List (List Nat×List Nat):=(true,[([],[]),([0],[0]),([],[]),([],[]),([],[]),([2,3,4],[2,3,4]),([5],[5]),([1,6],[1,6]),([0,1,2,3,4,5,6,7],[]),([8,7,7,0,1,2,3,4,5,6,7],[7,8])])
def aU.B13:List Nat:=[0,1,0,0,0,28,60,127,255,511]
theorem aU.tab13:rtab .any (opsOf Tryz.f144 13)=aU.T13:=by kernel_rfl
theorem aU.bits13:waitsOk aU.T13.2 aU.B13=true:=by kernel_rfl
theorem aU.calls (k:Nat) (c:ByteArray) (r1:List ByteArray) (D:ByteArray) (E:Int) (r4:Int) (w:World) (h:aU.f k c=some (r1,D,E,r4)):
 Calls Tryz.prog 144 #[.string c] w fun e w'=>∃ bo:Value,e=.returned (.agg #[bo,.string D,.int .i64 E,.int .i64 r4])∧Kd.R Kd.string 9 w' w.heap.size (fun _=>True) bo r1∧Below w.heap.size w w':=by
 have em:=Tryz.underlying167;have en:=Tryz.underlying165;have b:=Zm (Below.refl w.heap.size w);have H:=h;clear h;unfold aU.f at H;have bp:=Zm H;clear H;go_enter Tryz.func144,Tryz.ntmps144;go_upto_if 11 with (first|((with_reducible refine gd_ 2 rfl ?_);refine fQ 2 167 #[.slice none 0 0,.string ⟨#[]⟩,.int .i64 0,.int .i64 0] ?_;intro s u w3 af j;have a:=Zm af;have eo:=bz b u;have ep:=bz b u;replace b:=dJ b j;clear j af u));have H:=bp.out;clear bp;replace H:=jF H;rcases H with ⟨G,H⟩|⟨G,H⟩
 · have A:decide (20000 < (c.size:Int))=false:=decide_eq_false G;have ag:decide (20000 < c.size)=false:=decide_eq_false (by omega);clear G;(first|rw [A]|(simp only [i64_w,i32_w];rw [A])|skip);have aR:=Zm H;clear H;go_upto_region 3 with (fail);go_cut [20] (fun d2 wc=>∃ (t:Nat) (av:Bool),d2=.bool av∧Aside0 (aU.j0 t c av=some (r1,D,E,r4))∧Aside0 (t≤k)∧Aside0 (wc.heap[s]?=some (.cells #[(.slice none 0 0),.string ⟨#[]⟩,.int .i64 0,.int .i64 0] 167 (0,0)))∧Aside0 (Below w.heap.size w wc))
   case first=>
    have H:=aR.out;clear aR;replace H:=fB H;rcases H with ⟨c7,ah,cb,H⟩|⟨c7,ah,cb,H⟩
    · (first|rw [ah]|(simp only [i64_w,i32_w];rw [ah])|skip);replace H:=jQ H;obtain⟨c8,H⟩:=H;have fs:=decide_eq_true c8;have ft:decide (0 < c.size)=true:=decide_eq_true (by omega);clear c8;have q:=Zm H;clear H;have p9:0≤(0:Int):=(by omega);have q9:0 < c.size:=(by have:(0:Int) < (c.size:Int):=dT;omega);have f_:∀ h:0 < c.size,((c[0]'h).toNat:Int)=bt c 0:=bt_at c 0;clear p9;have ga:(0 < (c.size:Int))=True:=eq_true dT;replace q9:=eq_true q9;go_wp2;go_meet
      case rel=>exact⟨_,(((bt c 0) != 40)),dX,q,⟨kU⟩,⟨pk a.out⟩,⟨bk b.out⟩⟩
    clear c7;(first|rw [ah]|(simp only [i64_w,i32_w];rw [ah])|skip);have q:=Zm H;clear H;go_wp2;go_meet
    case rel=>exact⟨_,(true),dX,q,⟨kU⟩,⟨pk a.out⟩,⟨bk b.out⟩⟩
   case rest=>
    clear aR;(try clear G);(try clear A);(try clear ag);obtain⟨t,av,rfl,HA,aa,a,b⟩:=hcut
    cases t with
    | zero=>exact absurd HA.out (by simp [aU.j0])
    | succ bq=>
     have H:=HA.out;clear HA;simp only [aU.j0] at H;replace H:=fM H;rcases H with ⟨rfl,H⟩|⟨rfl,H⟩
     · have q:=Zm H;clear H;go_wp2_with (first|((with_reducible refine gd_ 3 rfl ?_);refine fQ 3 165 #[.slice none 0 0,.string ⟨#[]⟩] ?_;intro z u gb af j;have d:=Zm af;have eq:=bz b u;have er:=bz b u;have b4:=bl a u;have I:=bg a u;replace a:=kb a j;replace b:=dJ b j;clear j af u;obtain⟨es,et⟩:=dK I;have aw:=sU d.out));go_loopg [4] bq (fun t v4 w'=>∃ (o:Int) (J:ByteArray) (L:Int) (M:Int) (r:List ByteArray) (y:Value),v4=.int .i64 o∧Aside0 (aU.l0 t c o r (⟨#[]⟩:ByteArray)=some (r1,D,E,r4))∧Aside0 (t≤bq)∧Aside0 (Kd.R Kd.string 9 w' w.heap.size (fun _=>True) y r)∧Aside0 (w'.heap[s]?=some (.cells #[(.slice none 0 0),.string J,.int .i64 L,.int .i64 M] 167 (0,0)))∧Aside0 (w'.heap[z]?=some (.cells #[y,.string ⟨#[]⟩] 165 (0,0)))∧Aside0 (Below w.heap.size w w'))
       case atStart=>exact⟨(1),((⟨#[]⟩:ByteArray)),(0),(0),(([]:List ByteArray)),(.slice none 0 0),dX,q,⟨Nat.le_refl _⟩,⟨by first|exact Kd.R_nil _ _ _ _ _|exact Kd.N_nil _ _ _ _ _|exact Kd.V_nil _ _ _ _ _|exact Kd.Q_nil _ _ _ _ _|exact Kd.S_nil _ _ _ _ _⟩,⟨eY⟩,⟨eY⟩,⟨hU⟩⟩
       case round=>
        clear q;(try clear G);(try clear A);(try clear ag);(try clear br);(try clear aw);obtain⟨o,J,L,M,r,y,rfl,HA,ab,m,a,d,b⟩:=hrel
        cases gk with
        | zero=>exact absurd HA.out (by simp [aU.l0])
        | succ k2=>
         have H:=HA.out;clear HA;simp only [aU.l0] at H;have ax:=Zm H;clear H;go_upto_region 7 with (fail);go_cut [32] (fun d3 wc=>∃ (t:Nat) (ar:Bool),d3=.bool ar∧Aside0 (aU.j2 t c o ar r (⟨#[]⟩:ByteArray)=some (r1,D,E,r4))∧Aside0 (t≤k2)∧Aside0 (Kd.R Kd.string 9 wc w.heap.size (fun _=>True) y r)∧Aside0 (wc.heap[s]?=some (.cells #[(.slice none 0 0),.string J,.int .i64 L,.int .i64 M] 167 (0,0)))∧Aside0 (wc.heap[z]?=some (.cells #[y,.string ⟨#[]⟩] 165 (0,0)))∧Aside0 (Below w.heap.size w wc))
         case first=>
          have H:=ax.out;clear ax;replace H:=iY H;rcases H with ⟨ac,H⟩|⟨ac,H⟩
          · (first|rw [ac]|(simp only [i64_w,i32_w];rw [ac])|skip);have q:=Zm H;clear H;go_wp2;go_meet
            case rel=>exact⟨_,(false),dX,q,⟨by have:=aa.out;have:=ab.out;first|omega|exact Nat.le_refl _⟩,⟨pr m.out⟩,⟨pk a.out⟩,⟨pk d.out⟩,⟨bk b.out⟩⟩
          (first|rw [ac]|(simp only [i64_w,i32_w];rw [ac])|skip);replace H:=eZ H;obtain⟨c20b0,H⟩:=H;have q:=Zm H;clear H;have bs:0≤(o:Int):=dT;have bu:o < (c.size:Int):=dT;have fu:=bt_at c o;replace bs:=eq_true bs;replace bu:=eq_true bu;go_wp2;go_meet
          case rel=>exact⟨_,(((bt c o) != 41)),dX,q,⟨by have:=aa.out;have:=ab.out;first|omega|exact Nat.le_refl _⟩,⟨pr m.out⟩,⟨pk a.out⟩,⟨pk d.out⟩,⟨bk b.out⟩⟩
         case rest=>
          clear ax;(try clear G);(try clear A);(try clear ag);(try clear br);(try clear aw);obtain⟨t,ar,rfl,HA,ap,m,a,d,b⟩:=hcut
          cases t with
          | zero=>exact absurd HA.out (by simp [aU.j2])
          | succ aq=>
           have H:=HA.out;clear HA;simp only [aU.j2] at H;replace H:=fM H;rcases H with ⟨rfl,H⟩|⟨rfl,H⟩
           · replace H:=fB H;rcases H with ⟨a1,a8,a9,H⟩|⟨a1,a8,a9,H⟩
             · have ay:=Zm H;clear H;go_upto_region 18 with (fail);go_cut [76] (fun d4 wc=>∃ (t:Nat) (au:Bool),d4=.bool au∧Aside0 (aU.j3 t c (wrap64 (o+1)) au r (⟨#[]⟩:ByteArray)=some (r1,D,E,r4))∧Aside0 (t≤aq)∧Aside0 (Kd.R Kd.string 9 wc w.heap.size (fun _=>True) y r)∧Aside0 (wc.heap[s]?=some (.cells #[(.slice none 0 0),.string J,.int .i64 L,.int .i64 M] 167 (0,0)))∧Aside0 (wc.heap[z]?=some (.cells #[y,.string ⟨#[]⟩] 165 (0,0)))∧Aside0 (Below w.heap.size w wc))
               case first=>
                have H:=ay.out;clear ay;replace H:=jF H;rcases H with ⟨U,H⟩|⟨U,H⟩
                · have X:=decide_eq_false U;(try (have b5:decide ((IntKind.i64.wrap (o+1)) < (c.size:Int))=false:=by simp only [i64_w];exact(decide_eq_false U)));clear U;(first|rw [X]|(simp only [i64_w,i32_w];rw [X])|skip);have q:=Zm H;clear H;go_wp2;go_meet
                  case rel=>exact⟨_,(false),dX,q,⟨by have:=aa.out;have:=ab.out;have:=ap.out;first|omega|exact Nat.le_refl _⟩,⟨pr m.out⟩,⟨pk a.out⟩,⟨pk d.out⟩,⟨bk b.out⟩⟩
                have X:=decide_eq_true U;(try (have b5:decide ((IntKind.i64.wrap (o+1)) < (c.size:Int))=true:=by simp only [i64_w];exact(decide_eq_true U)));clear U;(first|rw [X]|(simp only [i64_w,i32_w];rw [X])|skip);obtain⟨O,T⟩:∃ j_:Int,(wrap64 (o+1))=j_:=⟨_,rfl⟩;replace H:(if 0≤(O) then (aU.j3 aq c O ((bt c (O)) == 86) r (⟨#[]⟩:ByteArray)) else (none))=some (r1,D,E,r4):=by first|(rw [T] at H;exact H)|(simp only [T] at H ⊢;exact H)
                (try rw [T] at X);have ek:(IntKind.i64.wrap (o+1))=O:=(i64_w _).trans T;replace H:=eZ H;obtain⟨c57b0,H⟩:=H;have q:=Zm H;clear H;have bv:0≤((O):Int):=dT;have bw:(O) < (c.size:Int):=dT;have fv:=bt_at c (O);replace bv:=eq_true bv;replace bw:=eq_true bw;go_wp2;go_meet
                case rel=>exact⟨_,(((bt c (O)) == 86)),(by first|rfl|(simp;done)|(simp only [← T] <;> (first|rfl|simp))|(simp [*];done)),(by first|(with_reducible exact q)|exact q|(rw [T];exact q)|(simp only [T] at q ⊢;exact q)),⟨by have:=aa.out;have:=ab.out;have:=ap.out;first|omega|exact Nat.le_refl _⟩,⟨pr m.out⟩,⟨pk a.out⟩,⟨pk d.out⟩,⟨bk b.out⟩⟩
               case rest=>
                clear ay;(try clear G);(try clear A);(try clear ag);(try clear br);(try clear gc);(try clear a1);(try clear a8);(try clear a9);(try clear aw);obtain⟨t,au,rfl,HA,fw,m,a,d,b⟩:=hcut
                cases t with
                | zero=>exact absurd HA.out (by simp [aU.j3])
                | succ fx=>
                 have H:=HA.out;clear HA;simp only [aU.j3] at H;replace H:=fM H;rcases H with ⟨rfl,H⟩|⟨rfl,H⟩
                 · replace H:=cU H;obtain⟨⟨B,fy⟩,d5,H⟩:=H;(try dsimp only at H);have bj:=Zm H;clear H;go_upto_if 87 with (first|((with_reducible refine gk_ 148 rfl ?_);refine gW (some 83) Tryz.func148 #[.string c,.int .i64 (wrap64 (o+1)),.bool false] ?_;(with_reducible refine(bI.calls _ _ _ _ _ _ _ d5.out).mono ?_);rintro e w' ⟨rfl,⟨nd,rfl⟩⟩;refine⟨_,rfl,?_⟩));have H:=bj.out;clear bj;replace H:=fM H;rcases H with ⟨rfl,H⟩|⟨rfl,H⟩
                   · replace H:=cU H;obtain⟨⟨cc,cd,ce,cf⟩,d6,H⟩:=H;(try dsimp only at H);simp only [Option.some.injEq,Prod.mk.injEq] at H;obtain⟨rfl,rfl,rfl,rfl⟩:=H;(try clear m);(try clear d);go_wp2_with (first|((with_reducible refine gk_ 194 rfl ?_);refine gW (some 89) Tryz.func194 #[.int .i64 B] ?_;(with_reducible refine(dL.calls _ _ _ _ _ _ d6.out).mono ?_);rintro e gf ⟨fz,rfl,p,j⟩;refine⟨_,rfl,?_⟩;have a_:=Zm (Kd.R_lower p (Zbz (bk b.out)));replace a:=kb a j;replace b:=dJ b j;clear j p;obtain⟨cg,ch,ci⟩:=Kd.R_slice a_.out;subst ci;have eu:=lA a.out));refine bodyPost_ret (results_cell_row rfl _ _ s 167 #[.slice cg cc.length ch,.string cd,.int .i64 ce,.int .i64 cf] (0,0) _ rfl eY Tryz.underlying167 rfl (by kernel_rfl)) rfl ?_;exact⟨_,iO,jI a_,hU⟩
                   obtain⟨Y,ad⟩:∃ j_:Int,(wrap64 (o+1))=j_:=⟨_,rfl⟩;replace H:(if 0≤(Y) then (if (Y)≤B then (if B≤(c.size:Int) then (if B < (c.size:Int) then ((dL.f B).bind fun ao=>(some (ao.1,ao.2.1,ao.2.2.1,ao.2.2.2))) else (some (r,c.extract ((Y):Int).toNat (B:Int).toNat,0,0))) else (none)) else (none)) else (none))=some (r1,D,E,r4):=by first|(rw [ad] at H;exact H)|(simp only [ad] at H ⊢;exact H)
                   have el:(IntKind.i64.wrap (o+1))=Y:=(i64_w _).trans ad;replace H:=jQ H;obtain⟨a2,H⟩:=H;have ev:=eq_true a2;have ew:=decide_eq_true a2;clear a2;replace H:=jQ H;obtain⟨a3,H⟩:=H;have ex:=eq_true a3;have ey:=decide_eq_true a3;clear a3;replace H:=jQ H;obtain⟨a4,H⟩:=H;have ez:=eq_true a4;have eA:=decide_eq_true a4;clear a4;replace H:=iY H;rcases H with ⟨ae,H⟩|⟨ae,H⟩
                   · (first|rw [ae]|(simp only [i64_w,i32_w];rw [ae])|skip);simp only [Option.some.injEq,Prod.mk.injEq] at H;obtain⟨rfl,rfl,rfl,rfl⟩:=H;obtain⟨eI,eO⟩:=dK I;have eP:=sU d.out;obtain⟨cj,ck,cl⟩:=Kd.R_slice m.out;subst cl;have eT:=lA a.out;go_wp2;refine bodyPost_ret (results_cell_row rfl _ _ s 167 #[.slice cj r.length ck,.string (c.extract ((Y):Int).toNat (B:Int).toNat),.int .i64 0,.int .i64 0] (0,0) _ rfl eY Tryz.underlying167 rfl (by kernel_rfl)) rfl ?_;exact⟨_,by first|rfl|(simp [fW,fX] <;> rfl)|(simp only [← ad];first|rfl|(simp [fW,fX] <;> rfl))|(simp [*,fW,fX] <;> rfl),jI m,hU⟩
                   (first|rw [ae]|(simp only [i64_w,i32_w];rw [ae])|skip);replace H:=cU H;obtain⟨⟨cm,cn,co,cp⟩,d7,H⟩:=H;(try dsimp only at H);simp only [Option.some.injEq,Prod.mk.injEq] at H;obtain⟨rfl,rfl,rfl,rfl⟩:=H;obtain⟨e0,e1⟩:=dK I;have e2:=sU d.out;go_wp2_with (first|((with_reducible refine gk_ 194 rfl ?_);refine gW (some 101) Tryz.func194 #[.int .i64 B] ?_;(with_reducible refine(dL.calls _ _ _ _ _ _ d7.out).mono ?_);rintro e gg ⟨fI,rfl,p,j⟩;refine⟨_,rfl,?_⟩;have x:=(⟨Zm (Kd.R_elder' (jI m) (Kd.R_base p) j),Zm (Kd.R_lower (Kd.R_new' p (Kd.R_lt (jI m))) (Zbz hU)),lQ s #[.slice none 0 0,.string J,.int .i64 L,.int .i64 M] 167 j,lQ z #[y,.string (c.extract ((Y):Int).toNat (B:Int).toNat)] 165 j,Zm (Zbt hU j)⟩:_∧_∧_∧_∧_);clear m a d b;obtain⟨m,ba,a,d,b⟩:=x;clear j p;obtain⟨cq,cr,cs⟩:=Kd.R_slice ba.out;subst cs;have e3:=lA a.out));refine bodyPost_ret (results_cell_row rfl _ _ s 167 #[.slice cq cm.length cr,.string cn,.int .i64 co,.int .i64 cp] (0,0) _ rfl eY Tryz.underlying167 rfl (by kernel_rfl)) rfl ?_;exact⟨_,by first|rfl|(simp [fW,fX] <;> rfl)|(simp only [← ad];first|rfl|(simp [fW,fX] <;> rfl))|(simp [*,fW,fX] <;> rfl),jI ba,hU⟩
                 replace H:=jF H;rcases H with ⟨W,H⟩|⟨W,H⟩
                 · have b6:=decide_eq_false W;(try (have b7:decide ((IntKind.i64.wrap ((IntKind.i64.wrap (o+1))+1)) < (c.size:Int))=false:=by simp only [i64_w];exact(decide_eq_false W)));clear W;simp only [Option.some.injEq,Prod.mk.injEq] at H;obtain⟨rfl,rfl,rfl,rfl⟩:=H;obtain⟨e4,e5⟩:=dK I;have e6:=sU d.out;obtain⟨ct,cu,cv⟩:=Kd.R_slice m.out;subst cv;have e7:=lA a.out;go_wp2;refine bodyPost_ret (results_cell_row rfl _ _ s 167 #[.slice ct r.length cu,.string ⟨#[86]⟩,.int .i64 0,.int .i64 0] (0,0) _ rfl eY Tryz.underlying167 rfl (by kernel_rfl)) rfl ?_;exact⟨_,iO,jI m,hU⟩
                 have b6:=decide_eq_true W;(try (have b7:decide ((IntKind.i64.wrap ((IntKind.i64.wrap (o+1))+1)) < (c.size:Int))=true:=by simp only [i64_w];exact(decide_eq_true W)));clear W;replace H:=cU H;obtain⟨⟨cw,cx,cy,cz⟩,d8,H⟩:=H;(try dsimp only at H);simp only [Option.some.injEq,Prod.mk.injEq] at H;obtain⟨rfl,rfl,rfl,rfl⟩:=H;obtain⟨e8,e9⟩:=dK I;have e_:=sU d.out;go_wp2_with (first|((with_reducible refine gk_ 194 rfl ?_);refine gW (some 101) Tryz.func194 #[.int .i64 (wrap64 ((wrap64 (o+1))+1))] ?_;(with_reducible refine(dL.calls _ _ _ _ _ _ d8.out).mono ?_);rintro e gh ⟨fT,rfl,p,j⟩;refine⟨_,rfl,?_⟩;have x:=(⟨Zm (Kd.R_elder' (jI m) (Kd.R_base p) j),Zm (Kd.R_lower (Kd.R_new' p (Kd.R_lt (jI m))) (Zbz hU)),lQ s #[.slice none 0 0,.string J,.int .i64 L,.int .i64 M] 167 j,lQ z #[y,.string ⟨#[86]⟩] 165 j,Zm (Zbt hU j)⟩:_∧_∧_∧_∧_);clear m a d b;obtain⟨m,bb,a,d,b⟩:=x;clear j p;obtain⟨cW,c0,c1⟩:=Kd.R_slice bb.out;subst c1;have fa:=lA a.out));refine bodyPost_ret (results_cell_row rfl _ _ s 167 #[.slice cW cw.length c0,.string cx,.int .i64 cy,.int .i64 cz] (0,0) _ rfl eY Tryz.underlying167 rfl (by kernel_rfl)) rfl ?_;exact⟨_,iO,jI bb,hU⟩
             clear a1;replace H:=cU H;obtain⟨⟨c2,c3,c5,c6⟩,d9,H⟩:=H;(try dsimp only at H);simp only [Option.some.injEq,Prod.mk.injEq] at H;obtain⟨rfl,rfl,rfl,rfl⟩:=H;(try clear m);(try clear d);go_wp2_with (first|((with_reducible refine gk_ 194 rfl ?_);refine gW (some 64) Tryz.func194 #[.int .i64 o] ?_;(with_reducible refine(dL.calls _ _ _ _ _ _ d9.out).mono ?_);rintro e gi ⟨f0,rfl,p,j⟩;refine⟨_,rfl,?_⟩;have bc:=Zm (Kd.R_lower p (Zbz (bk b.out)));replace a:=kb a j;replace b:=dJ b j;clear j p;obtain⟨c9,c_,da⟩:=Kd.R_slice bc.out;subst da;have fb:=lA a.out));refine bodyPost_ret (results_cell_row rfl _ _ s 167 #[.slice c9 c2.length c_,.string c3,.int .i64 c5,.int .i64 c6] (0,0) _ rfl eY Tryz.underlying167 rfl (by kernel_rfl)) rfl ?_;exact⟨_,iO,jI bc,hU⟩
           replace H:=fB H;rcases H with ⟨bx,b8,b9,H⟩|⟨bx,b8,b9,H⟩
           · replace H:=cU H;obtain⟨⟨Z,f1⟩,d_,H⟩:=H;(try dsimp only at H);have bm:=Zm H;clear H;obtain⟨fc,fd⟩:=dK I;have fe:=sU d.out;obtain⟨ai,aj,db⟩:=Kd.R_slice m.out;subst db;go_upto_if 46 with (first|((with_reducible refine gk_ 148 rfl ?_);refine gW (some 42) Tryz.func148 #[.string c,.int .i64 o,.bool false] ?_;(with_reducible refine(bI.calls _ _ _ _ _ _ _ d_.out).mono ?_);rintro e w' ⟨rfl,⟨nd,rfl⟩⟩;refine⟨_,rfl,?_⟩));have H:=bm.out;clear bm;replace H:=fM H;rcases H with ⟨rfl,H⟩|⟨rfl,H⟩
             · replace H:=cU H;obtain⟨⟨dc,dd,de,df⟩,ea,H⟩:=H;(try dsimp only at H);simp only [Option.some.injEq,Prod.mk.injEq] at H;obtain⟨rfl,rfl,rfl,rfl⟩:=H;(try clear m);(try clear d);go_wp2_with (first|((with_reducible refine gk_ 194 rfl ?_);refine gW (some 48) Tryz.func194 #[.int .i64 Z] ?_;(with_reducible refine(dL.calls _ _ _ _ _ _ ea.out).mono ?_);rintro e gj ⟨f2,rfl,p,j⟩;refine⟨_,rfl,?_⟩;have be:=Zm (Kd.R_lower p (Zbz (bk b.out)));replace a:=kb a j;replace b:=dJ b j;clear j p;obtain⟨dg,dh,di⟩:=Kd.R_slice be.out;subst di;have ff:=lA a.out));refine bodyPost_ret (results_cell_row rfl _ _ s 167 #[.slice dg dc.length dh,.string dd,.int .i64 de,.int .i64 df] (0,0) _ rfl eY Tryz.underlying167 rfl (by kernel_rfl)) rfl ?_;exact⟨_,iO,jI be,hU⟩
             replace H:=jQ H;obtain⟨a5,H⟩:=H;have fg:=eq_true a5;have fh:=decide_eq_true a5;clear a5;replace H:=jQ H;obtain⟨a6,H⟩:=H;have fi:=eq_true a6;have fj:=decide_eq_true a6;clear a6;replace H:=jQ H;obtain⟨a7,H⟩:=H;have fk:=eq_true a7;have fl:=decide_eq_true a7;clear a7;replace H:=jQ H;obtain⟨b0,H⟩:=H;have b_:=Zm b0;clear b0;obtain⟨az,hy_⟩:∃ y_:List ByteArray,y_=(r++[c.extract (o:Int).toNat (Z:Int).toNat]):=⟨_,rfl⟩;replace H:(aU.l0 aq c Z az (⟨#[]⟩:ByteArray))=some (r1,D,E,r4):=mE
             have ca:=Zm hy_;clear hy_;have q:=Zm H;clear H;try go_wp2
             (try (rw [drewN_self wc];generalize ak:World.drewN wc _=wc;have x:Aside0 (Kd.R Kd.string 9 wc w.heap.size (fun _=>True) (.slice ai r.length aj) r):=⟨by rw [← ak];exact(pr m.out)⟩;have al:Aside0 (wc.heap[s]?=some (.cells #[.slice none 0 0,.string J,.int .i64 L,.int .i64 M] 167 (0,0))):=⟨by rw [← ak];exact(pk a.out)⟩;have am:Aside0 (wc.heap[z]?=some (.cells #[.slice ai r.length aj,.string ⟨#[]⟩] 165 (0,0))):=⟨by rw [← ak];exact(pk d.out)⟩;have an:Aside0 (Below w.heap.size w wc):=⟨by rw [← ak];exact(bk b.out)⟩;clear m a d b ak;have m:=x;have a:=al;have d:=am;have b:=an;clear x al am an));have x:=(⟨Zm (Kd.R_drew m.out),Zm (Zkd a.out),Zm (Zkd d.out),Zm (Zbd b.out)⟩:_∧_∧_∧_);clear m a d b;obtain⟨m,a,d,b⟩:=x;refine start_ (n:=10) (S:=fun w'=>w'.cell? ⟨z,0,none⟩=some (.slice ai r.length aj)∧w'.cell? ⟨z,1,none⟩=some (.string ⟨#[]⟩)) (ds:=[9]) #[false,false,false,false,false,false,false,false,false,false] (by kernel_rfl) rfl rfl ⟨(Zkc d.out 0).trans rfl,(Zkc d.out 1).trans rfl⟩ (fun hHeld=>?_);refine with_tabW aU.tab13 aU.bits13 (fun HT_ HW_=>?_);generalize wc.drew=gl at m a d b hHeld ⊢;refine eG 0 49 ?_;refine eG 2 51 ?_;refine eG 3 52 ?_;refine eG 4 53 ?_;refine eG 5 54 ?_;refine kO 1 50 ?_;refine one_ (i:=6) (N:=some 55) #[true,true,true,true,true,true,true,false,false,false] rfl rfl (one_of HT_.out (by kernel_rfl)) (by decide) (fun K P=>?_);refine value_ (w1:=?_) (v:=?_) (by rfl) rfl ?_ ?_;rotate_left 2
             · go_simp;constructor
               · rfl
               · rfl
             refine P.out _ _ ⟨(Zkc (Zka d.out _) 0).trans rfl,(Zkc (Zka d.out _) 1).trans rfl⟩ (fun hHeld=>?_);clear P K;refine kR 55 ?_;refine one_ (i:=7) (N:=some 56) #[true,true,true,true,true,true,true,true,false,false] rfl rfl (one_of HT_.out (by kernel_rfl)) (by decide) (fun K P=>?_);refine Kd.R_append_step Kd.string (w0:=w) w.heap.size (by rfl) (.tmp 50) (.tmp 55) 74 9 (.string ⟨#[]⟩) 16 rfl Tryz.underlying74 info9 rfl (by decide) (by omega) (.slice ai r.length aj) r (c.extract (o:Int).toNat (Z:Int).toNat) [.string (c.extract (o:Int).toNat (Z:Int).toNat)] (fun _=>True) (fun _=>False) rfl rfl ?aP (fun _ hk=>hk.elim) ?aF ?aO ?aB ?aS ?aL ?_;(case aP=>exact rfl);(case aB=>exact(bk b.out));(case aF=>exact(fun _ _=>trivial));(case aO=>exact(pr m.out));(case aS=>exact(Zbz (bk b.out)));(case aL=>have:=b_.out;omega);intro f3 eb ho j u ec;rw [← ca.out] at ho;have x:=Zm (blk_grown (pk a.out) u (Kd.R_ne m.out a.out (by decide)));have al:=Zm (blk_grown (pk d.out) u (Kd.R_ne m.out d.out (by decide)));have am:=Zm j;have an:=Zm ho;clear a;clear d;clear b;clear m;have a:=x;have d:=al;have b:=am;have bf:=an;clear x al am an;clear ho j u ec;obtain⟨dj,dk,bn⟩:=Kd.R_slice bf.out;(first|subst bn|(injection bn with b1 ed b2;have ee:=b1.symm;have ef:=b2.symm;clear b1 ed b2;subst ee;subst ef));refine P.out _ _ ⟨(Zkc d.out 0).trans rfl,(Zkc d.out 1).trans rfl⟩ (fun hHeld=>?_);clear P K;refine kR 56 ?_;refine eG 8 57 ?_;refine last_ (i:=9) (N:=none) #[true,true,true,true,true,true,true,true,true,true] rfl rfl (one_of HT_.out (by kernel_rfl)) (by decide) (fun K P=>?_);have f4:eb.cell? ⟨z,0,none⟩=some (.slice ai r.length aj):=(Zkc d.out 0).trans rfl;have fm:=Zkf d.out 0;have ei:=b4.out;have ej:=I.out;refine skip_ (w1:=?_) (by rfl) rfl ?_ ?_;rotate_left
             · go_simp;rfl
             refine P.out _ _ ?_;clear P K;refine done_ (done_of HT_.out (by kernel_rfl)) ?_;try go_wp2
             go_roundg aq
             case measure=>have:=aa.out;have:=ab.out;have:=ap.out;omega
             case rel=>exact⟨(Z),(J),(L),(M),(az),(.slice dj az.length dk),dX,q,⟨by have:=aa.out;have:=ab.out;have:=ap.out;omega⟩,⟨jI bf⟩,⟨eY⟩,⟨eY⟩,⟨hU⟩⟩
           clear bx;replace H:=cU H;obtain⟨⟨dl,dm,dn,dp⟩,eg,H⟩:=H;(try dsimp only at H);simp only [Option.some.injEq,Prod.mk.injEq] at H;obtain⟨rfl,rfl,rfl,rfl⟩:=H;obtain⟨fn,fo⟩:=dK I;have fp:=sU d.out;obtain⟨f5,f6,dq⟩:=Kd.R_slice m.out;subst dq;(try clear m);(try clear d);go_wp2_with (first|((with_reducible refine gk_ 194 rfl ?_);refine gW (some 38) Tryz.func194 #[.int .i64 o] ?_;(with_reducible refine(dL.calls _ _ _ _ _ _ eg.out).mono ?_);rintro e gm ⟨f7,rfl,p,j⟩;refine⟨_,rfl,?_⟩;have bh:=Zm (Kd.R_lower p (Zbz (bk b.out)));replace a:=kb a j;replace b:=dJ b j;clear j p;obtain⟨dr,dt,du⟩:=Kd.R_slice bh.out;subst du;have fq:=lA a.out));refine bodyPost_ret (results_cell_row rfl _ _ s 167 #[.slice dr dl.length dt,.string dm,.int .i64 dn,.int .i64 dp] (0,0) _ rfl eY Tryz.underlying167 rfl (by kernel_rfl)) rfl ?_;exact⟨_,iO,jI bh,hU⟩
     replace H:=cU H;obtain⟨⟨dv,dw,dx,dy⟩,eh,H⟩:=H;(try dsimp only at H);simp only [Option.some.injEq,Prod.mk.injEq] at H;obtain⟨rfl,rfl,rfl,rfl⟩:=H;go_wp2_with (first|((with_reducible refine gk_ 194 rfl ?_);refine gW (some 21) Tryz.func194 #[.int .i64 0] ?_;(with_reducible refine(dL.calls _ _ _ _ _ _ eh.out).mono ?_);rintro e gn ⟨f8,rfl,p,j⟩;refine⟨_,rfl,?_⟩;have bi:=Zm (Kd.R_lower p (Zbz (bk b.out)));replace a:=kb a j;replace b:=dJ b j;clear j p;obtain⟨dz,d0,d1⟩:=Kd.R_slice bi.out;subst d1;have fr:=lA a.out));refine bodyPost_ret (results_cell_row rfl _ _ s 167 #[.slice dz dv.length d0,.string dw,.int .i64 dx,.int .i64 dy] (0,0) _ rfl eY Tryz.underlying167 rfl (by kernel_rfl)) rfl ?_;exact⟨_,iO,jI bi,hU⟩
 have A:decide (20000 < (c.size:Int))=true:=decide_eq_true G;have ag:decide (20000 < c.size)=true:=decide_eq_true (by omega);clear G;(first|rw [A]|(simp only [i64_w,i32_w];rw [A])|skip);simp only [Option.some.injEq,Prod.mk.injEq] at H;obtain⟨rfl,rfl,rfl,rfl⟩:=H;have f9:=lA a.out;go_wp2;refine bodyPost_ret (results_cell_row rfl _ _ s 167 #[.slice none 0 0,.string ⟨#[]⟩,.int .i64 0,.int .i64 2] (0,0) _ rfl eY Tryz.underlying167 rfl (by kernel_rfl)) rfl ?_;exact⟨_,iO,by first|exact Kd.R_nil _ _ _ _ _|exact Kd.N_nil _ _ _ _ _|exact Kd.V_nil _ _ _ _ _|exact Kd.Q_nil _ _ _ _ _|exact Kd.S_nil _ _ _ _ _,hU⟩
def dG.f (k:Nat) (a:ByteArray):Option (Bool):=if (a.size:Int) > 20000 then (some false) else ((bI.f k a 0 false).bind fun b=>(if b.2=true then (some (b.1 == (a.size:Int))) else (some false)))
theorem dG.mono:∀ a k,LeO (dG.f k a) (dG.f (k+1) a):=by
 intro a k;unfold dG.f;have m0:=@bI.mono;exact mT
theorem dG.calls (k:Nat) (a:ByteArray) (r:Bool) (w:World) (h:dG.f k a=some r):
 Calls Tryz.prog 94 #[.string a] w fun e w'=>e=.returned (.bool r)∧Drawn0 w w':=by
 have H:=h;clear h;unfold dG.f at H;replace H:=jF H;rcases H with ⟨b,H⟩|⟨b,H⟩
 · have d:decide (20000 < (a.size:Int))=false:=decide_eq_false b;have i:decide (20000 < a.size)=false:=decide_eq_false (by omega);clear b;replace H:=cU H;obtain⟨⟨m,n⟩,c,H⟩:=H;(try dsimp only at H);replace H:=fM H;rcases H with ⟨rfl,H⟩|⟨rfl,H⟩
   · obtain rfl:=Option.some.inj H;go_enter Tryz.func94,Tryz.ntmps94;go_wp2_with (first|((with_reducible refine gk_ 148 rfl ?_);refine gW (some 10) Tryz.func148 #[.string a,.int .i64 0,.bool false] ?_;(with_reducible refine(bI.calls _ _ _ _ _ _ _ c.out).mono ?_);rintro e w' ⟨rfl,⟨j,rfl⟩⟩;refine⟨_,rfl,?_⟩));go_ret;exact jH
   obtain rfl:=Option.some.inj H;go_enter Tryz.func94,Tryz.ntmps94;go_wp2_with (first|((with_reducible refine gk_ 148 rfl ?_);refine gW (some 10) Tryz.func148 #[.string a,.int .i64 0,.bool false] ?_;(with_reducible refine(bI.calls _ _ _ _ _ _ _ c.out).mono ?_);rintro e w' ⟨rfl,⟨j,rfl⟩⟩;refine⟨_,rfl,?_⟩));go_ret;exact jH
 have d:decide (20000 < (a.size:Int))=true:=decide_eq_true b;have i:decide (20000 < a.size)=true:=decide_eq_true (by omega);clear b;obtain rfl:=Option.some.inj H;go_enter Tryz.func94,Tryz.ntmps94;go_wp2;go_ret;exact jH
def fE.f (d:Int) (e:Int) (a:ByteArray) (b:ByteArray) (c:ByteArray):Option (Bool):=if a.toList=([]:List UInt8) then (if b.toList=([]:List UInt8) then (some (c.toList == ([]:List UInt8))) else (some false)) else (some false)
theorem fE.calls (j:Int) (k:Int) (m:ByteArray) (n:ByteArray) (o:ByteArray) (r:Bool) (w:World) (h:fE.f j k m n o=some r):
 Calls Tryz.prog 195 #[.agg #[.int .i64 j,.int .i64 k,.string m,.string n,.string o]] w fun e w'=>e=.returned (.bool r)∧Below w.heap.size w w':=by
 have E:=Tryz.underlying159;have a:=Zm (Below.refl w.heap.size w);have H:=h;clear h;unfold fE.f at H;replace H:=fB H;rcases H with ⟨t,v,x,H⟩|⟨t,v,x,H⟩
 · obtain rfl:=Option.some.inj H;go_enter Tryz.func195,Tryz.ntmps195;go_wp2_with (first|((with_reducible refine gd_ 1 rfl ?_);refine fQ 1 159 #[.int .i64 j,.int .i64 k,.string m,.string n,.string o] ?_;intro p b K d i;have c:=Zm d;have q:=bz a b;have s:=bz a b;replace a:=dJ a i;clear i d b;have G:=hY c.out;have A:=Zkf c.out 4));go_ret;exact bU a
 clear t;replace H:=fB H;rcases H with ⟨u,y,z,H⟩|⟨u,y,z,H⟩
 · obtain rfl:=Option.some.inj H;go_enter Tryz.func195,Tryz.ntmps195;go_wp2_with (first|((with_reducible refine gd_ 1 rfl ?_);refine fQ 1 159 #[.int .i64 j,.int .i64 k,.string m,.string n,.string o] ?_;intro p b L d i;have c:=Zm d;have q:=bz a b;have s:=bz a b;replace a:=dJ a i;clear i d b;have I:=hY c.out;have B:=Zkf c.out 4));go_ret;exact bU a
 clear u;obtain rfl:=Option.some.inj H;go_enter Tryz.func195,Tryz.ntmps195;go_wp2_with (first|((with_reducible refine gd_ 1 rfl ?_);refine fQ 1 159 #[.int .i64 j,.int .i64 k,.string m,.string n,.string o] ?_;intro p b M d i;have c:=Zm d;have q:=bz a b;have s:=bz a b;replace a:=dJ a i;clear i d b;have J:=hY c.out;have D:=Zkf c.out 4));go_ret;exact bU a
def fU.f (a:Int):Option (Bool):=if a ≥ (-2147483648) then (some (decide (a≤2147483647))) else (some false)
theorem fU.calls (b:Int) (r:Bool) (w:World) (h:fU.f b=some r):
 Calls Tryz.prog 196 #[.int .i64 b] w fun e w'=>e=.returned (.bool r)∧Drawn0 w w':=by
 have H:=h;clear h;unfold fU.f at H;replace H:=jF H;rcases H with ⟨a,H⟩|⟨a,H⟩
 · have c:decide ((-2147483648)≤b)=false:=decide_eq_false a;clear a;obtain rfl:=Option.some.inj H;go_enter Tryz.func196,Tryz.ntmps196;go_wp2;go_ret;exact jH
 have c:decide ((-2147483648)≤b)=true:=decide_eq_true a;clear a;obtain rfl:=Option.some.inj H;go_enter Tryz.func196,Tryz.ntmps196;go_wp2;go_ret;exact jH
end Go.Proofs.YtkbebmifpccofaaGreat.PFnExactClassRead
