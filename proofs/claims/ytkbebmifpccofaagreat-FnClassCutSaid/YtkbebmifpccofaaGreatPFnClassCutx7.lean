/- Functions of the program as plain Lean functions, each with a proof that the program's call comes to the same; no condition. Written by a program of this session. -/
import Derived.Test.YtkbebmifpccofaaGreatPFnClassCutx0
import Derived.Test.YtkbebmifpccofaaGreatPFnClassCutx1
import Derived.Test.YtkbebmifpccofaaGreatPFnClassCutx4
import Derived.Test.YtkbebmifpccofaaGreatPFnClassCutx5
import Derived.Test.YtkbebmifpccofaaGreatPFnClassCutx6
namespace Go.Proofs.YtkbebmifpccofaaGreat.PFnClassCut
open Go.RowKit Go.Proofs.YtkbebmifpccofaaGreatW.PrintWords Go.Proofs.YtkbebmifpccofaaGreatW.PrintLast Go.Proofs.YtkbebmifpccofaaGreatW.PrintMore
open Go.Proofs.YtkbebmifpccofaaGreatW.PrintWords renaming below_alloc→Zba,pw_below_drewN→Zbn,below_drew1→Zbd,below_set→Zbs,below_size→Zbz,below_step→Zbt,blk_drewN→Zkn,blk_drew→Zkd,blk_alloc→Zka,blk_frozen→Zkf,blk_far→Zkr,blk_put→Zkp,blk_below→Zkb
open Go.World renaming block_lt_of_cell?→Zlt
open Go.Proofs.YtkbebmifpccofaaGreatW.PrintWords.Aside0 renaming mk→Zm
attribute [local go_sem] max2_int min2_int max_two min_two max_three min_three max_four min_four   -- for this text's walks alone
set_option maxHeartbeats 80000000
set_option maxRecDepth 100000
set_option linter.unusedVariables false
set_option linter.unusedSimpArgs false
mutual
def aI.j0:Nat→Bool→ByteArray→ByteArray→Bool→Bool→Bool→Int→Int→List (cR)→List (dG)→List ByteArray→ByteArray→Int→Int→Option (Bool)
 | 0,_,_,_,_,_,_,_,_,_,_,_,_,_,_=>none
 | k+1,s,d,o,b,e,i,j,m,a,n,c,p,q,r=>if s=true then (some false) else (if e=true then (if j=0 then (if m=0 then (if (a.length:Int)=0 then (if (n.length:Int)=0 then (if b=true then (some false) else (if i=true then (some false) else (some (d.toList != ([60,105,110,105,116,62]:List UInt8))))) else (some false)) else (some false)) else (some false)) else (some false)) else (if b=true then (aI.j1 k (a.length:Int) (c.length:Int) d o b e i j m a n c p q r) else (aI.j1 k (a.length:Int) (wrap64 ((c.length:Int)+1)) d o b e i j m a n c p q r)))
def aI.j1:Nat→Int→Int→ByteArray→ByteArray→Bool→Bool→Bool→Int→Int→List (cR)→List (dG)→List ByteArray→ByteArray→Int→Int→Option (Bool)
 | 0,_,_,_,_,_,_,_,_,_,_,_,_,_,_,_=>none
 | k+1,a,t,d,e,i,j,m,n,b,o,c,p,q,r,s=>if a < 1 then (aI.j2 k a true d e i j m n b o c p q r s) else (if a > 60 then (aI.j2 k a true d e i j m n b o c p q r s) else (if b < t then (aI.j2 k a true d e i j m n b o c p q r s) else (aI.j2 k a (decide ((c.length:Int) > 6)) d e i j m n b o c p q r s)))
def aI.j2:Nat→Int→Bool→ByteArray→ByteArray→Bool→Bool→Bool→Int→Int→List (cR)→List (dG)→List ByteArray→ByteArray→Int→Int→Option (Bool)
 | 0,_,_,_,_,_,_,_,_,_,_,_,_,_,_,_=>none
 | k+1,t,s,a,b,c,d,e,i,j,m,n,o,p,q,r=>if s=true then (some false) else (aI.l0 k t 0 a b c d e i j m n o p q r)
def aI.l0:Nat→Int→Int→ByteArray→ByteArray→Bool→Bool→Bool→Int→Int→List (cR)→List (dG)→List ByteArray→ByteArray→Int→Int→Option (Bool)
 | 0,_,_,_,_,_,_,_,_,_,_,_,_,_,_,_=>none
 | k+1,c,b,d,e,i,j,m,n,o,a,p,q,r,s,t=>if b < (a.length:Int) then (if 0≤b then ((dB.f k ((bL a b).f0) ((bL a b).f1) ((bL a b).f2) ((bL a b).f3) ((bL a b).f4)).bind fun u=>(if u=true then ((bU.f k ((bL a b).f0)).bind fun v=>(if v.toList=([116]:List UInt8) then (if ((bL a b).f1) ≥ c then (some false) else (aI.l0 k c (wrap64 (b+1)) d e i j m n o a p q r s t)) else (aI.l0 k c (wrap64 (b+1)) d e i j m n o a p q r s t))) else (some false))) else (none)) else (aI.l1 k c 0 d e i j m n o a p q r s t)
def aI.l1:Nat→Int→Int→ByteArray→ByteArray→Bool→Bool→Bool→Int→Int→List (cR)→List (dG)→List ByteArray→ByteArray→Int→Int→Option (Bool)
 | 0,_,_,_,_,_,_,_,_,_,_,_,_,_,_,_=>none
 | k+1,j,a,c,m,d,n,e,o,p,q,b,r,i,s,t=>if a < (b.length:Int) then (if 0≤a then ((fL.f k ((cL b a).f0) ((cL b a).f1) ((cL b a).f2) ((cL b a).f3) j).bind fun u=>(if u=true then (aI.l1 k j (wrap64 (a+1)) c m d n e o p q b r i s t) else (some false))) else (none)) else (if c.toList=([60,105,110,105,116,62]:List UInt8) then (if d=true then (some false) else (if e=true then (some false) else (some (i.toList == ([86]:List UInt8))))) else (some true))
end
def aI.f (k:Nat) (d:ByteArray) (e:ByteArray) (i:Bool) (j:Bool) (m:Bool) (b:Int) (c:Int) (n:List (cR)) (o:List (dG)):Option (Bool):=(aT.f k e).bind fun a=>((aE.f k d).bind fun p=>(if p=true then (if a.2.2.2=0 then (if b < 0 then (aI.j0 k true d e i j m b c n o a.1 a.2.1 a.2.2.1 a.2.2.2) else (if b > 16 then (aI.j0 k true d e i j m b c n o a.1 a.2.1 a.2.2.1 a.2.2.2) else (if c < 0 then (aI.j0 k true d e i j m b c n o a.1 a.2.1 a.2.2.1 a.2.2.2) else (aI.j0 k (decide (c > 16)) d e i j m b c n o a.1 a.2.1 a.2.2.1 a.2.2.2)))) else (aI.j0 k true d e i j m b c n o a.1 a.2.1 a.2.2.1 a.2.2.2)) else (if d.toList=([60,105,110,105,116,62]:List UInt8) then (if a.2.2.2=0 then (if b < 0 then (aI.j0 k true d e i j m b c n o a.1 a.2.1 a.2.2.1 a.2.2.2) else (if b > 16 then (aI.j0 k true d e i j m b c n o a.1 a.2.1 a.2.2.1 a.2.2.2) else (if c < 0 then (aI.j0 k true d e i j m b c n o a.1 a.2.1 a.2.2.1 a.2.2.2) else (aI.j0 k (decide (c > 16)) d e i j m b c n o a.1 a.2.1 a.2.2.1 a.2.2.2)))) else (aI.j0 k true d e i j m b c n o a.1 a.2.1 a.2.2.1 a.2.2.2)) else (aI.j0 k true d e i j m b c n o a.1 a.2.1 a.2.2.1 a.2.2.2))))
theorem aI.calls (k:Nat) (v:ByteArray) (K:ByteArray) (L:Bool) (av:Bool) (M:Bool) (G:Int) (I:Int) (Z:Option Addr) (aa:Nat) (i:List (cR)) (ab:Option Addr) (ac:Nat) (x:List (dG)) (r:Bool) (w:World) (bj:Kd.C iN w Z i.length i) (bm:i.length≤aa) (bn:Kd.C iY w ab x.length x) (bo:x.length≤ac) (h:aI.f k v K L av M G I i x=some r):
 Calls Tryz.prog 90 #[.agg #[.string v,.string K,.bool L,.bool av,.bool M,.int .i64 G,.int .i64 I,.slice Z i.length aa,.slice ab x.length ac]] w fun e w'=>e=.returned (.bool r)∧Below w.heap.size w w':=by
 have gh:=Tryz.underlying50;have d8:=Tryz.underlying167;have d9:=Tryz.underlying159;have d_:=Tryz.underlying162;have ak:=Zm bj;have ea:=Zm bm;clear bj bm;have cd:=Zm bn;have eb:=Zm bo;clear bn bo;have b:=Zm (Below.refl w.heap.size w);have H:=h;clear h;unfold aI.f at H;replace H:=cM H;obtain⟨⟨q,y,z,A⟩,A2,H⟩:=H;(try dsimp only at H);have be:=Zm H;clear H;go_enter Tryz.func90,Tryz.ntmps90;go_upto_region 2 with (first|((with_reducible refine gate_dst (N:=1) rfl ?_);(try (refine gate_guard (by rfl) ?_;dsimp only));refine fH 1 50 #[.string v,.string K,.bool L,.bool av,.bool M,.int .i64 G,.int .i64 I,.slice Z i.length aa,.slice ab x.length ac] ?_;intro ap Y w4 aw n;have c:=Zm aw;have ec:=bz b Y;have ed:=bz b Y;replace b:=dJ b n;clear n aw Y;have ax:=iL c.out;have an:=Zkf c.out 8)|((with_reducible refine gate_callee (f:=144) rfl ?_);refine cQ (some 10) Tryz.func144 #[.string K] ?_;(with_reducible refine(aT.calls _ _ _ _ _ _ _ A2.out).mono ?_);rintro e w6 ⟨gi,rfl,bw,n⟩;refine⟨_,rfl,?_⟩;have J:=Zm (Kd.R_lower bw (Zbz (bk b.out)));replace c:=kb c n;replace b:=dJ b n;clear n bw)|((with_reducible refine gate_dst (N:=3) rfl ?_);(try (refine gate_guard (by rfl) ?_;dsimp only));refine fH 3 167 #[.slice none 0 0,.string (⟨#[]⟩:ByteArray),.int .i64 0,.int .i64 0] ?_;intro j Y w7 aw n;have d:=Zm aw;have ee:=bz b Y;have ef:=bz b Y;have s:=bl c Y;have t:=bg c Y;replace J:=Zm (Kd.R_below (pr J.out) n);replace c:=kb c n;replace b:=dJ b n;clear n aw Y;obtain⟨B,D,c8⟩:=Kd.R_slice J.out;subst c8;have gj:=t.out;have gl:=s.out;have ce:=kB d.out));(try simp only [Act.put,List.setIfInBounds_toArray,List.set_cons_zero,List.set_cons_succ]);go_cut [44] (fun c9 wc=>∃ (E:Nat) (a5:Bool),c9=.bool a5∧Aside0 (aI.j0 E a5 v K L av M G I i x q y z A=some r)∧Aside0 (E≤k)∧Aside0 (Kd.R Kd.string 9 wc w.heap.size (fun _=>True) (.slice B q.length D) q)∧Aside0 (wc.heap[ap]?=some (.cells #[.string v,.string K,.bool L,.bool av,.bool M,.int .i64 G,.int .i64 I,(.slice Z i.length aa),(.slice ab x.length ac)] 50 (0,0)))∧Aside0 (wc.heap[j]?=some (.cells #[(.slice B q.length D),.string y,.int .i64 z,.int .i64 A] 167 (0,0)))∧Aside0 (Below w.heap.size w wc))
 case first=>
  have H:=be.out;clear be;replace H:=cM H;obtain⟨gm,P,H⟩:=H;replace H:=eN H;rcases H with ⟨rfl,H⟩|⟨rfl,H⟩
  · replace H:=eM H;rcases H with ⟨bx,cf,cg,H⟩|⟨bx,cf,cg,H⟩
    · have m:=Zm H;clear H;have eg:=s.out;have eh:=t.out;have ei:=iL c.out;go_wp2_with (first|((with_reducible refine gate_callee (f:=93) rfl ?_);refine cQ (some 13) Tryz.func93 #[.string v] ?_;(with_reducible refine(aE.calls _ _ _ _ P.out).mono ?_);rintro e w' ⟨rfl,⟨U,rfl⟩⟩;refine⟨_,rfl,?_⟩));go_meet
      case rel=>exact⟨_,(true),dS,m,⟨iS⟩,⟨by (with_reducible repeat (first|apply Kd.R_alloc|apply Kd.R_drewN|apply Kd.R_drew));exact Kd.R_mono (Kd.R_far (p:=⟨j,3,none⟩) (Kd.R_far (p:=⟨j,2,none⟩) (Kd.R_far (p:=⟨j,1,none⟩) (Kd.R_far (p:=⟨j,0,none⟩) (Kd.R_types J.out d.out (by decide)) (fun _ a=>a.2) (.slice B q.length D)) (fun _ a=>a.2) (.string y)) (fun _ a=>a.2) (.int .i64 z)) (fun _ a=>a.2) (.int .i64 A)) (fun _ a=>trivial)⟩,⟨dR⟩,⟨dR⟩,⟨gK⟩⟩
    clear bx;replace H:=eM H;rcases H with ⟨b0,ch,ci,H⟩|⟨b0,ch,ci,H⟩
    · have m:=Zm H;clear H;have ej:=s.out;have ek:=t.out;have el:=iL c.out;go_wp2_with (first|((with_reducible refine gate_callee (f:=93) rfl ?_);refine cQ (some 13) Tryz.func93 #[.string v] ?_;(with_reducible refine(aE.calls _ _ _ _ P.out).mono ?_);rintro e w' ⟨rfl,⟨U,rfl⟩⟩;refine⟨_,rfl,?_⟩;have em:=kB d.out));go_meet
      case rel=>exact⟨_,(true),dS,m,⟨iS⟩,⟨by (with_reducible repeat (first|apply Kd.R_alloc|apply Kd.R_drewN|apply Kd.R_drew));exact Kd.R_mono (Kd.R_far (p:=⟨j,3,none⟩) (Kd.R_far (p:=⟨j,2,none⟩) (Kd.R_far (p:=⟨j,1,none⟩) (Kd.R_far (p:=⟨j,0,none⟩) (Kd.R_types J.out d.out (by decide)) (fun _ a=>a.2) (.slice B q.length D)) (fun _ a=>a.2) (.string y)) (fun _ a=>a.2) (.int .i64 z)) (fun _ a=>a.2) (.int .i64 A)) (fun _ a=>trivial)⟩,⟨dR⟩,⟨dR⟩,⟨gK⟩⟩
    clear b0;replace H:=jC H;rcases H with ⟨cj,H⟩|⟨cj,H⟩
    · replace H:=iG H;rcases H with ⟨aB,H⟩|⟨aB,H⟩
      · have ck:decide (16 < G)=false:=decide_eq_false aB;clear aB;replace H:=jC H;rcases H with ⟨cl,H⟩|⟨cl,H⟩
        · have m:=Zm H;clear H;have en:=s.out;have eo:=t.out;have ep:=iL c.out;go_wp2_with (first|((with_reducible refine gate_callee (f:=93) rfl ?_);refine cQ (some 13) Tryz.func93 #[.string v] ?_;(with_reducible refine(aE.calls _ _ _ _ P.out).mono ?_);rintro e w' ⟨rfl,⟨U,rfl⟩⟩;refine⟨_,rfl,?_⟩;have eq:=kB d.out));go_meet
          case rel=>exact⟨_,(decide (I > 16)),dS,m,⟨iS⟩,⟨by (with_reducible repeat (first|apply Kd.R_alloc|apply Kd.R_drewN|apply Kd.R_drew));exact Kd.R_mono (Kd.R_far (p:=⟨j,3,none⟩) (Kd.R_far (p:=⟨j,2,none⟩) (Kd.R_far (p:=⟨j,1,none⟩) (Kd.R_far (p:=⟨j,0,none⟩) (Kd.R_types J.out d.out (by decide)) (fun _ a=>a.2) (.slice B q.length D)) (fun _ a=>a.2) (.string y)) (fun _ a=>a.2) (.int .i64 z)) (fun _ a=>a.2) (.int .i64 A)) (fun _ a=>trivial)⟩,⟨dR⟩,⟨dR⟩,⟨gK⟩⟩
        have m:=Zm H;clear H;have er:=s.out;have es:=t.out;have et:=iL c.out;go_wp2_with (first|((with_reducible refine gate_callee (f:=93) rfl ?_);refine cQ (some 13) Tryz.func93 #[.string v] ?_;(with_reducible refine(aE.calls _ _ _ _ P.out).mono ?_);rintro e w' ⟨rfl,⟨U,rfl⟩⟩;refine⟨_,rfl,?_⟩;have eu:=kB d.out));go_meet
        case rel=>exact⟨_,(true),dS,m,⟨iS⟩,⟨by (with_reducible repeat (first|apply Kd.R_alloc|apply Kd.R_drewN|apply Kd.R_drew));exact Kd.R_mono (Kd.R_far (p:=⟨j,3,none⟩) (Kd.R_far (p:=⟨j,2,none⟩) (Kd.R_far (p:=⟨j,1,none⟩) (Kd.R_far (p:=⟨j,0,none⟩) (Kd.R_types J.out d.out (by decide)) (fun _ a=>a.2) (.slice B q.length D)) (fun _ a=>a.2) (.string y)) (fun _ a=>a.2) (.int .i64 z)) (fun _ a=>a.2) (.int .i64 A)) (fun _ a=>trivial)⟩,⟨dR⟩,⟨dR⟩,⟨gK⟩⟩
      have ck:decide (16 < G)=true:=decide_eq_true aB;clear aB;have m:=Zm H;clear H;have ev:=s.out;have ew:=t.out;have ex:=iL c.out;go_wp2_with (first|((with_reducible refine gate_callee (f:=93) rfl ?_);refine cQ (some 13) Tryz.func93 #[.string v] ?_;(with_reducible refine(aE.calls _ _ _ _ P.out).mono ?_);rintro e w' ⟨rfl,⟨U,rfl⟩⟩;refine⟨_,rfl,?_⟩;have ey:=kB d.out));go_meet
      case rel=>exact⟨_,(true),dS,m,⟨iS⟩,⟨by (with_reducible repeat (first|apply Kd.R_alloc|apply Kd.R_drewN|apply Kd.R_drew));exact Kd.R_mono (Kd.R_far (p:=⟨j,3,none⟩) (Kd.R_far (p:=⟨j,2,none⟩) (Kd.R_far (p:=⟨j,1,none⟩) (Kd.R_far (p:=⟨j,0,none⟩) (Kd.R_types J.out d.out (by decide)) (fun _ a=>a.2) (.slice B q.length D)) (fun _ a=>a.2) (.string y)) (fun _ a=>a.2) (.int .i64 z)) (fun _ a=>a.2) (.int .i64 A)) (fun _ a=>trivial)⟩,⟨dR⟩,⟨dR⟩,⟨gK⟩⟩
    have m:=Zm H;clear H;have ez:=s.out;have eA:=t.out;have eD:=iL c.out;go_wp2_with (first|((with_reducible refine gate_callee (f:=93) rfl ?_);refine cQ (some 13) Tryz.func93 #[.string v] ?_;(with_reducible refine(aE.calls _ _ _ _ P.out).mono ?_);rintro e w' ⟨rfl,⟨U,rfl⟩⟩;refine⟨_,rfl,?_⟩;have eP:=kB d.out));go_meet
    case rel=>exact⟨_,(true),dS,m,⟨iS⟩,⟨by (with_reducible repeat (first|apply Kd.R_alloc|apply Kd.R_drewN|apply Kd.R_drew));exact Kd.R_mono (Kd.R_far (p:=⟨j,3,none⟩) (Kd.R_far (p:=⟨j,2,none⟩) (Kd.R_far (p:=⟨j,1,none⟩) (Kd.R_far (p:=⟨j,0,none⟩) (Kd.R_types J.out d.out (by decide)) (fun _ a=>a.2) (.slice B q.length D)) (fun _ a=>a.2) (.string y)) (fun _ a=>a.2) (.int .i64 z)) (fun _ a=>a.2) (.int .i64 A)) (fun _ a=>trivial)⟩,⟨dR⟩,⟨dR⟩,⟨gK⟩⟩
  replace H:=eM H;rcases H with ⟨b1,aq,cm,H⟩|⟨b1,aq,cm,H⟩
  · (first|rw [aq]|(simp only [i64_w,i32_w];rw [aq])|skip);have m:=Zm H;clear H;have eT:=s.out;have eY:=t.out;have e0:=iL c.out;go_wp2_with (first|((with_reducible refine gate_callee (f:=93) rfl ?_);refine cQ (some 13) Tryz.func93 #[.string v] ?_;(with_reducible refine(aE.calls _ _ _ _ P.out).mono ?_);rintro e w' ⟨rfl,⟨U,rfl⟩⟩;refine⟨_,rfl,?_⟩;have e1:=kB d.out));go_meet
    case rel=>exact⟨_,(true),dS,m,⟨iS⟩,⟨by (with_reducible repeat (first|apply Kd.R_alloc|apply Kd.R_drewN|apply Kd.R_drew));exact Kd.R_mono (Kd.R_far (p:=⟨j,3,none⟩) (Kd.R_far (p:=⟨j,2,none⟩) (Kd.R_far (p:=⟨j,1,none⟩) (Kd.R_far (p:=⟨j,0,none⟩) (Kd.R_types J.out d.out (by decide)) (fun _ a=>a.2) (.slice B q.length D)) (fun _ a=>a.2) (.string y)) (fun _ a=>a.2) (.int .i64 z)) (fun _ a=>a.2) (.int .i64 A)) (fun _ a=>trivial)⟩,⟨dR⟩,⟨dR⟩,⟨gK⟩⟩
  clear b1;(first|rw [aq]|(simp only [i64_w,i32_w];rw [aq])|skip);replace H:=jC H;rcases H with ⟨cn,H⟩|⟨cn,H⟩
  · replace H:=iG H;rcases H with ⟨aF,H⟩|⟨aF,H⟩
    · have co:decide (16 < G)=false:=decide_eq_false aF;clear aF;replace H:=jC H;rcases H with ⟨cp,H⟩|⟨cp,H⟩
      · have m:=Zm H;clear H;have e2:=s.out;have e3:=t.out;have e4:=iL c.out;go_wp2_with (first|((with_reducible refine gate_callee (f:=93) rfl ?_);refine cQ (some 13) Tryz.func93 #[.string v] ?_;(with_reducible refine(aE.calls _ _ _ _ P.out).mono ?_);rintro e w' ⟨rfl,⟨U,rfl⟩⟩;refine⟨_,rfl,?_⟩;have e5:=kB d.out));go_meet
        case rel=>exact⟨_,(decide (I > 16)),dS,m,⟨iS⟩,⟨by (with_reducible repeat (first|apply Kd.R_alloc|apply Kd.R_drewN|apply Kd.R_drew));exact Kd.R_mono (Kd.R_far (p:=⟨j,3,none⟩) (Kd.R_far (p:=⟨j,2,none⟩) (Kd.R_far (p:=⟨j,1,none⟩) (Kd.R_far (p:=⟨j,0,none⟩) (Kd.R_types J.out d.out (by decide)) (fun _ a=>a.2) (.slice B q.length D)) (fun _ a=>a.2) (.string y)) (fun _ a=>a.2) (.int .i64 z)) (fun _ a=>a.2) (.int .i64 A)) (fun _ a=>trivial)⟩,⟨dR⟩,⟨dR⟩,⟨gK⟩⟩
      have m:=Zm H;clear H;have e6:=s.out;have e7:=t.out;have e8:=iL c.out;go_wp2_with (first|((with_reducible refine gate_callee (f:=93) rfl ?_);refine cQ (some 13) Tryz.func93 #[.string v] ?_;(with_reducible refine(aE.calls _ _ _ _ P.out).mono ?_);rintro e w' ⟨rfl,⟨U,rfl⟩⟩;refine⟨_,rfl,?_⟩;have e9:=kB d.out));go_meet
      case rel=>exact⟨_,(true),dS,m,⟨iS⟩,⟨by (with_reducible repeat (first|apply Kd.R_alloc|apply Kd.R_drewN|apply Kd.R_drew));exact Kd.R_mono (Kd.R_far (p:=⟨j,3,none⟩) (Kd.R_far (p:=⟨j,2,none⟩) (Kd.R_far (p:=⟨j,1,none⟩) (Kd.R_far (p:=⟨j,0,none⟩) (Kd.R_types J.out d.out (by decide)) (fun _ a=>a.2) (.slice B q.length D)) (fun _ a=>a.2) (.string y)) (fun _ a=>a.2) (.int .i64 z)) (fun _ a=>a.2) (.int .i64 A)) (fun _ a=>trivial)⟩,⟨dR⟩,⟨dR⟩,⟨gK⟩⟩
    have co:decide (16 < G)=true:=decide_eq_true aF;clear aF;have m:=Zm H;clear H;have e_:=s.out;have fa:=t.out;have fb:=iL c.out;go_wp2_with (first|((with_reducible refine gate_callee (f:=93) rfl ?_);refine cQ (some 13) Tryz.func93 #[.string v] ?_;(with_reducible refine(aE.calls _ _ _ _ P.out).mono ?_);rintro e w' ⟨rfl,⟨U,rfl⟩⟩;refine⟨_,rfl,?_⟩;have fc:=kB d.out));go_meet
    case rel=>exact⟨_,(true),dS,m,⟨iS⟩,⟨by (with_reducible repeat (first|apply Kd.R_alloc|apply Kd.R_drewN|apply Kd.R_drew));exact Kd.R_mono (Kd.R_far (p:=⟨j,3,none⟩) (Kd.R_far (p:=⟨j,2,none⟩) (Kd.R_far (p:=⟨j,1,none⟩) (Kd.R_far (p:=⟨j,0,none⟩) (Kd.R_types J.out d.out (by decide)) (fun _ a=>a.2) (.slice B q.length D)) (fun _ a=>a.2) (.string y)) (fun _ a=>a.2) (.int .i64 z)) (fun _ a=>a.2) (.int .i64 A)) (fun _ a=>trivial)⟩,⟨dR⟩,⟨dR⟩,⟨gK⟩⟩
  have m:=Zm H;clear H;have fd:=s.out;have fe:=t.out;have ff:=iL c.out;go_wp2_with (first|((with_reducible refine gate_callee (f:=93) rfl ?_);refine cQ (some 13) Tryz.func93 #[.string v] ?_;(with_reducible refine(aE.calls _ _ _ _ P.out).mono ?_);rintro e w' ⟨rfl,⟨U,rfl⟩⟩;refine⟨_,rfl,?_⟩;have fg:=kB d.out));go_meet
  case rel=>exact⟨_,(true),dS,m,⟨iS⟩,⟨by (with_reducible repeat (first|apply Kd.R_alloc|apply Kd.R_drewN|apply Kd.R_drew));exact Kd.R_mono (Kd.R_far (p:=⟨j,3,none⟩) (Kd.R_far (p:=⟨j,2,none⟩) (Kd.R_far (p:=⟨j,1,none⟩) (Kd.R_far (p:=⟨j,0,none⟩) (Kd.R_types J.out d.out (by decide)) (fun _ a=>a.2) (.slice B q.length D)) (fun _ a=>a.2) (.string y)) (fun _ a=>a.2) (.int .i64 z)) (fun _ a=>a.2) (.int .i64 A)) (fun _ a=>trivial)⟩,⟨dR⟩,⟨dR⟩,⟨gK⟩⟩
 case rest=>
  clear be;(try clear ce);(try clear ax);(try clear an);obtain⟨E,a5,rfl,HA,O,u,c,d,b⟩:=hcut
  cases E with
  | zero=>exact absurd HA.out (by simp [aI.j0])
  | succ c_=>
   have H:=HA.out;clear HA;simp only [aI.j0] at H;replace H:=eN H;rcases H with ⟨rfl,H⟩|⟨rfl,H⟩
   · replace H:=eN H;rcases H with ⟨rfl,H⟩|⟨rfl,H⟩
     · have a9:=Zm H;clear H;have fh:=s.out;have fi:=t.out;have aP:=iL c.out;have aR:=kB d.out;go_upto_if 91 with (fail);go_cut [5] (fun v5 wc=>∃ (E:Nat) (a6:Int),v5=.int .i64 a6∧Aside0 (aI.j1 E (i.length:Int) a6 v K L false M G I i x q y z A=some r)∧Aside0 (E≤c_)∧Aside0 (Kd.R Kd.string 9 wc w.heap.size (fun _=>True) (.slice B q.length D) q)∧Aside0 (wc.heap[ap]?=some (.cells #[.string v,.string K,.bool L,.bool false,.bool M,.int .i64 G,.int .i64 I,(.slice Z i.length aa),(.slice ab x.length ac)] 50 (0,0)))∧Aside0 (wc.heap[j]?=some (.cells #[(.slice B q.length D),.string y,.int .i64 z,.int .i64 A] 167 (0,0)))∧Aside0 (Below w.heap.size w wc))
       case first=>
        have H:=a9.out;clear a9;replace H:=eN H;rcases H with ⟨rfl,H⟩|⟨rfl,H⟩
        · have m:=Zm H;clear H;go_wp2;go_meet
          case rel=>exact⟨_,(wrap64 ((q.length:Int)+1)),dS,m,⟨by have:=O.out;first|omega|exact Nat.le_refl _⟩,⟨pr u.out⟩,⟨pk c.out⟩,⟨pk d.out⟩,⟨bk b.out⟩⟩
        have m:=Zm H;clear H;go_wp2;go_meet
        case rel=>exact⟨_,((q.length:Int)),dS,m,⟨by have:=O.out;first|omega|exact Nat.le_refl _⟩,⟨pr u.out⟩,⟨pk c.out⟩,⟨pk d.out⟩,⟨bk b.out⟩⟩
       case rest=>
        clear a9;(try clear b2);(try clear b3);(try clear ax);(try clear aP);(try clear aR);(try clear an);obtain⟨E,a6,rfl,HA,T,u,c,d,b⟩:=hcut
        cases E with
        | zero=>exact absurd HA.out (by simp [aI.j1])
        | succ c3=>
         have H:=HA.out;clear HA;simp only [aI.j1] at H;have a_:=Zm H;clear H;go_upto_region 10 with (fail);go_cut [111] (fun c4 wc=>∃ (E:Nat) (aS:Bool),c4=.bool aS∧Aside0 (aI.j2 E (i.length:Int) aS v K L false M G I i x q y z A=some r)∧Aside0 (E≤c3)∧Aside0 (Kd.R Kd.string 9 wc w.heap.size (fun _=>True) (.slice B q.length D) q)∧Aside0 (wc.heap[ap]?=some (.cells #[.string v,.string K,.bool L,.bool false,.bool M,.int .i64 G,.int .i64 I,(.slice Z i.length aa),(.slice ab x.length ac)] 50 (0,0)))∧Aside0 (wc.heap[j]?=some (.cells #[(.slice B q.length D),.string y,.int .i64 z,.int .i64 A] 167 (0,0)))∧Aside0 (Below w.heap.size w wc))
         case first=>
          have H:=a_.out;clear a_;replace H:=iG H;rcases H with ⟨aL,H⟩|⟨aL,H⟩
          · have ar:=decide_eq_false aL;have a7:decide (i.length < 1)=false:=decide_eq_false (by omega);clear aL;(first|rw [ar]|(simp only [i64_w,i32_w];rw [ar])|rw [a7]|skip);replace H:=iG H;rcases H with ⟨aO,H⟩|⟨aO,H⟩
            · have cq:decide (60 < (i.length:Int))=false:=decide_eq_false aO;have cs:decide (60 < i.length)=false:=decide_eq_false (by omega);clear aO;replace H:=jC H;rcases H with ⟨ct,H⟩|⟨ct,H⟩
              · have m:=Zm H;clear H;have fj:=s.out;have fk:=t.out;have fl:=iL c.out;go_wp2;go_meet
                case rel=>exact⟨_,(decide ((x.length:Int) > 6)),dS,m,⟨by have:=O.out;have:=T.out;first|omega|exact Nat.le_refl _⟩,⟨pr u.out⟩,⟨pk c.out⟩,⟨pk d.out⟩,⟨bk b.out⟩⟩
              have m:=Zm H;clear H;have fm:=s.out;have fn:=t.out;have fo:=iL c.out;go_wp2;go_meet
              case rel=>exact⟨_,(true),dS,m,⟨by have:=O.out;have:=T.out;first|omega|exact Nat.le_refl _⟩,⟨pr u.out⟩,⟨pk c.out⟩,⟨pk d.out⟩,⟨bk b.out⟩⟩
            have cq:decide (60 < (i.length:Int))=true:=decide_eq_true aO;have cs:decide (60 < i.length)=true:=decide_eq_true (by omega);clear aO;have m:=Zm H;clear H;go_wp2;go_meet
            case rel=>exact⟨_,(true),dS,m,⟨by have:=O.out;have:=T.out;first|omega|exact Nat.le_refl _⟩,⟨pr u.out⟩,⟨pk c.out⟩,⟨pk d.out⟩,⟨bk b.out⟩⟩
          have ar:=decide_eq_true aL;have a7:decide (i.length < 1)=true:=decide_eq_true (by omega);clear aL;(first|rw [ar]|(simp only [i64_w,i32_w];rw [ar])|rw [a7]|skip);have m:=Zm H;clear H;go_wp2;go_meet
          case rel=>exact⟨_,(true),dS,m,⟨by have:=O.out;have:=T.out;first|omega|exact Nat.le_refl _⟩,⟨pr u.out⟩,⟨pk c.out⟩,⟨pk d.out⟩,⟨bk b.out⟩⟩
         case rest=>
          clear a_;(try clear b2);(try clear b3);(try clear ax);(try clear aP);(try clear aR);(try clear an);obtain⟨E,aS,rfl,HA,al,u,c,d,b⟩:=hcut
          cases E with
          | zero=>exact absurd HA.out (by simp [aI.j2])
          | succ bs=>
           have H:=HA.out;clear HA;simp only [aI.j2] at H;replace H:=eN H;rcases H with ⟨rfl,H⟩|⟨rfl,H⟩
           · have m:=Zm H;clear H;go_wp2;go_loopg [6] bs (fun E v6 w'=>∃ (o:Int),v6=.int .i64 o∧Aside0 (aI.l0 E (i.length:Int) o v K L false M G I i x q y z A=some r)∧Aside0 (E≤bs)∧Aside0 (Kd.R Kd.string 9 w' w.heap.size (fun _=>True) (.slice B q.length D) q)∧Aside0 (w'.heap[ap]?=some (.cells #[.string v,.string K,.bool L,.bool false,.bool M,.int .i64 G,.int .i64 I,(.slice Z i.length aa),(.slice ab x.length ac)] 50 (0,0)))∧Aside0 (w'.heap[j]?=some (.cells #[(.slice B q.length D),.string y,.int .i64 z,.int .i64 A] 167 (0,0)))∧Aside0 (Below w.heap.size w w'))
             case atStart=>exact⟨(0),dS,m,⟨Nat.le_refl _⟩,⟨pr u.out⟩,⟨pk c.out⟩,⟨pk d.out⟩,⟨bk b.out⟩⟩
             case round=>
              clear m;(try clear b2);(try clear b3);(try clear gv);(try clear ax);(try clear aP);(try clear aR);(try clear an);obtain⟨o,rfl,HA,am,u,c,d,b⟩:=hrel
              cases gk with
              | zero=>exact absurd HA.out (by simp [aI.l0])
              | succ k4=>
               have H:=HA.out;clear HA;simp only [aI.l0] at H;replace H:=jC H;rcases H with ⟨bp,H⟩|⟨bp,H⟩
               · have m:=Zm H;clear H;have da:=s.out;have db:=t.out;have b_:=iL c.out;go_wp2;go_loopg [7] k4 (fun E v7 w'=>∃ (X:Int),v7=.int .i64 X∧Aside0 (aI.l1 E (i.length:Int) X v K L false M G I i x q y z A=some r)∧Aside0 (E≤k4)∧Aside0 (Kd.R Kd.string 9 w' w.heap.size (fun _=>True) (.slice B q.length D) q)∧Aside0 (w'.heap[ap]?=some (.cells #[.string v,.string K,.bool L,.bool false,.bool M,.int .i64 G,.int .i64 I,(.slice Z i.length aa),(.slice ab x.length ac)] 50 (0,0)))∧Aside0 (w'.heap[j]?=some (.cells #[(.slice B q.length D),.string y,.int .i64 z,.int .i64 A] 167 (0,0)))∧Aside0 (Below w.heap.size w w'))
                 case atStart=>exact⟨(0),dS,m,⟨Nat.le_refl _⟩,⟨pr u.out⟩,⟨pk c.out⟩,⟨pk d.out⟩,⟨bk b.out⟩⟩
                 case round=>
                  clear m;(try clear gw);(try clear bp);(try clear b_);(try clear ax);(try clear aP);(try clear aR);(try clear an);obtain⟨X,rfl,HA,b4,u,c,d,b⟩:=hrel
                  cases gk with
                  | zero=>exact absurd HA.out (by simp [aI.l1])
                  | succ k5=>
                   have H:=HA.out;clear HA;simp only [aI.l1] at H;replace H:=jC H;rcases H with ⟨ca,H⟩|⟨ca,H⟩
                   · replace H:=eM H;rcases H with ⟨bu,cb,cc,H⟩|⟨bu,cb,cc,H⟩
                     · obtain rfl:=Option.some.inj H;have dc:=s.out;have dd:=t.out;have de:=iL c.out;go_wp2;go_ret;exact cI b
                     clear bu;replace H:=eN H;rcases H with ⟨rfl,H⟩|⟨rfl,H⟩
                     · replace H:=eN H;rcases H with ⟨rfl,H⟩|⟨rfl,H⟩
                       · obtain rfl:=Option.some.inj H;have df:=s.out;have dg:=t.out;have dh:=iL c.out;have dj:=kB d.out;go_wp2;go_ret;exact cI b
                       obtain rfl:=Option.some.inj H;have dk:=s.out;have dl:=t.out;have dm:=iL c.out;go_wp2;go_ret;exact cI b
                     obtain rfl:=Option.some.inj H;have dq:=s.out;have dr:=t.out;have ds:=iL c.out;go_wp2;go_ret;exact cI b
                   replace H:=eG H;obtain⟨c115b0,H⟩:=H;replace H:=cM H;obtain⟨gn,c5,H⟩:=H;have bq:=Zm H;clear H;have du:=s.out;have dv:=t.out;have dx:=iL c.out;obtain⟨fp,c6,fq⟩:=qV cd b X;cases c6;go_upto_if 160 with (first|((with_reducible refine gate_callee (f:=146) rfl ?_);refine cQ (some 159) Tryz.func146 #[.agg #[.int .i64 ((cL x X).f0),.int .i64 ((cL x X).f1),.int .i64 ((cL x X).f2),.string ((cL x X).f3)],.int .i64 (i.length:Int)] ?_;(with_reducible refine(fL.calls _ _ _ _ _ _ _ _ c5.out).mono ?_);rintro e go ⟨rfl,n⟩;refine⟨_,rfl,?_⟩;replace u:=Zm (Kd.R_below (pr u.out) n);replace c:=kb c n;replace d:=kb d n;replace b:=dJ b n;clear n));have H:=bq.out;clear bq;replace H:=eN H;rcases H with ⟨rfl,H⟩|⟨rfl,H⟩
                   · obtain rfl:=Option.some.inj H;go_wp2;go_ret;exact cI b
                   have m:=Zm H;clear H;go_wp2;go_roundg k5
                   case measure=>have:=O.out;have:=T.out;have:=al.out;have:=am.out;have:=b4.out;omega
                   case rel=>exact⟨(wrap64 (X+1)),dS,m,⟨by have:=O.out;have:=T.out;have:=al.out;have:=am.out;have:=b4.out;omega⟩,⟨pr u.out⟩,⟨pk c.out⟩,⟨pk d.out⟩,⟨bk b.out⟩⟩
               replace H:=eG H;obtain⟨c91b0,H⟩:=H;replace H:=cM H;obtain⟨gp,bf,H⟩:=H;replace H:=eN H;rcases H with ⟨rfl,H⟩|⟨rfl,H⟩
               · obtain rfl:=Option.some.inj H;have dy:=s.out;have dz:=t.out;have d0:=iL c.out;obtain⟨au,ay,br⟩:=lG ak b o;cases ay;(try clear u);(try clear c);(try clear d);go_wp2_with (first|((with_reducible refine gate_callee (f:=145) rfl ?_);refine cQ (some 124) Tryz.func145 #[.agg #[.int .i64 ((bL i o).f0),.int .i64 ((bL i o).f1),.string ((bL i o).f2),.string ((bL i o).f3),.string ((bL i o).f4)]] ?_;(with_reducible refine(dB.calls _ _ _ _ _ _ _ _ bf.out).mono ?_);rintro e gq ⟨rfl,n⟩;refine⟨_,rfl,?_⟩;have b5:=dJ b n;clear b;have b:=b5;clear b5;clear n));go_ret;exact cI b
               replace H:=cM H;obtain⟨gr,b6,H⟩:=H;replace H:=eM H;rcases H with ⟨b7,cu,cv,H⟩|⟨b7,cu,cv,H⟩
               · have m:=Zm H;clear H;have d2:=s.out;have d3:=t.out;have d4:=iL c.out;obtain⟨au,ay,br⟩:=lG ak b o;cases ay;go_wp2_with (first|((with_reducible refine gate_callee (f:=145) rfl ?_);refine cQ (some 124) Tryz.func145 #[.agg #[.int .i64 ((bL i o).f0),.int .i64 ((bL i o).f1),.string ((bL i o).f2),.string ((bL i o).f3),.string ((bL i o).f4)]] ?_;(with_reducible refine(dB.calls _ _ _ _ _ _ _ _ bf.out).mono ?_);rintro e gs ⟨rfl,n⟩;refine⟨_,rfl,?_⟩;replace u:=Zm (Kd.R_below (pr u.out) n);replace c:=kb c n;replace d:=kb d n;replace b:=dJ b n;clear n;have d5:=iL c.out;have ai:0≤(o:Int):=eF;have aj:o < (i.length:Int):=eF;obtain⟨a8,ba,ad,ae,af,ag,ah⟩:=lH ak.out o ai aj;obtain rfl:au=a8:=(by injection ba);replace ad:=fG b ad (Zlt _ _ ad);replace ae:=fG b ae (Zlt _ _ ae);replace af:=fG b af (Zlt _ _ af);replace ag:=fG b ag (Zlt _ _ ag);replace ah:=fG b ah (Zlt _ _ ah);replace ai:=eq_true ai;replace aj:=eq_true aj)|(go_at_call 143;refine cD (bU.calls _ _ _ _ b6.out) ?_;rintro e gt ⟨rfl,n⟩;replace u:=Zm (Kd.R_below (pr u.out) n);replace c:=kb c n;replace d:=kb d n;replace b:=dJ b n;clear n));go_roundg k4
                 case measure=>have:=O.out;have:=T.out;have:=al.out;have:=am.out;omega
                 case rel=>exact⟨(wrap64 (o+1)),dS,m,⟨by have:=O.out;have:=T.out;have:=al.out;have:=am.out;omega⟩,⟨pr u.out⟩,⟨pk c.out⟩,⟨pk d.out⟩,⟨bk b.out⟩⟩
               clear b7;have bv:=Zm H;clear H;have fr:=s.out;have fs:=t.out;have ft:=iL c.out;obtain⟨au,ay,br⟩:=lG ak b o;cases ay;go_upto_if 145 with (first|((with_reducible refine gate_callee (f:=145) rfl ?_);refine cQ (some 124) Tryz.func145 #[.agg #[.int .i64 ((bL i o).f0),.int .i64 ((bL i o).f1),.string ((bL i o).f2),.string ((bL i o).f3),.string ((bL i o).f4)]] ?_;(with_reducible refine(dB.calls _ _ _ _ _ _ _ _ bf.out).mono ?_);rintro e gx ⟨rfl,n⟩;refine⟨_,rfl,?_⟩;replace u:=Zm (Kd.R_below (pr u.out) n);replace c:=kb c n;replace d:=kb d n;replace b:=dJ b n;clear n;have d6:=iL c.out;have ai:0≤(o:Int):=eF;have aj:o < (i.length:Int):=eF;obtain⟨a8,ba,ad,ae,af,ag,ah⟩:=lH ak.out o ai aj;obtain rfl:au=a8:=(by injection ba);replace ad:=fG b ad (Zlt _ _ ad);replace ae:=fG b ae (Zlt _ _ ae);replace af:=fG b af (Zlt _ _ af);replace ag:=fG b ag (Zlt _ _ ag);replace ah:=fG b ah (Zlt _ _ ah);replace ai:=eq_true ai;replace aj:=eq_true aj)|(go_at_call 143;refine cD (bU.calls _ _ _ _ b6.out) ?_;rintro e gu ⟨rfl,n⟩;replace u:=Zm (Kd.R_below (pr u.out) n);replace c:=kb c n;replace d:=kb d n;replace b:=dJ b n;clear n;have d7:=iL c.out;have bb:0≤(o:Int):=eF;have bc:o < (i.length:Int):=eF;obtain⟨cw,c7,a0,a1,a2,a3,a4⟩:=lH ak.out o bb bc;obtain rfl:au=cw:=(by injection c7);replace a0:=fG b a0 (Zlt _ _ a0);replace a1:=fG b a1 (Zlt _ _ a1);replace a2:=fG b a2 (Zlt _ _ a2);replace a3:=fG b a3 (Zlt _ _ a3);replace a4:=fG b a4 (Zlt _ _ a4);replace bb:=eq_true bb;replace bc:=eq_true bc));have H:=bv.out;clear bv;replace H:=iG H;rcases H with ⟨az,H⟩|⟨az,H⟩
               · have ao:decide ((i.length:Int)≤((bL i o).f1))=false:=decide_eq_false az;clear az;(first|rw [ao]|(simp only [i64_w,i32_w];rw [ao])|rw [c103b1]|skip);have m:=Zm H;clear H;go_wp2;go_roundg k4
                 case measure=>have:=O.out;have:=T.out;have:=al.out;have:=am.out;omega
                 case rel=>exact⟨(wrap64 (o+1)),dS,m,⟨by have:=O.out;have:=T.out;have:=al.out;have:=am.out;omega⟩,⟨pr u.out⟩,⟨pk c.out⟩,⟨pk d.out⟩,⟨bk b.out⟩⟩
               have ao:decide ((i.length:Int)≤((bL i o).f1))=true:=decide_eq_true az;clear az;(first|rw [ao]|(simp only [i64_w,i32_w];rw [ao])|rw [c103b1]|skip);obtain rfl:=Option.some.inj H;go_wp2;go_ret;exact cI b
           obtain rfl:=Option.some.inj H;go_wp2;go_ret;exact cI b
     replace H:=eM H;rcases H with ⟨b8,cx,cy,H⟩|⟨b8,cx,cy,H⟩
     · obtain rfl:=Option.some.inj H;have fu:=s.out;have fv:=t.out;have fw:=iL c.out;go_wp2;go_ret;exact cI b
     clear b8;replace H:=eM H;rcases H with ⟨b9,cz,cH,H⟩|⟨b9,cz,cH,H⟩
     · obtain rfl:=Option.some.inj H;have fx:=s.out;have fy:=t.out;have fz:=iL c.out;go_wp2;go_ret;exact cI b
     clear b9;replace H:=eM H;rcases H with ⟨bh,cW,c0,H⟩|⟨bh,cW,c0,H⟩
     · have fB:¬ (i=[]):=fun h_=>bh (by rw [h_];rfl)
       obtain rfl:=Option.some.inj H;have fI:=s.out;have fJ:=t.out;have fK:=iL c.out;go_wp2;go_ret;exact cI b
     clear bh;replace H:=eM H;rcases H with ⟨bi,c1,c2,H⟩|⟨bi,c1,c2,H⟩
     · have fN:¬ (x=[]):=fun h_=>bi (by rw [h_];rfl)
       obtain rfl:=Option.some.inj H;have fT:=s.out;have f5:=t.out;have f6:=iL c.out;go_wp2;go_ret;exact cI b
     clear bi;replace H:=eN H;rcases H with ⟨rfl,H⟩|⟨rfl,H⟩
     · replace H:=eN H;rcases H with ⟨rfl,H⟩|⟨rfl,H⟩
       · obtain rfl:=Option.some.inj H;have f7:=s.out;have f8:=t.out;have f9:=iL c.out;go_wp2;go_ret;exact cI b
       obtain rfl:=Option.some.inj H;have f_:=s.out;have ga:=t.out;have gb:=iL c.out;go_wp2;go_ret;exact cI b
     obtain rfl:=Option.some.inj H;have gc:=s.out;have gf:=t.out;have gg:=iL c.out;go_wp2;go_ret;exact cI b
   obtain rfl:=Option.some.inj H;go_wp2;go_ret;exact cI b
end Go.Proofs.YtkbebmifpccofaaGreat.PFnClassCut
