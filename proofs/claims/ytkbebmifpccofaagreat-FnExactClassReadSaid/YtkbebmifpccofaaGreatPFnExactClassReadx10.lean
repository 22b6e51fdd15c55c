/- Functions of the program as plain Lean functions, each with its proof; no condition. -/
import Derived.Test.YtkbebmifpccofaaGreatPFnExactClassReadx0
import Derived.Test.YtkbebmifpccofaaGreatPFnExactClassReadx8
import Derived.Test.YtkbebmifpccofaaGreatPFnExactClassReadx9
namespace Go.Proofs.YtkbebmifpccofaaGreat.PFnExactClassRead
open Go.RowKit Go.Proofs.YtkbebmifpccofaaGreatW.PrintWords Go.Proofs.YtkbebmifpccofaaGreatW.PrintLast Go.Proofs.YtkbebmifpccofaaGreatW.PrintMore
open Go.Proofs.YtkbebmifpccofaaGreatW.PrintWords renaming below_alloc→Zba,pw_below_drewN→Zbn,below_drew1→Zbd,below_set→Zbs,below_size→Zbz,below_step→Zbt,blk_drewN→Zkn,blk_drew→Zkd,blk_alloc→Zka,blk_frozen→Zkf,blk_far→Zkr,blk_put→Zkp,blk_below→Zkb
open Go.World renaming block_lt_of_cell?→Zlt
open Go.Proofs.YtkbebmifpccofaaGreatW.PrintWords.Aside0 renaming mk→Zm
attribute [local go_sem] max2_int min2_int max_two min_two max_three min_three max_four min_four
set_option maxHeartbeats 80000000
set_option maxRecDepth 100000
set_option linter.unusedVariables false
set_option linter.unusedSimpArgs false
mutual
def aJ.j0:Nat→Bool→ByteArray→ByteArray→Bool→Bool→Bool→Int→Int→List (cP)→List (dB)→List ByteArray→ByteArray→Int→Int→Option (Bool)
 | 0,_,_,_,_,_,_,_,_,_,_,_,_,_,_=>none
 | k+1,s,d,o,b,e,i,j,m,a,n,c,p,q,r=>if s=true then (some false) else (if e=true then (if j=0 then (if m=0 then (if (a.length:Int)=0 then (if (n.length:Int)=0 then (if b=true then (some false) else (if i=true then (some false) else (some (d.toList != ([60,105,110,105,116,62]:List UInt8))))) else (some false)) else (some false)) else (some false)) else (some false)) else (if b=true then (aJ.j1 k (a.length:Int) (c.length:Int) d o b e i j m a n c p q r) else (aJ.j1 k (a.length:Int) (wrap64 ((c.length:Int)+1)) d o b e i j m a n c p q r)))
def aJ.j1:Nat→Int→Int→ByteArray→ByteArray→Bool→Bool→Bool→Int→Int→List (cP)→List (dB)→List ByteArray→ByteArray→Int→Int→Option (Bool)
 | 0,_,_,_,_,_,_,_,_,_,_,_,_,_,_,_=>none
 | k+1,a,t,d,e,i,j,m,n,b,o,c,p,q,r,s=>if a < 1 then (aJ.j2 k a true d e i j m n b o c p q r s) else (if a > 60 then (aJ.j2 k a true d e i j m n b o c p q r s) else (if b < t then (aJ.j2 k a true d e i j m n b o c p q r s) else (aJ.j2 k a (decide ((c.length:Int) > 6)) d e i j m n b o c p q r s)))
def aJ.j2:Nat→Int→Bool→ByteArray→ByteArray→Bool→Bool→Bool→Int→Int→List (cP)→List (dB)→List ByteArray→ByteArray→Int→Int→Option (Bool)
 | 0,_,_,_,_,_,_,_,_,_,_,_,_,_,_,_=>none
 | k+1,t,s,a,b,c,d,e,i,j,m,n,o,p,q,r=>if s=true then (some false) else (aJ.l0 k t 0 a b c d e i j m n o p q r)
def aJ.l0:Nat→Int→Int→ByteArray→ByteArray→Bool→Bool→Bool→Int→Int→List (cP)→List (dB)→List ByteArray→ByteArray→Int→Int→Option (Bool)
 | 0,_,_,_,_,_,_,_,_,_,_,_,_,_,_,_=>none
 | k+1,c,b,d,e,i,j,m,n,o,a,p,q,r,s,t=>if b < (a.length:Int) then (if 0≤b then ((dW.f k ((aG a b).f0) ((aG a b).f1) ((aG a b).f2) ((aG a b).f3) ((aG a b).f4)).bind fun u=>(if u=true then ((cO.f k ((aG a b).f0)).bind fun v=>(if v.toList=([116]:List UInt8) then (if ((aG a b).f1) ≥ c then (some false) else (aJ.l0 k c (wrap64 (b+1)) d e i j m n o a p q r s t)) else (aJ.l0 k c (wrap64 (b+1)) d e i j m n o a p q r s t))) else (some false))) else (none)) else (aJ.l1 k c 0 d e i j m n o a p q r s t)
def aJ.l1:Nat→Int→Int→ByteArray→ByteArray→Bool→Bool→Bool→Int→Int→List (cP)→List (dB)→List ByteArray→ByteArray→Int→Int→Option (Bool)
 | 0,_,_,_,_,_,_,_,_,_,_,_,_,_,_,_=>none
 | k+1,j,a,c,m,d,n,e,o,p,q,b,r,i,s,t=>if a < (b.length:Int) then (if 0≤a then ((hJ.f k ((aX b a).f0) ((aX b a).f1) ((aX b a).f2) ((aX b a).f3) j).bind fun u=>(if u=true then (aJ.l1 k j (wrap64 (a+1)) c m d n e o p q b r i s t) else (some false))) else (none)) else (if c.toList=([60,105,110,105,116,62]:List UInt8) then (if d=true then (some false) else (if e=true then (some false) else (some (i.toList == ([86]:List UInt8))))) else (some true))
end
def aJ.f (k:Nat) (d:ByteArray) (e:ByteArray) (i:Bool) (j:Bool) (m:Bool) (b:Int) (c:Int) (n:List (cP)) (o:List (dB)):Option (Bool):=(aU.f k e).bind fun a=>((aD.f k d).bind fun p=>(if p=true then (if a.2.2.2=0 then (if b < 0 then (aJ.j0 k true d e i j m b c n o a.1 a.2.1 a.2.2.1 a.2.2.2) else (if b > 16 then (aJ.j0 k true d e i j m b c n o a.1 a.2.1 a.2.2.1 a.2.2.2) else (if c < 0 then (aJ.j0 k true d e i j m b c n o a.1 a.2.1 a.2.2.1 a.2.2.2) else (aJ.j0 k (decide (c > 16)) d e i j m b c n o a.1 a.2.1 a.2.2.1 a.2.2.2)))) else (aJ.j0 k true d e i j m b c n o a.1 a.2.1 a.2.2.1 a.2.2.2)) else (if d.toList=([60,105,110,105,116,62]:List UInt8) then (if a.2.2.2=0 then (if b < 0 then (aJ.j0 k true d e i j m b c n o a.1 a.2.1 a.2.2.1 a.2.2.2) else (if b > 16 then (aJ.j0 k true d e i j m b c n o a.1 a.2.1 a.2.2.1 a.2.2.2) else (if c < 0 then (aJ.j0 k true d e i j m b c n o a.1 a.2.1 a.2.2.1 a.2.2.2) else (aJ.j0 k (decide (c > 16)) d e i j m b c n o a.1 a.2.1 a.2.2.1 a.2.2.2)))) else (aJ.j0 k true d e i j m b c n o a.1 a.2.1 a.2.2.1 a.2.2.2)) else (aJ.j0 k true d e i j m b c n o a.1 a.2.1 a.2.2.1 a.2.2.2))))
theorem aJ.calls (k:Nat) (p:ByteArray) (y:ByteArray) (z:Bool) (ap:Bool) (A:Bool) (u:Int) (v:Int) (T:Option Addr) (U:Nat) (c:List (cP)) (W:Option Addr) (X:Nat) (q:List (dB)) (r:Bool) (w:World) (be:Kd.C gZ w T c.length c) (bf:c.length≤U) (bh:Kd.C iE w W q.length q) (bi:q.length≤X) (h:aJ.f k p y z ap A u v c q=some r):
 Calls Tryz.prog 90 #[.agg #[.string p,.string y,.bool z,.bool ap,.bool A,.int .i64 u,.int .i64 v,.slice T c.length U,.slice W q.length X]] w fun e w'=>e=.returned (.bool r)∧Below w.heap.size w w':=by
 have gb:=Tryz.underlying50;have d0:=Tryz.underlying167;have d1:=Tryz.underlying159;have d2:=Tryz.underlying162;have af:=Zm be;have d3:=Zm bf;clear be bf;have cb:=Zm bh;have d4:=Zm bi;clear bh bi;have a:=Zm (Below.refl w.heap.size w);have H:=h;clear h;unfold aJ.f at H;replace H:=cU H;obtain⟨⟨s,E,G,I⟩,A2,H⟩:=H;(try dsimp only at H);have a_:=Zm H;clear H;go_enter Tryz.func90,Tryz.ntmps90;go_upto_region 2 with (first|((with_reducible refine gd_ 1 rfl ?_);(try (refine gate_guard (by rfl) ?_;dsimp only));refine fQ 1 50 #[.string p,.string y,.bool z,.bool ap,.bool A,.int .i64 u,.int .i64 v,.slice T c.length U,.slice W q.length X] ?_;intro ak P w4 aq i;have b:=Zm aq;have d5:=bz a P;have d6:=bz a P;replace a:=dJ a i;clear i aq P;have ar:=iP b.out;have ai:=Zkf b.out 8)|((with_reducible refine gk_ 144 rfl ?_);refine gW (some 10) Tryz.func144 #[.string y] ?_;(with_reducible refine(aU.calls _ _ _ _ _ _ _ A2.out).mono ?_);rintro e w6 ⟨gc,rfl,br,i⟩;refine⟨_,rfl,?_⟩;have x:=Zm (Kd.R_lower br (Zbz (bk a.out)));replace b:=kb b i;replace a:=dJ a i;clear i br)|((with_reducible refine gd_ 3 rfl ?_);(try (refine gate_guard (by rfl) ?_;dsimp only));refine fQ 3 167 #[.slice none 0 0,.string ⟨#[]⟩,.int .i64 0,.int .i64 0] ?_;intro al P w7 aq i;have j:=Zm aq;have d7:=bz a P;have d8:=bz a P;have n:=bl b P;have b7:=bg b P;replace x:=Zm (Kd.R_below (pr x.out) i);replace b:=kb b i;replace a:=dJ a i;clear i aq P;obtain⟨K,L,c6⟩:=Kd.R_slice x.out;subst c6;obtain⟨gf,gg⟩:=dK b7;have cc:=lA j.out));(try simp only [Act.put,List.setIfInBounds_toArray,List.set_cons_zero,List.set_cons_succ]);go_cut [44] (fun c7 wc=>∃ (t:Nat) (a1:Bool),c7=.bool a1∧Aside0 (aJ.j0 t a1 p y z ap A u v c q s E G I=some r)∧Aside0 (t≤k)∧Aside0 (Kd.R Kd.string 9 wc w.heap.size (fun _=>True) (.slice K s.length L) s)∧Aside0 (wc.heap[ak]?=some (.cells #[.string p,.string y,.bool z,.bool ap,.bool A,.int .i64 u,.int .i64 v,(.slice T c.length U),(.slice W q.length X)] 50 (0,0)))∧Aside0 (wc.heap[al]?=some (.cells #[(.slice K s.length L),.string E,.int .i64 G,.int .i64 I] 167 (0,0)))∧Aside0 (Below w.heap.size w wc))
 case first=>
  have H:=a_.out;clear a_;replace H:=cU H;obtain⟨gh,D,H⟩:=H;replace H:=fM H;rcases H with ⟨rfl,H⟩|⟨rfl,H⟩
  · replace H:=fB H;rcases H with ⟨bs,cd,ce,H⟩|⟨bs,cd,ce,H⟩
    · have d:=Zm H;clear H;obtain⟨d9,d_⟩:=dK n;have ea:=iP b.out;go_wp2_with (first|((with_reducible refine gk_ 93 rfl ?_);refine gW (some 13) Tryz.func93 #[.string p] ?_;(with_reducible refine(aD.calls _ _ _ _ D.out).mono ?_);rintro e w' ⟨rfl,⟨M,rfl⟩⟩;refine⟨_,rfl,?_⟩));go_meet
      case rel=>exact⟨_,(true),dX,d,⟨kU⟩,⟨jI x⟩,⟨eY⟩,⟨eY⟩,⟨hU⟩⟩
    clear bs;replace H:=fB H;rcases H with ⟨bu,cf,cg,H⟩|⟨bu,cf,cg,H⟩
    · have d:=Zm H;clear H;obtain⟨eb,ec⟩:=dK n;have ed:=iP b.out;go_wp2_with (first|((with_reducible refine gk_ 93 rfl ?_);refine gW (some 13) Tryz.func93 #[.string p] ?_;(with_reducible refine(aD.calls _ _ _ _ D.out).mono ?_);rintro e w' ⟨rfl,⟨M,rfl⟩⟩;refine⟨_,rfl,?_⟩;have ee:=lA j.out));go_meet
      case rel=>exact⟨_,(true),dX,d,⟨kU⟩,⟨jI x⟩,⟨eY⟩,⟨eY⟩,⟨hU⟩⟩
    clear bu;replace H:=iY H;rcases H with ⟨ch,H⟩|⟨ch,H⟩
    · replace H:=jF H;rcases H with ⟨aw,H⟩|⟨aw,H⟩
      · have ci:decide (16 < u)=false:=decide_eq_false aw;clear aw;replace H:=iY H;rcases H with ⟨cj,H⟩|⟨cj,H⟩
        · have d:=Zm H;clear H;obtain⟨ef,eg⟩:=dK n;have eh:=iP b.out;go_wp2_with (first|((with_reducible refine gk_ 93 rfl ?_);refine gW (some 13) Tryz.func93 #[.string p] ?_;(with_reducible refine(aD.calls _ _ _ _ D.out).mono ?_);rintro e w' ⟨rfl,⟨M,rfl⟩⟩;refine⟨_,rfl,?_⟩;have ei:=lA j.out));go_meet
          case rel=>exact⟨_,(decide (v > 16)),dX,d,⟨kU⟩,⟨jI x⟩,⟨eY⟩,⟨eY⟩,⟨hU⟩⟩
        have d:=Zm H;clear H;obtain⟨ej,ek⟩:=dK n;have el:=iP b.out;go_wp2_with (first|((with_reducible refine gk_ 93 rfl ?_);refine gW (some 13) Tryz.func93 #[.string p] ?_;(with_reducible refine(aD.calls _ _ _ _ D.out).mono ?_);rintro e w' ⟨rfl,⟨M,rfl⟩⟩;refine⟨_,rfl,?_⟩;have em:=lA j.out));go_meet
        case rel=>exact⟨_,(true),dX,d,⟨kU⟩,⟨jI x⟩,⟨eY⟩,⟨eY⟩,⟨hU⟩⟩
      have ci:decide (16 < u)=true:=decide_eq_true aw;clear aw;have d:=Zm H;clear H;obtain⟨en,eo⟩:=dK n;have ep:=iP b.out;go_wp2_with (first|((with_reducible refine gk_ 93 rfl ?_);refine gW (some 13) Tryz.func93 #[.string p] ?_;(with_reducible refine(aD.calls _ _ _ _ D.out).mono ?_);rintro e w' ⟨rfl,⟨M,rfl⟩⟩;refine⟨_,rfl,?_⟩;have eq:=lA j.out));go_meet
      case rel=>exact⟨_,(true),dX,d,⟨kU⟩,⟨jI x⟩,⟨eY⟩,⟨eY⟩,⟨hU⟩⟩
    have d:=Zm H;clear H;obtain⟨er,es⟩:=dK n;have et:=iP b.out;go_wp2_with (first|((with_reducible refine gk_ 93 rfl ?_);refine gW (some 13) Tryz.func93 #[.string p] ?_;(with_reducible refine(aD.calls _ _ _ _ D.out).mono ?_);rintro e w' ⟨rfl,⟨M,rfl⟩⟩;refine⟨_,rfl,?_⟩;have eu:=lA j.out));go_meet
    case rel=>exact⟨_,(true),dX,d,⟨kU⟩,⟨jI x⟩,⟨eY⟩,⟨eY⟩,⟨hU⟩⟩
  replace H:=fB H;rcases H with ⟨bv,am,ck,H⟩|⟨bv,am,ck,H⟩
  · (first|rw [am]|(simp only [i64_w,i32_w];rw [am])|skip);have d:=Zm H;clear H;obtain⟨ev,ew⟩:=dK n;have ex:=iP b.out;go_wp2_with (first|((with_reducible refine gk_ 93 rfl ?_);refine gW (some 13) Tryz.func93 #[.string p] ?_;(with_reducible refine(aD.calls _ _ _ _ D.out).mono ?_);rintro e w' ⟨rfl,⟨M,rfl⟩⟩;refine⟨_,rfl,?_⟩;have ey:=lA j.out));go_meet
    case rel=>exact⟨_,(true),dX,d,⟨kU⟩,⟨jI x⟩,⟨eY⟩,⟨eY⟩,⟨hU⟩⟩
  clear bv;(first|rw [am]|(simp only [i64_w,i32_w];rw [am])|skip);replace H:=iY H;rcases H with ⟨cl,H⟩|⟨cl,H⟩
  · replace H:=jF H;rcases H with ⟨ax,H⟩|⟨ax,H⟩
    · have cm:decide (16 < u)=false:=decide_eq_false ax;clear ax;replace H:=iY H;rcases H with ⟨cn,H⟩|⟨cn,H⟩
      · have d:=Zm H;clear H;obtain⟨ez,eA⟩:=dK n;have eI:=iP b.out;go_wp2_with (first|((with_reducible refine gk_ 93 rfl ?_);refine gW (some 13) Tryz.func93 #[.string p] ?_;(with_reducible refine(aD.calls _ _ _ _ D.out).mono ?_);rintro e w' ⟨rfl,⟨M,rfl⟩⟩;refine⟨_,rfl,?_⟩;have eO:=lA j.out));go_meet
        case rel=>exact⟨_,(decide (v > 16)),dX,d,⟨kU⟩,⟨jI x⟩,⟨eY⟩,⟨eY⟩,⟨hU⟩⟩
      have d:=Zm H;clear H;obtain⟨eP,eT⟩:=dK n;have e0:=iP b.out;go_wp2_with (first|((with_reducible refine gk_ 93 rfl ?_);refine gW (some 13) Tryz.func93 #[.string p] ?_;(with_reducible refine(aD.calls _ _ _ _ D.out).mono ?_);rintro e w' ⟨rfl,⟨M,rfl⟩⟩;refine⟨_,rfl,?_⟩;have e1:=lA j.out));go_meet
      case rel=>exact⟨_,(true),dX,d,⟨kU⟩,⟨jI x⟩,⟨eY⟩,⟨eY⟩,⟨hU⟩⟩
    have cm:decide (16 < u)=true:=decide_eq_true ax;clear ax;have d:=Zm H;clear H;obtain⟨e2,e3⟩:=dK n;have e4:=iP b.out;go_wp2_with (first|((with_reducible refine gk_ 93 rfl ?_);refine gW (some 13) Tryz.func93 #[.string p] ?_;(with_reducible refine(aD.calls _ _ _ _ D.out).mono ?_);rintro e w' ⟨rfl,⟨M,rfl⟩⟩;refine⟨_,rfl,?_⟩;have e5:=lA j.out));go_meet
    case rel=>exact⟨_,(true),dX,d,⟨kU⟩,⟨jI x⟩,⟨eY⟩,⟨eY⟩,⟨hU⟩⟩
  have d:=Zm H;clear H;obtain⟨e6,e7⟩:=dK n;have e8:=iP b.out;go_wp2_with (first|((with_reducible refine gk_ 93 rfl ?_);refine gW (some 13) Tryz.func93 #[.string p] ?_;(with_reducible refine(aD.calls _ _ _ _ D.out).mono ?_);rintro e w' ⟨rfl,⟨M,rfl⟩⟩;refine⟨_,rfl,?_⟩;have e9:=lA j.out));go_meet
  case rel=>exact⟨_,(true),dX,d,⟨kU⟩,⟨jI x⟩,⟨eY⟩,⟨eY⟩,⟨hU⟩⟩
 case rest=>
  clear a_;(try clear cc);(try clear ar);(try clear ai);obtain⟨t,a1,rfl,HA,B,o,b,j,a⟩:=hcut
  cases t with
  | zero=>exact absurd HA.out (by simp [aJ.j0])
  | succ c8=>
   have H:=HA.out;clear HA;simp only [aJ.j0] at H;replace H:=fM H;rcases H with ⟨rfl,H⟩|⟨rfl,H⟩
   · replace H:=fM H;rcases H with ⟨rfl,H⟩|⟨rfl,H⟩
     · have a5:=Zm H;clear H;obtain⟨e_,fa⟩:=dK n;have aB:=iP b.out;have aF:=lA j.out;go_upto_if 91 with (fail);go_cut [5] (fun v5 wc=>∃ (t:Nat) (a2:Int),v5=.int .i64 a2∧Aside0 (aJ.j1 t (c.length:Int) a2 p y z false A u v c q s E G I=some r)∧Aside0 (t≤c8)∧Aside0 (Kd.R Kd.string 9 wc w.heap.size (fun _=>True) (.slice K s.length L) s)∧Aside0 (wc.heap[ak]?=some (.cells #[.string p,.string y,.bool z,.bool false,.bool A,.int .i64 u,.int .i64 v,(.slice T c.length U),(.slice W q.length X)] 50 (0,0)))∧Aside0 (wc.heap[al]?=some (.cells #[(.slice K s.length L),.string E,.int .i64 G,.int .i64 I] 167 (0,0)))∧Aside0 (Below w.heap.size w wc))
       case first=>
        have H:=a5.out;clear a5;replace H:=fM H;rcases H with ⟨rfl,H⟩|⟨rfl,H⟩
        · have d:=Zm H;clear H;go_wp2;go_meet
          case rel=>exact⟨_,(wrap64 ((s.length:Int)+1)),dX,d,⟨by have:=B.out;first|omega|exact Nat.le_refl _⟩,⟨pr o.out⟩,⟨pk b.out⟩,⟨pk j.out⟩,⟨bk a.out⟩⟩
        have d:=Zm H;clear H;go_wp2;go_meet
        case rel=>exact⟨_,((s.length:Int)),dX,d,⟨by have:=B.out;first|omega|exact Nat.le_refl _⟩,⟨pr o.out⟩,⟨pk b.out⟩,⟨pk j.out⟩,⟨bk a.out⟩⟩
       case rest=>
        clear a5;(try clear bw);(try clear bx);(try clear ar);(try clear aB);(try clear aF);(try clear ai);obtain⟨t,a2,rfl,HA,J,o,b,j,a⟩:=hcut
        cases t with
        | zero=>exact absurd HA.out (by simp [aJ.j1])
        | succ c1=>
         have H:=HA.out;clear HA;simp only [aJ.j1] at H;have a6:=Zm H;clear H;go_upto_region 10 with (fail);go_cut [111] (fun c2 wc=>∃ (t:Nat) (aL:Bool),c2=.bool aL∧Aside0 (aJ.j2 t (c.length:Int) aL p y z false A u v c q s E G I=some r)∧Aside0 (t≤c1)∧Aside0 (Kd.R Kd.string 9 wc w.heap.size (fun _=>True) (.slice K s.length L) s)∧Aside0 (wc.heap[ak]?=some (.cells #[.string p,.string y,.bool z,.bool false,.bool A,.int .i64 u,.int .i64 v,(.slice T c.length U),(.slice W q.length X)] 50 (0,0)))∧Aside0 (wc.heap[al]?=some (.cells #[(.slice K s.length L),.string E,.int .i64 G,.int .i64 I] 167 (0,0)))∧Aside0 (Below w.heap.size w wc))
         case first=>
          have H:=a6.out;clear a6;replace H:=jF H;rcases H with ⟨ay,H⟩|⟨ay,H⟩
          · have an:=decide_eq_false ay;have a3:decide (c.length < 1)=false:=decide_eq_false (by omega);clear ay;(first|rw [an]|(simp only [i64_w,i32_w];rw [an])|rw [a3]|skip);replace H:=jF H;rcases H with ⟨az,H⟩|⟨az,H⟩
            · have co:decide (60 < (c.length:Int))=false:=decide_eq_false az;have cp:decide (60 < c.length)=false:=decide_eq_false (by omega);clear az;replace H:=iY H;rcases H with ⟨cq,H⟩|⟨cq,H⟩
              · have d:=Zm H;clear H;obtain⟨fb,fc⟩:=dK n;have fd:=iP b.out;go_wp2;go_meet
                case rel=>exact⟨_,(decide ((q.length:Int) > 6)),dX,d,⟨by have:=B.out;have:=J.out;first|omega|exact Nat.le_refl _⟩,⟨pr o.out⟩,⟨pk b.out⟩,⟨pk j.out⟩,⟨bk a.out⟩⟩
              have d:=Zm H;clear H;obtain⟨fe,ff⟩:=dK n;have fg:=iP b.out;go_wp2;go_meet
              case rel=>exact⟨_,(true),dX,d,⟨by have:=B.out;have:=J.out;first|omega|exact Nat.le_refl _⟩,⟨pr o.out⟩,⟨pk b.out⟩,⟨pk j.out⟩,⟨bk a.out⟩⟩
            have co:decide (60 < (c.length:Int))=true:=decide_eq_true az;have cp:decide (60 < c.length)=true:=decide_eq_true (by omega);clear az;have d:=Zm H;clear H;go_wp2;go_meet
            case rel=>exact⟨_,(true),dX,d,⟨by have:=B.out;have:=J.out;first|omega|exact Nat.le_refl _⟩,⟨pr o.out⟩,⟨pk b.out⟩,⟨pk j.out⟩,⟨bk a.out⟩⟩
          have an:=decide_eq_true ay;have a3:decide (c.length < 1)=true:=decide_eq_true (by omega);clear ay;(first|rw [an]|(simp only [i64_w,i32_w];rw [an])|rw [a3]|skip);have d:=Zm H;clear H;go_wp2;go_meet
          case rel=>exact⟨_,(true),dX,d,⟨by have:=B.out;have:=J.out;first|omega|exact Nat.le_refl _⟩,⟨pr o.out⟩,⟨pk b.out⟩,⟨pk j.out⟩,⟨bk a.out⟩⟩
         case rest=>
          clear a6;(try clear bw);(try clear bx);(try clear ar);(try clear aB);(try clear aF);(try clear ai);obtain⟨t,aL,rfl,HA,ag,o,b,j,a⟩:=hcut
          cases t with
          | zero=>exact absurd HA.out (by simp [aJ.j2])
          | succ bo=>
           have H:=HA.out;clear HA;simp only [aJ.j2] at H;replace H:=fM H;rcases H with ⟨rfl,H⟩|⟨rfl,H⟩
           · have d:=Zm H;clear H;go_wp2;go_loopg [6] bo (fun t v6 w'=>∃ (m:Int),v6=.int .i64 m∧Aside0 (aJ.l0 t (c.length:Int) m p y z false A u v c q s E G I=some r)∧Aside0 (t≤bo)∧Aside0 (Kd.R Kd.string 9 w' w.heap.size (fun _=>True) (.slice K s.length L) s)∧Aside0 (w'.heap[ak]?=some (.cells #[.string p,.string y,.bool z,.bool false,.bool A,.int .i64 u,.int .i64 v,(.slice T c.length U),(.slice W q.length X)] 50 (0,0)))∧Aside0 (w'.heap[al]?=some (.cells #[(.slice K s.length L),.string E,.int .i64 G,.int .i64 I] 167 (0,0)))∧Aside0 (Below w.heap.size w w'))
             case atStart=>exact⟨(0),dX,d,⟨Nat.le_refl _⟩,⟨pr o.out⟩,⟨pk b.out⟩,⟨pk j.out⟩,⟨bk a.out⟩⟩
             case round=>
              clear d;(try clear bw);(try clear bx);(try clear gr);(try clear ar);(try clear aB);(try clear aF);(try clear ai);obtain⟨m,rfl,HA,ah,o,b,j,a⟩:=hrel
              cases gk with
              | zero=>exact absurd HA.out (by simp [aJ.l0])
              | succ k4=>
               have H:=HA.out;clear HA;simp only [aJ.l0] at H;replace H:=iY H;rcases H with ⟨bj,H⟩|⟨bj,H⟩
               · have d:=Zm H;clear H;obtain⟨c9,c_⟩:=dK n;have b8:=iP b.out;go_wp2;go_loopg [7] k4 (fun t v7 w'=>∃ (O:Int),v7=.int .i64 O∧Aside0 (aJ.l1 t (c.length:Int) O p y z false A u v c q s E G I=some r)∧Aside0 (t≤k4)∧Aside0 (Kd.R Kd.string 9 w' w.heap.size (fun _=>True) (.slice K s.length L) s)∧Aside0 (w'.heap[ak]?=some (.cells #[.string p,.string y,.bool z,.bool false,.bool A,.int .i64 u,.int .i64 v,(.slice T c.length U),(.slice W q.length X)] 50 (0,0)))∧Aside0 (w'.heap[al]?=some (.cells #[(.slice K s.length L),.string E,.int .i64 G,.int .i64 I] 167 (0,0)))∧Aside0 (Below w.heap.size w w'))
                 case atStart=>exact⟨(0),dX,d,⟨Nat.le_refl _⟩,⟨pr o.out⟩,⟨pk b.out⟩,⟨pk j.out⟩,⟨bk a.out⟩⟩
                 case round=>
                  clear d;(try clear gs);(try clear bj);(try clear b8);(try clear ar);(try clear aB);(try clear aF);(try clear ai);obtain⟨O,rfl,HA,b0,o,b,j,a⟩:=hrel
                  cases gk with
                  | zero=>exact absurd HA.out (by simp [aJ.l1])
                  | succ k5=>
                   have H:=HA.out;clear HA;simp only [aJ.l1] at H;replace H:=iY H;rcases H with ⟨b9,H⟩|⟨b9,H⟩
                   · replace H:=fB H;rcases H with ⟨bp,b_,ca,H⟩|⟨bp,b_,ca,H⟩
                     · obtain rfl:=Option.some.inj H;obtain⟨da,db⟩:=dK n;have dc:=iP b.out;go_wp2;go_ret;exact bU a
                     clear bp;replace H:=fM H;rcases H with ⟨rfl,H⟩|⟨rfl,H⟩
                     · replace H:=fM H;rcases H with ⟨rfl,H⟩|⟨rfl,H⟩
                       · obtain rfl:=Option.some.inj H;obtain⟨dd,de⟩:=dK n;have df:=iP b.out;have dg:=lA j.out;go_wp2;go_ret;exact bU a
                       obtain rfl:=Option.some.inj H;obtain⟨dh,di⟩:=dK n;have dj:=iP b.out;go_wp2;go_ret;exact bU a
                     obtain rfl:=Option.some.inj H;obtain⟨dk,dl⟩:=dK n;have dm:=iP b.out;go_wp2;go_ret;exact bU a
                   replace H:=eZ H;obtain⟨c115b0,H⟩:=H;replace H:=cU H;obtain⟨gi,c3,H⟩:=H;have bm:=Zm H;clear H;obtain⟨dn,dp⟩:=dK n;have dq:=iP b.out;obtain⟨fh,c4,fi⟩:=mG cb a O;cases c4;go_upto_if 160 with (first|((with_reducible refine gk_ 146 rfl ?_);refine gW (some 159) Tryz.func146 #[.agg #[.int .i64 ((aX q O).f0),.int .i64 ((aX q O).f1),.int .i64 ((aX q O).f2),.string ((aX q O).f3)],.int .i64 (c.length:Int)] ?_;(with_reducible refine(hJ.calls _ _ _ _ _ _ _ _ c3.out).mono ?_);rintro e gj ⟨rfl,i⟩;refine⟨_,rfl,?_⟩;replace o:=Zm (Kd.R_below (pr o.out) i);replace b:=kb b i;replace j:=kb j i;replace a:=dJ a i;clear i));have H:=bm.out;clear bm;replace H:=fM H;rcases H with ⟨rfl,H⟩|⟨rfl,H⟩
                   · obtain rfl:=Option.some.inj H;go_wp2;go_ret;exact bU a
                   have d:=Zm H;clear H;go_wp2;go_roundg k5
                   case measure=>have:=B.out;have:=J.out;have:=ag.out;have:=ah.out;have:=b0.out;omega
                   case rel=>exact⟨(wrap64 (O+1)),dX,d,⟨by have:=B.out;have:=J.out;have:=ag.out;have:=ah.out;have:=b0.out;omega⟩,⟨pr o.out⟩,⟨pk b.out⟩,⟨pk j.out⟩,⟨bk a.out⟩⟩
               replace H:=eZ H;obtain⟨c91b0,H⟩:=H;replace H:=cU H;obtain⟨gl,ba,H⟩:=H;replace H:=fM H;rcases H with ⟨rfl,H⟩|⟨rfl,H⟩
               · obtain rfl:=Option.some.inj H;obtain⟨dr,ds⟩:=dK n;have dt:=iP b.out;obtain⟨ao,au,bn⟩:=kZ af a m;cases au;(try clear o);(try clear b);(try clear j);go_wp2_with (first|((with_reducible refine gk_ 145 rfl ?_);refine gW (some 124) Tryz.func145 #[.agg #[.int .i64 ((aG c m).f0),.int .i64 ((aG c m).f1),.string ((aG c m).f2),.string ((aG c m).f3),.string ((aG c m).f4)]] ?_;(with_reducible refine(dW.calls _ _ _ _ _ _ _ _ ba.out).mono ?_);rintro e gm ⟨rfl,i⟩;refine⟨_,rfl,?_⟩;have b1:=dJ a i;clear a;have a:=b1;clear b1;clear i));go_ret;exact bU a
               replace H:=cU H;obtain⟨gn,b2,H⟩:=H;replace H:=fB H;rcases H with ⟨b4,cr,cs,H⟩|⟨b4,cr,cs,H⟩
               · have d:=Zm H;clear H;obtain⟨du,dv⟩:=dK n;have dw:=iP b.out;obtain⟨ao,au,bn⟩:=kZ af a m;cases au;go_wp2_with (first|((with_reducible refine gk_ 145 rfl ?_);refine gW (some 124) Tryz.func145 #[.agg #[.int .i64 ((aG c m).f0),.int .i64 ((aG c m).f1),.string ((aG c m).f2),.string ((aG c m).f3),.string ((aG c m).f4)]] ?_;(with_reducible refine(dW.calls _ _ _ _ _ _ _ _ ba.out).mono ?_);rintro e go ⟨rfl,i⟩;refine⟨_,rfl,?_⟩;replace o:=Zm (Kd.R_below (pr o.out) i);replace b:=kb b i;replace j:=kb j i;replace a:=dJ a i;clear i;have dx:=iP b.out;have ad:0≤(m:Int):=dT;have ae:m < (c.length:Int):=dT;obtain⟨a4,a7,Y,Z,aa,ab,ac⟩:=jX af.out m ad ae;obtain rfl:ao=a4:=(by injection a7);replace Y:=dE a Y (Zlt _ _ Y);replace Z:=dE a Z (Zlt _ _ Z);replace aa:=dE a aa (Zlt _ _ aa);replace ab:=dE a ab (Zlt _ _ ab);replace ac:=dE a ac (Zlt _ _ ac);replace ad:=eq_true ad;replace ae:=eq_true ae)|(go_at_call 143;refine eV (cO.calls _ _ _ _ b2.out) ?_;rintro e gp ⟨rfl,i⟩;replace o:=Zm (Kd.R_below (pr o.out) i);replace b:=kb b i;replace j:=kb j i;replace a:=dJ a i;clear i));go_roundg k4
                 case measure=>have:=B.out;have:=J.out;have:=ag.out;have:=ah.out;omega
                 case rel=>exact⟨(wrap64 (m+1)),dX,d,⟨by have:=B.out;have:=J.out;have:=ag.out;have:=ah.out;omega⟩,⟨pr o.out⟩,⟨pk b.out⟩,⟨pk j.out⟩,⟨bk a.out⟩⟩
               clear b4;have bq:=Zm H;clear H;obtain⟨fj,fk⟩:=dK n;have fl:=iP b.out;obtain⟨ao,au,bn⟩:=kZ af a m;cases au;go_upto_if 145 with (first|((with_reducible refine gk_ 145 rfl ?_);refine gW (some 124) Tryz.func145 #[.agg #[.int .i64 ((aG c m).f0),.int .i64 ((aG c m).f1),.string ((aG c m).f2),.string ((aG c m).f3),.string ((aG c m).f4)]] ?_;(with_reducible refine(dW.calls _ _ _ _ _ _ _ _ ba.out).mono ?_);rintro e gt ⟨rfl,i⟩;refine⟨_,rfl,?_⟩;replace o:=Zm (Kd.R_below (pr o.out) i);replace b:=kb b i;replace j:=kb j i;replace a:=dJ a i;clear i;have dy:=iP b.out;have ad:0≤(m:Int):=dT;have ae:m < (c.length:Int):=dT;obtain⟨a4,a7,Y,Z,aa,ab,ac⟩:=jX af.out m ad ae;obtain rfl:ao=a4:=(by injection a7);replace Y:=dE a Y (Zlt _ _ Y);replace Z:=dE a Z (Zlt _ _ Z);replace aa:=dE a aa (Zlt _ _ aa);replace ab:=dE a ab (Zlt _ _ ab);replace ac:=dE a ac (Zlt _ _ ac);replace ad:=eq_true ad;replace ae:=eq_true ae)|(go_at_call 143;refine eV (cO.calls _ _ _ _ b2.out) ?_;rintro e gq ⟨rfl,i⟩;replace o:=Zm (Kd.R_below (pr o.out) i);replace b:=kb b i;replace j:=kb j i;replace a:=dJ a i;clear i;have dz:=iP b.out;have a8:0≤(m:Int):=dT;have a9:m < (c.length:Int):=dT;obtain⟨ct,c5,aO,aP,aR,aS,a0⟩:=jX af.out m a8 a9;obtain rfl:ao=ct:=(by injection c5);replace aO:=dE a aO (Zlt _ _ aO);replace aP:=dE a aP (Zlt _ _ aP);replace aR:=dE a aR (Zlt _ _ aR);replace aS:=dE a aS (Zlt _ _ aS);replace a0:=dE a a0 (Zlt _ _ a0);replace a8:=eq_true a8;replace a9:=eq_true a9));have H:=bq.out;clear bq;replace H:=jF H;rcases H with ⟨av,H⟩|⟨av,H⟩
               · have aj:decide ((c.length:Int)≤((aG c m).f1))=false:=decide_eq_false av;clear av;(first|rw [aj]|(simp only [i64_w,i32_w];rw [aj])|rw [c103b1]|skip);have d:=Zm H;clear H;go_wp2;go_roundg k4
                 case measure=>have:=B.out;have:=J.out;have:=ag.out;have:=ah.out;omega
                 case rel=>exact⟨(wrap64 (m+1)),dX,d,⟨by have:=B.out;have:=J.out;have:=ag.out;have:=ah.out;omega⟩,⟨pr o.out⟩,⟨pk b.out⟩,⟨pk j.out⟩,⟨bk a.out⟩⟩
               have aj:decide ((c.length:Int)≤((aG c m).f1))=true:=decide_eq_true av;clear av;(first|rw [aj]|(simp only [i64_w,i32_w];rw [aj])|rw [c103b1]|skip);obtain rfl:=Option.some.inj H;go_wp2;go_ret;exact bU a
           obtain rfl:=Option.some.inj H;go_wp2;go_ret;exact bU a
     replace H:=fB H;rcases H with ⟨b5,cu,cv,H⟩|⟨b5,cu,cv,H⟩
     · obtain rfl:=Option.some.inj H;obtain⟨fm,fn⟩:=dK n;have fo:=iP b.out;go_wp2;go_ret;exact bU a
     clear b5;replace H:=fB H;rcases H with ⟨b6,cw,cx,H⟩|⟨b6,cw,cx,H⟩
     · obtain rfl:=Option.some.inj H;obtain⟨fp,fq⟩:=dK n;have fr:=iP b.out;go_wp2;go_ret;exact bU a
     clear b6;replace H:=fB H;rcases H with ⟨bb,cy,cz,H⟩|⟨bb,cy,cz,H⟩
     · have fs:¬ (c=[]):=fun h_=>bb (by rw [h_];rfl)
       obtain rfl:=Option.some.inj H;obtain⟨ft,fu⟩:=dK n;have fv:=iP b.out;go_wp2;go_ret;exact bU a
     clear bb;replace H:=fB H;rcases H with ⟨bc,cW,c0,H⟩|⟨bc,cW,c0,H⟩
     · have fw:¬ (q=[]):=fun h_=>bc (by rw [h_];rfl)
       obtain rfl:=Option.some.inj H;obtain⟨fx,fy⟩:=dK n;have fz:=iP b.out;go_wp2;go_ret;exact bU a
     clear bc;replace H:=fM H;rcases H with ⟨rfl,H⟩|⟨rfl,H⟩
     · replace H:=fM H;rcases H with ⟨rfl,H⟩|⟨rfl,H⟩
       · obtain rfl:=Option.some.inj H;obtain⟨fI,fT⟩:=dK n;have f5:=iP b.out;go_wp2;go_ret;exact bU a
       obtain rfl:=Option.some.inj H;obtain⟨f6,f7⟩:=dK n;have f8:=iP b.out;go_wp2;go_ret;exact bU a
     obtain rfl:=Option.some.inj H;obtain⟨f9,f_⟩:=dK n;have ga:=iP b.out;go_wp2;go_ret;exact bU a
   obtain rfl:=Option.some.inj H;go_wp2;go_ret;exact bU a
end Go.Proofs.YtkbebmifpccofaaGreat.PFnExactClassRead
