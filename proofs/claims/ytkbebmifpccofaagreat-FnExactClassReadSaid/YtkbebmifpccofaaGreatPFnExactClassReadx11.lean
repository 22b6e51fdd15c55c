/- Functions of the program as plain Lean functions, each with its proof; no condition. -/
import Derived.Test.YtkbebmifpccofaaGreatPFnExactClassReadx0
import Derived.Test.YtkbebmifpccofaaGreatPFnExactClassReadx8
import Derived.Test.YtkbebmifpccofaaGreatPFnExactClassReadx10
import Derived.Test.YtkbebmifpccofaaGreatPFnExactClassReadx6
namespace Go.Proofs.YtkbebmifpccofaaGreat.PFnExactClassRead
open Go.RowKit Go.Proofs.YtkbebmifpccofaaGreatW.PrintWords Go.Proofs.YtkbebmifpccofaaGreatW.PrintLast Go.Proofs.YtkbebmifpccofaaGreatW.PrintMore
open Go.Proofs.YtkbebmifpccofaaGreatW.PrintWords renaming below_alloc→Zba,pw_below_drewN→Zbn,below_drew1→Zbd,below_set→Zbs,below_size→Zbz,below_step→Zbt,blk_drewN→Zkn,blk_drew→Zkd,blk_alloc→Zka,blk_frozen→Zkf,blk_far→Zkr,blk_put→Zkp,blk_below→Zkb,blk_cell→Zkc
open Go.World renaming block_lt_of_cell?→Zlt
open Go.Proofs.YtkbebmifpccofaaGreatW.PrintWords.Aside0 renaming mk→Zm
attribute [local go_sem] max2_int min2_int max_two min_two max_three min_three max_four min_four
set_option maxHeartbeats 80000000
set_option maxRecDepth 100000
set_option linter.unusedVariables false
set_option linter.unusedSimpArgs false
mutual
def aC.j0:Nat→Bool→ByteArray→ByteArray→Bool→Bool→List (eM)→List (dS)→Option (Bool)
 | 0,_,_,_,_,_,_,_=>none
 | k+1,j,a,b,c,d,e,i=>if j=true then (some false) else (aC.l0 k 0 a b c d e i)
def aC.l0:Nat→Int→ByteArray→ByteArray→Bool→Bool→List (eM)→List (dS)→Option (Bool)
 | 0,_,_,_,_,_,_,_=>none
 | k+1,b,c,d,e,i,a,j=>if b < (a.length:Int) then (if 0≤b then ((aD.f k ((bP a b).f0)).bind fun m=>(if m=true then ((dG.f k ((bP a b).f1)).bind fun n=>(aC.j2 k b (!n) c d e i a j)) else (aC.j2 k b true c d e i a j))) else (none)) else (aC.l2 k 0 c d e i a j)
def aC.j2:Nat→Int→Bool→ByteArray→ByteArray→Bool→Bool→List (eM)→List (dS)→Option (Bool)
 | 0,_,_,_,_,_,_,_,_=>none
 | k+1,m,j,a,b,c,d,e,i=>if j=true then (some false) else (aC.l1 k m 0 a b c d e i)
def aC.l1:Nat→Int→Int→ByteArray→ByteArray→Bool→Bool→List (eM)→List (dS)→Option (Bool)
 | 0,_,_,_,_,_,_,_,_=>none
 | k+1,b,c,d,e,i,j,a,m=>if c < b then (if 0≤c then (if c < (a.length:Int) then (if 0≤b then (if b < (a.length:Int) then (if ((bP a c).f0).toList=((bP a b).f0).toList then (some false) else (aC.l1 k b (wrap64 (c+1)) d e i j a m)) else (none)) else (none)) else (none)) else (none)) else (aC.l0 k (wrap64 (b+1)) d e i j a m)
def aC.l2:Nat→Int→ByteArray→ByteArray→Bool→Bool→List (eM)→List (dS)→Option (Bool)
 | 0,_,_,_,_,_,_,_=>none
 | k+1,a,d,e,i,c,j,b=>if a < (b.length:Int) then (if 0≤a then ((aJ.f k ((aA b a).f0) ((aA b a).f1) ((aA b a).f2) ((aA b a).f3) ((aA b a).f4) ((aA b a).f5) ((aA b a).f6) ((aA b a).f7) ((aA b a).f8)).bind fun m=>(if m=true then (if (aA b a).f3=true then (aC.j5 k a (!c) d e i c j b ((aA b a).f0) ((aA b a).f1) ((aA b a).f2) ((aA b a).f3) ((aA b a).f4) ((aA b a).f5) ((aA b a).f6) ((aA b a).f7) ((aA b a).f8)) else (aC.j5 k a false d e i c j b ((aA b a).f0) ((aA b a).f1) ((aA b a).f2) ((aA b a).f3) ((aA b a).f4) ((aA b a).f5) ((aA b a).f6) ((aA b a).f7) ((aA b a).f8))) else (aC.j5 k a true d e i c j b ((aA b a).f0) ((aA b a).f1) ((aA b a).f2) ((aA b a).f3) ((aA b a).f4) ((aA b a).f5) ((aA b a).f6) ((aA b a).f7) ((aA b a).f8)))) else (none)) else (some true)
def aC.j5:Nat→Int→Bool→ByteArray→ByteArray→Bool→Bool→List (eM)→List (dS)→ByteArray→ByteArray→Bool→Bool→Bool→Int→Int→List (cP)→List (dB)→Option (Bool)
 | 0,_,_,_,_,_,_,_,_,_,_,_,_,_,_,_,_,_=>none
 | k+1,v,u,a,b,c,d,e,i,j,m,n,o,p,q,r,s,t=>if u=true then (some false) else (aC.l3 k v 0 a b c d e i j m n o p q r s t)
def aC.l3:Nat→Int→Int→ByteArray→ByteArray→Bool→Bool→List (eM)→List (dS)→ByteArray→ByteArray→Bool→Bool→Bool→Int→Int→List (cP)→List (dB)→Option (Bool)
 | 0,_,_,_,_,_,_,_,_,_,_,_,_,_,_,_,_,_=>none
 | k+1,c,a,d,e,i,j,m,b,n,o,p,q,r,s,t,u,v=>if a < c then (if 0≤a then (if a < (b.length:Int) then (if ((aA b a).f0).toList=n.toList then (if ((aA b a).f1).toList=o.toList then (some false) else (aC.l3 k c (wrap64 (a+1)) d e i j m b n o p q r s t u v)) else (aC.l3 k c (wrap64 (a+1)) d e i j m b n o p q r s t u v)) else (none)) else (none)) else (aC.l2 k (wrap64 (c+1)) d e i j m b)
end
def aC.f (k:Nat) (a:ByteArray) (b:ByteArray) (e:Bool) (i:Bool) (c:List (eM)) (d:List (dS)):Option (Bool):=(aD.f k a).bind fun j=>(if j=true then ((aD.f k b).bind fun m=>(if m=true then (if a.toList=b.toList then (aC.j0 k true a b e i c d) else (if e=true then (if i=true then (aC.j0 k true a b e i c d) else (if (c.length:Int) > 8 then (aC.j0 k true a b e i c d) else (aC.j0 k (decide ((d.length:Int) > 10)) a b e i c d))) else (if (c.length:Int) > 8 then (aC.j0 k true a b e i c d) else (aC.j0 k (decide ((d.length:Int) > 10)) a b e i c d)))) else (aC.j0 k true a b e i c d))) else (aC.j0 k true a b e i c d))
theorem aC.calls (k:Nat) (s:ByteArray) (t:ByteArray) (u:Bool) (p:Bool) (x:Option Addr) (y:Nat) (m:List (eM)) (T:Option Addr) (z:Nat) (a:List (dS)) (r:Bool) (w:World) (c9:Kd.C kD w x m.length m) (c_:m.length≤y) (da:Kd.C jP w T a.length a) (db:a.length≤z) (h:aC.f k s t u p m a=some r):
 Calls Tryz.prog 44 #[.agg #[.string s,.string t,.bool u,.bool p,.slice x m.length y,.slice T a.length z]] w fun e w'=>e=.returned (.bool r)∧Below w.heap.size w w':=by
 have gH:=Tryz.underlying26;have gL:=Tryz.underlying50;have af:=Zm c9;have fu:=Zm c_;clear c9 c_;have a3:=Zm da;have fv:=Zm db;clear da db;have b:=Zm (Below.refl w.heap.size w);have H:=h;clear h;unfold aC.f at H;have cW:=Zm H;clear H;go_enter Tryz.func44,Tryz.ntmps44;go_upto_region 1 with (first|((with_reducible refine gd_ 1 rfl ?_);(try (refine gate_guard (by rfl) ?_;dsimp only));refine fQ 1 26 #[.string s,.string t,.bool u,.bool p,.slice x m.length y,.slice T a.length z] ?_;intro G q w3 B i;have d:=Zm B;have dc:=bz b q;have dd:=bz b q;replace b:=dJ b i;clear i B q))
 repeat (go_quiet (first|((with_reducible refine gd_ 1 rfl ?_);(try (refine gate_guard (by rfl) ?_;dsimp only));refine fQ 1 26 #[.string s,.string t,.bool u,.bool p,.slice x m.length y,.slice T a.length z] ?_;intro G q w3 B i;have d:=Zm B;have dc:=bz b q;have dd:=bz b q;replace b:=dJ b i;clear i B q));go_upto_region 1 with (first|((with_reducible refine gd_ 1 rfl ?_);(try (refine gate_guard (by rfl) ?_;dsimp only));refine fQ 1 26 #[.string s,.string t,.bool u,.bool p,.slice x m.length y,.slice T a.length z] ?_;intro G q w3 B i;have d:=Zm B;have dc:=bz b q;have dd:=bz b q;replace b:=dJ b i;clear i B q)))
 (try simp only [Act.put,List.setIfInBounds_toArray,List.set_cons_zero,List.set_cons_succ]);go_cut [44] (fun fn wc=>∃ (v:Nat) (cj:Bool),fn=.bool cj∧Aside0 (aC.j0 v cj s t u p m a=some r)∧Aside0 (v≤k)∧Aside0 (wc.heap[G]?=some (.cells #[.string s,.string t,.bool u,.bool p,(.slice x m.length y),(.slice T a.length z)] 26 (0,0)))∧Aside0 (Below w.heap.size w wc))
 case first=>
  have H:=cW.out;clear cW;replace H:=cU H;obtain⟨gM,E,H⟩:=H;replace H:=fM H;rcases H with ⟨rfl,H⟩|⟨rfl,H⟩
  · have j:=Zm H;clear H;have fw:=jJ d.out;go_wp2_with (first|(go_at_call 93;refine eV (aD.calls _ _ _ _ E.out) ?_;rintro e w' ⟨rfl,⟨o,rfl⟩⟩;(try exact mM)))
    repeat (go_quiet (first|(go_at_call 93;refine eV (aD.calls _ _ _ _ E.out) ?_;rintro e w' ⟨rfl,⟨o,rfl⟩⟩;(try exact mM)));try go_wp2)
    go_meet
    case rel=>exact⟨_,(true),dX,j,⟨kU⟩,⟨pk d.out⟩,⟨bk b.out⟩⟩
  replace H:=cU H;obtain⟨gN,L,H⟩:=H;replace H:=fM H;rcases H with ⟨rfl,H⟩|⟨rfl,H⟩
  · have j:=Zm H;clear H;have fx:=jJ d.out;go_wp2_with (first|(go_at_call 93;refine eV (aD.calls _ _ _ _ E.out) ?_;rintro e w' ⟨rfl,⟨o,rfl⟩⟩;(try exact mM))|(go_at_call 93;refine eV (aD.calls _ _ _ _ L.out) ?_;rintro e w' ⟨rfl,⟨o,rfl⟩⟩;(try exact mM)))
    repeat (go_quiet (first|(go_at_call 93;refine eV (aD.calls _ _ _ _ E.out) ?_;rintro e w' ⟨rfl,⟨o,rfl⟩⟩;(try exact mM))|(go_at_call 93;refine eV (aD.calls _ _ _ _ L.out) ?_;rintro e w' ⟨rfl,⟨o,rfl⟩⟩;(try exact mM)));try go_wp2)
    go_meet
    case rel=>exact⟨_,(true),dX,j,⟨kU⟩,⟨pk d.out⟩,⟨bk b.out⟩⟩
  replace H:=fB H;rcases H with ⟨c8,bj,fh,H⟩|⟨c8,bj,fh,H⟩
  · (first|rw [bj]|(simp only [i64_w,i32_w];rw [bj])|skip);replace H:=fM H;rcases H with ⟨rfl,H⟩|⟨rfl,H⟩
    · replace H:=jF H;rcases H with ⟨bn,H⟩|⟨bn,H⟩
      · have e3:decide (8 < (m.length:Int))=false:=decide_eq_false bn;have e4:decide (8 < m.length)=false:=decide_eq_false (by omega);clear bn;have j:=Zm H;clear H;have fy:=jJ d.out;go_wp2_with (first|(go_at_call 93;refine eV (aD.calls _ _ _ _ E.out) ?_;rintro e w' ⟨rfl,⟨o,rfl⟩⟩;(try exact mM))|(go_at_call 93;refine eV (aD.calls _ _ _ _ L.out) ?_;rintro e w' ⟨rfl,⟨o,rfl⟩⟩;(try exact mM)))
        repeat (go_quiet (first|(go_at_call 93;refine eV (aD.calls _ _ _ _ E.out) ?_;rintro e w' ⟨rfl,⟨o,rfl⟩⟩;(try exact mM))|(go_at_call 93;refine eV (aD.calls _ _ _ _ L.out) ?_;rintro e w' ⟨rfl,⟨o,rfl⟩⟩;(try exact mM)));try go_wp2)
        go_meet
        case rel=>exact⟨_,(decide ((a.length:Int) > 10)),dX,j,⟨kU⟩,⟨pk d.out⟩,⟨bk b.out⟩⟩
      have e3:decide (8 < (m.length:Int))=true:=decide_eq_true bn;have e4:decide (8 < m.length)=true:=decide_eq_true (by omega);clear bn;have j:=Zm H;clear H;have fz:=jJ d.out;go_wp2_with (first|(go_at_call 93;refine eV (aD.calls _ _ _ _ E.out) ?_;rintro e w' ⟨rfl,⟨o,rfl⟩⟩;(try exact mM))|(go_at_call 93;refine eV (aD.calls _ _ _ _ L.out) ?_;rintro e w' ⟨rfl,⟨o,rfl⟩⟩;(try exact mM)))
      repeat (go_quiet (first|(go_at_call 93;refine eV (aD.calls _ _ _ _ E.out) ?_;rintro e w' ⟨rfl,⟨o,rfl⟩⟩;(try exact mM))|(go_at_call 93;refine eV (aD.calls _ _ _ _ L.out) ?_;rintro e w' ⟨rfl,⟨o,rfl⟩⟩;(try exact mM)));try go_wp2)
      go_meet
      case rel=>exact⟨_,(true),dX,j,⟨kU⟩,⟨pk d.out⟩,⟨bk b.out⟩⟩
    replace H:=fM H;rcases H with ⟨rfl,H⟩|⟨rfl,H⟩
    · replace H:=jF H;rcases H with ⟨bo,H⟩|⟨bo,H⟩
      · have e5:decide (8 < (m.length:Int))=false:=decide_eq_false bo;have e6:decide (8 < m.length)=false:=decide_eq_false (by omega);clear bo;have j:=Zm H;clear H;have fI:=jJ d.out;go_wp2_with (first|(go_at_call 93;refine eV (aD.calls _ _ _ _ E.out) ?_;rintro e w' ⟨rfl,⟨o,rfl⟩⟩;(try exact mM))|(go_at_call 93;refine eV (aD.calls _ _ _ _ L.out) ?_;rintro e w' ⟨rfl,⟨o,rfl⟩⟩;(try exact mM)))
        repeat (go_quiet (first|(go_at_call 93;refine eV (aD.calls _ _ _ _ E.out) ?_;rintro e w' ⟨rfl,⟨o,rfl⟩⟩;(try exact mM))|(go_at_call 93;refine eV (aD.calls _ _ _ _ L.out) ?_;rintro e w' ⟨rfl,⟨o,rfl⟩⟩;(try exact mM)));try go_wp2)
        go_meet
        case rel=>exact⟨_,(decide ((a.length:Int) > 10)),dX,j,⟨kU⟩,⟨pk d.out⟩,⟨bk b.out⟩⟩
      have e5:decide (8 < (m.length:Int))=true:=decide_eq_true bo;have e6:decide (8 < m.length)=true:=decide_eq_true (by omega);clear bo;have j:=Zm H;clear H;have fT:=jJ d.out;go_wp2_with (first|(go_at_call 93;refine eV (aD.calls _ _ _ _ E.out) ?_;rintro e w' ⟨rfl,⟨o,rfl⟩⟩;(try exact mM))|(go_at_call 93;refine eV (aD.calls _ _ _ _ L.out) ?_;rintro e w' ⟨rfl,⟨o,rfl⟩⟩;(try exact mM)))
      repeat (go_quiet (first|(go_at_call 93;refine eV (aD.calls _ _ _ _ E.out) ?_;rintro e w' ⟨rfl,⟨o,rfl⟩⟩;(try exact mM))|(go_at_call 93;refine eV (aD.calls _ _ _ _ L.out) ?_;rintro e w' ⟨rfl,⟨o,rfl⟩⟩;(try exact mM)));try go_wp2)
      go_meet
      case rel=>exact⟨_,(true),dX,j,⟨kU⟩,⟨pk d.out⟩,⟨bk b.out⟩⟩
    have j:=Zm H;clear H;have f9:=jJ d.out;go_wp2_with (first|(go_at_call 93;refine eV (aD.calls _ _ _ _ E.out) ?_;rintro e w' ⟨rfl,⟨o,rfl⟩⟩;(try exact mM))|(go_at_call 93;refine eV (aD.calls _ _ _ _ L.out) ?_;rintro e w' ⟨rfl,⟨o,rfl⟩⟩;(try exact mM)))
    repeat (go_quiet (first|(go_at_call 93;refine eV (aD.calls _ _ _ _ E.out) ?_;rintro e w' ⟨rfl,⟨o,rfl⟩⟩;(try exact mM))|(go_at_call 93;refine eV (aD.calls _ _ _ _ L.out) ?_;rintro e w' ⟨rfl,⟨o,rfl⟩⟩;(try exact mM)));try go_wp2)
    go_meet
    case rel=>exact⟨_,(true),dX,j,⟨kU⟩,⟨pk d.out⟩,⟨bk b.out⟩⟩
  clear c8;(first|rw [bj]|(simp only [i64_w,i32_w];rw [bj])|skip);have j:=Zm H;clear H;have gO:=jJ d.out;go_wp2_with (first|(go_at_call 93;refine eV (aD.calls _ _ _ _ E.out) ?_;rintro e w' ⟨rfl,⟨o,rfl⟩⟩;(try exact mM))|(go_at_call 93;refine eV (aD.calls _ _ _ _ L.out) ?_;rintro e w' ⟨rfl,⟨o,rfl⟩⟩;(try exact mM)))
  repeat (go_quiet (first|(go_at_call 93;refine eV (aD.calls _ _ _ _ E.out) ?_;rintro e w' ⟨rfl,⟨o,rfl⟩⟩;(try exact mM))|(go_at_call 93;refine eV (aD.calls _ _ _ _ L.out) ?_;rintro e w' ⟨rfl,⟨o,rfl⟩⟩;(try exact mM)));try go_wp2)
  go_meet
  case rel=>exact⟨_,(true),dX,j,⟨kU⟩,⟨pk d.out⟩,⟨bk b.out⟩⟩
 case rest=>
  clear cW;obtain⟨v,cj,rfl,HA,I,d,b⟩:=hcut
  cases v with
  | zero=>exact absurd HA.out (by simp [aC.j0])
  | succ dn=>
   have H:=HA.out;clear HA;simp only [aC.j0] at H;replace H:=fM H;rcases H with ⟨rfl,H⟩|⟨rfl,H⟩
   · have j:=Zm H;clear H;go_wp2
     repeat (go_quiet (fail);try go_wp2)
     go_loopg [3] dn (fun v v3 w'=>∃ (D:Int),v3=.int .i64 D∧Aside0 (aC.l0 v D s t u p m a=some r)∧Aside0 (v≤dn)∧Aside0 (w'.heap[G]?=some (.cells #[.string s,.string t,.bool u,.bool p,(.slice x m.length y),(.slice T a.length z)] 26 (0,0)))∧Aside0 (Below w.heap.size w w'))
     case atStart=>exact⟨(0),dX,j,⟨Nat.le_refl _⟩,⟨pk d.out⟩,⟨bk b.out⟩⟩
     case round=>
      clear j;(try clear bp);obtain⟨D,rfl,HA,J,d,b⟩:=hrel
      cases gk with
      | zero=>exact absurd HA.out (by simp [aC.l0])
      | succ k2=>
       have H:=HA.out;clear HA;simp only [aC.l0] at H;replace H:=iY H;rcases H with ⟨a4,H⟩|⟨a4,H⟩
       · have j:=Zm H;clear H;have ck:=jJ d.out;go_wp2
         repeat (go_quiet (fail);try go_wp2)
         go_loopg [5] k2 (fun v v5 w'=>∃ (c:Int),v5=.int .i64 c∧Aside0 (aC.l2 v c s t u p m a=some r)∧Aside0 (v≤k2)∧Aside0 (w'.heap[G]?=some (.cells #[.string s,.string t,.bool u,.bool p,(.slice x m.length y),(.slice T a.length z)] 26 (0,0)))∧Aside0 (Below w.heap.size w w'))
         case atStart=>exact⟨(0),dX,j,⟨Nat.le_refl _⟩,⟨pk d.out⟩,⟨bk b.out⟩⟩
         case round=>
          clear j;(try clear bp);(try clear ce);(try clear a4);(try clear ck);obtain⟨c,rfl,HA,Z,d,b⟩:=hrel
          cases gk with
          | zero=>exact absurd HA.out (by simp [aC.l2])
          | succ k3=>
           have H:=HA.out;clear HA;simp only [aC.l2] at H;replace H:=iY H;rcases H with ⟨cl,H⟩|⟨cl,H⟩
           · obtain rfl:=Option.some.inj H;have f_:=jJ d.out;go_wp2
             repeat (go_quiet (fail);try go_wp2)
             go_ret;exact bU b
           replace H:=eZ H;obtain⟨c42b0,H⟩:=H;have cs:=Zm H;clear H;have de:=jJ d.out;obtain⟨M,ab,ac,ad,ae,fi,df,aS,a0,a1,a2⟩:=qQ a3 b c;cases fi;go_upto_region 17 with (first|((with_reducible refine gd_ 6 rfl ?_);(try (refine gate_guard (by rfl) ?_;dsimp only));refine fQ 6 50 #[.string ⟨#[]⟩,.string ⟨#[]⟩,.bool false,.bool false,.bool false,.int .i64 0,.int .i64 0,.slice none 0 0,.slice none 0 0] ?_;intro P q dp B i;have n:=Zm B;have dg:=bz b q;have dh:=bz b q;have a8:=bl d q;have aa:=bg d q;replace d:=kb d i;replace b:=dJ b i;clear i B q;obtain⟨di,dj⟩:=dK aa;obtain⟨bq,br,bs,bu,bv,bw,bx,b0,b1,b2,b4,b5,b6,b7,b8,b9,ca,cb⟩:=lB n.out))
           repeat (go_quiet (first|((with_reducible refine gd_ 6 rfl ?_);(try (refine gate_guard (by rfl) ?_;dsimp only));refine fQ 6 50 #[.string ⟨#[]⟩,.string ⟨#[]⟩,.bool false,.bool false,.bool false,.int .i64 0,.int .i64 0,.slice none 0 0,.slice none 0 0] ?_;intro P q dp B i;have n:=Zm B;have dg:=bz b q;have dh:=bz b q;have a8:=bl d q;have aa:=bg d q;replace d:=kb d i;replace b:=dJ b i;clear i B q;obtain⟨di,dj⟩:=dK aa;obtain⟨bq,br,bs,bu,bv,bw,bx,b0,b1,b2,b4,b5,b6,b7,b8,b9,ca,cb⟩:=lB n.out));go_upto_region 17 with (first|((with_reducible refine gd_ 6 rfl ?_);(try (refine gate_guard (by rfl) ?_;dsimp only));refine fQ 6 50 #[.string ⟨#[]⟩,.string ⟨#[]⟩,.bool false,.bool false,.bool false,.int .i64 0,.int .i64 0,.slice none 0 0,.slice none 0 0] ?_;intro P q dp B i;have n:=Zm B;have dg:=bz b q;have dh:=bz b q;have a8:=bl d q;have aa:=bg d q;replace d:=kb d i;replace b:=dJ b i;clear i B q;obtain⟨di,dj⟩:=dK aa;obtain⟨bq,br,bs,bu,bv,bw,bx,b0,b1,b2,b4,b5,b6,b7,b8,b9,ca,cb⟩:=lB n.out)))
           (try simp only [Act.put,List.setIfInBounds_toArray,List.set_cons_zero,List.set_cons_succ]);go_cut [111] (fun fj wc=>∃ (v:Nat) (ch:Bool),fj=.bool ch∧Aside0 (aC.j5 v c ch s t u p m a ((aA a c).f0) ((aA a c).f1) ((aA a c).f2) ((aA a c).f3) ((aA a c).f4) ((aA a c).f5) ((aA a c).f6) ((aA a c).f7) ((aA a c).f8)=some r)∧Aside0 (v≤k3)∧Aside0 (wc.heap[G]?=some (.cells #[.string s,.string t,.bool u,.bool p,(.slice x m.length y),(.slice (some M) a.length z)] 26 (0,0)))∧Aside0 (wc.heap[P]?=some (.cells #[.string ((aA a c).f0),.string ((aA a c).f1),.bool ((aA a c).f2),.bool ((aA a c).f3),.bool ((aA a c).f4),.int .i64 ((aA a c).f5),.int .i64 ((aA a c).f6),(.slice ab ((aA a c).f7).length ac),(.slice ad ((aA a c).f8).length ae)] 50 (0,0)))∧Aside0 (Below w.heap.size w wc))
           case first=>
            have H:=cs.out;clear cs;replace H:=cU H;obtain⟨gS,aR,H⟩:=H;replace H:=fM H;rcases H with ⟨rfl,H⟩|⟨rfl,H⟩
            · have j:=Zm H;clear H;obtain⟨ga,gb⟩:=dK aa;have gc:=lB n.out;go_wp2_with (first|(go_at_call 90;refine eV (aJ.calls _ _ _ _ _ _ _ _ _ _ _ _ _ _ _ _ (Kd.C_below a0.out hU) aS.out (Kd.C_below a2.out hU) a1.out aR.out) ?_;rintro e fo ⟨rfl,i⟩;have O:=(⟨lQ G #[.string s,.string t,.bool u,.bool p,.slice x m.length y,.slice (some M) a.length z] 26 i,lQ P #[.string ((aA a c).f0),.string ((aA a c).f1),.bool ((aA a c).f2),.bool ((aA a c).f3),.bool ((aA a c).f4),.int .i64 ((aA a c).f5),.int .i64 ((aA a c).f6),.slice ab ((aA a c).f7).length ac,.slice ad ((aA a c).f8).length ae] 50 i,Zm (Zbt hU i)⟩:_∧_∧_);clear d n b;obtain⟨d,n,b⟩:=O;clear i))
              repeat (go_quiet (first|(go_at_call 90;refine eV (aJ.calls _ _ _ _ _ _ _ _ _ _ _ _ _ _ _ _ (Kd.C_below a0.out hU) aS.out (Kd.C_below a2.out hU) a1.out aR.out) ?_;rintro e fo ⟨rfl,i⟩;have O:=(⟨lQ G #[.string s,.string t,.bool u,.bool p,.slice x m.length y,.slice (some M) a.length z] 26 i,lQ P #[.string ((aA a c).f0),.string ((aA a c).f1),.bool ((aA a c).f2),.bool ((aA a c).f3),.bool ((aA a c).f4),.int .i64 ((aA a c).f5),.int .i64 ((aA a c).f6),.slice ab ((aA a c).f7).length ac,.slice ad ((aA a c).f8).length ae] 50 i,Zm (Zbt hU i)⟩:_∧_∧_);clear d n b;obtain⟨d,n,b⟩:=O;clear i));try go_wp2)
              go_meet
              case rel=>exact⟨_,(true),dX,j,⟨by have:=I.out;have:=J.out;have:=Z.out;first|omega|exact Nat.le_refl _⟩,⟨pk d.out⟩,⟨pk n.out⟩,⟨bk b.out⟩⟩
            obtain⟨ct,cc⟩:∃ b_:Bool,b_=((aA a c).f3):=⟨_,rfl⟩;(try rw [← cc] at aR);replace H:(if ct=true then (aC.j5 k3 c (!p) s t u p m a ((aA a c).f0) ((aA a c).f1) ((aA a c).f2) ct ((aA a c).f4) ((aA a c).f5) ((aA a c).f6) ((aA a c).f7) ((aA a c).f8)) else (aC.j5 k3 c false s t u p m a ((aA a c).f0) ((aA a c).f1) ((aA a c).f2) ct ((aA a c).f4) ((aA a c).f5) ((aA a c).f6) ((aA a c).f7) ((aA a c).f8)))=some r:=by rw [← cc] at H;exact H
            have cm:=Zm cc;clear cc;(try rw [← cm.out]);replace H:=fM H;rcases H with ⟨rfl,H⟩|⟨rfl,H⟩
            · have j:=Zm H;clear H;obtain⟨gf,gg⟩:=dK aa;have gh:=lB n.out;go_wp2_with (first|(go_at_call 90;refine eV (aJ.calls _ _ _ _ _ _ _ _ _ _ _ _ _ _ _ _ (Kd.C_below a0.out hU) aS.out (Kd.C_below a2.out hU) a1.out aR.out) ?_;rintro e fp ⟨rfl,i⟩;have O:=(⟨lQ G #[.string s,.string t,.bool u,.bool p,.slice x m.length y,.slice (some M) a.length z] 26 i,lQ P #[.string ((aA a c).f0),.string ((aA a c).f1),.bool ((aA a c).f2),.bool false,.bool ((aA a c).f4),.int .i64 ((aA a c).f5),.int .i64 ((aA a c).f6),.slice ab ((aA a c).f7).length ac,.slice ad ((aA a c).f8).length ae] 50 i,Zm (Zbt hU i)⟩:_∧_∧_);clear d n b;obtain⟨d,n,b⟩:=O;clear i;obtain⟨du,dv,dw,dx,dy,dz,d0,d1,d2,d3,d4,d5,d6,d7,d8,d9,d_,ea⟩:=lB n.out))
              repeat (go_quiet (first|(go_at_call 90;refine eV (aJ.calls _ _ _ _ _ _ _ _ _ _ _ _ _ _ _ _ (Kd.C_below a0.out hU) aS.out (Kd.C_below a2.out hU) a1.out aR.out) ?_;rintro e fp ⟨rfl,i⟩;have O:=(⟨lQ G #[.string s,.string t,.bool u,.bool p,.slice x m.length y,.slice (some M) a.length z] 26 i,lQ P #[.string ((aA a c).f0),.string ((aA a c).f1),.bool ((aA a c).f2),.bool false,.bool ((aA a c).f4),.int .i64 ((aA a c).f5),.int .i64 ((aA a c).f6),.slice ab ((aA a c).f7).length ac,.slice ad ((aA a c).f8).length ae] 50 i,Zm (Zbt hU i)⟩:_∧_∧_);clear d n b;obtain⟨d,n,b⟩:=O;clear i;obtain⟨du,dv,dw,dx,dy,dz,d0,d1,d2,d3,d4,d5,d6,d7,d8,d9,d_,ea⟩:=lB n.out));try go_wp2)
              go_meet
              case rel=>(try rw [← cm.out]);exact⟨_,(false),dX,j,⟨by have:=I.out;have:=J.out;have:=Z.out;first|omega|exact Nat.le_refl _⟩,⟨pk d.out⟩,⟨pk n.out⟩,⟨bk b.out⟩⟩
            have j:=Zm H;clear H;obtain⟨gi,gj⟩:=dK aa;have gl:=lB n.out;go_wp2_with (first|(go_at_call 90;refine eV (aJ.calls _ _ _ _ _ _ _ _ _ _ _ _ _ _ _ _ (Kd.C_below a0.out hU) aS.out (Kd.C_below a2.out hU) a1.out aR.out) ?_;rintro e fq ⟨rfl,i⟩;have O:=(⟨lQ G #[.string s,.string t,.bool u,.bool p,.slice x m.length y,.slice (some M) a.length z] 26 i,lQ P #[.string ((aA a c).f0),.string ((aA a c).f1),.bool ((aA a c).f2),.bool true,.bool ((aA a c).f4),.int .i64 ((aA a c).f5),.int .i64 ((aA a c).f6),.slice ab ((aA a c).f7).length ac,.slice ad ((aA a c).f8).length ae] 50 i,Zm (Zbt hU i)⟩:_∧_∧_);clear d n b;obtain⟨d,n,b⟩:=O;clear i;obtain⟨eb,ec,ed,ee,ef,eg,eh,ei,ej,ek,el,em,en,eo,ep,eq,er,es⟩:=lB n.out;obtain⟨et,eu,ev,ew,ex,ey⟩:=jJ d.out;have ez:=Zkf d.out 5))
            repeat (go_quiet (first|(go_at_call 90;refine eV (aJ.calls _ _ _ _ _ _ _ _ _ _ _ _ _ _ _ _ (Kd.C_below a0.out hU) aS.out (Kd.C_below a2.out hU) a1.out aR.out) ?_;rintro e fq ⟨rfl,i⟩;have O:=(⟨lQ G #[.string s,.string t,.bool u,.bool p,.slice x m.length y,.slice (some M) a.length z] 26 i,lQ P #[.string ((aA a c).f0),.string ((aA a c).f1),.bool ((aA a c).f2),.bool true,.bool ((aA a c).f4),.int .i64 ((aA a c).f5),.int .i64 ((aA a c).f6),.slice ab ((aA a c).f7).length ac,.slice ad ((aA a c).f8).length ae] 50 i,Zm (Zbt hU i)⟩:_∧_∧_);clear d n b;obtain⟨d,n,b⟩:=O;clear i;obtain⟨eb,ec,ed,ee,ef,eg,eh,ei,ej,ek,el,em,en,eo,ep,eq,er,es⟩:=lB n.out;obtain⟨et,eu,ev,ew,ex,ey⟩:=jJ d.out;have ez:=Zkf d.out 5));try go_wp2)
            go_meet
            case rel=>(try rw [← cm.out]);exact⟨_,(!p),dX,j,⟨by have:=I.out;have:=J.out;have:=Z.out;first|omega|exact Nat.le_refl _⟩,⟨pk d.out⟩,⟨pk n.out⟩,⟨bk b.out⟩⟩
           case rest=>
            clear cs;(try clear bp);(try clear ce);(try clear a4);(try clear fr);(try clear cl);(try clear fs);(try clear c42b0);(try clear ck);(try clear de);(try clear bq);(try clear br);(try clear bs);(try clear bu);(try clear bv);(try clear bw);(try clear bx);(try clear b0);(try clear b1);(try clear b2);(try clear b4);(try clear b5);(try clear b6);(try clear b7);(try clear b8);(try clear b9);(try clear ca);(try clear cb);(try clear df);(try clear fk);(try clear fl);obtain⟨v,ch,rfl,HA,a5,d,n,b⟩:=hcut
            cases v with
            | zero=>exact absurd HA.out (by simp [aC.j5])
            | succ dl=>
             have H:=HA.out;clear HA;simp only [aC.j5] at H;replace H:=fM H;rcases H with ⟨rfl,H⟩|⟨rfl,H⟩
             · have j:=Zm H;clear H;go_wp2
               repeat (go_quiet (fail);try go_wp2)
               go_loopg [7] dl (fun v v7 w'=>∃ (A:Int),v7=.int .i64 A∧Aside0 (aC.l3 v c A s t u p m a ((aA a c).f0) ((aA a c).f1) ((aA a c).f2) ((aA a c).f3) ((aA a c).f4) ((aA a c).f5) ((aA a c).f6) ((aA a c).f7) ((aA a c).f8)=some r)∧Aside0 (v≤dl)∧Aside0 (w'.heap[G]?=some (.cells #[.string s,.string t,.bool u,.bool p,(.slice x m.length y),(.slice (some M) a.length z)] 26 (0,0)))∧Aside0 (w'.heap[P]?=some (.cells #[.string ((aA a c).f0),.string ((aA a c).f1),.bool ((aA a c).f2),.bool ((aA a c).f3),.bool ((aA a c).f4),.int .i64 ((aA a c).f5),.int .i64 ((aA a c).f6),(.slice ab ((aA a c).f7).length ac),(.slice ad ((aA a c).f8).length ae)] 50 (0,0)))∧Aside0 (Below w.heap.size w w'))
               case atStart=>exact⟨(0),dX,j,⟨Nat.le_refl _⟩,⟨pk d.out⟩,⟨pk n.out⟩,⟨bk b.out⟩⟩
               case round=>
                clear j;(try clear bp);(try clear ce);(try clear a4);(try clear fr);(try clear cl);(try clear fs);(try clear c42b0);(try clear g0);(try clear ck);(try clear de);(try clear bq);(try clear br);(try clear bs);(try clear bu);(try clear bv);(try clear bw);(try clear bx);(try clear b0);(try clear b1);(try clear b2);(try clear b4);(try clear b5);(try clear b6);(try clear b7);(try clear b8);(try clear b9);(try clear ca);(try clear cb);(try clear df);(try clear fk);(try clear fl);obtain⟨A,rfl,HA,a7,d,n,b⟩:=hrel
                cases gk with
                | zero=>exact absurd HA.out (by simp [aC.l3])
                | succ k5=>
                 have H:=HA.out;clear HA;simp only [aC.l3] at H;replace H:=iY H;rcases H with ⟨e7,H⟩|⟨e7,H⟩
                 · have j:=Zm H;clear H;go_wp2
                   repeat (go_quiet (fail);try go_wp2)
                   go_roundg k5
                   case measure=>have:=I.out;have:=J.out;have:=Z.out;have:=a5.out;have:=a7.out;omega
                   case rel=>exact⟨(wrap64 (c+1)),dX,j,⟨by have:=I.out;have:=J.out;have:=Z.out;have:=a5.out;have:=a7.out;omega⟩,⟨pk d.out⟩,⟨bk b.out⟩⟩
                 replace H:=eZ H;obtain⟨c66b0,H⟩:=H;replace H:=eZ H;obtain⟨c67b0,H⟩:=H;replace H:=fB H;rcases H with ⟨dq,e8,e9,H⟩|⟨dq,e8,e9,H⟩
                 · have j:=Zm H;clear H;obtain⟨gm,gn⟩:=dK a8;have go:=jJ d.out;obtain⟨bi,c4,c5,c6,c7,bm,gp,c0,c1,c2,c3⟩:=qQ a3 b A;obtain rfl:M=bi:=(by injection bm);have gq:=lB n.out;go_wp2
                   repeat (go_quiet (fail);try go_wp2)
                   go_roundg k5
                   case measure=>have:=I.out;have:=J.out;have:=Z.out;have:=a5.out;have:=a7.out;omega
                   case rel=>exact⟨(wrap64 (A+1)),dX,j,⟨by have:=I.out;have:=J.out;have:=Z.out;have:=a5.out;have:=a7.out;omega⟩,⟨pk d.out⟩,⟨pk n.out⟩,⟨bk b.out⟩⟩
                 clear dq;replace H:=fB H;rcases H with ⟨dr,e_,fa,H⟩|⟨dr,e_,fa,H⟩
                 · have j:=Zm H;clear H;obtain⟨gr,gs⟩:=dK a8;have gt:=jJ d.out;have az:0≤(A:Int):=dT;have aB:A < (a.length:Int):=dT;obtain⟨bi,c4,c5,c6,c7,bm,ag,ah,ai,aj,ak,al,am,U,W,a9,a_,ba,bb⟩:=hX a3.out A az aB;obtain rfl:M=bi:=(by injection bm);replace ag:=dE b ag (Zlt _ _ ag);replace ah:=dE b ah (Zlt _ _ ah);replace ai:=dE b ai (Zlt _ _ ai);replace aj:=dE b aj (Zlt _ _ aj);replace ak:=dE b ak (Zlt _ _ ak);replace al:=dE b al (Zlt _ _ al);replace am:=dE b am (Zlt _ _ am);replace U:=dE b U (Zlt _ _ U);replace W:=dE b W (Zlt _ _ W);have c1:=Zm a_;have c0:=Zm a9;clear a_ a9;have c3:=Zm bb;have c2:=Zm ba;clear bb ba;replace az:=eq_true az;replace aB:=eq_true aB;have gu:=lB n.out;have aF:0≤(A:Int):=dT;have aL:A < (a.length:Int):=dT;obtain⟨cn,eT,e0,e1,e2,cu,an,ao,ap,aq,ar,au,av,X,Y,bc,be,bf,bh⟩:=hX a3.out A aF aL;obtain rfl:M=cn:=(by injection cu);replace an:=dE b an (Zlt _ _ an);replace ao:=dE b ao (Zlt _ _ ao);replace ap:=dE b ap (Zlt _ _ ap);replace aq:=dE b aq (Zlt _ _ aq);replace ar:=dE b ar (Zlt _ _ ar);replace au:=dE b au (Zlt _ _ au);replace av:=dE b av (Zlt _ _ av);replace X:=dE b X (Zlt _ _ X);replace Y:=dE b Y (Zlt _ _ Y);have eA:=Zm be;have eI:=Zm bc;clear be bc;have eO:=Zm bh;have eP:=Zm bf;clear bh bf;replace aF:=eq_true aF;replace aL:=eq_true aL;have K:=Option.some.inj (U.symm.trans X);injection K with K en_ ec_;subst K;subst ec_;clear en_;have K:=Option.some.inj (W.symm.trans Y);injection K with K en_ ec_;subst K;subst ec_;clear en_;go_wp2
                   repeat (go_quiet (fail);try go_wp2)
                   go_roundg k5
                   case measure=>have:=I.out;have:=J.out;have:=Z.out;have:=a5.out;have:=a7.out;omega
                   case rel=>exact⟨(wrap64 (A+1)),dX,j,⟨by have:=I.out;have:=J.out;have:=Z.out;have:=a5.out;have:=a7.out;omega⟩,⟨pk d.out⟩,⟨pk n.out⟩,⟨bk b.out⟩⟩
                 clear dr;obtain rfl:=Option.some.inj H;obtain⟨gv,gw⟩:=dK a8;have gx:=jJ d.out;have az:0≤(A:Int):=dT;have aB:A < (a.length:Int):=dT;obtain⟨bi,c4,c5,c6,c7,bm,ag,ah,ai,aj,ak,al,am,U,W,a9,a_,ba,bb⟩:=hX a3.out A az aB;obtain rfl:M=bi:=(by injection bm);replace ag:=dE b ag (Zlt _ _ ag);replace ah:=dE b ah (Zlt _ _ ah);replace ai:=dE b ai (Zlt _ _ ai);replace aj:=dE b aj (Zlt _ _ aj);replace ak:=dE b ak (Zlt _ _ ak);replace al:=dE b al (Zlt _ _ al);replace am:=dE b am (Zlt _ _ am);replace U:=dE b U (Zlt _ _ U);replace W:=dE b W (Zlt _ _ W);have c1:=Zm a_;have c0:=Zm a9;clear a_ a9;have c3:=Zm bb;have c2:=Zm ba;clear bb ba;replace az:=eq_true az;replace aB:=eq_true aB;have gy:=lB n.out;have aF:0≤(A:Int):=dT;have aL:A < (a.length:Int):=dT;obtain⟨cn,eT,e0,e1,e2,cu,an,ao,ap,aq,ar,au,av,X,Y,bc,be,bf,bh⟩:=hX a3.out A aF aL;obtain rfl:M=cn:=(by injection cu);replace an:=dE b an (Zlt _ _ an);replace ao:=dE b ao (Zlt _ _ ao);replace ap:=dE b ap (Zlt _ _ ap);replace aq:=dE b aq (Zlt _ _ aq);replace ar:=dE b ar (Zlt _ _ ar);replace au:=dE b au (Zlt _ _ au);replace av:=dE b av (Zlt _ _ av);replace X:=dE b X (Zlt _ _ X);replace Y:=dE b Y (Zlt _ _ Y);have eA:=Zm be;have eI:=Zm bc;clear be bc;have eO:=Zm bh;have eP:=Zm bf;clear bh bf;replace aF:=eq_true aF;replace aL:=eq_true aL;have K:=Option.some.inj (U.symm.trans X);injection K with K en_ ec_;subst K;subst ec_;clear en_;have K:=Option.some.inj (W.symm.trans Y);injection K with K en_ ec_;subst K;subst ec_;clear en_;go_wp2
                 repeat (go_quiet (fail);try go_wp2)
                 go_ret;exact bU b
             obtain rfl:=Option.some.inj H;go_wp2
             repeat (go_quiet (fail);try go_wp2)
             go_ret;exact bU b
       have cv:=Zm H;clear H;have dk:=jJ d.out;go_upto_region 6 with (fail)
       repeat (go_quiet (fail);go_upto_region 6 with (fail))
       go_cut [69] (fun ft wc=>∃ (v:Nat) (ci:Bool),ft=.bool ci∧Aside0 (aC.j2 v D ci s t u p m a=some r)∧Aside0 (v≤k2)∧Aside0 (wc.heap[G]?=some (.cells #[.string s,.string t,.bool u,.bool p,(.slice x m.length y),(.slice T a.length z)] 26 (0,0)))∧Aside0 (Below w.heap.size w wc))
       case first=>
        have H:=cv.out;clear cv;replace H:=eZ H;obtain⟨c25b0,H⟩:=H;(first|rw [c25b0]|(simp only [i64_w,i32_w];rw [c25b0])|skip);replace H:=cU H;obtain⟨gT,cf,H⟩:=H;replace H:=fM H;rcases H with ⟨rfl,H⟩|⟨rfl,H⟩
        · have j:=Zm H;clear H;have gz:=jJ d.out;obtain⟨co,cw,fb⟩:=kV af b D;cases cw;go_wp2_with (first|(go_at_call 93;refine eV (aD.calls _ _ _ _ cf.out) ?_;rintro e w' ⟨rfl,⟨o,rfl⟩⟩;(try exact mM)))
          repeat (go_quiet (first|(go_at_call 93;refine eV (aD.calls _ _ _ _ cf.out) ?_;rintro e w' ⟨rfl,⟨o,rfl⟩⟩;(try exact mM)));try go_wp2)
          go_meet
          case rel=>exact⟨_,(true),dX,j,⟨by have:=I.out;have:=J.out;first|omega|exact Nat.le_refl _⟩,⟨pk d.out⟩,⟨bk b.out⟩⟩
        replace H:=cU H;obtain⟨fm,ds,H⟩:=H;have j:=Zm H;clear H;have gD:=jJ d.out;obtain⟨co,cw,fb⟩:=kV af b D;cases cw;go_wp2_with (first|(go_at_call 93;refine eV (aD.calls _ _ _ _ cf.out) ?_;rintro e w' ⟨rfl,⟨o,rfl⟩⟩;(try exact mM);have aO:0≤(D:Int):=dT;have aP:D < (m.length:Int):=dT;obtain⟨cp,cx,aw,ax,ay⟩:=lH af.out D aO aP;obtain rfl:co=cp:=(by injection cx);replace aw:=dE b aw (Zlt _ _ aw);replace ax:=dE b ax (Zlt _ _ ax);replace ay:=dE b ay (Zlt _ _ ay);replace aO:=eq_true aO;replace aP:=eq_true aP)|(go_at_call 94;refine eV (dG.calls _ _ _ _ ds.out) ?_;rintro e w' ⟨rfl,⟨o,rfl⟩⟩;(try exact mM)))
        repeat (go_quiet (first|(go_at_call 93;refine eV (aD.calls _ _ _ _ cf.out) ?_;rintro e w' ⟨rfl,⟨o,rfl⟩⟩;(try exact mM);have aO:0≤(D:Int):=dT;have aP:D < (m.length:Int):=dT;obtain⟨cp,cx,aw,ax,ay⟩:=lH af.out D aO aP;obtain rfl:co=cp:=(by injection cx);replace aw:=dE b aw (Zlt _ _ aw);replace ax:=dE b ax (Zlt _ _ ax);replace ay:=dE b ay (Zlt _ _ ay);replace aO:=eq_true aO;replace aP:=eq_true aP)|(go_at_call 94;refine eV (dG.calls _ _ _ _ ds.out) ?_;rintro e w' ⟨rfl,⟨o,rfl⟩⟩;(try exact mM)));try go_wp2)
        go_meet
        case rel=>exact⟨_,(!fm),dX,j,⟨by have:=I.out;have:=J.out;first|omega|exact Nat.le_refl _⟩,⟨pk d.out⟩,⟨bk b.out⟩⟩
       case rest=>
        clear cv;(try clear bp);(try clear ce);(try clear a4);(try clear dk);obtain⟨v,ci,rfl,HA,cd,d,b⟩:=hcut
        cases v with
        | zero=>exact absurd HA.out (by simp [aC.j2])
        | succ dm=>
         have H:=HA.out;clear HA;simp only [aC.j2] at H;replace H:=fM H;rcases H with ⟨rfl,H⟩|⟨rfl,H⟩
         · have j:=Zm H;clear H;go_wp2
           repeat (go_quiet (fail);try go_wp2)
           go_loopg [4] dm (fun v v4 w'=>∃ (a6:Int),v4=.int .i64 a6∧Aside0 (aC.l1 v D a6 s t u p m a=some r)∧Aside0 (v≤dm)∧Aside0 (w'.heap[G]?=some (.cells #[.string s,.string t,.bool u,.bool p,(.slice x m.length y),(.slice T a.length z)] 26 (0,0)))∧Aside0 (Below w.heap.size w w'))
           case atStart=>exact⟨(0),dX,j,⟨Nat.le_refl _⟩,⟨pk d.out⟩,⟨bk b.out⟩⟩
           case round=>
            clear j;(try clear bp);(try clear ce);(try clear a4);(try clear g1);(try clear dk);obtain⟨a6,rfl,HA,cg,d,b⟩:=hrel
            cases gk with
            | zero=>exact absurd HA.out (by simp [aC.l1])
            | succ k4=>
             have H:=HA.out;clear HA;simp only [aC.l1] at H;replace H:=iY H;rcases H with ⟨fc,H⟩|⟨fc,H⟩
             · have j:=Zm H;clear H;go_wp2
               repeat (go_quiet (fail);try go_wp2)
               go_roundg k4
               case measure=>have:=I.out;have:=J.out;have:=cd.out;have:=cg.out;omega
               case rel=>exact⟨(wrap64 (D+1)),dX,j,⟨by have:=I.out;have:=J.out;have:=cd.out;have:=cg.out;omega⟩,⟨pk d.out⟩,⟨bk b.out⟩⟩
             replace H:=eZ H;obtain⟨c33b0,H⟩:=H;replace H:=eZ H;obtain⟨c34b0,H⟩:=H;replace H:=eZ H;obtain⟨c35b0,H⟩:=H;replace H:=eZ H;obtain⟨c36b0,H⟩:=H;replace H:=fB H;rcases H with ⟨dt,fd,fe,H⟩|⟨dt,fd,fe,H⟩
             · have j:=Zm H;clear H;have gE:=jJ d.out;obtain⟨cq,cy,ff⟩:=kV af b a6;cases cy;obtain⟨cr,cz,fg⟩:=kV af b D;obtain rfl:cq=cr:=(by injection cz);go_wp2
               repeat (go_quiet (fail);try go_wp2)
               go_roundg k4
               case measure=>have:=I.out;have:=J.out;have:=cd.out;have:=cg.out;omega
               case rel=>exact⟨(wrap64 (a6+1)),dX,j,⟨by have:=I.out;have:=J.out;have:=cd.out;have:=cg.out;omega⟩,⟨pk d.out⟩,⟨bk b.out⟩⟩
             clear dt;obtain rfl:=Option.some.inj H;have gF:=jJ d.out;obtain⟨cq,cy,ff⟩:=kV af b a6;cases cy;obtain⟨cr,cz,fg⟩:=kV af b D;obtain rfl:cq=cr:=(by injection cz);go_wp2
             repeat (go_quiet (fail);try go_wp2)
             go_ret;exact bU b
         obtain rfl:=Option.some.inj H;go_wp2
         repeat (go_quiet (fail);try go_wp2)
         go_ret;exact bU b
   obtain rfl:=Option.some.inj H;go_wp2
   repeat (go_quiet (fail);try go_wp2)
   go_ret;exact bU b
def dZ (w0 W:World) (g:Nat) (c:List ByteArray) (d:List Int):Prop:=∃ a b,W.heap[g]?=some (.cells #[a,b] 76 (0,0))∧w0.heap.size≤g∧Kd.R Kd.string 9 W w0.heap.size (fun k=>k≠g) a c∧Kd.R (Kd.int .u8) 5 W w0.heap.size (fun k=>k≠g) b d
theorem dZ.same {w0 W:World} {g:Nat} {d:List ByteArray} {e:List Int} {i:World} (h:dZ w0 W g d e) (b:∀ k,k < W.heap.size→(k=g∨∃ q,q∈[9,5]∧∃ cells,W.heap[k]?=some (.cells cells q (0,0)))→i.heap[k]?=W.heap[k]?):dZ w0 i g d e:=by
  obtain⟨m,n,hb,hg,hr0,j⟩:=h;exact⟨m,n,(b g (blk_lt hb) (.inl rfl)).trans hb,hg,Kd.R_mono (Kd.R_move (Kd.R_bound hr0) (fun k a=>b k a.2.2.1 (.inr (by obtain⟨q,hq,hc⟩:=a.2.2.2;exact⟨q,by have c:q=9:=(by simpa [Kd.string,Kd.int,Kd.scalar] using hq);subst c;decide,hc⟩)))) (fun _ a=>a.1),Kd.R_mono (Kd.R_move (Kd.R_bound j) (fun k a=>b k a.2.2.1 (.inr (by obtain⟨q,hq,hc⟩:=a.2.2.2;exact⟨q,by have c:q=5:=(by simpa [Kd.string,Kd.int,Kd.scalar] using hq);subst c;decide,hc⟩)))) (fun _ a=>a.1)⟩
theorem dZ.below {w0 W:World} {g:Nat} {a:List ByteArray} {b:List Int} {c:World} (h:dZ w0 W g a b) (d:Below W.heap.size W c):dZ w0 c g a b:=h.same (fun k e _=>d.block k e)
theorem dZ.alloc {w0 W:World} {g:Nat} {a:List ByteArray} {b:List Int} (h:dZ w0 W g a b) (o:Obj):dZ w0 (W.alloc o) g a b:=h.below (Zba (Below.refl _ _) o)
theorem dZ.drewN {w0 W:World} {g:Nat} {a:List ByteArray} {b:List Int} (h:dZ w0 W g a b) (m:Nat):dZ w0 (W.drewN m) g a b:=h.same (fun _ _ _=>rfl)
theorem dZ.drew {w0 W:World} {g:Nat} {a:List ByteArray} {b:List Int} (h:dZ w0 W g a b):dZ w0 W.drew g a b:=h.same (fun _ _ _=>rfl)
theorem dZ.at_ {w0 W:World} {g:Nat} {a:List ByteArray} {b:List Int} {w':World} {m:Nat} (c:W.drewN m=w') (h:dZ w0 W g a b):dZ w0 w' g a b:=by subst c;exact dZ.drewN h m
theorem oL {W:World} {k t q:Nat} {cs b:Array Value} {fr c:Nat×Nat} (h:W.heap[k]?=some (.cells cs t fr)) (a:W.heap[k]?=some (.cells b q c)):t=q:=by
  rw [h] at a;injection a with a;injection a with _ a
theorem dZ.grownT {w0 W:World} {g:Nat} {b:List ByteArray} {d:List Int} {i:World} {a:Option Nat} {e:Nat} (h:dZ w0 W g b d) (o:W.grownBy i a) (j:some g≠a) (p:∀ k,a=some k→∃ cells,W.heap[k]?=some (.cells cells e (0,0))) (r:e ∉ [9,5]):dZ w0 i g b d:=by
  refine h.same (fun k s t=>o.block k s ?_);rintro rfl;obtain⟨c,m⟩:=p k rfl;rcases t with rfl|⟨q,u,v,n⟩
  · exact j rfl
  · exact r ((oL m n) ▸ u)
theorem dZ.apart {w0 W:World} {g:Nat} {a:List ByteArray} {b:List Int} {α:Type} {d:Kd α} {e:Nat} {base:Nat} {ok:Nat→Prop} {v:Value} {xs:List α} (h:dZ w0 W g a b) (c:d.R e W base ok v xs) (i:∀ q,q∈e :: d.E→q≠76):d.R e W base (fun k=>ok k∧k≠g) v xs:=by
  obtain⟨m,n,hb,hg,hr0,j⟩:=h;exact Kd.R_types c hb i
theorem dZ.own_ne {w0 W:World} {g:Nat} {a:List ByteArray} {b:List Int} {α:Type} {d:Kd α} {e:Nat} {base:Nat} {ok:Nat→Prop} {v:Value} {xs:List α} (h:dZ w0 W g a b) (c:d.R e W base ok v xs) (i:e≠76):some g≠v.ownBlock:=by
  obtain⟨k,m,hb,hg,hr0,j⟩:=h;exact Kd.R_ne c hb i
theorem dZ.apartS {w0 W:World} {g:Nat} {a:List ByteArray} {b:List Int} {α:Type} {d:Kd α} {e:Nat} {base:Nat} {ok:Nat→Prop} {v:Value} {xs:List α} (h:dZ w0 W g a b) (c:Kd.S d e W base ok v xs) (i:∀ q,q∈e :: d.E→q≠76):Kd.S d e W base (fun k=>ok k∧k≠g) v xs:=by
  obtain⟨m,n,hb,hg,hr0,j⟩:=h;exact Kd.S_types c hb i
theorem dZ.own_neS {w0 W:World} {g:Nat} {a:List ByteArray} {b:List Int} {α:Type} {d:Kd α} {e:Nat} {base:Nat} {ok:Nat→Prop} {v:Value} {xs:List α} (h:dZ w0 W g a b) (c:Kd.S d e W base ok v xs) (i:e≠76):some g≠v.ownBlock:=by
  obtain⟨k,m,hb,hg,hr0,j⟩:=h;exact Kd.S_ne c hb i
theorem dZ.lt {w0 W:World} {g:Nat} {a:List ByteArray} {b:List Int} (h:dZ w0 W g a b):g < W.heap.size:=by
  obtain⟨d,e,hb,hg,hr0,c⟩:=h;exact blk_lt hb
theorem dZ.ge {w0 W:World} {g:Nat} {a:List ByteArray} {b:List Int} (h:dZ w0 W g a b):w0.heap.size≤g:=by
  obtain⟨d,e,hb,hg,hr0,c⟩:=h;exact hg
theorem dZ.ne_blk {w0 W:World} {g:Nat} {c:List ByteArray} {d:List Int} {a:Nat} {cs:Array Value} {t:TypeId} {fr:Nat×Nat} (h:dZ w0 W g c d) (b:W.heap[a]?=some (.cells cs t fr)) (e:t≠76):g≠a:=by
  obtain⟨j,k,hb,hg,hr0,i⟩:=h;rintro rfl;exact e (oL b hb)
theorem dZ.far {w0 W:World} {g:Nat} {a:List ByteArray} {b:List Int} {p:Addr} {cs:Array Value} {t:TypeId} (h:dZ w0 W g a b) (c:g≠p.block) (d:W.heap[p.block]?=some (.cells cs t (0,0))) (i:t ∉ [9,5]) (u:Value):dZ w0 (W.setCell p u) g a b:=by
  refine h.same (fun k n j=>Below.heap_setCell W p u k ?_);rintro rfl;rcases j with rfl|⟨q,m,o,e⟩
  · exact c rfl
  · exact i ((oL d e) ▸ m)
theorem dZ.mk0 {w0 W:World} {g:Nat}  (a:W.heap[g]?=some (.cells #[.slice none 0 0,.slice none 0 0] 76 (0,0))) (b:w0.heap.size≤g):dZ w0 W g [] []:=⟨_,_,a,b,Kd.R_nil _ _ _ _ _,Kd.R_nil _ _ _ _ _⟩
theorem gV {w0 W:World} {g:Nat} {a:List ByteArray} {b:List Int} (h:dZ w0 W g a b:=by repeat (first|(with_reducible first|(refine Aside0.out ?_;assumption)|apply dZ.alloc|apply dZ.drewN|apply dZ.drew|refine dZ.far ?_ (Aside0.out (by assumption)) eY (by decide) _)|(refine Aside0.out ?_;assumption))):dZ w0 W g a b:=h
theorem yG {w W:World} (h:Below w.heap.size w W:=by repeat (first|(with_reducible first|(refine Aside0.out ?_;assumption)|apply below_alloc|apply pw_below_drewN|apply below_drew1|refine below_set ?_ (Aside0.out (by assumption))|refine below_set ?_ (dZ.ge (Aside0.out (by assumption))))|(refine Aside0.out ?_;assumption))):Below w.heap.size w W:=h
def eU (w W:World) (g:Nat):Prop:=w.heap.size≤W.heap.size∧∀ i,i < w.heap.size→i≠g→(∀ cells q,q∈[9,5]→w.heap[i]?≠some (.cells cells q (0,0)))→W.heap[i]?=w.heap[i]?
theorem eU.refl (w:World) (g:Nat):eU w w g:=⟨Nat.le_refl _,fun _ _ _ _=>rfl⟩
theorem eU.of_below {w w1:World} (h:Below w.heap.size w w1) (g:Nat):eU w w1 g:=⟨h.size,fun i a _ _=>h.block i a⟩
theorem eU.trans {w w1 e:World} {g:Nat} (h:eU w w1 g) (k:eU w1 e g):eU w e g:=
  ⟨Nat.le_trans h.1 k.1,fun i a b d=>(k.2 i (Nat.lt_of_lt_of_le a h.1) b (fun c q j=>by rw [h.2 i a b d];exact d c q j)).trans (h.2 i a b d)⟩
theorem eU.set_ {w w1:World} {g:Nat} (h:eU w w1 g) (j:Nat) (u:Value):eU w (w1.setCell ⟨g,j,none⟩ u) g:=⟨by simpa [World.setCell] using h.1,fun i b a c=>(Below.heap_setCell w1 ⟨g,j,none⟩ u i a).trans (h.2 i b a c)⟩
theorem eU.drewN {w w1:World} {g:Nat} (h:eU w w1 g) (m:Nat):eU w (w1.drewN m) g:=h
theorem eU.drew {w w1:World} {g:Nat} (h:eU w w1 g):eU w w1.drew g:=h
theorem eU.alloc {w w1:World} {g:Nat} (h:eU w w1 g) (o:Obj):eU w (w1.alloc o) g:=h.trans (.of_below (Zba (Below.refl _ _) o) g)
theorem eU.far {w w1:World} {g:Nat} (h:eU w w1 g) {p:Addr} (d:w.heap.size≤p.block) (u:Value):eU w (w1.setCell p u) g:=⟨by simpa [World.setCell] using h.1,fun i a b c=>(Below.heap_setCell w1 p u i (by omega)).trans (h.2 i a b c)⟩
theorem hO {w w1 a:World} {g:Nat} (h0:eU w w1 g:=by exact HK.out) (h:eU w a g:=by repeat (first|(with_reducible first|exact HK.out|apply eU.set_|apply eU.drewN|apply eU.drew|apply eU.alloc|refine eU.far ?_ (Aside0.out (by assumption)) _)|exact HK.out)):eU w a g:=h
theorem eU.size {w w1:World} {g:Nat} (h:eU w w1 g):w.heap.size≤w1.heap.size:=h.1
theorem eU.blk {w w1:World} {g g':Nat} {cs:Array Value} {t:TypeId} {fr:Nat×Nat} (h:eU w w1 g) (a:w.heap[g']?=some (.cells cs t fr)) (b:g'≠g) (d:∀ q,q∈[9,5]→t≠q):w1.heap[g']?=some (.cells cs t fr):=(h.2 g' (blk_lt a) b (fun c q e i=>d q e (oL a i))).trans a
theorem eU.grown {w w1 b:World} {g:Nat} {a:Option Nat} (h:eU w w1 g) (d:w1.grownBy b a) (j:∀ k,a=some k→∃ q,q∈[9,5]∧∃ cells,w1.heap[k]?=some (.cells cells q (0,0))):eU w b g:=
  h.trans ⟨d.size,fun i m o n=>d.block i m (fun e=>by obtain⟨q,hq,c,hc⟩:=j i e.symm;exact n c q hq hc)⟩
def xB {α:Type} (d:Kd α) (e:Nat) (w0 w:World) (g:Nat) (a:List ByteArray) (b:List Int) (v:Value) (xs:List α):Prop:=∃ W,dZ w0 W g a b∧Below W.heap.size W w∧d.R e w W.heap.size (fun _=>True) v xs
theorem xB.mk {α:Type} {d:Kd α} {e:Nat} {w0 W w:World} {g:Nat} {a:List ByteArray} {b:List Int} {v:Value} {xs:List α} (h:dZ w0 W g a b) (c:d.R e w W.heap.size (fun _=>True) v xs) (i:Below W.heap.size W w):xB d e w0 w g a b v xs:=⟨W,h,i,c⟩
def kQ (w0 W:World) (g:Nat) (P:Nat→Prop) (p:List ByteArray) (o:List Int) (a b:Value):Prop:=W.heap[g]?=some (.cells #[a,b] 76 (0,0))∧w0.heap.size≤g∧Kd.R Kd.string 9 W w0.heap.size (fun k=>k≠g∧P k) a p∧Kd.R (Kd.int .u8) 5 W w0.heap.size (fun k=>k≠g∧P k) b o
theorem kQ.is {w0 W:World} {g:Nat} {P:Nat→Prop} {p:List ByteArray} {o:List Int} {b c:Value} (h:kQ w0 W g P p o b c):dZ w0 W g p o:=⟨b,c,h.1,h.2.1,Kd.R_mono h.2.2.1 (fun _ a=>a.1),Kd.R_mono h.2.2.2 (fun _ a=>a.1)⟩
theorem dZ.wv {w0 W:World} {g:Nat} {p:List ByteArray} {o:List Int} (h:dZ w0 W g p o):∃ b c,kQ w0 W g (fun k=>k < W.heap.size) p o b c:=by
  obtain⟨b,c,hb,hg,hr0,d⟩:=h;exact⟨b,c,hb,hg,Kd.R_mono (Kd.R_bound hr0) (fun k a=>⟨a.1,a.2.2.1⟩),Kd.R_mono (Kd.R_bound d) (fun k a=>⟨a.1,a.2.2.1⟩)⟩
theorem kQ.below {w0 W b:World} {g:Nat} {P:Nat→Prop} {p:List ByteArray} {o:List Int} {c d:Value} (h:kQ w0 W g P p o c d) (a:Below W.heap.size W b):kQ w0 b g P p o c d:=⟨Zkb h.1 a,h.2.1,Kd.R_below h.2.2.1 a,Kd.R_below h.2.2.2 a⟩
theorem kQ.mono {w0 W:World} {g:Nat} {P P':Nat→Prop} {p:List ByteArray} {o:List Int} {b c:Value} (h:kQ w0 W g P p o b c) (d:∀ k,P k→P' k):kQ w0 W g P' p o b c:=⟨h.1,h.2.1,Kd.R_mono h.2.2.1 (fun _ a=>⟨a.1,d _ a.2⟩),Kd.R_mono h.2.2.2 (fun _ a=>⟨a.1,d _ a.2⟩)⟩
theorem xB.wv {α:Type} {d:Kd α} {e:Nat} {w0 w:World} {g:Nat} {p:List ByteArray} {o:List Int} {v:Value} {xs:List α} (h:xB d e w0 w g p o v xs):(∃ a b,kQ w0 w g (fun k=>some k≠v.ownBlock) p o a b)∧d.R e w 0 (fun _=>True) v xs:=by
  obtain⟨W,hI,hb,ho⟩:=h;obtain⟨a,b,hw⟩:=hI.wv;refine⟨⟨a,b,(hw.below hb).mono (fun k c e=>?_)⟩,Kd.R_lower ho (Nat.zero_le _)⟩;have:=Kd.R_base ho k e.symm;omega
theorem kQ.app1 {w0 W b:World} {g:Nat} {P:Nat→Prop} {p:List ByteArray} {o m:List Int} {c d u:Value} (h:kQ w0 W g P p o c d) (q:Kd.R (Kd.int .u8) 5 b w0.heap.size (fun k=>k≠g∧P k) u m) (n:W.grownBy b d.ownBlock):b.heap[g]?=some (.cells #[c,d] 76 (0,0))∧kQ w0 (b.setCell ⟨g,1,none⟩ u) g P p m c u:=by
  obtain⟨hb,hge,hr0,i⟩:=h;have j:=blk_grown hb n (Kd.R_ne i hb (by decide));refine⟨j,by simpa using blk_set j 1 u,hge,Kd.R_far (p:=⟨g,1,none⟩) (Kd.R_grown2 hr0 rfl n (fun k a e=>?_)) (fun k a=>a.1) _,Kd.R_far (p:=⟨g,1,none⟩) q (fun k a=>a.1) _⟩;obtain⟨c1,h1⟩:=Kd.R_typed i k a;obtain⟨c2,h2⟩:=Kd.R_typed hr0 k e.symm;exact absurd (oL h1 h2) (by decide)
theorem kQ.app0 {w0 W b:World} {g:Nat} {P:Nat→Prop} {p m:List ByteArray} {o:List Int} {c d u:Value} (h:kQ w0 W g P p o c d) (q:Kd.R Kd.string 9 b w0.heap.size (fun k=>k≠g∧P k) u m) (n:W.grownBy b c.ownBlock):b.heap[g]?=some (.cells #[c,d] 76 (0,0))∧kQ w0 (b.setCell ⟨g,0,none⟩ u) g P m o u d:=by
  obtain⟨hb,hge,hr0,i⟩:=h;have j:=blk_grown hb n (Kd.R_ne hr0 hb (by decide));refine⟨j,by simpa using blk_set j 0 u,hge,Kd.R_far (p:=⟨g,0,none⟩) q (fun k a=>a.1) _,Kd.R_far (p:=⟨g,0,none⟩) (Kd.R_grown2 i rfl n (fun k a e=>?_)) (fun k a=>a.1) _⟩;obtain⟨c1,h1⟩:=Kd.R_typed hr0 k a;obtain⟨c2,h2⟩:=Kd.R_typed i k e.symm;exact absurd (oL h1 h2) (by decide)
theorem kQ.arg {w0 W i:World} {g:Nat} {P:Nat→Prop} {p:List ByteArray} {o:List Int} {t w v u x:Value} {α:Type} {d:Kd α} {e b:Nat} {ok:Nat→Prop} {xs:List α} {j:Nat} (h:kQ w0 W g P p o t w) (m:d.R e W b ok v xs) (n:d.E=[]) (y:e≠76) (z:∀ k,P k→some k≠v.ownBlock) (A:∀ k,u.ownBlock=some k→P k) (r:W.grownBy i u.ownBlock):d.R e (i.setCell ⟨g,j,none⟩ x) b ok v xs:=by
  have h1:d.R e i b ok v xs:=Kd.R_grown2 m n r (fun k a=>z k (A k a))
  have D:i.heap[g]?=W.heap[g]?∨u.ownBlock=some g:=by
    by_cases hh:u.ownBlock=some g
    · exact .inr hh
    · exact .inl (r.block g (blk_lt h.1) (fun e=>hh e.symm))
  refine Kd.R_mono (ok:=fun k=>ok k∧k≠g) (Kd.R_far (p:=⟨g,j,none⟩) ?_ (fun k a=>a.2) x) (fun k a=>a.1);refine Kd.R_flat (fun B=>d.M_mono (fun k a=>by obtain⟨_,_,_,q,hq,_⟩:=a;rw [n] at hq;cases hq) (d.M_bound B)) h1 (fun k a s=>⟨s,?_⟩);rintro rfl;obtain⟨c,hc⟩:=Kd.R_typed m k a;exact y (oL hc h.1)
theorem kQ.str {w0 W a:World} {g:Nat} {P:Nat→Prop} {p:List ByteArray} {o b:List Int} {i d u:Value} (h:kQ w0 W g P p o i d) (j:a.ownsRow w0.heap.size 5 1 u b.length (nums .u8 b)) (m:W.grownBy a d.ownBlock):a.heap[g]?=some (.cells #[i,d] 76 (0,0))∧dZ w0 (a.setCell ⟨g,1,none⟩ u) g p b:=by
  obtain⟨hb,hge,hr0,e⟩:=h;have n:=blk_grown hb m (Kd.R_ne e hb (by decide))
  have q:Kd.R (Kd.int .u8) 5 a w0.heap.size (fun k=>k≠g∧True) u b:=Kd.R_of_own j (fun k r=>⟨by
    rintro rfl;obtain⟨c,hc⟩:=own_typed j k r;exact absurd (oL hc n) (by decide),trivial⟩)
  obtain⟨h1,h2⟩:=(kQ.mono (P':=fun _=>True) ⟨hb,hge,hr0,e⟩ (fun _ _=>trivial)).app1 q m;exact⟨h1,h2.is⟩
theorem vU {w W:World} {g a:Nat} (b:a=W.heap.size) (h:eU w W g:=by exact hO):Aside0 (w.heap.size≤a):=⟨b ▸ h.size⟩
theorem wJ {w0 W:World} {g a:Nat} {d:World} {b:List ByteArray} {c:List Int} (e:a=W.heap.size) (i:Aside0 (dZ w0 d g b c):=by assumption) (h:dZ w0 W g b c:=by exact gV):Aside0 (g≠a):=⟨e ▸ Nat.ne_of_lt (dZ.lt h)⟩
theorem iC {W a w1:World} [Nonempty (Pl W a)] {g g':Nat} {cs:Array Value} {t:TypeId} {fr:Nat×Nat} (h:Aside0 (W.heap[g']?=some (.cells cs t fr))) (b:Aside0 (g'≠g)) (c:eU a w1 g) (d:∀ q,q∈[9,5]→t≠q:=by decide):Aside0 (w1.heap[g']?=some (.cells cs t fr)):=⟨eU.blk c (pk h.out) b.out d⟩
theorem sD {W w1:World} {g:Nat} (g':Nat) (cs:Array Value) (t:TypeId) (a:Aside0 (g'≠g)) (b:eU W w1 g) (h:W.heap[g']?=some (.cells cs t (0,0)):=by exact eY) (c:∀ q,q∈[9,5]→t≠q:=by decide):Aside0 (w1.heap[g']?=some (.cells cs t (0,0))):=⟨eU.blk b h a.out c⟩
def bA.f (b:List ByteArray) (a:List Int) (c:Int):Option (List ByteArray×List Int):=if a.length < 1099511627776 then some (b,a++[c % 256]) else none
theorem bA.calls (g:Nat) (o:List ByteArray) (d:List Int) (c:Int) (r1:List ByteArray) (r:List Int) (w0 w:World) (s:dZ w0 w g o d) (t:Below w0.heap.size w0 w) (h:bA.f o d c=some (r1,r)):
 Calls Tryz.prog 150 #[.pointer (some ⟨g,0,none⟩),.int .i64 c] w fun e w'=>e=.returned (.tuple #[])∧dZ w0 w' g r1 r∧Below w0.heap.size w0 w'∧eU w w' g:=by
 have G:=Tryz.underlying72;have I:=Tryz.underlying76;unfold bA.f at h;replace h:=jQ h;obtain⟨hl,h⟩:=h;simp only [Option.some.injEq,Prod.mk.injEq] at h;obtain⟨rfl,rfl⟩:=h;obtain⟨K,B,hw⟩:=s.wv;have a:=Zm hw;have D:=Zm hl;have m:=Zm t;clear s t hw hl;have p:=pS a.out.1;obtain⟨y,hy⟩:∃ y:List Int,y=d++[c % 256]:=⟨_,rfl⟩;rw [← hy];have E:=Zm hy;clear hy;go_enter Tryz.func150,Tryz.ntmps150;go_wp2_with (first|(at_builtin;refine Kd.R_append (Kd.int .u8) (w0:=w0) w0.heap.size rfl (.tmp 8) (.tmp 11) 22 5 (.int .u8 0) 1 rfl Tryz.underlying22 info5 rfl (by decide) (by omega) B d (c % 256) [.int .u8 (c % 256)] (fun k=>k≠g∧True) (fun _=>False) rfl rfl ?aP (fun _ b=>b.elim) ?aF ?aO ?aB ?aS ?aL ?_;(case aP=>exact rfl);(case aF=>exact fun k b=>⟨fun L=>by have:=blk_lt a.out.1;omega,trivial⟩);(case aO=>exact Kd.R_mono a.out.2.2.2 (fun _ b=>⟨b.1,trivial⟩));(case aB=>exact m.out);(case aS=>exact m.out.size);(case aL=>have:=D.out;omega);intro u1 w1 i u n v;rw [← E.out] at i;obtain⟨Ao,co,eo⟩:=Kd.R_slice i;subst eo;obtain⟨j,q⟩:=(a.out.mono (P':=fun _=>True) (fun _ _=>trivial)).app1 i n;have x:=Zm q;have z:=Zm ((eU.grown (eU.refl w g) n (fun k b=>⟨5,by decide,Kd.R_typed a.out.2.2.2 k b⟩)).set_ 1 (.slice Ao y.length co));have A:=Zm (Zbs u a.out.2.1:Below w0.heap.size w0 (w1.setCell ⟨g,1,none⟩ (.slice Ao y.length co)));clear i u n v q a m p;have p:=pS j;have J:=Zkf j 1;clear j));go_end0;exact⟨rfl,x.out.is,A.out,z.out⟩
def nF (t:ByteArray):List ByteArray→Int→Option Int
 | [],_=>none
 | x :: l,i=>if x.toList=t.toList then some i else nF t l (wrap64 (i+1))
def bG.f (a:List ByteArray) (c:List Int) (b:ByteArray):Option (List ByteArray×List Int):=if a.length < 1099511627776 then (match nF b a 0 with|some i=>bA.f a c i|none=>bA.f (a++[b]) c (wrap64 (((a++[b]).length:Int) - 1))) else none
theorem bG.calls (g:Nat) (b:List ByteArray) (B:List Int) (d:ByteArray) (r1:List ByteArray) (P:List Int) (w0 w:World) (T:dZ w0 w g b B) (U:Below w0.heap.size w0 w) (h:bG.f b B d=some (r1,P)):
 Calls Tryz.prog 149 #[.pointer (some ⟨g,0,none⟩),.string d] w fun e w'=>e=.returned (.tuple #[])∧dZ w0 w' g r1 P∧Below w0.heap.size w0 w'∧eU w w' g:=by
 have af:=Tryz.underlying72;have ag:=Tryz.underlying76;unfold bG.f at h;replace h:=jQ h;obtain⟨L,h⟩:=h;obtain⟨r,n,s⟩:=T.wv;have c:=Zm (s.mono (P':=fun _=>True) (fun _ _=>trivial));have W:=Zm L;have j:=Zm U;have HK:=Zm (eU.refl w g);have X:=Zm h;clear T U s L h;go_enter Tryz.func149,Tryz.ntmps149;go_wp2;go_loopg [4] (b.length+1) (fun kq v4 w'=>∃ (a:Int) (r n:Value),v4=.int .i64 a∧Aside0 (0≤a∧(a≤(b.length:Int)∧a+kq=b.length+1)∧nF d b 0=nF d (b.drop a.toNat) a)∧Aside0 (kQ w0 w' g (fun _=>True) b B r n)∧Aside0 (Below w0.heap.size w0 w')∧Aside0 (eU w w' g))
 case atStart=>exact⟨0,r,n,rfl,⟨Int.le_refl _,⟨by omega,by omega⟩,rfl⟩,c,j,HK⟩
 case round=>
  clear c j HK r n;obtain⟨a,r,n,rfl,HX,c,j,HK⟩:=hrel;have o:=HX.out.1;obtain⟨Ap,cp,ep⟩:=Kd.R_slice c.out.2.2.1;subst ep;have q:wr.cell? ⟨g,0,none⟩=some (.slice Ap b.length cp)∧wr.cell? ⟨g,1,none⟩=some n:=pS c.out.1
  cases gk with
  | zero=>exact absurd HX.out.2.1 (by omega)
  | succ k1=>
   by_cases hx:a < (b.length:Int);rotate_left
   · have c0:=decide_eq_false hx;have Y:b.drop a.toNat=[]:=List.drop_of_length_le (by omega);have H:=X.out;rw [HX.out.2.2,Y] at H;simp only [nF] at H;obtain⟨z,hy_⟩:∃ y:List ByteArray,y=b++[d]:=⟨_,rfl⟩;rw [← hy_] at H;have aa:=Zm hy_;clear hy_;have M:=Zm H;clear H hx o;go_wp2_with (first|(at_builtin;refine Kd.R_append Kd.string (w0:=w0) w0.heap.size rfl (.tmp 30) (.tmp 32) 74 9 (.string ⟨#[]⟩) 16 rfl Tryz.underlying74 info9 rfl (by decide) (by omega) (.slice Ap b.length cp) b d [.string d] (fun k=>k≠g∧True) (fun _=>False) rfl rfl ?aP (fun _ i=>i.elim) ?aF ?aO ?aB ?aS ?aL ?_;(case aP=>exact rfl);(case aF=>exact fun k i=>⟨fun Y=>by have:=blk_lt c.out.1;omega,trivial⟩);(case aO=>exact c.out.2.2.1);(case aB=>exact j.out);(case aS=>exact j.out.size);(case aL=>have:=W.out;omega);intro u1 Z ho m hg ab;rw [← aa.out] at ho;obtain⟨Aq,cq,eo⟩:=Kd.R_slice ho;subst eo;obtain⟨D,O⟩:=c.out.app0 ho hg;have x:=Zm O;have E:=Zm ((eU.grown HK.out hg (fun k i=>⟨9,by decide,Kd.R_typed c.out.2.2.1 k i⟩)).set_ 0 (.slice Aq z.length cq));have G:=Zm (Zbs m c.out.2.1:Below w0.heap.size w0 (Z.setCell ⟨g,0,none⟩ (.slice Aq z.length cq)));clear ho m hg ab O c HK j q;have q:=pS D;have ac:=Zkf D 0;clear D)|((with_reducible refine gate_store (t:=74) (p:=35) rfl ?_);refine store_event (t:=74) (p:=35) (v:=?vo) (w1:=(Z.setCell ⟨g,0,none⟩ (.slice Aq z.length cq))) ?hg ?ho ?hn ?hr ?_;(case ho=>rfl);(case hg=>rfl);(case hn=>rfl);(case hr=>exact jZ);intro w5 s;rw [← s] at x E G;clear s q ac;have q:=pS x.out.1)|((with_reducible refine gk_ 150 rfl ?_);refine gW (some 43) Tryz.func150 #[.pointer (some ⟨g,0,none⟩),.int .i64 (wrap64 ((z.length:Int) - 1))] ?_;refine eV (bA.calls g _ _ _ _ _ w0 _ x.out.is G.out M.out) ?_;rintro e w6 ⟨rfl,u,m,i⟩;refine⟨_,rfl,?_⟩;have I:=Zm u;have J:=Zm m;have K:=Zm (E.out.trans i);clear u m i q x G E))
     first|go_end0|((try simp only [Exit.inBlock,Exit.then]);refine bodyPost_ret (results_none rfl _ _ _) rfl ?_)
     exact⟨rfl,I.out,J.out,K.out⟩
   have c0:=decide_eq_true hx;obtain⟨ad,eA,ah⟩:=Kd.at_string (Kd.R_reads' c.out.2.2.1).2.2 a o hx;cases eA;have p0:=eq_true o;have q0:=eq_true hx;have hd:nF d b 0=if (rdOf ByteArray.empty b a).toList=d.toList then some a else nF d (b.drop (a+1).toNat) (wrap64 (a+1)):=by rw [HX.out.2.2,oR o hx];rfl
   have HP:=Zm o;have HQ:=Zm hx;have ND:=Zm hd;clear o hx hd;by_cases ht:(rdOf ByteArray.empty b a).toList=d.toList
   · have ae:((rdOf ByteArray.empty b a).toList == d.toList)=true:=beq_iff_eq.mpr ht;have H:=X.out;rw [ND.out,if_pos ht] at H;dsimp only at H;have M:=Zm H;clear H ht;go_wp2_with (first|((with_reducible refine gk_ 150 rfl ?_);refine gW (some 25) Tryz.func150 #[.pointer (some ⟨g,0,none⟩),.int .i64 a] ?_;refine eV (bA.calls g _ _ _ _ _ w0 _ c.out.is j.out M.out) ?_;rintro e w6 ⟨rfl,u,m,i⟩;refine⟨_,rfl,?_⟩;have I:=Zm u;have J:=Zm m;have K:=Zm (HK.out.trans i);clear u m i q c j HK))
     first|go_end0|((try simp only [Exit.inBlock,Exit.then]);refine bodyPost_ret (results_none rfl _ _ _) rfl ?_)
     exact⟨rfl,I.out,J.out,K.out⟩
   have ae:((rdOf ByteArray.empty b a).toList == d.toList)=false:=beq_eq_false_iff_ne.mpr ht;have NT:=Zm ht;clear ht;go_wp2;go_roundg k1
   case measure=>omega
   case rel=>
    have hq:=HQ.out;have hp:=HP.out;have L:=HX.out.2.1;have hL:=W.out;have A:wrap64 (a+1)=a+1:=by unfold wrap64;omega
    exact⟨wrap64 (a+1),_,n,rfl,⟨by rw [A];omega,⟨by rw [A];omega,by rw [A];omega⟩,by rw [ND.out,if_neg NT.out,A]⟩,c,j,HK⟩
def cZ.j0:Nat→Bool→Bool→Int→Option (Int)
 | 0,_,_,_=>none
 | k+1,c,b,a=>if c=true then (if b=true then (some (wrap64 ((wrap64 (a+2))+4))) else (some (wrap64 (a+2)))) else (if b=true then (some (wrap64 (a+4))) else (some a))
def cZ.f (k:Nat) (c:Bool) (a:Bool) (b:Bool):Option (Int):=if c=true then (cZ.j0 k a b 1) else (cZ.j0 k a b 0)
theorem cZ.mono_l:∀ k,(∀ a b c,LeO (cZ.j0 k a b c) (cZ.j0 (k+1) a b c))
 | 0=>by intros;intro r h;simp [cZ.j0] at h
 | k+1=>by
  have ih0:=cZ.mono_l k;intros;unfold cZ.j0;exact mT
theorem cZ.mono:∀ a b c k,LeO (cZ.f k a b c) (cZ.f (k+1) a b c):=by
 intro a b c k;have ih0:=cZ.mono_l k;unfold cZ.f;exact mT
theorem cZ.calls (k:Nat) (m:Bool) (d:Bool) (i:Bool) (r:Int) (w:World) (h:cZ.f k m d i=some r):
 Calls Tryz.prog 151 #[.bool m,.bool d,.bool i] w fun e w'=>e=.returned (.int .i64 r)∧Drawn0 w w':=by
 have H:=h;clear h;unfold cZ.f at H;have c:=Zm H;clear H;go_enter Tryz.func151,Tryz.ntmps151;go_upto_if 8 with (fail);go_cut [7] (fun n wc=>∃ (a:Nat) (b:Int),n=.int .i64 b∧Aside0 (cZ.j0 a d i b=some r)∧Aside0 (a≤k)∧Drawn0 w wc)
 case first=>
  have H:=c.out;clear c;replace H:=fM H;rcases H with ⟨rfl,H⟩|⟨rfl,H⟩
  · have j:=Zm H;clear H;go_wp2;go_meet
    case rel=>exact⟨_,(0),dX,j,⟨kU⟩,pD⟩
  have j:=Zm H;clear H;go_wp2;go_meet
  case rel=>exact⟨_,(1),dX,j,⟨kU⟩,pD⟩
 case rest=>
  clear c;obtain⟨a,b,rfl,HA,o,⟨p,rfl⟩⟩:=hcut
  cases a with
  | zero=>exact absurd HA.out (by simp [cZ.j0])
  | succ q=>
   have H:=HA.out;clear HA;simp only [cZ.j0] at H;replace H:=fM H;rcases H with ⟨rfl,H⟩|⟨rfl,H⟩
   · replace H:=fM H;rcases H with ⟨rfl,H⟩|⟨rfl,H⟩
     · obtain rfl:=Option.some.inj H;go_wp2;go_ret;exact jH
     obtain rfl:=Option.some.inj H;go_wp2;go_ret;exact jH
   replace H:=fM H;rcases H with ⟨rfl,H⟩|⟨rfl,H⟩
   · obtain rfl:=Option.some.inj H;go_wp2;go_ret;exact jH
   obtain rfl:=Option.some.inj H;go_wp2;go_ret;exact jH
def kM.f (a:Int):Option (ByteArray):=(fU.f a).bind fun b=>(if b=true then (some (strOfNums (([((a) % 4294967296) / 16777216,(((a) % 4294967296) / 65536) % 256,(((a) % 4294967296) / 256) % 256,((a) % 4294967296) % 256]:List Int)))) else (some (⟨#[]⟩:ByteArray)))
theorem kM.calls (a:Int) (r:ByteArray) (w:World) (h:kM.f a=some r):
 Calls Tryz.prog 197 #[.int .i64 a] w fun e w'=>e=.returned (.string r)∧Below w.heap.size w w':=by
 have c:=Zm (Below.refl w.heap.size w);have H:=h;clear h;unfold kM.f at H;replace H:=cU H;obtain⟨t,p,H⟩:=H;have i:=Zm H;clear H;go_enter Tryz.func197,Tryz.ntmps197;go_upto_if 6 with (first|((with_reducible refine gk_ 196 rfl ?_);refine gW (some 5) Tryz.func196 #[.int .i64 a] ?_;(with_reducible refine(fU.calls _ _ _ p.out).mono ?_);rintro e w' ⟨rfl,⟨x,rfl⟩⟩;refine⟨_,rfl,?_⟩));have H:=i.out;clear i;replace H:=fM H;rcases H with ⟨rfl,H⟩|⟨rfl,H⟩
 · obtain rfl:=Option.some.inj H;go_wp2;go_ret;exact bU c
 obtain⟨n,hy_⟩:∃ q:List Int,q=(([((a) % 4294967296) / 16777216,(((a) % 4294967296) / 65536) % 256,(((a) % 4294967296) / 256) % 256,((a) % 4294967296) % 256]:List Int)):=⟨_,rfl⟩;replace H:(some (strOfNums n))=some r:=mE
 have d:=Zm hy_;clear hy_;obtain rfl:=Option.some.inj H;go_wp2_with (first|((with_reducible refine gd_ 20 rfl ?_);refine Kd.R_lit (Kd.int .u8) _ 5 ?hg (N:=20) ?hd (xs:=([((a) % 4294967296) / 16777216,(((a) % 4294967296) / 65536) % 256,(((a) % 4294967296) / 256) % 256,((a) % 4294967296) % 256]:List Int)) (inner:=[.int .u8 (((a) % 4294967296) / 16777216),.int .u8 ((((a) % 4294967296) / 65536) % 256),.int .u8 ((((a) % 4294967296) / 256) % 256),.int .u8 (((a) % 4294967296) % 256)]) (ok:=fun _=>True) (okp:=fun _=>True) ?hr ?hp (fun _ s=>s) trivial (Below.refl _ _) (Nat.le_refl _) (by simp) ?_;(case hd=>rfl);(case hg=>rfl);(case hr=>exact jZ);(case hp=>exact(Reps.one (show Kd.M (Kd.int .u8) _ _ _ (((a) % 4294967296) / 16777216) [.int .u8 (((a) % 4294967296) / 16777216)] from rfl) (Reps.one (show Kd.M (Kd.int .u8) _ _ _ ((((a) % 4294967296) / 65536) % 256) [.int .u8 ((((a) % 4294967296) / 65536) % 256)] from rfl) (Reps.one (show Kd.M (Kd.int .u8) _ _ _ ((((a) % 4294967296) / 256) % 256) [.int .u8 ((((a) % 4294967296) / 256) % 256)] from rfl) (Reps.one (show Kd.M (Kd.int .u8) _ _ _ (((a) % 4294967296) % 256) [.int .u8 (((a) % 4294967296) % 256)] from rfl) (Reps.none _ _))))));intro u y b j o k;clear o k;(first|rw [← d.out] at b|(simp only [Int.reduceToNat] at b;rw [← d.out] at b));have m:=Zm (Kd.R_lower b (Zbz (bk c.out)));replace c:=dJ c j;clear j b;have v:=own_string (P:=Tryz.prog) Tryz.underlying22 Tryz.underlying5 Tryz.underlying9 (Kd.own_of_R m.out)));go_ret;exact bU c
def dI.f (k:Nat) (i:List ByteArray) (j:List Int) (d a:Int) (b e c:ByteArray):Option (List ByteArray×List Int):=(bA.f i j d).bind fun p=>((cO.f k d).bind fun t=>if t.toList=([110]:List UInt8) then ((kM.f a).bind fun s=>if p.2.length+s.size≤1099511627776 then some (p.1,p.2++bytesOf s) else none) else if t.toList=([105]:List UInt8) then bA.f p.1 p.2 a else if t.toList=([116]:List UInt8) then bA.f p.1 p.2 a else if t.toList=([99]:List UInt8) then bG.f p.1 p.2 b else if t.toList=([121]:List UInt8) then bG.f p.1 p.2 c else if t.toList=([102]:List UInt8) then (bG.f p.1 p.2 b).bind fun p=>((bG.f p.1 p.2 e).bind fun p=>bG.f p.1 p.2 c) else if t.toList=([109]:List UInt8) then (bG.f p.1 p.2 b).bind fun p=>((bG.f p.1 p.2 e).bind fun p=>bG.f p.1 p.2 c) else some p)
def dI.T4:Bool×List (List Nat×List Nat):=(true,[([],[]),([],[]),([1],[1]),([2],[2]),([3],[3]),([],[]),([5],[5]),([6],[6]),([4,7,7],[4,7]),([0,0,1,2,3,4,5,6,7,8],[0]),([9,0,1,2,3,4,5,6,7,8],[9]),([10,8,8,0,1,2,3,4,5,6,7,8],[8,10])])
def dI.B4:List Nat:=[0,0,2,6,14,0,32,96,254,511,1023,2047]
theorem dI.tab4:rtab .any (opsOf Tryz.f152 4)=dI.T4:=by kernel_rfl
theorem dI.bits4:waitsOk dI.T4.2 dI.B4=true:=by kernel_rfl
theorem dI.calls (k:Nat) (g:Nat) (X:List ByteArray) (Y:List Int) (G z:Int) (A I B:ByteArray) (r1:List ByteArray) (r2:List Int) (w0 w:World) (hI:dZ w0 w g X Y) (hB:Below w0.heap.size w0 w) (h:dI.f k X Y G z A I B=some (r1,r2)):
 Calls Tryz.prog 152 #[.pointer (some ⟨g,0,none⟩),.agg #[.int .i64 G,.int .i64 z,.string A,.string I,.string B]] w fun e w'=>e=.returned (.tuple #[])∧dZ w0 w' g r1 r2∧Below w0.heap.size w0 w'∧eU w w' g:=by
 have ap:=Tryz.underlying72;have aq:=Tryz.underlying76;have ao:=Tryz.underlying159;unfold dI.f at h;replace h:=cU h;obtain⟨⟨p,o⟩,A2,h⟩:=h;replace h:=cU h;obtain⟨t,A3,h⟩:=h;dsimp only at h;have j:=Zm hI;have d:=Zm hB;have HK:=Zm (eU.refl w g);have HH:=Zm h;clear hI hB h;go_enter Tryz.func152,Tryz.ntmps152;go_upto_if 11 with (first|((with_reducible refine gd_ 3 rfl ?_);refine fQ 3 159 #[.int .i64 G,.int .i64 z,.string A,.string I,.string B] ?_;intro gb D w1 M a;replace j:=Zm (j.out.below a);replace d:=dJ d a;replace HK:=Zm (HK.out.trans (.of_below a g));have b:=Zm M;have x:=Zm ((j.out.ne_blk M (by decide)).symm);clear D M a;have q:=hY b.out)|((with_reducible refine gk_ 150 rfl ?_);refine gW (some 7) Tryz.func150 #[.pointer (some ⟨g,0,none⟩),.int .i64 G] ?_;refine eV (bA.calls g _ _ _ _ _ w0 _ j.out d.out A2.out) ?_;rintro e w3 ⟨rfl,m,a,c⟩;refine⟨_,rfl,?_⟩;replace j:=Zm m;replace b:=Zm (c.blk b.out x.out (by decide));replace d:=Zm a;replace HK:=Zm (HK.out.trans c);clear m a c q;have q:=hY b.out)|((with_reducible refine gk_ 143 rfl ?_);refine gW (some 10) Tryz.func143 #[.int .i64 G] ?_;refine eV (cO.calls _ _ _ _ A3.out) ?_;rintro e w4 ⟨rfl,a⟩;refine⟨_,rfl,?_⟩;replace j:=Zm (j.out.below a);replace b:=kb b a;replace d:=dJ d a;replace HK:=Zm (HK.out.trans (.of_below a g));clear a q;have q:=hY b.out));have H:=HH.out;clear HH;replace H:=fB H;rcases H with ⟨c1,O,ab,H⟩|⟨c1,O,ab,H⟩;rotate_left
 · clear c1;rw [O];replace H:=cU H;obtain⟨s,r,H⟩:=H;replace H:=jQ H;obtain⟨hl,H⟩:=H;simp only [Option.some.injEq,Prod.mk.injEq] at H;obtain⟨rfl,rfl⟩:=H;have HL:=Zm hl;clear hl;obtain⟨v0,J,hw⟩:=j.out.wv;have v:=Zm hw;clear hw j;go_upto_region 4 with (fail);have Z:w4.cell? ⟨g,1,none⟩=some J:=(Zkc v.out.1 1).trans rfl;refine start_ (n:=12) (S:=fun w'=>w'.cell? ⟨gb,1,none⟩=some (.int .i64 z)∧w'.cell? ⟨g,1,none⟩=some J) (ds:=[11]) #[false,false,false,false,false,false,false,false,false,false,false,false] (by kernel_rfl) rfl rfl ⟨q.2.1,Z⟩ (fun hHeld=>?_);refine with_tabW dI.tab4 dI.bits4 (fun HT_ HW_=>?_);replace v:=Zm (v.out.below (below_drew (Below.refl _ _)));replace b:=Zm (Zkd b.out);replace d:=Zm (Zbd d.out);replace HK:=Zm (HK.out.drew);clear q Z;generalize w4.drew=E at v b d HK hHeld ⊢;refine eG 0 13 ?_;refine eG 1 14 ?_;refine eG 2 15 ?_;refine eG 3 16 ?_;refine eG 5 18 ?_;refine kO 4 17 ?_;refine kO 6 19 ?_;refine one_ (i:=7) (N:=some 20) #[true,true,true,true,true,true,true,true,false,false,false,false] rfl rfl (one_of HT_.out (by kernel_rfl)) (by decide) (fun K y=>?_);refine goes_ Tryz.func197 (by kernel_rfl) rfl #[.int .i64 z] (by rfl) rfl rfl (by (try simp only [List.map_toArray,List.map_cons,List.map_nil]);first|rfl|(simp only [List.length_drop,List.length_take];rfl)) ?_;refine eV (kM.calls _ _ _ r.out) ?_;rintro e w6 ⟨rfl,a⟩;refine⟨_,rfl,?_⟩;replace v:=Zm (v.out.below a);replace b:=kb b a;replace d:=dJ d a;replace HK:=Zm (HK.out.trans (.of_below a g));clear a;refine y.out _ _ ⟨(Zkc b.out 1).trans rfl,(Zkc v.out.1 1).trans rfl⟩ (fun hHeld=>?_);clear y K;refine kR 20 ?_;refine one_ (i:=8) (N:=some 21) #[true,true,true,true,true,true,true,true,true,false,false,false] rfl rfl (one_of HT_.out (by kernel_rfl)) (by decide) (fun K y=>?_);refine sN (w0:=w0) w0.heap.size (by rfl) (.tmp 17) (.tmp 20) 22 9 5 rfl Tryz.underlying22 Tryz.underlying9 info5 J o s rfl rfl (Kd.own_of_R v.out.2.2.2) d.out d.out.size (by have:=HL.out;omega) ?_;intro u L T a D;obtain⟨Ao,co,eo,_⟩:=own_reads T;subst eo;obtain⟨P,m⟩:=v.out.str T D;have aa:some gb≠J.ownBlock:=Kd.R_ne v.out.2.2.2 b.out (by decide);replace b:=Zm (blk_grown b.out D aa);have j:=Zm m;replace HK:=Zm ((eU.grown HK.out D (fun k c=>⟨5,by decide,Kd.R_typed v.out.2.2.2 k c⟩)).set_ 1 (.slice Ao (o++bytesOf s).length co));replace d:=Zm (Zbs a v.out.2.1:Below w0.heap.size w0 (L.setCell ⟨g,1,none⟩ (.slice Ao (o++bytesOf s).length co)));clear m T a D aa v;refine y.out _ _ ⟨(Zkc b.out 1).trans rfl,(Zkc P 1).trans rfl⟩ (fun hHeld=>?_);clear y K;refine kR 21 ?_;refine eG 9 22 ?_;refine eG 10 23 ?_;refine last_ (i:=11) (N:=none) #[true,true,true,true,true,true,true,true,true,true,true,true] rfl rfl (one_of HT_.out (by kernel_rfl)) (by decide) (fun K y=>?_);have hs:L.cell? ⟨g,1,none⟩=some J:=(Zkc P 1).trans rfl;have hf:=Zkf P 1;refine skip_ (w1:=L.setCell ⟨g,1,none⟩ (.slice Ao (o++bytesOf s).length co)) (by rfl) rfl jZ ?_;refine y.out _ _ ?_;clear y K;refine done_ (done_of HT_.out (by kernel_rfl)) ?_;try go_wp2
   go_end0;exact⟨rfl,j.out,d.out,HK.out⟩
 rw [O];replace H:=fB H;rcases H with ⟨c2,ac,ad,H⟩|⟨c2,ac,ad,H⟩;rotate_left
 · clear c2;have r:=Zm H;clear H;go_wp2_with (first|((with_reducible refine gk_ 150 rfl ?_);refine gW (some 30) Tryz.func150 #[.pointer (some ⟨g,0,none⟩),.int .i64 z] ?_;refine eV (bA.calls g _ _ _ _ _ w0 _ j.out d.out r.out) ?_;rintro e E ⟨rfl,m,a,c⟩;refine⟨_,rfl,?_⟩;replace j:=Zm m;replace b:=Zm (c.blk b.out x.out (by decide));replace d:=Zm a;replace HK:=Zm (HK.out.trans c);clear m a c q;have q:=hY b.out));go_end0;exact⟨rfl,j.out,d.out,HK.out⟩
 replace H:=fB H;rcases H with ⟨c3,ae,af,H⟩|⟨c3,ae,af,H⟩;rotate_left
 · clear c3;have r:=Zm H;clear H;go_wp2_with (first|((with_reducible refine gk_ 150 rfl ?_);refine gW (some 30) Tryz.func150 #[.pointer (some ⟨g,0,none⟩),.int .i64 z] ?_;refine eV (bA.calls g _ _ _ _ _ w0 _ j.out d.out r.out) ?_;rintro e E ⟨rfl,m,a,c⟩;refine⟨_,rfl,?_⟩;replace j:=Zm m;replace b:=Zm (c.blk b.out x.out (by decide));replace d:=Zm a;replace HK:=Zm (HK.out.trans c);clear m a c q;have q:=hY b.out));go_end0;exact⟨rfl,j.out,d.out,HK.out⟩
 replace H:=fB H;rcases H with ⟨c4,ag,ah,H⟩|⟨c4,ag,ah,H⟩;rotate_left
 · clear c4;have r:=Zm H;clear H;go_wp2_with (first|((with_reducible refine gk_ 149 rfl ?_);refine gW (some 36) Tryz.func149 #[.pointer (some ⟨g,0,none⟩),.string A] ?_;refine eV (bG.calls g _ _ _ _ _ w0 _ j.out d.out r.out) ?_;rintro e E ⟨rfl,m,a,c⟩;refine⟨_,rfl,?_⟩;replace j:=Zm m;replace b:=Zm (c.blk b.out x.out (by decide));replace d:=Zm a;replace HK:=Zm (HK.out.trans c);clear m a c q;have q:=hY b.out));go_end0;exact⟨rfl,j.out,d.out,HK.out⟩
 replace H:=fB H;rcases H with ⟨c5,ai,aj,H⟩|⟨c5,ai,aj,H⟩;rotate_left
 · clear c5;have r:=Zm H;clear H;go_wp2_with (first|((with_reducible refine gk_ 149 rfl ?_);refine gW (some 42) Tryz.func149 #[.pointer (some ⟨g,0,none⟩),.string B] ?_;refine eV (bG.calls g _ _ _ _ _ w0 _ j.out d.out r.out) ?_;rintro e E ⟨rfl,m,a,c⟩;refine⟨_,rfl,?_⟩;replace j:=Zm m;replace b:=Zm (c.blk b.out x.out (by decide));replace d:=Zm a;replace HK:=Zm (HK.out.trans c);clear m a c q;have q:=hY b.out));go_end0;exact⟨rfl,j.out,d.out,HK.out⟩
 replace H:=fB H;rcases H with ⟨c6,ak,al,H⟩|⟨c6,ak,al,H⟩;rotate_left
 · clear c6;replace H:=cU H;obtain⟨⟨p1,o1⟩,r,H⟩:=H;dsimp only at H;replace H:=cU H;obtain⟨⟨p2,o2⟩,U,H⟩:=H;dsimp only at H;have W:=Zm H;clear H;go_wp2_with (first|((with_reducible refine gk_ 149 rfl ?_);refine gW (some 49) Tryz.func149 #[.pointer (some ⟨g,0,none⟩),.string A] ?_;refine eV (bG.calls g _ _ _ _ _ w0 _ j.out d.out r.out) ?_;rintro e E ⟨rfl,m,a,c⟩;refine⟨_,rfl,?_⟩;replace j:=Zm m;replace b:=Zm (c.blk b.out x.out (by decide));replace d:=Zm a;replace HK:=Zm (HK.out.trans c);clear m a c q;have q:=hY b.out)|((with_reducible refine gk_ 149 rfl ?_);refine gW (some 53) Tryz.func149 #[.pointer (some ⟨g,0,none⟩),.string I] ?_;refine eV (bG.calls g _ _ _ _ _ w0 _ j.out d.out U.out) ?_;rintro e w6 ⟨rfl,m,a,c⟩;refine⟨_,rfl,?_⟩;replace j:=Zm m;replace b:=Zm (c.blk b.out x.out (by decide));replace d:=Zm a;replace HK:=Zm (HK.out.trans c);clear m a c q;have q:=hY b.out)|((with_reducible refine gk_ 149 rfl ?_);refine gW (some 57) Tryz.func149 #[.pointer (some ⟨g,0,none⟩),.string B] ?_;refine eV (bG.calls g _ _ _ _ _ w0 _ j.out d.out W.out) ?_;rintro e L ⟨rfl,m,a,c⟩;refine⟨_,rfl,?_⟩;replace j:=Zm m;replace b:=Zm (c.blk b.out x.out (by decide));replace d:=Zm a;replace HK:=Zm (HK.out.trans c);clear m a c q;have q:=hY b.out));go_end0;exact⟨rfl,j.out,d.out,HK.out⟩
 replace H:=fB H;rcases H with ⟨c7,am,an,H⟩|⟨c7,am,an,H⟩;rotate_left
 · clear c7;replace H:=cU H;obtain⟨⟨p1,o1⟩,r,H⟩:=H;dsimp only at H;replace H:=cU H;obtain⟨⟨p2,o2⟩,U,H⟩:=H;dsimp only at H;have W:=Zm H;clear H;go_wp2_with (first|((with_reducible refine gk_ 149 rfl ?_);refine gW (some 49) Tryz.func149 #[.pointer (some ⟨g,0,none⟩),.string A] ?_;refine eV (bG.calls g _ _ _ _ _ w0 _ j.out d.out r.out) ?_;rintro e E ⟨rfl,m,a,c⟩;refine⟨_,rfl,?_⟩;replace j:=Zm m;replace b:=Zm (c.blk b.out x.out (by decide));replace d:=Zm a;replace HK:=Zm (HK.out.trans c);clear m a c q;have q:=hY b.out)|((with_reducible refine gk_ 149 rfl ?_);refine gW (some 53) Tryz.func149 #[.pointer (some ⟨g,0,none⟩),.string I] ?_;refine eV (bG.calls g _ _ _ _ _ w0 _ j.out d.out U.out) ?_;rintro e w6 ⟨rfl,m,a,c⟩;refine⟨_,rfl,?_⟩;replace j:=Zm m;replace b:=Zm (c.blk b.out x.out (by decide));replace d:=Zm a;replace HK:=Zm (HK.out.trans c);clear m a c q;have q:=hY b.out)|((with_reducible refine gk_ 149 rfl ?_);refine gW (some 57) Tryz.func149 #[.pointer (some ⟨g,0,none⟩),.string B] ?_;refine eV (bG.calls g _ _ _ _ _ w0 _ j.out d.out W.out) ?_;rintro e L ⟨rfl,m,a,c⟩;refine⟨_,rfl,?_⟩;replace j:=Zm m;replace b:=Zm (c.blk b.out x.out (by decide));replace d:=Zm a;replace HK:=Zm (HK.out.trans c);clear m a c q;have q:=hY b.out));go_end0;exact⟨rfl,j.out,d.out,HK.out⟩
 simp only [Option.some.injEq,Prod.mk.injEq] at H;obtain⟨rfl,rfl⟩:=H;go_wp2;go_end0;exact⟨rfl,j.out,d.out,HK.out⟩
end Go.Proofs.YtkbebmifpccofaaGreat.PFnExactClassRead
