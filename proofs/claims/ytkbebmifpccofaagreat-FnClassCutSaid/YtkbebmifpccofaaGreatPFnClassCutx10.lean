/- Functions of the program as plain Lean functions, each with a proof that the program's call comes to the same; no condition. Written by a program of this session. -/
import Derived.Test.YtkbebmifpccofaaGreatPFnClassCutx0
import Derived.Test.YtkbebmifpccofaaGreatPFnClassCutx4
import Derived.Test.YtkbebmifpccofaaGreatPFnClassCutx5
import Derived.Test.YtkbebmifpccofaaGreatPFnClassCutx7
namespace Go.Proofs.YtkbebmifpccofaaGreat.PFnClassCut
open Go.RowKit Go.Proofs.YtkbebmifpccofaaGreatW.PrintWords Go.Proofs.YtkbebmifpccofaaGreatW.PrintLast Go.Proofs.YtkbebmifpccofaaGreatW.PrintMore
open Go.Proofs.YtkbebmifpccofaaGreatW.PrintWords renaming below_alloc→Zba,pw_below_drewN→Zbn,below_drew1→Zbd,below_set→Zbs,below_size→Zbz,below_step→Zbt,blk_drewN→Zkn,blk_drew→Zkd,blk_alloc→Zka,blk_frozen→Zkf,blk_far→Zkr,blk_put→Zkp,blk_below→Zkb
open Go.World renaming block_lt_of_cell?→Zlt
open Go.Proofs.YtkbebmifpccofaaGreatW.PrintWords.Aside0 renaming mk→Zm
attribute [local go_sem] max2_int min2_int max_two min_two max_three min_three max_four min_four   -- for this text's walks alone
set_option maxHeartbeats 80000000
set_option maxRecDepth 100000
set_option linter.unusedVariables false
set_option linter.unusedSimpArgs false
mutual
def aG.j0:Nat→Bool→ByteArray→ByteArray→Bool→Bool→List (eO)→List (eH)→Option (Bool)
 | 0,_,_,_,_,_,_,_=>none
 | k+1,j,a,b,c,d,e,i=>if j=true then (some false) else (aG.l0 k 0 a b c d e i)
def aG.l0:Nat→Int→ByteArray→ByteArray→Bool→Bool→List (eO)→List (eH)→Option (Bool)
 | 0,_,_,_,_,_,_,_=>none
 | k+1,b,c,d,e,i,a,j=>if b < (a.length:Int) then (if 0≤b then ((aE.f k ((dM a b).f0)).bind fun m=>(if m=true then ((cT.f k ((dM a b).f1)).bind fun n=>(aG.j2 k b (!n) c d e i a j)) else (aG.j2 k b true c d e i a j))) else (none)) else (aG.l2 k 0 c d e i a j)
def aG.j2:Nat→Int→Bool→ByteArray→ByteArray→Bool→Bool→List (eO)→List (eH)→Option (Bool)
 | 0,_,_,_,_,_,_,_,_=>none
 | k+1,m,j,a,b,c,d,e,i=>if j=true then (some false) else (aG.l1 k m 0 a b c d e i)
def aG.l1:Nat→Int→Int→ByteArray→ByteArray→Bool→Bool→List (eO)→List (eH)→Option (Bool)
 | 0,_,_,_,_,_,_,_,_=>none
 | k+1,b,c,d,e,i,j,a,m=>if c < b then (if 0≤c then (if c < (a.length:Int) then (if 0≤b then (if b < (a.length:Int) then (if ((dM a c).f0).toList=((dM a b).f0).toList then (some false) else (aG.l1 k b (wrap64 (c+1)) d e i j a m)) else (none)) else (none)) else (none)) else (none)) else (aG.l0 k (wrap64 (b+1)) d e i j a m)
def aG.l2:Nat→Int→ByteArray→ByteArray→Bool→Bool→List (eO)→List (eH)→Option (Bool)
 | 0,_,_,_,_,_,_,_=>none
 | k+1,a,d,e,i,c,j,b=>if a < (b.length:Int) then (if 0≤a then ((aI.f k ((aA b a).f0) ((aA b a).f1) ((aA b a).f2) ((aA b a).f3) ((aA b a).f4) ((aA b a).f5) ((aA b a).f6) ((aA b a).f7) ((aA b a).f8)).bind fun m=>(if m=true then (if (aA b a).f3=true then (aG.j5 k a (!c) d e i c j b ((aA b a).f0) ((aA b a).f1) ((aA b a).f2) ((aA b a).f3) ((aA b a).f4) ((aA b a).f5) ((aA b a).f6) ((aA b a).f7) ((aA b a).f8)) else (aG.j5 k a false d e i c j b ((aA b a).f0) ((aA b a).f1) ((aA b a).f2) ((aA b a).f3) ((aA b a).f4) ((aA b a).f5) ((aA b a).f6) ((aA b a).f7) ((aA b a).f8))) else (aG.j5 k a true d e i c j b ((aA b a).f0) ((aA b a).f1) ((aA b a).f2) ((aA b a).f3) ((aA b a).f4) ((aA b a).f5) ((aA b a).f6) ((aA b a).f7) ((aA b a).f8)))) else (none)) else (some true)
def aG.j5:Nat→Int→Bool→ByteArray→ByteArray→Bool→Bool→List (eO)→List (eH)→ByteArray→ByteArray→Bool→Bool→Bool→Int→Int→List (cR)→List (dG)→Option (Bool)
 | 0,_,_,_,_,_,_,_,_,_,_,_,_,_,_,_,_,_=>none
 | k+1,v,u,a,b,c,d,e,i,j,m,n,o,p,q,r,s,t=>if u=true then (some false) else (aG.l3 k v 0 a b c d e i j m n o p q r s t)
def aG.l3:Nat→Int→Int→ByteArray→ByteArray→Bool→Bool→List (eO)→List (eH)→ByteArray→ByteArray→Bool→Bool→Bool→Int→Int→List (cR)→List (dG)→Option (Bool)
 | 0,_,_,_,_,_,_,_,_,_,_,_,_,_,_,_,_,_=>none
 | k+1,c,a,d,e,i,j,m,b,n,o,p,q,r,s,t,u,v=>if a < c then (if 0≤a then (if a < (b.length:Int) then (if ((aA b a).f0).toList=n.toList then (if ((aA b a).f1).toList=o.toList then (some false) else (aG.l3 k c (wrap64 (a+1)) d e i j m b n o p q r s t u v)) else (aG.l3 k c (wrap64 (a+1)) d e i j m b n o p q r s t u v)) else (none)) else (none)) else (aG.l2 k (wrap64 (c+1)) d e i j m b)
end
def aG.f (k:Nat) (a:ByteArray) (b:ByteArray) (e:Bool) (i:Bool) (c:List (eO)) (d:List (eH)):Option (Bool):=(aE.f k a).bind fun j=>(if j=true then ((aE.f k b).bind fun m=>(if m=true then (if a.toList=b.toList then (aG.j0 k true a b e i c d) else (if e=true then (if i=true then (aG.j0 k true a b e i c d) else (if (c.length:Int) > 8 then (aG.j0 k true a b e i c d) else (aG.j0 k (decide ((d.length:Int) > 10)) a b e i c d))) else (if (c.length:Int) > 8 then (aG.j0 k true a b e i c d) else (aG.j0 k (decide ((d.length:Int) > 10)) a b e i c d)))) else (aG.j0 k true a b e i c d))) else (aG.j0 k true a b e i c d))
theorem aG.calls (k:Nat) (t:ByteArray) (u:ByteArray) (v:Bool) (q:Bool) (y:Option Addr) (z:Nat) (m:List (eO)) (Y:Option Addr) (A:Nat) (a:List (eH)) (r:Bool) (w:World) (c_:Kd.C lT w y m.length m) (da:m.length≤z) (db:Kd.C lY w Y a.length a) (dc:a.length≤A) (h:aG.f k t u v q m a=some r):
 Calls Tryz.prog 44 #[.agg #[.string t,.string u,.bool v,.bool q,.slice y m.length z,.slice Y a.length A]] w fun e w'=>e=.returned (.bool r)∧Below w.heap.size w w':=by
 have gL:=Tryz.underlying26;have gM:=Tryz.underlying50;have ai:=Zm c_;have fI:=Zm da;clear c_ da;have a6:=Zm db;have fJ:=Zm dc;clear db dc;have b:=Zm (Below.refl w.heap.size w);have H:=h;clear h;unfold aG.f at H;have c0:=Zm H;clear H;go_enter Tryz.func44,Tryz.ntmps44;go_upto_region 1 with (first|((with_reducible refine gate_dst (N:=1) rfl ?_);(try (refine gate_guard (by rfl) ?_;dsimp only));refine fH 1 26 #[.string t,.string u,.bool v,.bool q,.slice y m.length z,.slice Y a.length A] ?_;intro I s w3 D i;have d:=Zm D;have dd:=bz b s;have de:=bz b s;replace b:=dJ b i;clear i D s))
 repeat (go_quiet (first|((with_reducible refine gate_dst (N:=1) rfl ?_);(try (refine gate_guard (by rfl) ?_;dsimp only));refine fH 1 26 #[.string t,.string u,.bool v,.bool q,.slice y m.length z,.slice Y a.length A] ?_;intro I s w3 D i;have d:=Zm D;have dd:=bz b s;have de:=bz b s;replace b:=dJ b i;clear i D s));go_upto_region 1 with (first|((with_reducible refine gate_dst (N:=1) rfl ?_);(try (refine gate_guard (by rfl) ?_;dsimp only));refine fH 1 26 #[.string t,.string u,.bool v,.bool q,.slice y m.length z,.slice Y a.length A] ?_;intro I s w3 D i;have d:=Zm D;have dd:=bz b s;have de:=bz b s;replace b:=dJ b i;clear i D s)))
 (try simp only [Act.put,List.setIfInBounds_toArray,List.set_cons_zero,List.set_cons_succ]);go_cut [44] (fun fu wc=>∃ (x:Nat) (ck:Bool),fu=.bool ck∧Aside0 (aG.j0 x ck t u v q m a=some r)∧Aside0 (x≤k)∧Aside0 (wc.heap[I]?=some (.cells #[.string t,.string u,.bool v,.bool q,(.slice y m.length z),(.slice Y a.length A)] 26 (0,0)))∧Aside0 (Below w.heap.size w wc))
 case first=>
  have H:=c0.out;clear c0;replace H:=cM H;obtain⟨gN,G,H⟩:=H;replace H:=eN H;rcases H with ⟨rfl,H⟩|⟨rfl,H⟩
  · have j:=Zm H;clear H;have fK:=jB d.out;go_wp2_with (first|(go_at_call 93;refine cD (aE.calls _ _ _ _ G.out) ?_;rintro e w' ⟨rfl,⟨p,rfl⟩⟩;(try exact kU)))
    repeat (go_quiet (first|(go_at_call 93;refine cD (aE.calls _ _ _ _ G.out) ?_;rintro e w' ⟨rfl,⟨p,rfl⟩⟩;(try exact kU)));try go_wp2)
    go_meet
    case rel=>exact⟨_,(true),dS,j,⟨iS⟩,⟨pk d.out⟩,⟨bk b.out⟩⟩
  replace H:=cM H;obtain⟨gO,M,H⟩:=H;replace H:=eN H;rcases H with ⟨rfl,H⟩|⟨rfl,H⟩
  · have j:=Zm H;clear H;have fN:=jB d.out;go_wp2_with (first|(go_at_call 93;refine cD (aE.calls _ _ _ _ G.out) ?_;rintro e w' ⟨rfl,⟨p,rfl⟩⟩;(try exact kU))|(go_at_call 93;refine cD (aE.calls _ _ _ _ M.out) ?_;rintro e w' ⟨rfl,⟨p,rfl⟩⟩;(try exact kU)))
    repeat (go_quiet (first|(go_at_call 93;refine cD (aE.calls _ _ _ _ G.out) ?_;rintro e w' ⟨rfl,⟨p,rfl⟩⟩;(try exact kU))|(go_at_call 93;refine cD (aE.calls _ _ _ _ M.out) ?_;rintro e w' ⟨rfl,⟨p,rfl⟩⟩;(try exact kU)));try go_wp2)
    go_meet
    case rel=>exact⟨_,(true),dS,j,⟨iS⟩,⟨pk d.out⟩,⟨bk b.out⟩⟩
  replace H:=eM H;rcases H with ⟨c8,bn,fo,H⟩|⟨c8,bn,fo,H⟩
  · (first|rw [bn]|(simp only [i64_w,i32_w];rw [bn])|skip);replace H:=eN H;rcases H with ⟨rfl,H⟩|⟨rfl,H⟩
    · replace H:=iG H;rcases H with ⟨bp,H⟩|⟨bp,H⟩
      · have e_:decide (8 < (m.length:Int))=false:=decide_eq_false bp;have fa:decide (8 < m.length)=false:=decide_eq_false (by omega);clear bp;have j:=Zm H;clear H;have fT:=jB d.out;go_wp2_with (first|(go_at_call 93;refine cD (aE.calls _ _ _ _ G.out) ?_;rintro e w' ⟨rfl,⟨p,rfl⟩⟩;(try exact kU))|(go_at_call 93;refine cD (aE.calls _ _ _ _ M.out) ?_;rintro e w' ⟨rfl,⟨p,rfl⟩⟩;(try exact kU)))
        repeat (go_quiet (first|(go_at_call 93;refine cD (aE.calls _ _ _ _ G.out) ?_;rintro e w' ⟨rfl,⟨p,rfl⟩⟩;(try exact kU))|(go_at_call 93;refine cD (aE.calls _ _ _ _ M.out) ?_;rintro e w' ⟨rfl,⟨p,rfl⟩⟩;(try exact kU)));try go_wp2)
        go_meet
        case rel=>exact⟨_,(decide ((a.length:Int) > 10)),dS,j,⟨iS⟩,⟨pk d.out⟩,⟨bk b.out⟩⟩
      have e_:decide (8 < (m.length:Int))=true:=decide_eq_true bp;have fa:decide (8 < m.length)=true:=decide_eq_true (by omega);clear bp;have j:=Zm H;clear H;have f9:=jB d.out;go_wp2_with (first|(go_at_call 93;refine cD (aE.calls _ _ _ _ G.out) ?_;rintro e w' ⟨rfl,⟨p,rfl⟩⟩;(try exact kU))|(go_at_call 93;refine cD (aE.calls _ _ _ _ M.out) ?_;rintro e w' ⟨rfl,⟨p,rfl⟩⟩;(try exact kU)))
      repeat (go_quiet (first|(go_at_call 93;refine cD (aE.calls _ _ _ _ G.out) ?_;rintro e w' ⟨rfl,⟨p,rfl⟩⟩;(try exact kU))|(go_at_call 93;refine cD (aE.calls _ _ _ _ M.out) ?_;rintro e w' ⟨rfl,⟨p,rfl⟩⟩;(try exact kU)));try go_wp2)
      go_meet
      case rel=>exact⟨_,(true),dS,j,⟨iS⟩,⟨pk d.out⟩,⟨bk b.out⟩⟩
    replace H:=eN H;rcases H with ⟨rfl,H⟩|⟨rfl,H⟩
    · replace H:=iG H;rcases H with ⟨bq,H⟩|⟨bq,H⟩
      · have fb:decide (8 < (m.length:Int))=false:=decide_eq_false bq;have fc:decide (8 < m.length)=false:=decide_eq_false (by omega);clear bq;have j:=Zm H;clear H;have f_:=jB d.out;go_wp2_with (first|(go_at_call 93;refine cD (aE.calls _ _ _ _ G.out) ?_;rintro e w' ⟨rfl,⟨p,rfl⟩⟩;(try exact kU))|(go_at_call 93;refine cD (aE.calls _ _ _ _ M.out) ?_;rintro e w' ⟨rfl,⟨p,rfl⟩⟩;(try exact kU)))
        repeat (go_quiet (first|(go_at_call 93;refine cD (aE.calls _ _ _ _ G.out) ?_;rintro e w' ⟨rfl,⟨p,rfl⟩⟩;(try exact kU))|(go_at_call 93;refine cD (aE.calls _ _ _ _ M.out) ?_;rintro e w' ⟨rfl,⟨p,rfl⟩⟩;(try exact kU)));try go_wp2)
        go_meet
        case rel=>exact⟨_,(decide ((a.length:Int) > 10)),dS,j,⟨iS⟩,⟨pk d.out⟩,⟨bk b.out⟩⟩
      have fb:decide (8 < (m.length:Int))=true:=decide_eq_true bq;have fc:decide (8 < m.length)=true:=decide_eq_true (by omega);clear bq;have j:=Zm H;clear H;have ga:=jB d.out;go_wp2_with (first|(go_at_call 93;refine cD (aE.calls _ _ _ _ G.out) ?_;rintro e w' ⟨rfl,⟨p,rfl⟩⟩;(try exact kU))|(go_at_call 93;refine cD (aE.calls _ _ _ _ M.out) ?_;rintro e w' ⟨rfl,⟨p,rfl⟩⟩;(try exact kU)))
      repeat (go_quiet (first|(go_at_call 93;refine cD (aE.calls _ _ _ _ G.out) ?_;rintro e w' ⟨rfl,⟨p,rfl⟩⟩;(try exact kU))|(go_at_call 93;refine cD (aE.calls _ _ _ _ M.out) ?_;rintro e w' ⟨rfl,⟨p,rfl⟩⟩;(try exact kU)));try go_wp2)
      go_meet
      case rel=>exact⟨_,(true),dS,j,⟨iS⟩,⟨pk d.out⟩,⟨bk b.out⟩⟩
    have j:=Zm H;clear H;have gb:=jB d.out;go_wp2_with (first|(go_at_call 93;refine cD (aE.calls _ _ _ _ G.out) ?_;rintro e w' ⟨rfl,⟨p,rfl⟩⟩;(try exact kU))|(go_at_call 93;refine cD (aE.calls _ _ _ _ M.out) ?_;rintro e w' ⟨rfl,⟨p,rfl⟩⟩;(try exact kU)))
    repeat (go_quiet (first|(go_at_call 93;refine cD (aE.calls _ _ _ _ G.out) ?_;rintro e w' ⟨rfl,⟨p,rfl⟩⟩;(try exact kU))|(go_at_call 93;refine cD (aE.calls _ _ _ _ M.out) ?_;rintro e w' ⟨rfl,⟨p,rfl⟩⟩;(try exact kU)));try go_wp2)
    go_meet
    case rel=>exact⟨_,(true),dS,j,⟨iS⟩,⟨pk d.out⟩,⟨bk b.out⟩⟩
  clear c8;(first|rw [bn]|(simp only [i64_w,i32_w];rw [bn])|skip);have j:=Zm H;clear H;have gS:=jB d.out;go_wp2_with (first|(go_at_call 93;refine cD (aE.calls _ _ _ _ G.out) ?_;rintro e w' ⟨rfl,⟨p,rfl⟩⟩;(try exact kU))|(go_at_call 93;refine cD (aE.calls _ _ _ _ M.out) ?_;rintro e w' ⟨rfl,⟨p,rfl⟩⟩;(try exact kU)))
  repeat (go_quiet (first|(go_at_call 93;refine cD (aE.calls _ _ _ _ G.out) ?_;rintro e w' ⟨rfl,⟨p,rfl⟩⟩;(try exact kU))|(go_at_call 93;refine cD (aE.calls _ _ _ _ M.out) ?_;rintro e w' ⟨rfl,⟨p,rfl⟩⟩;(try exact kU)));try go_wp2)
  go_meet
  case rel=>exact⟨_,(true),dS,j,⟨iS⟩,⟨pk d.out⟩,⟨bk b.out⟩⟩
 case rest=>
  clear c0;obtain⟨x,ck,rfl,HA,J,d,b⟩:=hcut
  cases x with
  | zero=>exact absurd HA.out (by simp [aG.j0])
  | succ ds=>
   have H:=HA.out;clear HA;simp only [aG.j0] at H;replace H:=eN H;rcases H with ⟨rfl,H⟩|⟨rfl,H⟩
   · have j:=Zm H;clear H;go_wp2
     repeat (go_quiet (fail);try go_wp2)
     go_loopg [3] ds (fun x v3 w'=>∃ (E:Int),v3=.int .i64 E∧Aside0 (aG.l0 x E t u v q m a=some r)∧Aside0 (x≤ds)∧Aside0 (w'.heap[I]?=some (.cells #[.string t,.string u,.bool v,.bool q,(.slice y m.length z),(.slice Y a.length A)] 26 (0,0)))∧Aside0 (Below w.heap.size w w'))
     case atStart=>exact⟨(0),dS,j,⟨Nat.le_refl _⟩,⟨pk d.out⟩,⟨bk b.out⟩⟩
     case round=>
      clear j;(try clear br);obtain⟨E,rfl,HA,K,d,b⟩:=hrel
      cases gk with
      | zero=>exact absurd HA.out (by simp [aG.l0])
      | succ k2=>
       have H:=HA.out;clear HA;simp only [aG.l0] at H;replace H:=jC H;rcases H with ⟨a7,H⟩|⟨a7,H⟩
       · have j:=Zm H;clear H;have cl:=jB d.out;go_wp2
         repeat (go_quiet (fail);try go_wp2)
         go_loopg [5] k2 (fun x v5 w'=>∃ (c:Int),v5=.int .i64 c∧Aside0 (aG.l2 x c t u v q m a=some r)∧Aside0 (x≤k2)∧Aside0 (w'.heap[I]?=some (.cells #[.string t,.string u,.bool v,.bool q,(.slice y m.length z),(.slice Y a.length A)] 26 (0,0)))∧Aside0 (Below w.heap.size w w'))
         case atStart=>exact⟨(0),dS,j,⟨Nat.le_refl _⟩,⟨pk d.out⟩,⟨bk b.out⟩⟩
         case round=>
          clear j;(try clear br);(try clear cf);(try clear a7);(try clear cl);obtain⟨c,rfl,HA,ad,d,b⟩:=hrel
          cases gk with
          | zero=>exact absurd HA.out (by simp [aG.l2])
          | succ k3=>
           have H:=HA.out;clear HA;simp only [aG.l2] at H;replace H:=jC H;rcases H with ⟨cm,H⟩|⟨cm,H⟩
           · obtain rfl:=Option.some.inj H;have gc:=jB d.out;go_wp2
             repeat (go_quiet (fail);try go_wp2)
             go_ret;exact cI b
           replace H:=eG H;obtain⟨c42b0,H⟩:=H;have cu:=Zm H;clear H;have df:=jB d.out;obtain⟨O,ae,af,ag,ah,fp,dg,a2,a3,a4,a5⟩:=oQ a6 b c;cases fp;go_upto_region 17 with (first|((with_reducible refine gate_dst (N:=6) rfl ?_);(try (refine gate_guard (by rfl) ?_;dsimp only));refine fH 6 50 #[.string (⟨#[]⟩:ByteArray),.string (⟨#[]⟩:ByteArray),.bool false,.bool false,.bool false,.int .i64 0,.int .i64 0,.slice none 0 0,.slice none 0 0] ?_;intro X s du D i;have n:=Zm D;have dh:=bz b s;have dj:=bz b s;have P:=bl d s;have T:=bg d s;replace d:=kb d i;replace b:=dJ b i;clear i D s;have dk:=T.out;have dl:=P.out;obtain⟨bs,bu,bv,bw,bx,b0,b1,b2,b3,b4,b5,b6,b7,b8,b9,ca,cb,cc⟩:=gW n.out))
           repeat (go_quiet (first|((with_reducible refine gate_dst (N:=6) rfl ?_);(try (refine gate_guard (by rfl) ?_;dsimp only));refine fH 6 50 #[.string (⟨#[]⟩:ByteArray),.string (⟨#[]⟩:ByteArray),.bool false,.bool false,.bool false,.int .i64 0,.int .i64 0,.slice none 0 0,.slice none 0 0] ?_;intro X s du D i;have n:=Zm D;have dh:=bz b s;have dj:=bz b s;have P:=bl d s;have T:=bg d s;replace d:=kb d i;replace b:=dJ b i;clear i D s;have dk:=T.out;have dl:=P.out;obtain⟨bs,bu,bv,bw,bx,b0,b1,b2,b3,b4,b5,b6,b7,b8,b9,ca,cb,cc⟩:=gW n.out));go_upto_region 17 with (first|((with_reducible refine gate_dst (N:=6) rfl ?_);(try (refine gate_guard (by rfl) ?_;dsimp only));refine fH 6 50 #[.string (⟨#[]⟩:ByteArray),.string (⟨#[]⟩:ByteArray),.bool false,.bool false,.bool false,.int .i64 0,.int .i64 0,.slice none 0 0,.slice none 0 0] ?_;intro X s du D i;have n:=Zm D;have dh:=bz b s;have dj:=bz b s;have P:=bl d s;have T:=bg d s;replace d:=kb d i;replace b:=dJ b i;clear i D s;have dk:=T.out;have dl:=P.out;obtain⟨bs,bu,bv,bw,bx,b0,b1,b2,b3,b4,b5,b6,b7,b8,b9,ca,cb,cc⟩:=gW n.out)))
           (try simp only [Act.put,List.setIfInBounds_toArray,List.set_cons_zero,List.set_cons_succ]);go_cut [111] (fun fq wc=>∃ (x:Nat) (ci:Bool),fq=.bool ci∧Aside0 (aG.j5 x c ci t u v q m a ((aA a c).f0) ((aA a c).f1) ((aA a c).f2) ((aA a c).f3) ((aA a c).f4) ((aA a c).f5) ((aA a c).f6) ((aA a c).f7) ((aA a c).f8)=some r)∧Aside0 (x≤k3)∧Aside0 (wc.heap[I]?=some (.cells #[.string t,.string u,.bool v,.bool q,(.slice y m.length z),(.slice (some O) a.length A)] 26 (0,0)))∧Aside0 (wc.heap[X]?=some (.cells #[.string ((aA a c).f0),.string ((aA a c).f1),.bool ((aA a c).f2),.bool ((aA a c).f3),.bool ((aA a c).f4),.int .i64 ((aA a c).f5),.int .i64 ((aA a c).f6),(.slice ae ((aA a c).f7).length af),(.slice ag ((aA a c).f8).length ah)] 50 (0,0)))∧Aside0 (Below w.heap.size w wc))
           case first=>
            have H:=cu.out;clear cu;replace H:=cM H;obtain⟨gT,a1,H⟩:=H;replace H:=eN H;rcases H with ⟨rfl,H⟩|⟨rfl,H⟩
            · have j:=Zm H;clear H;have gf:=T.out;have gg:=P.out;have gh:=gW n.out;go_wp2_with (first|(go_at_call 90;refine cD (aI.calls _ _ _ _ _ _ _ _ _ _ _ _ _ _ _ _ (Kd.C_below a3.out gK) a2.out (Kd.C_below a5.out gK) a4.out a1.out) ?_;rintro e fv ⟨rfl,i⟩;have U:=(⟨Zm (Zkb (g:=I) (o:=.cells #[.string t,.string u,.bool v,.bool q,.slice y m.length z,.slice (some O) a.length A] 26 (0,0)) dR i),Zm (Zkb (g:=X) (o:=.cells #[.string ((aA a c).f0),.string ((aA a c).f1),.bool ((aA a c).f2),.bool ((aA a c).f3),.bool ((aA a c).f4),.int .i64 ((aA a c).f5),.int .i64 ((aA a c).f6),.slice ae ((aA a c).f7).length af,.slice ag ((aA a c).f8).length ah] 50 (0,0)) dR i),Zm (Zbt gK i)⟩:_∧_∧_);clear d n b;obtain⟨d,n,b⟩:=U;clear i))
              repeat (go_quiet (first|(go_at_call 90;refine cD (aI.calls _ _ _ _ _ _ _ _ _ _ _ _ _ _ _ _ (Kd.C_below a3.out gK) a2.out (Kd.C_below a5.out gK) a4.out a1.out) ?_;rintro e fv ⟨rfl,i⟩;have U:=(⟨Zm (Zkb (g:=I) (o:=.cells #[.string t,.string u,.bool v,.bool q,.slice y m.length z,.slice (some O) a.length A] 26 (0,0)) dR i),Zm (Zkb (g:=X) (o:=.cells #[.string ((aA a c).f0),.string ((aA a c).f1),.bool ((aA a c).f2),.bool ((aA a c).f3),.bool ((aA a c).f4),.int .i64 ((aA a c).f5),.int .i64 ((aA a c).f6),.slice ae ((aA a c).f7).length af,.slice ag ((aA a c).f8).length ah] 50 (0,0)) dR i),Zm (Zbt gK i)⟩:_∧_∧_);clear d n b;obtain⟨d,n,b⟩:=U;clear i));try go_wp2)
              go_meet
              case rel=>exact⟨_,(true),dS,j,⟨by have:=J.out;have:=K.out;have:=ad.out;first|omega|exact Nat.le_refl _⟩,⟨pk d.out⟩,⟨pk n.out⟩,⟨bk b.out⟩⟩
            obtain⟨cv,cd⟩:∃ b_:Bool,b_=((aA a c).f3):=⟨_,rfl⟩;(try rw [← cd] at a1);replace H:(if cv=true then (aG.j5 k3 c (!q) t u v q m a ((aA a c).f0) ((aA a c).f1) ((aA a c).f2) cv ((aA a c).f4) ((aA a c).f5) ((aA a c).f6) ((aA a c).f7) ((aA a c).f8)) else (aG.j5 k3 c false t u v q m a ((aA a c).f0) ((aA a c).f1) ((aA a c).f2) cv ((aA a c).f4) ((aA a c).f5) ((aA a c).f6) ((aA a c).f7) ((aA a c).f8)))=some r:=by rw [← cd] at H;exact H
            have cn:=Zm cd;clear cd;(try rw [← cn.out]);replace H:=eN H;rcases H with ⟨rfl,H⟩|⟨rfl,H⟩
            · have j:=Zm H;clear H;have gi:=T.out;have gj:=P.out;have gl:=gW n.out;go_wp2_with (first|(go_at_call 90;refine cD (aI.calls _ _ _ _ _ _ _ _ _ _ _ _ _ _ _ _ (Kd.C_below a3.out gK) a2.out (Kd.C_below a5.out gK) a4.out a1.out) ?_;rintro e fw ⟨rfl,i⟩;have U:=(⟨Zm (Zkb (g:=I) (o:=.cells #[.string t,.string u,.bool v,.bool q,.slice y m.length z,.slice (some O) a.length A] 26 (0,0)) dR i),Zm (Zkb (g:=X) (o:=.cells #[.string ((aA a c).f0),.string ((aA a c).f1),.bool ((aA a c).f2),.bool false,.bool ((aA a c).f4),.int .i64 ((aA a c).f5),.int .i64 ((aA a c).f6),.slice ae ((aA a c).f7).length af,.slice ag ((aA a c).f8).length ah] 50 (0,0)) dR i),Zm (Zbt gK i)⟩:_∧_∧_);clear d n b;obtain⟨d,n,b⟩:=U;clear i;obtain⟨d0,d2,d3,d4,d5,d6,d7,d8,d9,d_,ea,eb,ec,ed,ee,ef,eg,eh⟩:=gW n.out))
              repeat (go_quiet (first|(go_at_call 90;refine cD (aI.calls _ _ _ _ _ _ _ _ _ _ _ _ _ _ _ _ (Kd.C_below a3.out gK) a2.out (Kd.C_below a5.out gK) a4.out a1.out) ?_;rintro e fw ⟨rfl,i⟩;have U:=(⟨Zm (Zkb (g:=I) (o:=.cells #[.string t,.string u,.bool v,.bool q,.slice y m.length z,.slice (some O) a.length A] 26 (0,0)) dR i),Zm (Zkb (g:=X) (o:=.cells #[.string ((aA a c).f0),.string ((aA a c).f1),.bool ((aA a c).f2),.bool false,.bool ((aA a c).f4),.int .i64 ((aA a c).f5),.int .i64 ((aA a c).f6),.slice ae ((aA a c).f7).length af,.slice ag ((aA a c).f8).length ah] 50 (0,0)) dR i),Zm (Zbt gK i)⟩:_∧_∧_);clear d n b;obtain⟨d,n,b⟩:=U;clear i;obtain⟨d0,d2,d3,d4,d5,d6,d7,d8,d9,d_,ea,eb,ec,ed,ee,ef,eg,eh⟩:=gW n.out));try go_wp2)
              go_meet
              case rel=>(try rw [← cn.out]);exact⟨_,(false),dS,j,⟨by have:=J.out;have:=K.out;have:=ad.out;first|omega|exact Nat.le_refl _⟩,⟨pk d.out⟩,⟨pk n.out⟩,⟨bk b.out⟩⟩
            have j:=Zm H;clear H;have gm:=T.out;have gn:=P.out;have go:=gW n.out;go_wp2_with (first|(go_at_call 90;refine cD (aI.calls _ _ _ _ _ _ _ _ _ _ _ _ _ _ _ _ (Kd.C_below a3.out gK) a2.out (Kd.C_below a5.out gK) a4.out a1.out) ?_;rintro e fx ⟨rfl,i⟩;have U:=(⟨Zm (Zkb (g:=I) (o:=.cells #[.string t,.string u,.bool v,.bool q,.slice y m.length z,.slice (some O) a.length A] 26 (0,0)) dR i),Zm (Zkb (g:=X) (o:=.cells #[.string ((aA a c).f0),.string ((aA a c).f1),.bool ((aA a c).f2),.bool true,.bool ((aA a c).f4),.int .i64 ((aA a c).f5),.int .i64 ((aA a c).f6),.slice ae ((aA a c).f7).length af,.slice ag ((aA a c).f8).length ah] 50 (0,0)) dR i),Zm (Zbt gK i)⟩:_∧_∧_);clear d n b;obtain⟨d,n,b⟩:=U;clear i;obtain⟨ei,ej,ek,el,em,en,eo,ep,eq,er,es,et,eu,ev,ew,ex,ey,ez⟩:=gW n.out;obtain⟨eA,eD,eP,eT,eY,e0⟩:=jB d.out;have e1:=Zkf d.out 5))
            repeat (go_quiet (first|(go_at_call 90;refine cD (aI.calls _ _ _ _ _ _ _ _ _ _ _ _ _ _ _ _ (Kd.C_below a3.out gK) a2.out (Kd.C_below a5.out gK) a4.out a1.out) ?_;rintro e fx ⟨rfl,i⟩;have U:=(⟨Zm (Zkb (g:=I) (o:=.cells #[.string t,.string u,.bool v,.bool q,.slice y m.length z,.slice (some O) a.length A] 26 (0,0)) dR i),Zm (Zkb (g:=X) (o:=.cells #[.string ((aA a c).f0),.string ((aA a c).f1),.bool ((aA a c).f2),.bool true,.bool ((aA a c).f4),.int .i64 ((aA a c).f5),.int .i64 ((aA a c).f6),.slice ae ((aA a c).f7).length af,.slice ag ((aA a c).f8).length ah] 50 (0,0)) dR i),Zm (Zbt gK i)⟩:_∧_∧_);clear d n b;obtain⟨d,n,b⟩:=U;clear i;obtain⟨ei,ej,ek,el,em,en,eo,ep,eq,er,es,et,eu,ev,ew,ex,ey,ez⟩:=gW n.out;obtain⟨eA,eD,eP,eT,eY,e0⟩:=jB d.out;have e1:=Zkf d.out 5));try go_wp2)
            go_meet
            case rel=>(try rw [← cn.out]);exact⟨_,(!q),dS,j,⟨by have:=J.out;have:=K.out;have:=ad.out;first|omega|exact Nat.le_refl _⟩,⟨pk d.out⟩,⟨pk n.out⟩,⟨bk b.out⟩⟩
           case rest=>
            clear cu;(try clear br);(try clear cf);(try clear a7);(try clear fy);(try clear cm);(try clear fz);(try clear c42b0);(try clear cl);(try clear df);(try clear bs);(try clear bu);(try clear bv);(try clear bw);(try clear bx);(try clear b0);(try clear b1);(try clear b2);(try clear b3);(try clear b4);(try clear b5);(try clear b6);(try clear b7);(try clear b8);(try clear b9);(try clear ca);(try clear cb);(try clear cc);(try clear dg);(try clear fr);(try clear fs);obtain⟨x,ci,rfl,HA,a8,d,n,b⟩:=hcut
            cases x with
            | zero=>exact absurd HA.out (by simp [aG.j5])
            | succ dq=>
             have H:=HA.out;clear HA;simp only [aG.j5] at H;replace H:=eN H;rcases H with ⟨rfl,H⟩|⟨rfl,H⟩
             · have j:=Zm H;clear H;go_wp2
               repeat (go_quiet (fail);try go_wp2)
               go_loopg [7] dq (fun x v7 w'=>∃ (B:Int),v7=.int .i64 B∧Aside0 (aG.l3 x c B t u v q m a ((aA a c).f0) ((aA a c).f1) ((aA a c).f2) ((aA a c).f3) ((aA a c).f4) ((aA a c).f5) ((aA a c).f6) ((aA a c).f7) ((aA a c).f8)=some r)∧Aside0 (x≤dq)∧Aside0 (w'.heap[I]?=some (.cells #[.string t,.string u,.bool v,.bool q,(.slice y m.length z),(.slice (some O) a.length A)] 26 (0,0)))∧Aside0 (w'.heap[X]?=some (.cells #[.string ((aA a c).f0),.string ((aA a c).f1),.bool ((aA a c).f2),.bool ((aA a c).f3),.bool ((aA a c).f4),.int .i64 ((aA a c).f5),.int .i64 ((aA a c).f6),(.slice ae ((aA a c).f7).length af),(.slice ag ((aA a c).f8).length ah)] 50 (0,0)))∧Aside0 (Below w.heap.size w w'))
               case atStart=>exact⟨(0),dS,j,⟨Nat.le_refl _⟩,⟨pk d.out⟩,⟨pk n.out⟩,⟨bk b.out⟩⟩
               case round=>
                clear j;(try clear br);(try clear cf);(try clear a7);(try clear fy);(try clear cm);(try clear fz);(try clear c42b0);(try clear g1);(try clear cl);(try clear df);(try clear bs);(try clear bu);(try clear bv);(try clear bw);(try clear bx);(try clear b0);(try clear b1);(try clear b2);(try clear b3);(try clear b4);(try clear b5);(try clear b6);(try clear b7);(try clear b8);(try clear b9);(try clear ca);(try clear cb);(try clear cc);(try clear dg);(try clear fr);(try clear fs);obtain⟨B,rfl,HA,a_,d,n,b⟩:=hrel
                cases gk with
                | zero=>exact absurd HA.out (by simp [aG.l3])
                | succ k5=>
                 have H:=HA.out;clear HA;simp only [aG.l3] at H;replace H:=jC H;rcases H with ⟨fd,H⟩|⟨fd,H⟩
                 · have j:=Zm H;clear H;go_wp2
                   repeat (go_quiet (fail);try go_wp2)
                   go_roundg k5
                   case measure=>have:=J.out;have:=K.out;have:=ad.out;have:=a8.out;have:=a_.out;omega
                   case rel=>exact⟨(wrap64 (c+1)),dS,j,⟨by have:=J.out;have:=K.out;have:=ad.out;have:=a8.out;have:=a_.out;omega⟩,⟨pk d.out⟩,⟨bk b.out⟩⟩
                 replace H:=eG H;obtain⟨c66b0,H⟩:=H;replace H:=eG H;obtain⟨c67b0,H⟩:=H;replace H:=eM H;rcases H with ⟨dv,fe,ff,H⟩|⟨dv,fe,ff,H⟩
                 · have j:=Zm H;clear H;have gp:=P.out;have gq:=T.out;have gr:=jB d.out;obtain⟨bm,c5,c6,c7,c9,bo,gs,c1,c2,c3,c4⟩:=oQ a6 b B;obtain rfl:O=bm:=(by injection bo);have gt:=gW n.out;go_wp2
                   repeat (go_quiet (fail);try go_wp2)
                   go_roundg k5
                   case measure=>have:=J.out;have:=K.out;have:=ad.out;have:=a8.out;have:=a_.out;omega
                   case rel=>exact⟨(wrap64 (B+1)),dS,j,⟨by have:=J.out;have:=K.out;have:=ad.out;have:=a8.out;have:=a_.out;omega⟩,⟨pk d.out⟩,⟨pk n.out⟩,⟨bk b.out⟩⟩
                 clear dv;replace H:=eM H;rcases H with ⟨dx,fg,fh,H⟩|⟨dx,fg,fh,H⟩
                 · have j:=Zm H;clear H;have gu:=P.out;have gv:=T.out;have gw:=jB d.out;have aL:0≤(B:Int):=eF;have aO:B < (a.length:Int):=eF;obtain⟨bm,c5,c6,c7,c9,bo,aj,ak,al,am,an,ao,ap,Z,aa,ba,bb,bc,be⟩:=kG a6.out B aL aO;obtain rfl:O=bm:=(by injection bo);replace aj:=fG b aj (Zlt _ _ aj);replace ak:=fG b ak (Zlt _ _ ak);replace al:=fG b al (Zlt _ _ al);replace am:=fG b am (Zlt _ _ am);replace an:=fG b an (Zlt _ _ an);replace ao:=fG b ao (Zlt _ _ ao);replace ap:=fG b ap (Zlt _ _ ap);replace Z:=fG b Z (Zlt _ _ Z);replace aa:=fG b aa (Zlt _ _ aa);have c2:=Zm bb;have c1:=Zm ba;clear bb ba;have c4:=Zm be;have c3:=Zm bc;clear be bc;replace aL:=eq_true aL;replace aO:=eq_true aO;have gx:=gW n.out;have aP:0≤(B:Int):=eF;have aR:B < (a.length:Int):=eF;obtain⟨co,e6,e7,e8,e9,cw,aq,ar,au,av,aw,ax,ay,ab,ac,bf,bh,bi,bj⟩:=kG a6.out B aP aR;obtain rfl:O=co:=(by injection cw);replace aq:=fG b aq (Zlt _ _ aq);replace ar:=fG b ar (Zlt _ _ ar);replace au:=fG b au (Zlt _ _ au);replace av:=fG b av (Zlt _ _ av);replace aw:=fG b aw (Zlt _ _ aw);replace ax:=fG b ax (Zlt _ _ ax);replace ay:=fG b ay (Zlt _ _ ay);replace ab:=fG b ab (Zlt _ _ ab);replace ac:=fG b ac (Zlt _ _ ac);have e2:=Zm bh;have e3:=Zm bf;clear bh bf;have e4:=Zm bj;have e5:=Zm bi;clear bj bi;replace aP:=eq_true aP;replace aR:=eq_true aR;have L:=Option.some.inj (Z.symm.trans ab);injection L with L en_ ec_;subst L;subst ec_;clear en_;have L:=Option.some.inj (aa.symm.trans ac);injection L with L en_ ec_;subst L;subst ec_;clear en_;go_wp2
                   repeat (go_quiet (fail);try go_wp2)
                   go_roundg k5
                   case measure=>have:=J.out;have:=K.out;have:=ad.out;have:=a8.out;have:=a_.out;omega
                   case rel=>exact⟨(wrap64 (B+1)),dS,j,⟨by have:=J.out;have:=K.out;have:=ad.out;have:=a8.out;have:=a_.out;omega⟩,⟨pk d.out⟩,⟨pk n.out⟩,⟨bk b.out⟩⟩
                 clear dx;obtain rfl:=Option.some.inj H;have gy:=P.out;have gz:=T.out;have gB:=jB d.out;have aL:0≤(B:Int):=eF;have aO:B < (a.length:Int):=eF;obtain⟨bm,c5,c6,c7,c9,bo,aj,ak,al,am,an,ao,ap,Z,aa,ba,bb,bc,be⟩:=kG a6.out B aL aO;obtain rfl:O=bm:=(by injection bo);replace aj:=fG b aj (Zlt _ _ aj);replace ak:=fG b ak (Zlt _ _ ak);replace al:=fG b al (Zlt _ _ al);replace am:=fG b am (Zlt _ _ am);replace an:=fG b an (Zlt _ _ an);replace ao:=fG b ao (Zlt _ _ ao);replace ap:=fG b ap (Zlt _ _ ap);replace Z:=fG b Z (Zlt _ _ Z);replace aa:=fG b aa (Zlt _ _ aa);have c2:=Zm bb;have c1:=Zm ba;clear bb ba;have c4:=Zm be;have c3:=Zm bc;clear be bc;replace aL:=eq_true aL;replace aO:=eq_true aO;have gD:=gW n.out;have aP:0≤(B:Int):=eF;have aR:B < (a.length:Int):=eF;obtain⟨co,e6,e7,e8,e9,cw,aq,ar,au,av,aw,ax,ay,ab,ac,bf,bh,bi,bj⟩:=kG a6.out B aP aR;obtain rfl:O=co:=(by injection cw);replace aq:=fG b aq (Zlt _ _ aq);replace ar:=fG b ar (Zlt _ _ ar);replace au:=fG b au (Zlt _ _ au);replace av:=fG b av (Zlt _ _ av);replace aw:=fG b aw (Zlt _ _ aw);replace ax:=fG b ax (Zlt _ _ ax);replace ay:=fG b ay (Zlt _ _ ay);replace ab:=fG b ab (Zlt _ _ ab);replace ac:=fG b ac (Zlt _ _ ac);have e2:=Zm bh;have e3:=Zm bf;clear bh bf;have e4:=Zm bj;have e5:=Zm bi;clear bj bi;replace aP:=eq_true aP;replace aR:=eq_true aR;have L:=Option.some.inj (Z.symm.trans ab);injection L with L en_ ec_;subst L;subst ec_;clear en_;have L:=Option.some.inj (aa.symm.trans ac);injection L with L en_ ec_;subst L;subst ec_;clear en_;go_wp2
                 repeat (go_quiet (fail);try go_wp2)
                 go_ret;exact cI b
             obtain rfl:=Option.some.inj H;go_wp2
             repeat (go_quiet (fail);try go_wp2)
             go_ret;exact cI b
       have cx:=Zm H;clear H;have dm:=jB d.out;go_upto_region 6 with (fail)
       repeat (go_quiet (fail);go_upto_region 6 with (fail))
       go_cut [69] (fun fB wc=>∃ (x:Nat) (cj:Bool),fB=.bool cj∧Aside0 (aG.j2 x E cj t u v q m a=some r)∧Aside0 (x≤k2)∧Aside0 (wc.heap[I]?=some (.cells #[.string t,.string u,.bool v,.bool q,(.slice y m.length z),(.slice Y a.length A)] 26 (0,0)))∧Aside0 (Below w.heap.size w wc))
       case first=>
        have H:=cx.out;clear cx;replace H:=eG H;obtain⟨c25b0,H⟩:=H;(first|rw [c25b0]|(simp only [i64_w,i32_w];rw [c25b0])|skip);replace H:=cM H;obtain⟨g0,cg,H⟩:=H;replace H:=eN H;rcases H with ⟨rfl,H⟩|⟨rfl,H⟩
        · have j:=Zm H;clear H;have gE:=jB d.out;obtain⟨cp,cy,fi⟩:=kF ai b E;cases cy;go_wp2_with (first|(go_at_call 93;refine cD (aE.calls _ _ _ _ cg.out) ?_;rintro e w' ⟨rfl,⟨p,rfl⟩⟩;(try exact kU)))
          repeat (go_quiet (first|(go_at_call 93;refine cD (aE.calls _ _ _ _ cg.out) ?_;rintro e w' ⟨rfl,⟨p,rfl⟩⟩;(try exact kU)));try go_wp2)
          go_meet
          case rel=>exact⟨_,(true),dS,j,⟨by have:=J.out;have:=K.out;first|omega|exact Nat.le_refl _⟩,⟨pk d.out⟩,⟨bk b.out⟩⟩
        replace H:=cM H;obtain⟨ft,dy,H⟩:=H;have j:=Zm H;clear H;have gF:=jB d.out;obtain⟨cp,cy,fi⟩:=kF ai b E;cases cy;go_wp2_with (first|(go_at_call 93;refine cD (aE.calls _ _ _ _ cg.out) ?_;rintro e w' ⟨rfl,⟨p,rfl⟩⟩;(try exact kU);have aS:0≤(E:Int):=eF;have a0:E < (m.length:Int):=eF;obtain⟨cq,cz,az,aB,aF⟩:=lQ ai.out E aS a0;obtain rfl:cp=cq:=(by injection cz);replace az:=fG b az (Zlt _ _ az);replace aB:=fG b aB (Zlt _ _ aB);replace aF:=fG b aF (Zlt _ _ aF);replace aS:=eq_true aS;replace a0:=eq_true a0)|(go_at_call 94;refine cD (cT.calls _ _ _ _ dy.out) ?_;rintro e w' ⟨rfl,⟨p,rfl⟩⟩;(try exact kU)))
        repeat (go_quiet (first|(go_at_call 93;refine cD (aE.calls _ _ _ _ cg.out) ?_;rintro e w' ⟨rfl,⟨p,rfl⟩⟩;(try exact kU);have aS:0≤(E:Int):=eF;have a0:E < (m.length:Int):=eF;obtain⟨cq,cz,az,aB,aF⟩:=lQ ai.out E aS a0;obtain rfl:cp=cq:=(by injection cz);replace az:=fG b az (Zlt _ _ az);replace aB:=fG b aB (Zlt _ _ aB);replace aF:=fG b aF (Zlt _ _ aF);replace aS:=eq_true aS;replace a0:=eq_true a0)|(go_at_call 94;refine cD (cT.calls _ _ _ _ dy.out) ?_;rintro e w' ⟨rfl,⟨p,rfl⟩⟩;(try exact kU)));try go_wp2)
        go_meet
        case rel=>exact⟨_,(!ft),dS,j,⟨by have:=J.out;have:=K.out;first|omega|exact Nat.le_refl _⟩,⟨pk d.out⟩,⟨bk b.out⟩⟩
       case rest=>
        clear cx;(try clear br);(try clear cf);(try clear a7);(try clear dm);obtain⟨x,cj,rfl,HA,ce,d,b⟩:=hcut
        cases x with
        | zero=>exact absurd HA.out (by simp [aG.j2])
        | succ dr=>
         have H:=HA.out;clear HA;simp only [aG.j2] at H;replace H:=eN H;rcases H with ⟨rfl,H⟩|⟨rfl,H⟩
         · have j:=Zm H;clear H;go_wp2
           repeat (go_quiet (fail);try go_wp2)
           go_loopg [4] dr (fun x v4 w'=>∃ (a9:Int),v4=.int .i64 a9∧Aside0 (aG.l1 x E a9 t u v q m a=some r)∧Aside0 (x≤dr)∧Aside0 (w'.heap[I]?=some (.cells #[.string t,.string u,.bool v,.bool q,(.slice y m.length z),(.slice Y a.length A)] 26 (0,0)))∧Aside0 (Below w.heap.size w w'))
           case atStart=>exact⟨(0),dS,j,⟨Nat.le_refl _⟩,⟨pk d.out⟩,⟨bk b.out⟩⟩
           case round=>
            clear j;(try clear br);(try clear cf);(try clear a7);(try clear g2);(try clear dm);obtain⟨a9,rfl,HA,ch,d,b⟩:=hrel
            cases gk with
            | zero=>exact absurd HA.out (by simp [aG.l1])
            | succ k4=>
             have H:=HA.out;clear HA;simp only [aG.l1] at H;replace H:=jC H;rcases H with ⟨fj,H⟩|⟨fj,H⟩
             · have j:=Zm H;clear H;go_wp2
               repeat (go_quiet (fail);try go_wp2)
               go_roundg k4
               case measure=>have:=J.out;have:=K.out;have:=ce.out;have:=ch.out;omega
               case rel=>exact⟨(wrap64 (E+1)),dS,j,⟨by have:=J.out;have:=K.out;have:=ce.out;have:=ch.out;omega⟩,⟨pk d.out⟩,⟨bk b.out⟩⟩
             replace H:=eG H;obtain⟨c33b0,H⟩:=H;replace H:=eG H;obtain⟨c34b0,H⟩:=H;replace H:=eG H;obtain⟨c35b0,H⟩:=H;replace H:=eG H;obtain⟨c36b0,H⟩:=H;replace H:=eM H;rcases H with ⟨dz,fk,fl,H⟩|⟨dz,fk,fl,H⟩
             · have j:=Zm H;clear H;have gH:=jB d.out;obtain⟨cs,cH,fm⟩:=kF ai b a9;cases cH;obtain⟨ct,cW,fn⟩:=kF ai b E;obtain rfl:cs=ct:=(by injection cW);go_wp2
               repeat (go_quiet (fail);try go_wp2)
               go_roundg k4
               case measure=>have:=J.out;have:=K.out;have:=ce.out;have:=ch.out;omega
               case rel=>exact⟨(wrap64 (a9+1)),dS,j,⟨by have:=J.out;have:=K.out;have:=ce.out;have:=ch.out;omega⟩,⟨pk d.out⟩,⟨bk b.out⟩⟩
             clear dz;obtain rfl:=Option.some.inj H;have gI:=jB d.out;obtain⟨cs,cH,fm⟩:=kF ai b a9;cases cH;obtain⟨ct,cW,fn⟩:=kF ai b E;obtain rfl:cs=ct:=(by injection cW);go_wp2
             repeat (go_quiet (fail);try go_wp2)
             go_ret;exact cI b
         obtain rfl:=Option.some.inj H;go_wp2
         repeat (go_quiet (fail);try go_wp2)
         go_ret;exact cI b
   obtain rfl:=Option.some.inj H;go_wp2
   repeat (go_quiet (fail);try go_wp2)
   go_ret;exact cI b
end Go.Proofs.YtkbebmifpccofaaGreat.PFnClassCut
