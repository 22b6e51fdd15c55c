/- Functions of the program as plain Lean functions, each with a proof that the program's call comes to the same; no condition. Written by a program of this session. -/
import Derived.Test.YtkbebmifpccofaaGreatPFnClassCutx0
import Derived.Test.YtkbebmifpccofaaGreatPFnClassCutx14
import Derived.Test.YtkbebmifpccofaaGreatPFnClassCutx20
import Derived.Test.YtkbebmifpccofaaGreatPFnClassCutx21
import Derived.Test.YtkbebmifpccofaaGreatPFnClassCutx22
namespace Go.Proofs.YtkbebmifpccofaaGreat.PFnClassCut
open Go.RowKit Go.Proofs.YtkbebmifpccofaaGreatW.PrintWords Go.Proofs.YtkbebmifpccofaaGreatW.PrintLast Go.Proofs.YtkbebmifpccofaaGreatW.PrintMore
open Go.Proofs.YtkbebmifpccofaaGreatW.PrintWords renaming below_drew1→Zbd,below_size→Zbz,below_step→Zbt,blk_drew→Zkd,blk_cell→Zkc,blk_frozen→Zkf,blk_below→Zkb
open Go.Proofs.YtkbebmifpccofaaGreatW.PrintWords.Aside0 renaming mk→Zm
attribute [local go_sem] max2_int min2_int max_two min_two max_three min_three max_four min_four   -- for this text's walks alone
set_option maxHeartbeats 80000000
set_option maxRecDepth 100000
set_option linter.unusedVariables false
set_option linter.unusedSimpArgs false
def bX.j0:Nat→Bool→ByteArray→ByteArray→Bool→Bool→Bool→Int→Int→List (cR)→List (dG)→Option (Bool)
 | 0,_,_,_,_,_,_,_,_,_,_=>none
 | k+1,r,a,e,b,i,c,j,d,m,n=>if r=true then (some false) else (if i=true then (if j=0 then (if d=0 then (if (m.length:Int)=0 then (if (n.length:Int)=0 then (if b=true then (some false) else (if c=true then (some false) else (some (a.toList != ([60,105,110,105,116,62]:List UInt8))))) else (some false)) else (some false)) else (some false)) else (some false)) else ((dC.f k a e b i c j d m n).bind fun p=>(if p=true then ((fS.f k a e b i c j d m n).bind fun q=>(if d < q then (some false) else (if a.toList=([60,105,110,105,116,62]:List UInt8) then (if b=true then (some false) else (if c=true then (some false) else ((aM.f k e).bind fun o=>(some (o.2.1.toList == ([86]:List UInt8)))))) else (some true)))) else (some false))))
def bX.f (k:Nat) (a:ByteArray) (b:ByteArray) (e:Bool) (i:Bool) (j:Bool) (c:Int) (d:Int) (m:List (cR)) (n:List (dG)):Option (Bool):=(cP.f k a).bind fun o=>(if o=true then ((dX.f k b).bind fun p=>(if p=true then ((cX.f c 0 16).bind fun q=>(if q=true then ((cX.f d 0 16).bind fun r=>(bX.j0 k (!r) a b e i j c d m n)) else (bX.j0 k true a b e i j c d m n))) else (bX.j0 k true a b e i j c d m n))) else (bX.j0 k true a b e i j c d m n))
def bX.T5:Bool×List (List Nat×List Nat):=(true,[([],[]),([0],[0]),([1],[1]),([2,1],[2]),([3],[3]),([4,3],[3,4]),([3],[3]),([6,3,3],[3,6]),([5,7,3],[3,5,7]),([3,8],[3,8])])
def bX.B5:List Nat:=[0,1,3,7,15,31,15,79,255,511]
theorem bX.tab5:rtab .any (opsOf Tryz.f161 5)=bX.T5:=by kernel_rfl
theorem bX.bits5:waitsOk bX.T5.2 bX.B5=true:=by kernel_rfl
theorem bX.calls (k:Nat) (j:ByteArray) (p:ByteArray) (q:Bool) (J:Bool) (s:Bool) (t:Int) (u:Int) (x:Option Addr) (y:Nat) (m:List (cR)) (z:Option Addr) (A:Nat) (o:List (dG)) (r:Bool) (w:World) (af:Kd.C iN w x m.length m) (ag:m.length≤y) (ah:Kd.C iY w z o.length o) (ai:o.length≤A) (h:bX.f k j p q J s t u m o=some r):
 Calls Tryz.prog 161 #[.agg #[.string j,.string p,.bool q,.bool J,.bool s,.int .i64 t,.int .i64 u,.slice x m.length y,.slice z o.length A]] w fun e w'=>e=.returned (.bool r)∧Below w.heap.size w w':=by
 have b_:=Tryz.underlying50;have a3:∀ (O L aP aR:Value) (M:World),(Instr.field 167 (.agg #[O,L,aP,aR]) 0).run Tryz.prog M=.ok (.agg #[O,L]) M:=fun _ _ _ _ _=>by rfl
 have a4:∀ (O L:Value) (M:World),(Instr.field 165 (.agg #[O,L]) 1).run Tryz.prog M=.ok (L) M:=fun _ _ _=>by rfl
 have U:=Zm af;have X:=Zm ag;clear af ag;have Y:=Zm ah;have Z:=Zm ai;clear ah ai;have b:=Zm (Below.refl w.heap.size w);have H:=h;clear h;unfold bX.f at H;have ab:=Zm H;clear H;go_enter Tryz.func161,Tryz.ntmps161;go_upto_region 1 with (first|((with_reducible refine gate_dst (N:=1) rfl ?_);(try (refine gate_guard (by rfl) ?_;dsimp only));refine fH 1 50 #[.string j,.string p,.bool q,.bool J,.bool s,.int .i64 t,.int .i64 u,.slice x m.length y,.slice z o.length A] ?_;intro d hg w3 aj c;have a:=Zm aj;have a7:=bz b hg;have a8:=bz b hg;replace b:=dJ b c;clear c aj hg));(try simp only [Act.put,List.setIfInBounds_toArray,List.set_cons_zero,List.set_cons_succ]);go_cut [24] (fun aS wc=>∃ (P:Nat) (aa:Bool),aS=.bool aa∧Aside0 (bX.j0 P aa j p q J s t u m o=some r)∧Aside0 (P≤k)∧Aside0 (wc.heap[d]?=some (.cells #[.string j,.string p,.bool q,.bool J,.bool s,.int .i64 t,.int .i64 u,(.slice x m.length y),(.slice z o.length A)] 50 (0,0)))∧Aside0 (Below w.heap.size w wc))
 case first=>
  have H:=ab.out;clear ab;replace H:=cM H;obtain⟨a_,T,H⟩:=H;replace H:=eN H;rcases H with ⟨rfl,H⟩|⟨rfl,H⟩
  · have E:=Zm H;clear H;have ba:=iL a.out;go_wp2_with (first|((with_reducible refine gate_callee (f:=201) rfl ?_);refine cQ (some 5) Tryz.func201 #[.string j] ?_;(with_reducible refine(cP.calls _ _ _ _ T.out).mono ?_);rintro e w' ⟨rfl,⟨G,rfl⟩⟩;refine⟨_,rfl,?_⟩));go_meet
    case rel=>exact⟨_,(true),dS,E,⟨iS⟩,⟨pk a.out⟩,⟨bk b.out⟩⟩
  replace H:=cM H;obtain⟨bb,A6,H⟩:=H;replace H:=eN H;rcases H with ⟨rfl,H⟩|⟨rfl,H⟩
  · have E:=Zm H;clear H;have bc:=iL a.out;go_wp2_with (first|((with_reducible refine gate_callee (f:=201) rfl ?_);refine cQ (some 5) Tryz.func201 #[.string j] ?_;(with_reducible refine(cP.calls _ _ _ _ T.out).mono ?_);rintro e w' ⟨rfl,⟨G,rfl⟩⟩;refine⟨_,rfl,?_⟩)|(go_at_call 202;refine cD (dX.calls _ _ _ _ A6.out) ?_;rintro e ca ⟨rfl,c⟩;replace a:=kb a c;replace b:=dJ b c;clear c));go_meet
    case rel=>exact⟨_,(true),dS,E,⟨iS⟩,⟨pk a.out⟩,⟨bk b.out⟩⟩
  replace H:=cM H;obtain⟨be,A8,H⟩:=H;replace H:=eN H;rcases H with ⟨rfl,H⟩|⟨rfl,H⟩
  · have E:=Zm H;clear H;have bf:=iL a.out;go_wp2_with (first|((with_reducible refine gate_callee (f:=201) rfl ?_);refine cQ (some 5) Tryz.func201 #[.string j] ?_;(with_reducible refine(cP.calls _ _ _ _ T.out).mono ?_);rintro e w' ⟨rfl,⟨G,rfl⟩⟩;refine⟨_,rfl,?_⟩)|(go_at_call 202;refine cD (dX.calls _ _ _ _ A6.out) ?_;rintro e cb ⟨rfl,c⟩;replace a:=kb a c;replace b:=dJ b c;clear c;have bh:=iL a.out;have a5:=Zkf a.out 8)|(go_at_call 135;refine cD (cX.calls _ _ _ _ _ A8.out) ?_;rintro e w' ⟨rfl,⟨G,rfl⟩⟩));go_meet
    case rel=>exact⟨_,(true),dS,E,⟨iS⟩,⟨pk a.out⟩,⟨bk b.out⟩⟩
  replace H:=cM H;obtain⟨aq,a0,H⟩:=H;have E:=Zm H;clear H;have bi:=iL a.out;go_wp2_with (first|((with_reducible refine gate_callee (f:=201) rfl ?_);refine cQ (some 5) Tryz.func201 #[.string j] ?_;(with_reducible refine(cP.calls _ _ _ _ T.out).mono ?_);rintro e w' ⟨rfl,⟨G,rfl⟩⟩;refine⟨_,rfl,?_⟩)|(go_at_call 202;refine cD (dX.calls _ _ _ _ A6.out) ?_;rintro e cc ⟨rfl,c⟩;replace a:=kb a c;replace b:=dJ b c;clear c;have bj:=iL a.out;have a6:=Zkf a.out 8)|(go_at_call 135;refine cD (cX.calls _ _ _ _ _ A8.out) ?_;rintro e w' ⟨rfl,⟨G,rfl⟩⟩)|(go_at_call 135;refine cD (cX.calls _ _ _ _ _ a0.out) ?_;rintro e w' ⟨rfl,⟨G,rfl⟩⟩));go_meet
  case rel=>exact⟨_,(!aq),dS,E,⟨iS⟩,⟨pk a.out⟩,⟨bk b.out⟩⟩
 case rest=>
  clear ab;obtain⟨P,aa,rfl,HA,cd,a,b⟩:=hcut
  cases P with
  | zero=>exact absurd HA.out (by simp [bX.j0])
  | succ ac=>
   have H:=HA.out;clear HA;simp only [bX.j0] at H;replace H:=eN H;rcases H with ⟨rfl,H⟩|⟨rfl,H⟩
   · replace H:=eN H;rcases H with ⟨rfl,H⟩|⟨rfl,H⟩
     · replace H:=cM H;obtain⟨bm,al,H⟩:=H;replace H:=eN H;rcases H with ⟨rfl,H⟩|⟨rfl,H⟩
       · obtain rfl:=Option.some.inj H;have bn:=iL a.out;try go_wp2
         have v:=(⟨Zm (Zkd a.out),Zm (Zbd b.out)⟩:_∧_);clear a b;obtain⟨a,b⟩:=v;refine start_ (n:=10) (S:=fun w'=>w'.cell? ⟨d,0,none⟩=some (.string j)∧w'.cell? ⟨d,1,none⟩=some (.string p)∧w'.cell? ⟨d,2,none⟩=some (.bool q)∧w'.cell? ⟨d,3,none⟩=some (.bool false)∧w'.cell? ⟨d,4,none⟩=some (.bool s)∧w'.cell? ⟨d,5,none⟩=some (.int .i64 t)∧w'.cell? ⟨d,6,none⟩=some (.int .i64 u)∧w'.cell? ⟨d,7,none⟩=some (.slice x m.length y)∧w'.cell? ⟨d,8,none⟩=some (.slice z o.length A)) (ds:=[]) #[false,false,false,false,false,false,false,false,false,false] (by kernel_rfl) rfl rfl ⟨(Zkc a.out 0).trans rfl,(Zkc a.out 1).trans rfl,(Zkc a.out 2).trans rfl,(Zkc a.out 3).trans rfl,(Zkc a.out 4).trans rfl,(Zkc a.out 5).trans rfl,(Zkc a.out 6).trans rfl,(Zkc a.out 7).trans rfl,(Zkc a.out 8).trans rfl⟩ (fun hHeld=>?_);refine with_tabW bX.tab5 bX.bits5 (fun HT_ HW_=>?_);generalize wc.drew=ce at a b hHeld ⊢;refine lL 0 62 ?_;refine one_ (i:=1) (N:=some 63) #[true,true,false,false,false,false,false,false,false,false] rfl rfl (one_of HT_.out (by kernel_rfl)) (by decide) (fun K D=>?_);refine goes_ Tryz.func203 (by kernel_rfl) rfl #[.agg #[.string j,.string p,.bool q,.bool false,.bool s,.int .i64 t,.int .i64 u,.slice x m.length y,.slice z o.length A]] (by rfl) rfl rfl (by (try simp only [List.map_toArray,List.map_cons,List.map_nil]);first|done|rfl|(simp only [List.length_drop,List.length_take];rfl)) ?_;with_reducible refine(dC.calls ac j p q false s t u _ _ m _ _ o false _ ?side1 ?side2 ?side3 ?side4 al.out).mono ?_
         (case side1=>exact pd U b);(case side2=>exact X.out);(case side3=>exact pd Y b);(case side4=>exact Z.out);rintro e cf ⟨rfl,c⟩;refine⟨_,rfl,?_⟩;have v:=kb a c;have B:=dJ b c;clear a;clear b;have a:=v;have b:=B;clear v B;refine D.out _ _ ⟨(Zkc a.out 0).trans rfl,(Zkc a.out 1).trans rfl,(Zkc a.out 2).trans rfl,(Zkc a.out 3).trans rfl,(Zkc a.out 4).trans rfl,(Zkc a.out 5).trans rfl,(Zkc a.out 6).trans rfl,(Zkc a.out 7).trans rfl,(Zkc a.out 8).trans rfl⟩ (fun hHeld=>?_);clear D K;refine jT 63 ?_;refine eX 2 64 ?_;refine eX 3 65 ?_;refine mU 4 66 ?_;refine mU 5 67 ?_;refine mU 6 68 ?_;refine mU 7 69 ?_;refine mU 8 70 ?_;refine eX 9 71 ?_;refine done_ (done_of HT_.out (by kernel_rfl)) ?_;try go_wp2
         go_ret;exact cI b
       replace H:=cM H;obtain⟨ar,a1,H⟩:=H;have ak:=Zm H;clear H;have bo:=iL a.out;try go_wp2
       have v:=(⟨Zm (Zkd a.out),Zm (Zbd b.out)⟩:_∧_);clear a b;obtain⟨a,b⟩:=v;refine start_ (n:=10) (S:=fun w'=>w'.cell? ⟨d,0,none⟩=some (.string j)∧w'.cell? ⟨d,1,none⟩=some (.string p)∧w'.cell? ⟨d,2,none⟩=some (.bool q)∧w'.cell? ⟨d,3,none⟩=some (.bool false)∧w'.cell? ⟨d,4,none⟩=some (.bool s)∧w'.cell? ⟨d,5,none⟩=some (.int .i64 t)∧w'.cell? ⟨d,6,none⟩=some (.int .i64 u)∧w'.cell? ⟨d,7,none⟩=some (.slice x m.length y)∧w'.cell? ⟨d,8,none⟩=some (.slice z o.length A)) (ds:=[]) #[false,false,false,false,false,false,false,false,false,false] (by kernel_rfl) rfl rfl ⟨(Zkc a.out 0).trans rfl,(Zkc a.out 1).trans rfl,(Zkc a.out 2).trans rfl,(Zkc a.out 3).trans rfl,(Zkc a.out 4).trans rfl,(Zkc a.out 5).trans rfl,(Zkc a.out 6).trans rfl,(Zkc a.out 7).trans rfl,(Zkc a.out 8).trans rfl⟩ (fun hHeld=>?_);refine with_tabW bX.tab5 bX.bits5 (fun HT_ HW_=>?_);generalize wc.drew=cg at a b hHeld ⊢;refine lL 0 62 ?_;refine one_ (i:=1) (N:=some 63) #[true,true,false,false,false,false,false,false,false,false] rfl rfl (one_of HT_.out (by kernel_rfl)) (by decide) (fun K D=>?_);refine goes_ Tryz.func203 (by kernel_rfl) rfl #[.agg #[.string j,.string p,.bool q,.bool false,.bool s,.int .i64 t,.int .i64 u,.slice x m.length y,.slice z o.length A]] (by rfl) rfl rfl (by (try simp only [List.map_toArray,List.map_cons,List.map_nil]);first|done|rfl|(simp only [List.length_drop,List.length_take];rfl)) ?_;with_reducible refine(dC.calls ac j p q false s t u _ _ m _ _ o true _ ?side1 ?side2 ?side3 ?side4 al.out).mono ?_
       (case side1=>exact pd U b);(case side2=>exact X.out);(case side3=>exact pd Y b);(case side4=>exact Z.out);rintro e ch ⟨rfl,c⟩;refine⟨_,rfl,?_⟩;have v:=kb a c;have B:=dJ b c;clear a;clear b;have a:=v;have b:=B;clear v B;refine D.out _ _ ⟨(Zkc a.out 0).trans rfl,(Zkc a.out 1).trans rfl,(Zkc a.out 2).trans rfl,(Zkc a.out 3).trans rfl,(Zkc a.out 4).trans rfl,(Zkc a.out 5).trans rfl,(Zkc a.out 6).trans rfl,(Zkc a.out 7).trans rfl,(Zkc a.out 8).trans rfl⟩ (fun hHeld=>?_);clear D K;refine jT 63 ?_;refine eX 2 64 ?_;refine eX 3 65 ?_;refine eX 4 66 ?_;refine lL 5 67 ?_;refine lL 6 68 ?_;refine one_ (i:=7) (N:=some 69) #[true,true,true,true,true,true,true,true,false,false] rfl rfl (one_of HT_.out (by kernel_rfl)) (by decide) (fun K D=>?_);refine goes_ Tryz.func204 (by kernel_rfl) rfl #[.agg #[.string j,.string p,.bool q,.bool false,.bool s,.int .i64 t,.int .i64 u,.slice x m.length y,.slice z o.length A]] (by rfl) rfl rfl (by (try simp only [List.map_toArray,List.map_cons,List.map_nil]);first|done|rfl|(simp only [List.length_drop,List.length_take];rfl)) ?_;with_reducible refine(fS.calls ac j p q false s t u _ _ m _ _ o ar _ ?side1 ?side2 ?side3 ?side4 a1.out).mono ?_
       (case side1=>exact pd U b);(case side2=>exact X.out);(case side3=>exact pd Y b);(case side4=>exact Z.out);rintro e ci ⟨rfl,c⟩;refine⟨_,rfl,?_⟩;have v:=kb a c;have B:=dJ b c;clear a;clear b;have a:=v;have b:=B;clear v B;refine D.out _ _ ⟨(Zkc a.out 0).trans rfl,(Zkc a.out 1).trans rfl,(Zkc a.out 2).trans rfl,(Zkc a.out 3).trans rfl,(Zkc a.out 4).trans rfl,(Zkc a.out 5).trans rfl,(Zkc a.out 6).trans rfl,(Zkc a.out 7).trans rfl,(Zkc a.out 8).trans rfl⟩ (fun hHeld=>?_);clear D K;refine jT 69 ?_;refine eX 8 70 ?_;refine eX 9 71 ?_;refine done_ (done_of HT_.out (by kernel_rfl)) ?_;go_upto_if 71 with (fail);have H:=ak.out;clear ak;replace H:=jC H;rcases H with ⟨I,H⟩|⟨I,H⟩
       · (first|rw [I]|(simp only [i64_w,i32_w];rw [I])|skip);replace H:=eM H;rcases H with ⟨am,au,av,H⟩|⟨am,au,av,H⟩
         · obtain rfl:=Option.some.inj H;have bp:=iL a.out;go_wp2;go_ret;exact cI b
         clear am;replace H:=eN H;rcases H with ⟨rfl,H⟩|⟨rfl,H⟩
         · replace H:=eN H;rcases H with ⟨rfl,H⟩|⟨rfl,H⟩
           · replace H:=cM H;obtain⟨⟨bq,br,bs,bu⟩,a2,H⟩:=H;(try dsimp only at H);obtain rfl:=Option.some.inj H;have bv:=iL a.out;(try clear a);go_wp2_with (first|(go_at_call 182;refine cD (aM.calls _ _ _ _ _ _ _ a2.out) ?_;rintro e cj ⟨bw,rfl,an,c⟩;have a9:=Zm (Kd.R_lower an (Zbz (bk b.out)));replace b:=dJ b c;clear c an));go_ret;exact cI b
           obtain rfl:=Option.some.inj H;have bx:=iL a.out;go_wp2;go_ret;exact cI b
         obtain rfl:=Option.some.inj H;have b0:=iL a.out;go_wp2;go_ret;exact cI b
       (first|rw [I]|(simp only [i64_w,i32_w];rw [I])|skip);obtain rfl:=Option.some.inj H;go_wp2;go_ret;exact cI b
     replace H:=eM H;rcases H with ⟨ao,aw,ax,H⟩|⟨ao,aw,ax,H⟩
     · obtain rfl:=Option.some.inj H;have b1:=iL a.out;go_wp2;go_ret;exact cI b
     clear ao;replace H:=eM H;rcases H with ⟨ap,ay,az,H⟩|⟨ap,ay,az,H⟩
     · obtain rfl:=Option.some.inj H;have b2:=iL a.out;go_wp2;go_ret;exact cI b
     clear ap;replace H:=eM H;rcases H with ⟨ad,aB,aF,H⟩|⟨ad,aB,aF,H⟩
     · have b3:¬ (m=[]):=fun h_=>ad (by rw [h_];rfl)
       obtain rfl:=Option.some.inj H;have b4:=iL a.out;go_wp2;go_ret;exact cI b
     clear ad;replace H:=eM H;rcases H with ⟨ae,aL,aO,H⟩|⟨ae,aL,aO,H⟩
     · have b5:¬ (o=[]):=fun h_=>ae (by rw [h_];rfl)
       obtain rfl:=Option.some.inj H;have b6:=iL a.out;go_wp2;go_ret;exact cI b
     clear ae;replace H:=eN H;rcases H with ⟨rfl,H⟩|⟨rfl,H⟩
     · replace H:=eN H;rcases H with ⟨rfl,H⟩|⟨rfl,H⟩
       · obtain rfl:=Option.some.inj H;have b7:=iL a.out;go_wp2;go_ret;exact cI b
       obtain rfl:=Option.some.inj H;have b8:=iL a.out;go_wp2;go_ret;exact cI b
     obtain rfl:=Option.some.inj H;have b9:=iL a.out;go_wp2;go_ret;exact cI b
   obtain rfl:=Option.some.inj H;go_wp2;go_ret;exact cI b
end Go.Proofs.YtkbebmifpccofaaGreat.PFnClassCut
