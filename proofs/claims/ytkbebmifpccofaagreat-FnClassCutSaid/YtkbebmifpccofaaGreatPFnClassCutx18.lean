/- Functions of the program as plain Lean functions, each with a proof that the program's call comes to the same; no condition. Written by a program of this session. -/
import Derived.Test.YtkbebmifpccofaaGreatPFnClassCutx0
import Derived.Test.YtkbebmifpccofaaGreatPFnClassCutx13
import Derived.Test.YtkbebmifpccofaaGreatPFnClassCutx14
import Derived.Test.YtkbebmifpccofaaGreatPFnClassCutx17
namespace Go.Proofs.YtkbebmifpccofaaGreat.PFnClassCut
open Go.RowKit Go.Proofs.YtkbebmifpccofaaGreatW.PrintWords Go.Proofs.YtkbebmifpccofaaGreatW.PrintLast Go.Proofs.YtkbebmifpccofaaGreatW.PrintMore
open Go.Proofs.YtkbebmifpccofaaGreatW.PrintWords renaming below_alloc→Zba,pw_below_drewN→Zbn,below_drew1→Zbd,below_set→Zbs,below_size→Zbz,below_step→Zbt,blk_drewN→Zkn,blk_drew→Zkd,blk_alloc→Zka,blk_cell→Zkc,blk_frozen→Zkf,blk_far→Zkr,blk_below→Zkb
open Go.World renaming block_lt_of_cell?→Zlt
open Go.Proofs.YtkbebmifpccofaaGreatW.PrintWords.Aside0 renaming mk→Zm
attribute [local go_sem] max2_int min2_int max_two min_two max_three min_three max_four min_four   -- for this text's walks alone
set_option maxHeartbeats 80000000
set_option maxRecDepth 100000
set_option linter.unusedVariables false
set_option linter.unusedSimpArgs false
def eI.l0:Nat→List (eO)→Int→Int→ByteArray→Option (Int)
 | 0,_,_,_,_=>none
 | k+1,b,d,a,c=>if a < d then (if 0≤a then (if a < (b.length:Int) then ((fA.f ((dM b a).f0) ((dM b a).f1) ((dM b a).f2) c).bind fun e=>(if e=true then (some a) else (eI.l0 k b d (wrap64 (a+1)) c))) else (none)) else (none)) else (some (-1))
def eI.f (k:Nat) (l0:List (eO)) (a:ByteArray):Option (Int):=eI.l0 k l0 (l0.length:Int) 0 a
theorem eI.calls (k:Nat) (t:Option Addr) (u:Nat) (l0:List (eO)) (d:Nat) (i:ByteArray) (r:Int) (w:World) (o:Kd.C lT w t l0.length l0) (p:l0.length≤u) (n:w.heap[d]?=some (.cells #[.string i] 9 (0,0))) (h:eI.f k l0 i=some r):
 Calls Tryz.prog 187 #[.slice t l0.length u,.func (.func 188) #[] #[.pointer (some ⟨d,0,none⟩)]] w fun e w'=>e=.returned (.int .i64 r)∧Below w.heap.size w w':=by
 have I:=Tryz.underlying67;have z:=Zm o;have K:=Zm p;clear o p;have b:=Zm n;clear n;have a:=Zm (Below.refl w.heap.size w);have H:=h;clear h;unfold eI.f at H;have j:=Zm H;clear H;go_enter Tryz.func187,Tryz.ntmps187;go_wp2;go_loopg [8] k (fun v A w'=>∃ (c:Int),A=.int .i64 c∧Aside0 (eI.l0 v l0 (l0.length:Int) c i=some r)∧Aside0 (v≤k)∧Aside0 (w'.heap[d]?=some (.cells #[.string i] 9 (0,0)))∧Aside0 (Below w.heap.size w w'))
 case atStart=>exact⟨(0),dS,j,⟨Nat.le_refl _⟩,⟨pk b.out⟩,⟨bk a.out⟩⟩
 case round=>
  clear j;obtain⟨c,rfl,HA,q,b,a⟩:=hrel
  cases gk with
  | zero=>exact absurd HA.out (by simp [eI.l0])
  | succ B=>
   have H:=HA.out;clear HA;simp only [eI.l0] at H;replace H:=jC H;rcases H with ⟨x,H⟩|⟨x,H⟩
   · obtain rfl:=Option.some.inj H;go_wp2;go_ret;exact cI a
   replace H:=eG H;obtain⟨c4b0,H⟩:=H;replace H:=eG H;obtain⟨c5b0,H⟩:=H;replace H:=cM H;obtain⟨J,D,H⟩:=H;have s:=Zm H;clear H;obtain⟨E,y,G⟩:=kF z a c;cases y;go_upto_if 16 with (first|(go_at_call 188;refine cD (fA.calls _ _ _ d _ _ _ ?side1 D.out) ?_;(case side1=>(with_reducible repeat (first|refine Zkn ?_ _|refine Zkd ?_|refine Zka ?_ _));exact b.out);rintro e L ⟨rfl,m⟩;replace b:=kb b m;replace a:=dJ a m;clear m));have H:=s.out;clear s;replace H:=eN H;rcases H with ⟨rfl,H⟩|⟨rfl,H⟩
   · have j:=Zm H;clear H;go_wp2;go_roundg B
     case measure=>have:=q.out;omega
     case rel=>exact⟨(wrap64 (c+1)),dS,j,⟨by have:=q.out;omega⟩,⟨pk b.out⟩,⟨bk a.out⟩⟩
   obtain rfl:=Option.some.inj H;go_wp2;go_ret;exact cI a
def fP.f (k:Nat) (d:ByteArray) (e:ByteArray) (i:Bool) (j:Bool) (a:List (eO)) (m:List (eH)) (c:ByteArray):Option (Int):=(eI.f k a c).bind fun b=>(some b)
theorem fP.calls (k:Nat) (o:ByteArray) (p:ByteArray) (q:Bool) (s:Bool) (t:Option Addr) (u:Nat) (i:List (eO)) (v:Option Addr) (x:Nat) (j:List (eH)) (y:ByteArray) (r:Int) (w:World) (z:Kd.C lT w t i.length i) (A:i.length≤u) (B:Kd.C lY w v j.length j) (D:j.length≤x) (h:fP.f k o p q s i j y=some r):
 Calls Tryz.prog 140 #[.agg #[.string o,.string p,.bool q,.bool s,.slice t i.length u,.slice v j.length x],.string y] w fun e w'=>e=.returned (.int .i64 r)∧Below w.heap.size w w':=by
 have Z:=Tryz.underlying26;have I:=Zm z;have J:=Zm A;clear z A;have M:=Zm B;have O:=Zm D;clear B D;have a:=Zm (Below.refl w.heap.size w);have H:=h;clear h;unfold fP.f at H;replace H:=cM H;obtain⟨aa,L,H⟩:=H;obtain rfl:=Option.some.inj H;go_enter Tryz.func140,Tryz.ntmps140;go_wp2_with (first|((with_reducible refine gate_dst (N:=2) rfl ?_);refine fH 2 26 #[.string o,.string p,.bool q,.bool s,.slice t i.length u,.slice v j.length x] ?_;intro P c w4 m b;have d:=Zm m;have T:=bz a c;have U:=bz a c;replace a:=dJ a b;clear b m c)|((with_reducible refine gate_dst (N:=3) rfl ?_);refine fH 3 9 #[.string y] ?_;intro K c w5 m b;have n:=Zm m;have X:=bz a c;have Y:=bz a c;have E:=bl d c;have G:=bg d c;replace d:=kb d b;replace a:=dJ a b;clear b m c;have ab:=E.out;have ac:=G.out;have ad:=jB d.out;(try clear d))|(go_at_call 187;refine cD (eI.calls _ _ _ _ K _ _ _ ?side1 ?side2 ?side3 L.out) ?_;(case side1=>exact pd I a);(case side2=>exact J.out);(case side3=>(with_reducible repeat (first|refine Zkn ?_ _|refine Zkd ?_|refine Zka ?_ _));exact n.out);rintro e w8 ⟨rfl,b⟩;replace n:=kb n b;replace a:=dJ a b;clear b));go_ret;exact cI a
-- NOT PRINTED: function 233 (bytealg_IndexByteString)
-- NOT PRINTED: function 229 (stringslite_IndexByte)
def strings_IndexByte.f (a:ByteArray) (b:Int):Option (Int):=some (Lib.indexByte a.data.toList b.toNat.toUInt8)
theorem strings_IndexByte.calls (a:ByteArray) (b:Int) (r:Int) (w:World) (h:strings_IndexByte.f a b=some r):
    Calls Tryz.prog 216 #[.string a,.int .u8 b] w fun e w'=>e=.returned (.int .i64 r)∧Drawn0 w w':=by
  obtain rfl:=Option.some.inj h;exact(Tryz.strings_IndexByte a b w).mono fun e w' ⟨c,d⟩=>⟨c,d ▸ Drawn0.refl _⟩
def eB.f (b:Int) (c:Int):Option (Bool):=(strings_IndexByte.f (⟨#[48,49,50,51,52,53,54,55,56,57,97,98,99,100,101,102,103,104,105,106,107,108,109,110,111,112,113,114,115,116,117,118,119,120,121,122,65,66,67,68,69,70,71,72,73,74,75,76,77,78,79,80,81,82,83,84,85,86,87,88,89,90,36]⟩:ByteArray) b).bind fun a=>(if a ≥ 10 then (some true) else (if a ≥ 0 then (some (decide (c > 0))) else (some false)))
theorem eB.calls (a:Int) (j:Int) (r:Bool) (w:World) (h:eB.f a j=some r):
 Calls Tryz.prog 199 #[.int .u8 a,.int .i64 j] w fun e w'=>e=.returned (.bool r)∧Drawn0 w w':=by
 have H:=h;clear h;unfold eB.f at H;replace H:=cM H;obtain⟨d,i,H⟩:=H;replace H:=iG H;rcases H with ⟨b,H⟩|⟨b,H⟩
 · have m:decide (10≤d)=false:=decide_eq_false b;clear b;replace H:=iG H;rcases H with ⟨c,H⟩|⟨c,H⟩
   · have n:decide (0≤d)=false:=decide_eq_false c;clear c;obtain rfl:=Option.some.inj H;go_enter Tryz.func199,Tryz.ntmps199;go_wp2_with (first|((with_reducible refine gate_callee (f:=216) rfl ?_);refine cQ (some 7) Tryz.func216 #[.string (⟨#[48,49,50,51,52,53,54,55,56,57,97,98,99,100,101,102,103,104,105,106,107,108,109,110,111,112,113,114,115,116,117,118,119,120,121,122,65,66,67,68,69,70,71,72,73,74,75,76,77,78,79,80,81,82,83,84,85,86,87,88,89,90,36]⟩:ByteArray),.int .u8 a] ?_;(with_reducible refine(strings_IndexByte.calls _ _ _ _ i.out).mono ?_);rintro e w' ⟨rfl,⟨k,rfl⟩⟩;refine⟨_,rfl,?_⟩));go_ret;exact hU
   have n:decide (0≤d)=true:=decide_eq_true c;clear c;obtain rfl:=Option.some.inj H;go_enter Tryz.func199,Tryz.ntmps199;go_wp2_with (first|((with_reducible refine gate_callee (f:=216) rfl ?_);refine cQ (some 7) Tryz.func216 #[.string (⟨#[48,49,50,51,52,53,54,55,56,57,97,98,99,100,101,102,103,104,105,106,107,108,109,110,111,112,113,114,115,116,117,118,119,120,121,122,65,66,67,68,69,70,71,72,73,74,75,76,77,78,79,80,81,82,83,84,85,86,87,88,89,90,36]⟩:ByteArray),.int .u8 a] ?_;(with_reducible refine(strings_IndexByte.calls _ _ _ _ i.out).mono ?_);rintro e w' ⟨rfl,⟨k,rfl⟩⟩;refine⟨_,rfl,?_⟩));go_ret;exact hU
 have m:decide (10≤d)=true:=decide_eq_true b;clear b;obtain rfl:=Option.some.inj H;go_enter Tryz.func199,Tryz.ntmps199;go_wp2_with (first|((with_reducible refine gate_callee (f:=216) rfl ?_);refine cQ (some 7) Tryz.func216 #[.string (⟨#[48,49,50,51,52,53,54,55,56,57,97,98,99,100,101,102,103,104,105,106,107,108,109,110,111,112,113,114,115,116,117,118,119,120,121,122,65,66,67,68,69,70,71,72,73,74,75,76,77,78,79,80,81,82,83,84,85,86,87,88,89,90,36]⟩:ByteArray),.int .u8 a] ?_;(with_reducible refine(strings_IndexByte.calls _ _ _ _ i.out).mono ?_);rintro e w' ⟨rfl,⟨k,rfl⟩⟩;refine⟨_,rfl,?_⟩));go_ret;exact hU
def aV.l0:Nat→ByteArray→Int→Int→Option (Bool)
 | 0,_,_,_=>none
 | k+1,b,c,a=>if a < c then (if 0≤a then (if a < (b.size:Int) then ((eB.f (bt b a) a).bind fun d=>(if d=true then (aV.l0 k b c (wrap64 (a+1))) else (some false))) else (none)) else (none)) else ((bW.f b).bind fun e=>((cX.f e 1 20).bind fun i=>(some i)))
def aV.f (k:Nat) (a:ByteArray):Option (Bool):=aV.l0 k a (a.size:Int) 0
theorem aV.mono_l:∀ k,(∀ a b c,LeO (aV.l0 k a b c) (aV.l0 (k+1) a b c))
 | 0=>by intros;intro r h;simp [aV.l0] at h
 | k+1=>by
  have ih0:=aV.mono_l k;intros;unfold aV.l0;exact lM
theorem aV.mono:∀ a k,LeO (aV.f k a) (aV.f (k+1) a):=by
 intro a k;have ih0:=aV.mono_l k;unfold aV.f;exact lM
theorem aV.calls (k:Nat) (b:ByteArray) (r:Bool) (w:World) (h:aV.f k b=some r):
 Calls Tryz.prog 159 #[.string b] w fun e w'=>e=.returned (.bool r)∧Drawn0 w w':=by
 have H:=h;clear h;unfold aV.f at H;have c:=Zm H;clear H;go_enter Tryz.func159,Tryz.ntmps159;go_wp2;go_loopg [6] k (fun j t w'=>∃ (a:Int),t=.int .i64 a∧Aside0 (aV.l0 j b (b.size:Int) a=some r)∧Aside0 (j≤k)∧Drawn0 w w')
 case atStart=>exact⟨(0),dS,c,⟨Nat.le_refl _⟩,mX⟩
 case round=>
  clear c;obtain⟨a,rfl,HA,d,⟨m1,rfl⟩⟩:=hrel
  cases gk with
  | zero=>exact absurd HA.out (by simp [aV.l0])
  | succ u=>
   have H:=HA.out;clear HA;simp only [aV.l0] at H;replace H:=jC H;rcases H with ⟨p,H⟩|⟨p,H⟩
   · replace H:=cM H;obtain⟨q,v,H⟩:=H;replace H:=cM H;obtain⟨y,s,H⟩:=H;obtain rfl:=Option.some.inj H;go_wp2_with (first|((with_reducible refine gate_callee (f:=101) rfl ?_);refine cQ (some 17) Tryz.func101 #[.string b] ?_;(with_reducible refine(bW.calls _ _ _ v.out).mono ?_);rintro e w' ⟨rfl,⟨m,rfl⟩⟩;refine⟨_,rfl,?_⟩)|((with_reducible refine gate_callee (f:=135) rfl ?_);refine cQ (some 18) Tryz.func135 #[.int .i64 q,.int .i64 1,.int .i64 20] ?_;(with_reducible refine(cX.calls _ _ _ _ _ s.out).mono ?_);rintro e w' ⟨rfl,⟨m,rfl⟩⟩;refine⟨_,rfl,?_⟩));go_ret;exact hU
   replace H:=eG H;obtain⟨c3b0,H⟩:=H;replace H:=eG H;obtain⟨c4b0,H⟩:=H;replace H:=cM H;obtain⟨z,x,H⟩:=H;have i:=Zm H;clear H;have n:0≤(a:Int):=eF;have o:a < (b.size:Int):=eF;have A:=bt_at b a;replace n:=eq_true n;replace o:=eq_true o;go_upto_if 14 with (first|((with_reducible refine gate_callee (f:=199) rfl ?_);refine cQ (some 13) Tryz.func199 #[.int .u8 (bt b a),.int .i64 a] ?_;(with_reducible refine(eB.calls _ _ _ _ x.out).mono ?_);rintro e w' ⟨rfl,⟨m,rfl⟩⟩;refine⟨_,rfl,?_⟩));have H:=i.out;clear i;replace H:=eN H;rcases H with ⟨rfl,H⟩|⟨rfl,H⟩
   · obtain rfl:=Option.some.inj H;go_wp2;go_ret;exact hU
   have c:=Zm H;clear H;go_wp2;go_roundg u
   case measure=>have:=d.out;omega
   case rel=>exact⟨(wrap64 (a+1)),dS,c,⟨by have:=d.out;omega⟩,mX⟩
def bT (w0 W:World) (g:Nat) (a:ByteArray) (b:Int) (c:Bool):Prop:=W.heap[g]?=some (.cells #[.string a,.int .i64 b,.bool c] 205 (0,0))∧w0.heap.size≤g
theorem bT.grown {w0 W:World} {g:Nat} {a:ByteArray} {b:Int} {c:Bool} {d:World} {row:Option Nat} (h:bT w0 W g a b c) (i:W.grownBy d row) (e:some g≠row):bT w0 d g a b c:=by
 obtain⟨hb,hg⟩:=h;exact⟨blk_grown hb i e,hg⟩
theorem bT.kept {w0 W:World} {g:Nat} {a:ByteArray} {b:Int} {c:Bool} {d:World} {S:Nat→Prop} (h:bT w0 W g a b c) (i:Kept W d S) (e:¬ S g):bT w0 d g a b c:=by
 obtain⟨hb,hg⟩:=h;exact⟨blk_kept hb i e,hg⟩
theorem bT.below {w0 W:World} {g:Nat} {a:ByteArray} {b:Int} {c:Bool} {d:World} (h:bT w0 W g a b c) (e:Below W.heap.size W d):bT w0 d g a b c:=h.grown (grown_of_below e none) (by simp)
theorem bT.alloc {w0 W:World} {g:Nat} {a:ByteArray} {b:Int} {c:Bool} (h:bT w0 W g a b c) (o:Obj):bT w0 (W.alloc o) g a b c:=h.below (Zba (Below.refl _ _) o)
theorem bT.drewN {w0 W:World} {g:Nat} {a:ByteArray} {b:Int} {c:Bool} (h:bT w0 W g a b c) (m:Nat):bT w0 (W.drewN m) g a b c:=h
theorem bT.drew {w0 W:World} {g:Nat} {a:ByteArray} {b:Int} {c:Bool} (h:bT w0 W g a b c):bT w0 W.drew g a b c:=h
theorem bT.at_ {w0 W:World} {g:Nat} {a:ByteArray} {b:Int} {c:Bool} {w':World} {m:Nat} (d:W.drewN m=w') (h:bT w0 W g a b c):bT w0 w' g a b c:=by subst d;exact bT.drewN h m
theorem bT.apart {w0 W:World} {g:Nat} {a:ByteArray} {b:Int} {c:Bool} {α:Type} {d:Kd α} {e:Nat} {base:Nat} {ok:Nat→Prop} {v:Value} {xs:List α} (h:bT w0 W g a b c) (i:d.R e W base ok v xs) (j:∀ q,q∈e :: d.E→q≠205):d.R e W base (fun k=>ok k∧k≠g) v xs:=by
 obtain⟨hb,hg⟩:=h;exact Kd.R_types i hb j
theorem bT.own_ne {w0 W:World} {g:Nat} {a:ByteArray} {b:Int} {c:Bool} {α:Type} {d:Kd α} {e:Nat} {base:Nat} {ok:Nat→Prop} {v:Value} {xs:List α} (h:bT w0 W g a b c) (i:d.R e W base ok v xs) (j:e≠205):some g≠v.ownBlock:=by
 obtain⟨hb,hg⟩:=h;exact Kd.R_ne i hb j
theorem bT.apartS {w0 W:World} {g:Nat} {a:ByteArray} {b:Int} {c:Bool} {α:Type} {d:Kd α} {e:Nat} {base:Nat} {ok:Nat→Prop} {v:Value} {xs:List α} (h:bT w0 W g a b c) (i:d.S e W base ok v xs) (j:∀ q,q∈e :: d.E→q≠205):d.S e W base (fun k=>ok k∧k≠g) v xs:=by
 obtain⟨hb,hg⟩:=h;exact Kd.S_types i hb j
theorem bT.own_neS {w0 W:World} {g:Nat} {a:ByteArray} {b:Int} {c:Bool} {α:Type} {d:Kd α} {e:Nat} {base:Nat} {ok:Nat→Prop} {v:Value} {xs:List α} (h:bT w0 W g a b c) (i:d.S e W base ok v xs) (j:e≠205):some g≠v.ownBlock:=by
 obtain⟨hb,hg⟩:=h;exact Kd.S_ne i hb j
theorem bT.lt {w0 W:World} {g:Nat} {a:ByteArray} {b:Int} {c:Bool} (h:bT w0 W g a b c):g < W.heap.size:=by
 obtain⟨hb,hg⟩:=h;exact blk_lt hb
theorem bT.ge {w0 W:World} {g:Nat} {a:ByteArray} {b:Int} {c:Bool} (h:bT w0 W g a b c):w0.heap.size≤g:=by
 obtain⟨hb,hg⟩:=h;exact hg
theorem bT.ne_blk {w0 W:World} {g:Nat} {d:ByteArray} {e:Int} {i:Bool} {a:Nat} {cs:Array Value} {t:TypeId} {fr:Nat×Nat} (h:bT w0 W g d e i) (b:W.heap[a]?=some (.cells cs t fr)) (j:t≠205):g≠a:=by
 obtain⟨hb,hg⟩:=h;rintro rfl;rw [hb] at b;injection b with b;injection b with _ c;exact j c.symm
theorem bT.far {w0 W:World} {g:Nat} {a:ByteArray} {b:Int} {c:Bool} {p:Addr} (h:bT w0 W g a b c) (d:g≠p.block) (u:Value):bT w0 (W.setCell p u) g a b c:=by
 obtain⟨hb,hg⟩:=h;exact⟨Zkr hb d u,hg⟩
theorem gU {W:World} {g:Nat} {a:ByteArray} {b:Int} {c:Bool} (h:W.heap[g]?=some (.cells #[.string a,.int .i64 b,.bool c] 205 (0,0))):W.cell? ⟨g,0,none⟩=some (.string a):=(Zkc h 0).trans rfl
theorem bT.set_0 {w0 W:World} {g:Nat} {c:ByteArray} {a:Int} {b:Bool} (h:bT w0 W g c a b) (x:ByteArray):bT w0 (W.setCell ⟨g,0,none⟩ (.string x)) g x a b:=by
 obtain⟨hb,hg⟩:=h;exact⟨by simpa using blk_set hb 0 (.string x),hg⟩
theorem fV {W:World} {g:Nat} {b:ByteArray} {a:Int} {c:Bool} (h:W.heap[g]?=some (.cells #[.string b,.int .i64 a,.bool c] 205 (0,0))):W.cell? ⟨g,1,none⟩=some (.int .i64 a):=(Zkc h 1).trans rfl
theorem bT.set_1 {w0 W:World} {g:Nat} {a:ByteArray} {c:Int} {b:Bool} (h:bT w0 W g a c b) (x:Int):bT w0 (W.setCell ⟨g,1,none⟩ (.int .i64 x)) g a x b:=by
 obtain⟨hb,hg⟩:=h;exact⟨by simpa using blk_set hb 1 (.int .i64 x),hg⟩
theorem gV {W:World} {g:Nat} {b:ByteArray} {c:Int} {a:Bool} (h:W.heap[g]?=some (.cells #[.string b,.int .i64 c,.bool a] 205 (0,0))):W.cell? ⟨g,2,none⟩=some (.bool a):=(Zkc h 2).trans rfl
theorem bT.set_2 {w0 W:World} {g:Nat} {a:ByteArray} {b:Int} {c:Bool} (h:bT w0 W g a b c) (x:Bool):bT w0 (W.setCell ⟨g,2,none⟩ (.bool x)) g a b x:=by
 obtain⟨hb,hg⟩:=h;exact⟨by simpa using blk_set hb 2 (.bool x),hg⟩
theorem cF {w0 W:World} {g:Nat} {a:ByteArray} {b:Int} {c:Bool} (h:bT w0 W g a b c:=by repeat (first|(with_reducible first|(refine Aside0.out ?_;assumption)|apply bT.alloc|apply bT.drewN|apply bT.drew|apply bT.set_0|apply bT.set_1|apply bT.set_2|refine bT.far ?_ (Aside0.out (by assumption)) _)|(refine Aside0.out ?_;assumption))):bT w0 W g a b c:=h
theorem iC {w W:World} (h:Below w.heap.size w W:=by repeat (first|(with_reducible first|(refine Aside0.out ?_;assumption)|apply below_alloc|apply pw_below_drewN|apply below_drew1|refine below_set ?_ (Aside0.out (by assumption))|refine below_set ?_ (bT.ge (Aside0.out (by assumption))))|(refine Aside0.out ?_;assumption))):Below w.heap.size w W:=h
def fE.f (b:ByteArray) (a:Int) (c:Bool) (e:Int):Option (Bool×ByteArray×Int×Bool):=if c=true then (some (false,b,a,c)) else ((bW.f b).bind fun d=>(if a < d then (if 0≤a then (if a < (b.size:Int) then (some (((bt b a) == e),b,a,c)) else (none)) else (none)) else (some (false,b,a,c))))
theorem fE.calls (g:Nat) (a:ByteArray) (b:Int) (j:Bool) (p:Int) (r1:Bool) (q:ByteArray) (r:Int) (r4:Bool) (w0 w:World) (s:bT w0 w g a b j) (d:Below w0.heap.size w0 w) (h:fE.f a b j p=some (r1,q,r,r4)):
 Calls Tryz.prog 227 #[.pointer (some ⟨g,0,none⟩),.int .u8 p] w fun e w'=>e=.returned (.bool r1)∧bT w0 w' g q r r4∧Below w0.heap.size w0 w'∧KeepBut w w' g none:=by
 have c:=Zm s;have HK:=Zm (KeepBut.refl w g none);have G:=Zm d.size;clear s;have B:=Zm d.size;have k:=Zm d;clear d;have H:=h;clear h;unfold fE.f at H;obtain⟨hb,hg⟩:=c.out;have I:=gU hb;have J:=fV hb;have K:=gV hb;have A:=Tryz.underlying205;have u:∀ W:World,Calls Tryz.prog 101 #[.string a] W fun e t=>e=.returned (.int .i64 (a.size:Int))∧Drawn0 W t:=fun W=>bW.calls a (a.size:Int) W rfl
 have o:∀ (W:World) (n:Nat),Calls Tryz.prog 101 #[.string a] (W.drewN n) fun e v=>e=.returned (.int .i64 (a.size:Int))∧∃ m,v=W.drewN m:=fun W n=>Calls.quiet_of ((u (W.drewN n)).mono fun e t ⟨y,⟨m,z⟩⟩=>⟨y,m,z⟩)
 clear hb
 cases j with
 | true=>
  rw [if_pos rfl] at H;simp only [Option.some.injEq,Prod.mk.injEq] at H;obtain⟨rfl,rfl,rfl,rfl⟩:=H;go_enter Tryz.func227,Tryz.ntmps227;go_wp2;go_quiet (fail);go_wp2;go_ret
  exact⟨rfl,c.out,by repeat (with_reducible first|exact k.out|apply Zbn|apply Zbd),by repeat (with_reducible first|exact HK.out|apply keep_drewN|apply keep_drew)⟩
 | false=>
  rw [if_neg (by simp)] at H;simp only [bW.f,Option.bind_some] at H;replace H:=iG H;rcases H with ⟨i,H⟩|⟨i,H⟩
  · have x:decide (b < (a.size:Int))=false:=decide_eq_false i;simp only [Option.some.injEq,Prod.mk.injEq] at H;obtain⟨rfl,rfl,rfl,rfl⟩:=H;go_enter Tryz.func227,Tryz.ntmps227;go_wp2;go_quiet ((go_at_call 101;exact o _ _));go_wp2;go_ret;exact⟨rfl,c.out,by repeat (with_reducible first|exact k.out|apply Zbn|apply Zbd),by repeat (with_reducible first|exact HK.out|apply keep_drewN|apply keep_drew)⟩
  have x:decide (b < (a.size:Int))=true:=decide_eq_true i;by_cases c2:0≤b;rotate_left
  · rw [if_neg c2] at H;exact absurd H (by simp)
  rw [if_pos c2,if_pos i] at H;have D:decide (0≤b)=true:=decide_eq_true c2;simp only [Option.some.injEq,Prod.mk.injEq] at H;obtain⟨rfl,rfl,rfl,rfl⟩:=H;have E:=bt_at a b;go_enter Tryz.func227,Tryz.ntmps227;go_wp2;go_quiet ((go_at_call 101;exact o _ _));go_wp2;go_ret;exact⟨rfl,c.out,by repeat (with_reducible first|exact k.out|apply Zbn|apply Zbd),by repeat (with_reducible first|exact HK.out|apply keep_drewN|apply keep_drew)⟩
def bD.f (b:ByteArray) (c:Int) (d:Bool) (e:Int):Option (Bool×ByteArray×Int×Bool):=(fE.f b c d e).bind fun a=>(if a.1=true then (some (true,a.2.1,wrap64 (a.2.2.1+1),a.2.2.2)) else (some (false,a.2.1,a.2.2.1,a.2.2.2)))
theorem bD.calls (g:Nat) (i:ByteArray) (j:Int) (k:Bool) (c:Int) (r1:Bool) (o:ByteArray) (p:Int) (r4:Bool) (w0 w:World) (q:bT w0 w g i j k) (b:Below w0.heap.size w0 w) (h:bD.f i j k c=some (r1,o,p,r4)):
 Calls Tryz.prog 212 #[.pointer (some ⟨g,0,none⟩),.int .u8 c] w fun e w'=>e=.returned (.bool r1)∧bT w0 w' g o p r4∧Below w0.heap.size w0 w'∧KeepBut w w' g none:=by
 have m:=Zm q;have HK:=Zm (KeepBut.refl w g none);have L:=Zm b.size;clear q;have K:=Zm b.size;have d:=Zm b;clear b;have H:=h;clear h;unfold bD.f at H;replace H:=cM H;obtain⟨⟨E,G,I,J⟩,v,H⟩:=H;(try dsimp only at H);have n:=Zm H;clear H;go_enter Tryz.func212,Tryz.ntmps212;go_upto_if 8 with (first|((with_reducible refine gate_callee (f:=227) rfl ?_);refine cQ (some 7) Tryz.func227 #[.pointer (some ⟨g,0,none⟩),.int .u8 c] ?_;refine cD (fE.calls g _ _ _ _ _ _ _ _ w0 _ cF (bk d.out) v.out) ?_;rintro e M ⟨rfl,r,s,t⟩;refine⟨_,rfl,?_⟩;replace HK:=Zm (KeepBut.trans iT t (.inl rfl));replace d:=Zm s;replace m:=Zm r;clear s t r));have H:=n.out;clear n;replace H:=eN H;rcases H with ⟨rfl,H⟩|⟨rfl,H⟩
 · simp only [Option.some.injEq,Prod.mk.injEq] at H;obtain⟨rfl,rfl,rfl,rfl⟩:=H;go_wp2;go_ret;exact⟨gP,by exact cF,by exact bk d.out,by repeat (first|(with_reducible first|exact HK.out|apply KeepBut.set_|apply keep_drewN|apply keep_drew|apply keep_alloc)|exact HK.out)⟩
 simp only [Option.some.injEq,Prod.mk.injEq] at H;obtain⟨rfl,rfl,rfl,rfl⟩:=H;obtain⟨a,u⟩:=m.out;have x:=gU a;have y:=fV a;have z:=gV a;have A:=Zkf a 0;have B:=Zkf a 1;have D:=Zkf a 2;clear a u;go_wp2;go_ret;exact⟨gP,by exact cF,by exact iC,by repeat (first|(with_reducible first|exact HK.out|apply KeepBut.set_|apply keep_drewN|apply keep_drew|apply keep_alloc)|exact HK.out)⟩
def bZ.f (b:ByteArray) (c:Int) (d:Bool) (e:Int):Option (ByteArray×Int×Bool):=(bD.f b c d e).bind fun a=>(if a.1=true then (some (a.2.1,a.2.2.1,a.2.2.2)) else (some (a.2.1,a.2.2.1,true)))
theorem bZ.calls (g:Nat) (i:ByteArray) (j:Int) (k:Bool) (c:Int) (r1:ByteArray) (o:Int) (p:Bool) (w0 w:World) (q:bT w0 w g i j k) (b:Below w0.heap.size w0 w) (h:bZ.f i j k c=some (r1,o,p)):
 Calls Tryz.prog 211 #[.pointer (some ⟨g,0,none⟩),.int .u8 c] w fun e w'=>e=.returned (.tuple #[])∧bT w0 w' g r1 o p∧Below w0.heap.size w0 w'∧KeepBut w w' g none:=by
 have m:=Zm q;have HK:=Zm (KeepBut.refl w g none);have L:=Zm b.size;clear q;have K:=Zm b.size;have d:=Zm b;clear b;have H:=h;clear h;unfold bZ.f at H;replace H:=cM H;obtain⟨⟨E,G,I,J⟩,v,H⟩:=H;(try dsimp only at H);have n:=Zm H;clear H;go_enter Tryz.func211,Tryz.ntmps211;go_upto_if 7 with (first|((with_reducible refine gate_callee (f:=212) rfl ?_);refine cQ (some 6) Tryz.func212 #[.pointer (some ⟨g,0,none⟩),.int .u8 c] ?_;refine cD (bD.calls g _ _ _ _ _ _ _ _ w0 _ cF (bk d.out) v.out) ?_;rintro e M ⟨rfl,r,s,t⟩;refine⟨_,rfl,?_⟩;replace HK:=Zm (KeepBut.trans iT t (.inl rfl));replace d:=Zm s;replace m:=Zm r;clear s t r));have H:=n.out;clear n;replace H:=eN H;rcases H with ⟨rfl,H⟩|⟨rfl,H⟩
 · simp only [Option.some.injEq,Prod.mk.injEq] at H;obtain⟨rfl,rfl,rfl⟩:=H;obtain⟨a,u⟩:=m.out;have x:=gU a;have y:=fV a;have z:=gV a;have A:=Zkf a 0;have B:=Zkf a 1;have D:=Zkf a 2;clear a u;go_wp2
   first|go_end0|((try simp only [Exit.inBlock,Exit.then]);refine bodyPost_ret (results_none rfl _ _ _) rfl ?_)
   exact⟨gP,by exact cF,by exact iC,by repeat (first|(with_reducible first|exact HK.out|apply KeepBut.set_|apply keep_drewN|apply keep_drew|apply keep_alloc)|exact HK.out)⟩
 simp only [Option.some.injEq,Prod.mk.injEq] at H;obtain⟨rfl,rfl,rfl⟩:=H;go_wp2
 first|go_end0|((try simp only [Exit.inBlock,Exit.then]);refine bodyPost_ret (results_none rfl _ _ _) rfl ?_)
 exact⟨gP,by exact cF,by exact bk d.out,by repeat (first|(with_reducible first|exact HK.out|apply KeepBut.set_|apply keep_drewN|apply keep_drew|apply keep_alloc)|exact HK.out)⟩
def bN.l0:Nat→Int→ByteArray→Int→Bool→Option (ByteArray×Int×Bool)
 | 0,_,_,_,_=>none
 | k+1,c,b,a,d=>if d=true then (if a=c then ((bZ.f b a true 59).bind fun e=>(some (e.1,e.2.1,e.2.2))) else ((bZ.f b a d 59).bind fun i=>(some (i.1,i.2.1,i.2.2)))) else ((bW.f b).bind fun r=>(if a < r then (if a < (wrap64 (c+20)) then (if 0≤a then (if a < (b.size:Int) then ((eB.f (bt b a) (wrap64 (a - c))).bind fun s=>(if s=true then (bN.l0 k c b (wrap64 (a+1)) d) else (if a=c then ((bZ.f b a true 59).bind fun j=>(some (j.1,j.2.1,j.2.2))) else ((bZ.f b a d 59).bind fun m=>(some (m.1,m.2.1,m.2.2)))))) else (none)) else (none)) else (if a=c then ((bZ.f b a true 59).bind fun n=>(some (n.1,n.2.1,n.2.2))) else ((bZ.f b a d 59).bind fun o=>(some (o.1,o.2.1,o.2.2))))) else (if a=c then ((bZ.f b a true 59).bind fun p=>(some (p.1,p.2.1,p.2.2))) else ((bZ.f b a d 59).bind fun q=>(some (q.1,q.2.1,q.2.2))))))
def bN.f (k:Nat) (b:ByteArray) (a:Int) (c:Bool):Option (ByteArray×Int×Bool):=bN.l0 k a b a c
theorem bN.mono_l:∀ k,(∀ a b c d,LeO (bN.l0 k a b c d) (bN.l0 (k+1) a b c d))
 | 0=>by intros;intro r h;simp [bN.l0] at h
 | k+1=>by
  have ih0:=bN.mono_l k;intros;unfold bN.l0;exact lM
theorem bN.mono:∀ a b c k,LeO (bN.f k a b c) (bN.f (k+1) a b c):=by
 intro a b c k;have ih0:=bN.mono_l k;unfold bN.f;exact lM
theorem bN.calls (k:Nat) (g:Nat) (c:ByteArray) (p:Int) (K:Bool) (r1:ByteArray) (z:Int) (A:Bool) (w0 w:World) (hI:bT w0 w g c p K) (O:Below w0.heap.size w0 w) (h:bN.f k c p K=some (r1,z,A)):
 Calls Tryz.prog 217 #[.pointer (some ⟨g,0,none⟩)] w fun e w'=>e=.returned (.tuple #[])∧bT w0 w' g r1 z A∧Below w0.heap.size w0 w'∧KeepBut w w' g none:=by
 have M:=Zm hI;have HK:=Zm (KeepBut.refl w g none);have HL:=Zm O.size;clear hI;have ag:=Zm O.size;have y:=Zm O;clear O;have H:=h;clear h;unfold bN.f at H
 have D:∀ (o:Option (ByteArray×Int×Bool)) (r:ByteArray×Int×Bool),(o.bind fun b=>some (b.1,b.2.1,b.2.2))=some r→o=some r:=by
  intro o r h
  cases o with
  | none=>exact h
  | some b=>exact h
 have B:=bT.ge M.out;have af:=Tryz.underlying205;have aa:∀ W:World,Calls Tryz.prog 101 #[.string c] W fun e X=>e=.returned (.int .i64 (c.size:Int))∧Drawn0 W X:=fun W=>bW.calls c (c.size:Int) W rfl
 have E:∀ (W:World) (n:Nat),Calls Tryz.prog 101 #[.string c] (W.drewN n) fun e P=>e=.returned (.int .i64 (c.size:Int))∧∃ m,P=W.drewN m:=fun W n=>Calls.quiet_of ((aa (W.drewN n)).mono fun e X ⟨Y,⟨m,Z⟩⟩=>⟨Y,m,Z⟩)
 have HH:=Zm H;clear H aa;obtain⟨ab,_⟩:=M.out;have g1:=fV ab;clear ab;go_enter Tryz.func217,Tryz.ntmps217;go_wp2;clear g1;go_loopg [] k (fun kq w'=>∃ (x:Int),Aside0 (bN.l0 kq p c x K=some (r1,z,A))∧Aside0 (kq≤k)∧Aside0 (bT w0 w' g c x K)∧Aside0 (Below w0.heap.size w0 w')∧Aside0 (KeepBut w w' g none))
 case atStart=>exact⟨p,HH,⟨Nat.le_refl _⟩,M,y,HK⟩
 case round=>
  clear HH M y HK;obtain⟨x,HA,ac,HI,y,HK⟩:=hrel
  cases gk with
  | zero=>exact absurd HA.out (by simp [bN.l0])
  | succ k1=>
   have H:=HA.out;clear HA;simp only [bN.l0,bW.f,Option.bind_some] at H;obtain⟨a,_⟩:=HI.out;have f0:=gU a;have f1:=fV a;have f2:=gV a;have z1:=Zkf a 1;have z2:=Zkf a 2;clear a
   cases K with
   | true=>
    rw [if_pos rfl] at H;clear E;replace H:=iG H;rcases H with ⟨j,H⟩|⟨j,H⟩
    · have G:(x == p)=false:=beq_eq_false_iff_ne.mpr j;have v:=Zm (D _ _ H);clear H;go_wp2;go_quiet (fail);go_wp2_with (first|((with_reducible refine gate_callee (f:=211) rfl ?_);refine goesL_ (some 68) rfl rfl Tryz.func211 (by kernel_rfl) rfl #[.pointer (some ⟨g,0,none⟩),.int .u8 59] rfl (by (try simp only [List.map_toArray,List.map_cons,List.map_nil]);first|done|rfl) ?_;(with_reducible refine(bZ.calls g c x true 59 r1 z A w0 _ ?side1 ?side2 v.out).mono ?_);(case side1=>exact cF);(case side2=>(with_reducible repeat (first|exact y.out|apply Zbn|apply Zbd|refine Zbs ?_ B)));rintro e I ⟨rfl,d,a,i⟩;refine⟨_,rfl,?_⟩;have q:=Zm d;have s:=Zm a;have u:=Zm (KeepBut.trans (by (with_reducible repeat (first|exact HK.out|apply KeepBut.set_|apply keep_drewN|apply keep_drew))) i (.inl rfl));clear d a i))
      first|go_end0|((try simp only [Exit.inBlock,Exit.then]);refine bodyPost_ret (results_none rfl _ _ _) rfl ?_)
      exact⟨rfl,q.out,s.out,u.out⟩
    have G:(x == p)=true:=beq_iff_eq.mpr j;have v:=Zm (D _ _ H);clear H j;go_wp2;go_quiet (fail);go_wp2_with (first|((with_reducible refine gate_callee (f:=211) rfl ?_);refine goesL_ (some 68) rfl rfl Tryz.func211 (by kernel_rfl) rfl #[.pointer (some ⟨g,0,none⟩),.int .u8 59] rfl (by (try simp only [List.map_toArray,List.map_cons,List.map_nil]);first|done|rfl) ?_;(with_reducible refine(bZ.calls g c x true 59 r1 z A w0 _ ?side1 ?side2 v.out).mono ?_);(case side1=>exact cF);(case side2=>(with_reducible repeat (first|exact y.out|apply Zbn|apply Zbd|refine Zbs ?_ B)));rintro e I ⟨rfl,d,a,i⟩;refine⟨_,rfl,?_⟩;have q:=Zm d;have s:=Zm a;have u:=Zm (KeepBut.trans (by (with_reducible repeat (first|exact HK.out|apply KeepBut.set_|apply keep_drewN|apply keep_drew))) i (.inl rfl));clear d a i))
    first|go_end0|((try simp only [Exit.inBlock,Exit.then]);refine bodyPost_ret (results_none rfl _ _ _) rfl ?_)
    exact⟨rfl,q.out,s.out,u.out⟩
   | false=>
    rw [if_neg (by simp)] at H;replace H:=iG H;rcases H with ⟨J,H⟩|⟨J,H⟩
    · have ad:decide (x < (c.size:Int))=false:=decide_eq_false J;clear J;replace H:=iG H;rcases H with ⟨j,H⟩|⟨j,H⟩
      · have G:(x == p)=false:=beq_eq_false_iff_ne.mpr j;have v:=Zm (D _ _ H);clear H;go_wp2;go_quiet ((go_at_call 101;exact E _ _));go_wp2_with (first|((with_reducible refine gate_callee (f:=211) rfl ?_);refine goesL_ (some 68) rfl rfl Tryz.func211 (by kernel_rfl) rfl #[.pointer (some ⟨g,0,none⟩),.int .u8 59] rfl (by (try simp only [List.map_toArray,List.map_cons,List.map_nil]);first|done|rfl) ?_;(with_reducible refine(bZ.calls g c x false 59 r1 z A w0 _ ?side1 ?side2 v.out).mono ?_);(case side1=>exact cF);(case side2=>(with_reducible repeat (first|exact y.out|apply Zbn|apply Zbd|refine Zbs ?_ B)));rintro e I ⟨rfl,d,a,i⟩;refine⟨_,rfl,?_⟩;have q:=Zm d;have s:=Zm a;have u:=Zm (KeepBut.trans (by (with_reducible repeat (first|exact HK.out|apply KeepBut.set_|apply keep_drewN|apply keep_drew))) i (.inl rfl));clear d a i))
        first|go_end0|((try simp only [Exit.inBlock,Exit.then]);refine bodyPost_ret (results_none rfl _ _ _) rfl ?_)
        exact⟨rfl,q.out,s.out,u.out⟩
      have G:(x == p)=true:=beq_iff_eq.mpr j;have v:=Zm (D _ _ H);clear H j;go_wp2;go_quiet ((go_at_call 101;exact E _ _));go_wp2_with (first|((with_reducible refine gate_callee (f:=211) rfl ?_);refine goesL_ (some 68) rfl rfl Tryz.func211 (by kernel_rfl) rfl #[.pointer (some ⟨g,0,none⟩),.int .u8 59] rfl (by (try simp only [List.map_toArray,List.map_cons,List.map_nil]);first|done|rfl) ?_;(with_reducible refine(bZ.calls g c x true 59 r1 z A w0 _ ?side1 ?side2 v.out).mono ?_);(case side1=>exact cF);(case side2=>(with_reducible repeat (first|exact y.out|apply Zbn|apply Zbd|refine Zbs ?_ B)));rintro e I ⟨rfl,d,a,i⟩;refine⟨_,rfl,?_⟩;have q:=Zm d;have s:=Zm a;have u:=Zm (KeepBut.trans (by (with_reducible repeat (first|exact HK.out|apply KeepBut.set_|apply keep_drewN|apply keep_drew))) i (.inl rfl));clear d a i))
      first|go_end0|((try simp only [Exit.inBlock,Exit.then]);refine bodyPost_ret (results_none rfl _ _ _) rfl ?_)
      exact⟨rfl,q.out,s.out,u.out⟩
    have ad:decide (x < (c.size:Int))=true:=decide_eq_true J;replace H:=iG H;rcases H with ⟨L,H⟩|⟨L,H⟩
    · have T:decide (x < wrap64 (p+20))=false:=decide_eq_false L;have ae:decide (x < IntKind.i64.wrap (p+20))=false:=by rw [i64_w];exact T
      clear J L;replace H:=iG H;rcases H with ⟨j,H⟩|⟨j,H⟩
      · have G:(x == p)=false:=beq_eq_false_iff_ne.mpr j;have v:=Zm (D _ _ H);clear H;go_wp2;go_quiet ((go_at_call 101;exact E _ _));go_wp2_with (first|((with_reducible refine gate_callee (f:=211) rfl ?_);refine goesL_ (some 68) rfl rfl Tryz.func211 (by kernel_rfl) rfl #[.pointer (some ⟨g,0,none⟩),.int .u8 59] rfl (by (try simp only [List.map_toArray,List.map_cons,List.map_nil]);first|done|rfl) ?_;(with_reducible refine(bZ.calls g c x false 59 r1 z A w0 _ ?side1 ?side2 v.out).mono ?_);(case side1=>exact cF);(case side2=>(with_reducible repeat (first|exact y.out|apply Zbn|apply Zbd|refine Zbs ?_ B)));rintro e I ⟨rfl,d,a,i⟩;refine⟨_,rfl,?_⟩;have q:=Zm d;have s:=Zm a;have u:=Zm (KeepBut.trans (by (with_reducible repeat (first|exact HK.out|apply KeepBut.set_|apply keep_drewN|apply keep_drew))) i (.inl rfl));clear d a i))
        first|go_end0|((try simp only [Exit.inBlock,Exit.then]);refine bodyPost_ret (results_none rfl _ _ _) rfl ?_)
        exact⟨rfl,q.out,s.out,u.out⟩
      have G:(x == p)=true:=beq_iff_eq.mpr j;have v:=Zm (D _ _ H);clear H j;go_wp2;go_quiet ((go_at_call 101;exact E _ _));go_wp2_with (first|((with_reducible refine gate_callee (f:=211) rfl ?_);refine goesL_ (some 68) rfl rfl Tryz.func211 (by kernel_rfl) rfl #[.pointer (some ⟨g,0,none⟩),.int .u8 59] rfl (by (try simp only [List.map_toArray,List.map_cons,List.map_nil]);first|done|rfl) ?_;(with_reducible refine(bZ.calls g c x true 59 r1 z A w0 _ ?side1 ?side2 v.out).mono ?_);(case side1=>exact cF);(case side2=>(with_reducible repeat (first|exact y.out|apply Zbn|apply Zbd|refine Zbs ?_ B)));rintro e I ⟨rfl,d,a,i⟩;refine⟨_,rfl,?_⟩;have q:=Zm d;have s:=Zm a;have u:=Zm (KeepBut.trans (by (with_reducible repeat (first|exact HK.out|apply KeepBut.set_|apply keep_drewN|apply keep_drew))) i (.inl rfl));clear d a i))
      first|go_end0|((try simp only [Exit.inBlock,Exit.then]);refine bodyPost_ret (results_none rfl _ _ _) rfl ?_)
      exact⟨rfl,q.out,s.out,u.out⟩
    have T:decide (x < wrap64 (p+20))=true:=decide_eq_true L;have ae:decide (x < IntKind.i64.wrap (p+20))=true:=by rw [i64_w];exact T
    by_cases c3:0≤x;rotate_left
    · rw [if_neg c3] at H;exact absurd H (by simp)
    rw [if_pos c3,if_pos J] at H;have ah:decide (0≤x)=true:=decide_eq_true c3;obtain⟨t,ht,H⟩:=Option.bind_eq_some_iff.mp H;have ai:=bt_at c x
    have U:∀ (W:World) (n:Nat),Calls Tryz.prog 199 #[.int .u8 (bt c x),.int .i64 (wrap64 (x - p))] (W.drewN n) fun e P=>e=.returned (.bool t)∧∃ m,P=W.drewN m:=fun W n=>by
     exact Calls.quiet_of ((eB.calls (bt c x) (wrap64 (x - p)) t (W.drewN n) ht).mono fun e X ⟨Y,⟨m,Z⟩⟩=>⟨Y,m,Z⟩)
    clear ht L
    cases t with
    | true=>
     rw [if_pos rfl] at H;have H':=Zm H;clear H;go_wp2;go_quiet (first|(go_at_call 101;exact E _ _)|(go_at_call 199;with_reducible exact U _ _));go_wp2;go_roundg k1
     case measure=>have:=ac.out;omega
     case rel=>exact⟨wrap64 (x+1),H',⟨by have:=ac.out;omega⟩,⟨by exact cF⟩,⟨by (with_reducible repeat (first|exact y.out|apply Zbn|apply Zbd|refine Zbs ?_ B))⟩,⟨by (with_reducible repeat (first|exact HK.out|apply KeepBut.set_|apply keep_drewN|apply keep_drew))⟩⟩
    | false=>
     rw [if_neg (by simp)] at H;replace H:=iG H;rcases H with ⟨j,H⟩|⟨j,H⟩
     · have G:(x == p)=false:=beq_eq_false_iff_ne.mpr j;have v:=Zm (D _ _ H);clear H;go_wp2;go_quiet (first|(go_at_call 101;exact E _ _)|(go_at_call 199;with_reducible exact U _ _));go_wp2_with (first|((with_reducible refine gate_callee (f:=211) rfl ?_);refine goesL_ (some 68) rfl rfl Tryz.func211 (by kernel_rfl) rfl #[.pointer (some ⟨g,0,none⟩),.int .u8 59] rfl (by (try simp only [List.map_toArray,List.map_cons,List.map_nil]);first|done|rfl) ?_;(with_reducible refine(bZ.calls g c x false 59 r1 z A w0 _ ?side1 ?side2 v.out).mono ?_);(case side1=>exact cF);(case side2=>(with_reducible repeat (first|exact y.out|apply Zbn|apply Zbd|refine Zbs ?_ B)));rintro e I ⟨rfl,d,a,i⟩;refine⟨_,rfl,?_⟩;have q:=Zm d;have s:=Zm a;have u:=Zm (KeepBut.trans (by (with_reducible repeat (first|exact HK.out|apply KeepBut.set_|apply keep_drewN|apply keep_drew))) i (.inl rfl));clear d a i))
       first|go_end0|((try simp only [Exit.inBlock,Exit.then]);refine bodyPost_ret (results_none rfl _ _ _) rfl ?_)
       exact⟨rfl,q.out,s.out,u.out⟩
     have G:(x == p)=true:=beq_iff_eq.mpr j;have v:=Zm (D _ _ H);clear H j;go_wp2;go_quiet (first|(go_at_call 101;exact E _ _)|(go_at_call 199;with_reducible exact U _ _));go_wp2_with (first|((with_reducible refine gate_callee (f:=211) rfl ?_);refine goesL_ (some 68) rfl rfl Tryz.func211 (by kernel_rfl) rfl #[.pointer (some ⟨g,0,none⟩),.int .u8 59] rfl (by (try simp only [List.map_toArray,List.map_cons,List.map_nil]);first|done|rfl) ?_;(with_reducible refine(bZ.calls g c x true 59 r1 z A w0 _ ?side1 ?side2 v.out).mono ?_);(case side1=>exact cF);(case side2=>(with_reducible repeat (first|exact y.out|apply Zbn|apply Zbd|refine Zbs ?_ B)));rintro e I ⟨rfl,d,a,i⟩;refine⟨_,rfl,?_⟩;have q:=Zm d;have s:=Zm a;have u:=Zm (KeepBut.trans (by (with_reducible repeat (first|exact HK.out|apply KeepBut.set_|apply keep_drewN|apply keep_drew))) i (.inl rfl));clear d a i))
     first|go_end0|((try simp only [Exit.inBlock,Exit.then]);refine bodyPost_ret (results_none rfl _ _ _) rfl ?_)
     exact⟨rfl,q.out,s.out,u.out⟩
end Go.Proofs.YtkbebmifpccofaaGreat.PFnClassCut
