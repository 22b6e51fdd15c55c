/- Functions of the program as plain Lean functions, each with a proof that the program's call comes to the same; no condition. Written by a program of this session. -/
import Derived.Test.YtkbebmifpccofaaGreatPFnClassCutx0
import Derived.Test.YtkbebmifpccofaaGreatPFnClassCutx10
import Derived.Test.YtkbebmifpccofaaGreatPFnClassCutx11
import Derived.Test.YtkbebmifpccofaaGreatPFnClassCutx12
namespace Go.Proofs.YtkbebmifpccofaaGreat.PFnClassCut
open Go.RowKit Go.Proofs.YtkbebmifpccofaaGreatW.PrintWords Go.Proofs.YtkbebmifpccofaaGreatW.PrintLast Go.Proofs.YtkbebmifpccofaaGreatW.PrintMore
open Go.Proofs.YtkbebmifpccofaaGreatW.PrintWords renaming below_alloc→Zba,pw_below_drewN→Zbn,below_drew1→Zbd,below_set→Zbs,below_step→Zbt,blk_cell→Zkc,blk_frozen→Zkf
open Go.Proofs.YtkbebmifpccofaaGreatW.PrintWords.Aside0 renaming mk→Zm
attribute [local go_sem] max2_int min2_int max_two min_two max_three min_three max_four min_four   -- for this text's walks alone
set_option maxHeartbeats 80000000
set_option maxRecDepth 100000
set_option linter.unusedVariables false
set_option linter.unusedSimpArgs false
theorem jK.grownB {w0 W i:World} {g:Nat} {P:Nat→Prop} {p:List ByteArray} {o:List Int} {j v1:Value} {row:Option Nat} {B:Nat} (h:jK w0 W g P p o j v1) (m:∀ k,P k→k < B) (n:g < B) (a:W.grownBy i row) (b:∀ k,row=some k→B≤k):jK w0 i g P p o j v1:=by
  obtain⟨hb,hge,hr0,d⟩:=h;refine⟨blk_grown hb a (fun e=>?_),hge,Kd.R_grown2 hr0 rfl a (fun k c e=>?_),Kd.R_grown2 d rfl a (fun k c e=>?_)⟩
  · have:=b g e.symm;omega
  · have h1:=b k c;have h2:=m k (hr0.1 k e.symm).2;omega
  · have h1:=b k c;have h2:=m k (d.1 k e.symm).2;omega
def dI.g (k:Nat) (b:List Int):List ByteArray→Option (List Int)
 | []=>some b
 | t :: l=>(iH.f k t).bind fun s=>if b.length+s.size≤1099511627776 then dI.g k (b++bytesOf s) l else none
def dI.f (k:Nat) (a:ByteArray) (c:ByteArray) (d:Bool) (e:Bool) (i:List (eO)) (j:List (eH)):Option ByteArray:=
 (aG.f k a c d e i j).bind fun t=>if t=true then ((gX.f k a c d e i j).bind fun st=>if (st.1.length:Int) > 200 then some (⟨#[]⟩:ByteArray) else ((dI.g k [67,70,1,(st.1.length:Int) % 256] st.1).bind fun b=>if b.length+st.2.length≤1099511627776 then some (strOfNums (b++st.2)) else none)) else some (⟨#[]⟩:ByteArray)
theorem dI.calls (k:Nat) (D:ByteArray) (E:ByteArray) (G:Bool) (I:Bool) (J:Option Addr) (K:Nat) (v:List (eO)) (L:Option Addr) (O:Nat) (A:List (eH)) (r:ByteArray) (w:World) (ae:Kd.C lT w J v.length v) (af:v.length≤K) (ag:Kd.C lY w L A.length A) (ah:A.length≤O) (h:dI.f k D E G I v A=some r):
 Calls Tryz.prog 11 #[.agg #[.string D,.string E,.bool G,.bool I,.slice J v.length K,.slice L A.length O]] w fun e w'=>e=.returned (.string r)∧Below w.heap.size w w':=by
 have aP:=Tryz.underlying26;have a0:=Tryz.underlying76;have aj:=Zm ae;have ak:=Zm ag;have al:=Zm af;have am:=Zm ah;clear ae ag af ah;have c:=Zm (Below.refl w.heap.size w);have H:=h;clear h;unfold dI.f at H;replace H:=cM H;obtain⟨t,A1,H⟩:=H;have U:=Zm H;clear H;go_enter Tryz.func11,Tryz.ntmps11;go_upto_if 8 with (first|((with_reducible refine gate_dst (N:=1) rfl ?_);refine fH 1 26 #[.string D,.string E,.bool G,.bool I,.slice J v.length K,.slice L A.length O] ?_;intro gb hg w3 ai a;have B:=Zm ai;replace c:=dJ c a;clear a ai hg;have m:=jB B.out;have ab:=Zkf B.out 5)|((with_reducible refine gate_callee (f:=44) rfl ?_);refine cQ (some 7) Tryz.func44 #[.agg #[.string D,.string E,.bool G,.bool I,.slice J v.length K,.slice L A.length O]] ?_;refine cD (aG.calls _ _ _ _ _ _ _ _ _ _ _ _ _ (pd aj c) al.out (pd ak c) am.out A1.out) ?_;rintro e w4 ⟨rfl,a⟩;refine⟨_,rfl,?_⟩;replace B:=kb B a;replace c:=dJ c a;clear a m ab;have m:=jB B.out;have ab:=Zkf B.out 5));have H:=U.out;clear U;replace H:=eN H;rcases H with ⟨rfl,H⟩|⟨rfl,H⟩
 · obtain rfl:=Option.some.inj H;go_wp2;go_ret;exact cI c
 replace H:=cM H;obtain⟨⟨p,o⟩,A2,H⟩:=H;dsimp only at H;have U:=Zm H;clear H;go_upto_if 16 with (first|((with_reducible refine gate_callee (f:=45) rfl ?_);refine cQ (some 10) Tryz.func45 #[.agg #[.string D,.string E,.bool G,.bool I,.slice J v.length K,.slice L A.length O]] ?_;refine cD (gX.calls _ _ _ _ _ _ _ _ _ _ _ _ _ _ (pd aj c) al.out (pd ak c) am.out A2.out) ?_;rintro e i ⟨g,rfl,hI,a⟩;refine⟨_,rfl,?_⟩;obtain⟨v0,v1,hw⟩:=hI.wv;replace c:=dJ c a;obtain⟨Ap,cp,ep⟩:=Kd.R_slice hw.2.2.1;subst ep;obtain⟨Ao,co,eo⟩:=Kd.R_slice hw.2.2.2;subst eo;have d:=Zm hw;clear hI a hw m ab B;have m:=nW d.out.1));have H:=U.out;clear U;replace H:=iG H;rcases H with ⟨X,H⟩|⟨X,H⟩;rotate_left
 · have aa:decide (200 < (p.length:Int))=true:=decide_eq_true X;have ap:decide (200 < p.length)=true:=decide_eq_true (by omega);have aq:((p.length:Int)≤200)=False:=eq_false (by omega);have ar:(p.length≤200)=False:=eq_false (by omega);clear X;rw [aa];obtain rfl:=Option.some.inj H;go_wp2;go_ret;exact cI c
 have aa:decide (200 < (p.length:Int))=false:=decide_eq_false X;have PL:=Zm (show p.length≤200 by omega);have ap:decide (200 < p.length)=false:=decide_eq_false (by omega);have aq:((p.length:Int)≤200)=True:=eq_true (by omega);have ar:(p.length≤200)=True:=eq_true (by omega);clear X;rw [aa];replace H:=cM H;obtain⟨b0,A3,H⟩:=H;replace H:=hY H;obtain⟨c3,H⟩:=H;obtain rfl:=Option.some.inj H;clear H;have C3:=Zm c3;clear c3;obtain⟨y0,hy_⟩:∃ y:List Int,y=[67,70,1,(p.length:Int) % 256]:=⟨_,rfl⟩;have an:=Zm hy_;have Y:=Zm A3.out;rw [← hy_] at Y;clear hy_ A3;have j:=Zm (Below.refl i.heap.size i);have au:=Zm c.out;have GL:=Zm (show g < i.heap.size from blk_lt d.out.1);go_wp2_with (first|((with_reducible refine gate_dst (N:=23) rfl ?_);refine Kd.R_lit (Kd.int .u8) _ 5 ?hg (N:=23) ?hd (xs:=([67,70,1,(p.length:Int) % 256]:List Int)) (inner:=[.int .u8 67,.int .u8 70,.int .u8 1,.int .u8 ((p.length:Int) % 256)]) (ok:=fun _=>True) (okp:=fun _=>True) ?hr ?hp (fun _ hk=>hk) trivial (Below.refl _ _) (Nat.le_refl _) (by simp) ?_;(case hd=>rfl);(case hg=>rfl);(case hr=>exact jE);(case hp=>exact(Reps.one (show Kd.M (Kd.int .u8) _ _ _ 67 [.int .u8 67] from rfl) (Reps.one (show Kd.M (Kd.int .u8) _ _ _ 70 [.int .u8 70] from rfl) (Reps.one (show Kd.M (Kd.int .u8) _ _ _ 1 [.int .u8 1] from rfl) (Reps.one (show Kd.M (Kd.int .u8) _ _ _ ((p.length:Int) % 256) [.int .u8 ((p.length:Int) % 256)] from rfl) (Reps.none _ _))))));intro vb w6 ac a av ao;clear av ao;rw [← an.out] at ac;have n:=Zm ac;replace d:=Zm (d.out.below a);replace c:=dJ c a;replace j:=dJ j a;clear ac a m;have m:=nW d.out.1;obtain⟨Ab,cb,eb⟩:=Kd.R_slice n.out;subst eb));go_loopg [4,5] (p.length+1) (fun kq v4 v5 w'=>∃ (b:List Int) (x:Int),v5=.int .i64 x∧Aside0 (0≤x∧(x≤(p.length:Int)∧x+kq=p.length+1)∧dI.g k b (p.drop x.toNat)=some b0)∧Aside0 (jK w4 w' g (fun k=>k < i.heap.size) p o (.slice Ap p.length cp) (.slice Ao o.length co))∧Aside0 (Kd.R (Kd.int .u8) 5 w' i.heap.size (fun _=>True) v4 b)∧Aside0 (Below i.heap.size i w'))
 case atStart=>exact⟨_,0,rfl,⟨Int.le_refl _,⟨by omega,by omega⟩,Y.out⟩,d,n,j⟩
 case round=>
  clear d n j m Y an c;obtain⟨b,x,rfl,HX,d,n,j⟩:=hrel;have T:=HX.out.1;obtain⟨Ab,cb,eb⟩:=Kd.R_slice n.out;subst eb
  cases gk with
  | zero=>exact absurd HX.out.2.1 (by omega)
  | succ k1=>
   have m:=nW d.out.1;by_cases hx:x < (p.length:Int);rotate_left
   · have c0:=decide_eq_false hx;have e_:p.drop x.toNat=[]:=List.drop_of_length_le (by omega);have hh:=HX.out.2.2;rw [e_] at hh;obtain rfl:=Option.some.inj hh;clear hh;obtain⟨z,hz⟩:∃ z:List Int,z=b++o:=⟨_,rfl⟩;have Nz:=Zm hz;clear hz;go_wp2_with (first|(at_builtin;refine print_append_row (w0:=i) i.heap.size rfl (.tmp 43) (.tmp 47) 22 5 .u8 1 rfl Tryz.underlying22 info5 (by decide) (.slice Ab b.length cb) b o Ao o.length co rfl rfl ?aO ?aR ?aB ?aS ?aL ?_;(case aO=>exact Kd.own_of_R n.out);(case aR=>exact own_reads' (Kd.own_of_R d.out.2.2.2));(case aB=>exact j.out);(case aS=>exact j.out.size);(case aL=>have:=C3.out;omega);intro u w8 q a hg aw;rw [← Nz.out] at q;obtain⟨Aq,cq,eq_,_⟩:=own_reads q;subst eq_;have a1:=own_string (P:=Tryz.prog) Tryz.underlying22 Tryz.underlying5 Tryz.underlying9 q;have ax:=Zm a;clear q a hg aw m));go_ret;exact⟨by rw [Nz.out] <;> rfl,Zbt au.out ax.out⟩
   have c0:=decide_eq_true hx;have H:=HX.out.2.2;rw [mY T hx] at H;simp only [dI.g] at H;replace H:=cM H;obtain⟨s,Y,H⟩:=H;replace H:=hY H;obtain⟨c4,H⟩:=H;obtain⟨y,hy⟩:∃ y:List Int,y=b++bytesOf s:=⟨_,rfl⟩;have Ny:=Zm hy;rw [← hy] at H;clear hy;obtain⟨ad,eA,ay⟩:=Kd.at_string (Kd.R_reads' d.out.2.2.1).2.2 x T hx;cases eA;have H':=Zm H;clear H;have p0:=eq_true T;have q0:=eq_true hx;have HP:=Zm T;have HQ:=Zm hx;clear T hx;have C4:=Zm c4;clear c4;go_wp2_with (first|((with_reducible refine gate_callee (f:=46) rfl ?_);refine cQ (some 41) Tryz.func46 #[.string (rdOf ByteArray.empty p x)] ?_;refine cD (iH.calls _ _ _ _ Y.out) ?_;rintro e w6 ⟨rfl,a⟩;refine⟨_,rfl,?_⟩;replace d:=Zm (d.out.below a);replace n:=Zm (Kd.R_below n.out a);replace j:=dJ j a;clear a m ay)|(at_builtin;refine print_append_str (w0:=i) i.heap.size rfl (.tmp 33) (.tmp 41) 22 9 5 rfl Tryz.underlying22 Tryz.underlying9 info5 (.slice Ab b.length cb) b s rfl rfl ?aO ?aB ?aS ?aL ?_;(case aO=>exact Kd.own_of_R n.out);(case aB=>exact j.out);(case aS=>exact j.out.size);(case aL=>have:=C4.out;omega);intro u w7 q a hg;rw [← Ny.out] at q;obtain⟨Aq,cq,eq_,_⟩:=own_reads q;subst eq_;have az:=Zm (d.out.grownB (fun _ h=>h) GL.out hg (fun k hk=>Kd.R_base n.out k hk));have aF:=Zm (Kd.R_of_own q (fun _ _=>trivial):Kd.R (Kd.int .u8) 5 w7 i.heap.size (fun _=>True) (.slice Aq y.length cq) y);have H7:=Zm a;clear q a hg));go_roundg k1
   case measure=>omega
   case rel=>
    have hq:=HQ.out;have hp:=HP.out;have pl:=PL.out;have hl:=HX.out.2.1;have Z:wrap64 (x+1)=x+1:=by unfold wrap64;omega
    exact⟨y,wrap64 (x+1),dS,⟨by rw [Z];omega,⟨by rw [Z];omega,by rw [Z];omega⟩,by rw [Z];exact H'.out⟩,az,aF,H7⟩
def iF.f (l0:List Int) (a:Int) (b:Int):Option (Int):=if b≤1 then (some 0) else (if (l0.length:Int)=0 then (some 0) else (if 0≤(Int.tmod a (l0.length:Int)) then (if (Int.tmod a (l0.length:Int)) < (l0.length:Int) then (if b=0 then (none) else (some (Int.tmod (wrap64 (rd l0 (Int.tmod a (l0.length:Int)))) b))) else (none)) else (none)))
theorem iF.calls (o:Option Addr) (p:Nat) (l0:List Int) (j:Int) (b:Int) (r:Int) (w:World) (m:Kd.C (Kd.int .u8) w o l0.length l0) (n:l0.length≤p) (h:iF.f l0 j b=some r):
 Calls Tryz.prog 12 #[.slice o l0.length p,.int .i64 j,.int .i64 b] w fun e w'=>e=.returned (.int .i64 r)∧Drawn0 w w':=by
 have x:=Zm m;have I:=Zm n;clear m n;have H:=h;clear h;unfold iF.f at H;replace H:=jC H;rcases H with ⟨s,H⟩|⟨s,H⟩
 · replace H:=eM H;rcases H with ⟨k,t,u,H⟩|⟨k,t,u,H⟩
   · have D:¬ (l0=[]):=fun y=>k (by rw [y];rfl)
     obtain⟨a,c⟩:∃ z:Int,(Int.tmod j (l0.length:Int))=z:=⟨_,rfl⟩;replace H:(if 0≤(a) then (if (a) < (l0.length:Int) then (if b=0 then (none) else (some (Int.tmod (wrap64 (rd l0 (a))) b))) else (none)) else (none))=some r:=by first|(rw [c] at H;exact H)|(simp only [c] at H ⊢;exact H)
     replace H:=eG H;obtain⟨c7b0,H⟩:=H;replace H:=eG H;obtain⟨c8b0,H⟩:=H;replace H:=xP H;obtain⟨q,H⟩:=H;have E:(b == 0)=false:=beq_eq_false_iff_ne.mpr q;have G:(b != 0)=true:=bne_iff_ne.mpr q;obtain rfl:=Option.some.inj H;have d:0≤((a):Int):=eF;have i:(a) < (l0.length:Int):=eF;obtain⟨B,v,A⟩:=Kd.at_int x.out (a) d i;cases v;replace d:=eq_true d;replace i:=eq_true i;go_enter Tryz.func12,Tryz.ntmps12;go_wp2;go_ret;exact⟨by first|rfl|(simp;done)|(simp only [← c] <;> (first|rfl|simp))|(simp [*];done),mX⟩
   clear k;obtain rfl:=Option.some.inj H;go_enter Tryz.func12,Tryz.ntmps12;go_wp2;go_ret;exact hU
 obtain rfl:=Option.some.inj H;go_enter Tryz.func12,Tryz.ntmps12;go_wp2;go_ret;exact hU
def cB.l0:Nat→List ByteArray→Int→Int→Option (Bool)
 | 0,_,_,_=>none
 | k+1,b,c,a=>if a < c then (if 0≤a then (if a < (b.length:Int) then (if ((rdOf ByteArray.empty b a).size:Int) > 20000 then (some false) else (cB.l0 k b c (wrap64 (a+1)))) else (none)) else (none)) else (some true)
def cB.f (k:Nat) (l0:List ByteArray):Option (Bool):=cB.l0 k l0 (l0.length:Int) 0
theorem cB.mono_l:∀ k,(∀ a b c,LeO (cB.l0 k a b c) (cB.l0 (k+1) a b c))
 | 0=>by intros;intro r h;simp [cB.l0] at h
 | k+1=>by
  have ih0:=cB.mono_l k;intros;unfold cB.l0;exact lM
theorem cB.mono:∀ a k,LeO (cB.f k a) (cB.f (k+1) a):=by
 intro a k;have ih0:=cB.mono_l k;unfold cB.f;exact lM
theorem cB.calls (k:Nat) (o:Option Addr) (p:Nat) (l0:List ByteArray) (r:Bool) (w:World) (i:Kd.C Kd.string w o l0.length l0) (j:l0.length≤p) (h:cB.f k l0=some r):
 Calls Tryz.prog 47 #[.slice o l0.length p] w fun e w'=>e=.returned (.bool r)∧Drawn0 w w':=by
 have m:=Zm i;have A:=Zm j;clear i j;have H:=h;clear h;unfold cB.f at H;have c:=Zm H;clear H;go_enter Tryz.func47,Tryz.ntmps47;go_wp2;go_loopg [7] k (fun q y w'=>∃ (a:Int),y=.int .i64 a∧Aside0 (cB.l0 q l0 (l0.length:Int) a=some r)∧Aside0 (q≤k)∧Drawn0 w w')
 case atStart=>exact⟨(0),dS,c,⟨Nat.le_refl _⟩,mX⟩
 case round=>
  clear c;obtain⟨a,rfl,HA,n,⟨m1,rfl⟩⟩:=hrel
  cases gk with
  | zero=>exact absurd HA.out (by simp [cB.l0])
  | succ z=>
   have H:=HA.out;clear HA;simp only [cB.l0] at H;replace H:=jC H;rcases H with ⟨u,H⟩|⟨u,H⟩
   · obtain rfl:=Option.some.inj H;go_wp2;go_ret;exact hU
   replace H:=eG H;obtain⟨c3b0,H⟩:=H;replace H:=eG H;obtain⟨c4b0,H⟩:=H;replace H:=iG H;rcases H with ⟨b,H⟩|⟨b,H⟩
   · have v:decide (20000 < ((rdOf ByteArray.empty l0 a).size:Int))=false:=decide_eq_false b;have x:decide (20000 < (rdOf ByteArray.empty l0 a).size)=false:=decide_eq_false (by omega);clear b;have c:=Zm H;clear H;obtain⟨s,d,t⟩:=oP m a;cases d;go_wp2;go_roundg z
     case measure=>have:=n.out;omega
     case rel=>exact⟨(wrap64 (a+1)),dS,c,⟨by have:=n.out;omega⟩,mX⟩
   have v:decide (20000 < ((rdOf ByteArray.empty l0 a).size:Int))=true:=decide_eq_true b;have x:decide (20000 < (rdOf ByteArray.empty l0 a).size)=true:=decide_eq_true (by omega);clear b;obtain rfl:=Option.some.inj H;obtain⟨s,d,t⟩:=oP m a;cases d;go_wp2;go_ret;exact hU
def bW.f (a:ByteArray):Option (Int):=some (a.size:Int)
theorem bW.calls (a:ByteArray) (r:Int) (w:World) (h:bW.f a=some r):
 Calls Tryz.prog 101 #[.string a] w fun e w'=>e=.returned (.int .i64 r)∧Drawn0 w w':=by
 have H:=h;clear h;unfold bW.f at H;obtain rfl:=Option.some.inj H;go_enter Tryz.func101,Tryz.ntmps101;go_wp2;go_ret;exact hU
def bF (w0 W:World) (g:Nat) (b:ByteArray) (c:Int) (d:List ByteArray) (e:Int) (i:Int):Prop:=∃ a,W.heap[g]?=some (.cells #[.string b,.int .i64 c,a,.int .i64 e,.int .i64 i] 124 (0,0))∧w0.heap.size≤g∧Kd.R Kd.string 9 W w0.heap.size (fun k=>k≠g) a d
theorem bF.same {w0 W:World} {g:Nat} {b:ByteArray} {c:Int} {d:List ByteArray} {e:Int} {i:Int} {j:World} (h:bF w0 W g b c d e i) (m:∀ k,k < W.heap.size→(k=g∨∃ q,q∈[9]∧∃ cells,W.heap[k]?=some (.cells cells q (0,0)))→j.heap[k]?=W.heap[k]?):bF w0 j g b c d e i:=by
 obtain⟨o,hb,hg,n⟩:=h;exact⟨o,(m g (blk_lt hb) (.inl rfl)).trans hb,hg,Kd.R_mono (Kd.R_move (Kd.R_bound n) (fun k a=>m k a.2.2.1 (.inr (by obtain⟨q,hq,hc⟩:=a.2.2.2;exact⟨q,by have p:q=9:=(by simpa [Kd.string,Kd.int,Kd.scalar] using hq);subst p;decide,hc⟩)))) (fun _ a=>a.1)⟩
theorem bF.below {w0 W:World} {g:Nat} {a:ByteArray} {b:Int} {c:List ByteArray} {d:Int} {e:Int} {i:World} (h:bF w0 W g a b c d e) (j:Below W.heap.size W i):bF w0 i g a b c d e:=h.same (fun k m _=>j.block k m)
theorem bF.alloc {w0 W:World} {g:Nat} {a:ByteArray} {b:Int} {c:List ByteArray} {d:Int} {e:Int} (h:bF w0 W g a b c d e) (o:Obj):bF w0 (W.alloc o) g a b c d e:=h.below (Zba (Below.refl _ _) o)
theorem bF.drewN {w0 W:World} {g:Nat} {a:ByteArray} {b:Int} {c:List ByteArray} {d:Int} {e:Int} (h:bF w0 W g a b c d e) (m:Nat):bF w0 (W.drewN m) g a b c d e:=h.same (fun _ _ _=>rfl)
theorem bF.drew {w0 W:World} {g:Nat} {a:ByteArray} {b:Int} {c:List ByteArray} {d:Int} {e:Int} (h:bF w0 W g a b c d e):bF w0 W.drew g a b c d e:=h.same (fun _ _ _=>rfl)
theorem bF.at_ {w0 W:World} {g:Nat} {a:ByteArray} {b:Int} {c:List ByteArray} {d:Int} {e:Int} {w':World} {m:Nat} (i:W.drewN m=w') (h:bF w0 W g a b c d e):bF w0 w' g a b c d e:=by subst i;exact bF.drewN h m
theorem mM {W:World} {k t q:Nat} {cs b:Array Value} {fr c:Nat×Nat} (h:W.heap[k]?=some (.cells cs t fr)) (a:W.heap[k]?=some (.cells b q c)):t=q:=by
 rw [h] at a;injection a with a;injection a with _ a
theorem bF.grownT {w0 W:World} {g:Nat} {a:ByteArray} {b:Int} {d:List ByteArray} {i:Int} {j:Int} {m:World} {row:Option Nat} {e:Nat} (h:bF w0 W g a b d i j) (r:W.grownBy m row) (n:some g≠row) (s:∀ k,row=some k→∃ cells,W.heap[k]?=some (.cells cells e (0,0))) (t:e ∉ [9]):bF w0 m g a b d i j:=by
 refine h.same (fun k u v=>r.block k u ?_);rintro rfl;obtain⟨c,o⟩:=s k rfl;rcases v with rfl|⟨q,x,y,p⟩
 · exact n rfl
 · exact t ((mM o p) ▸ x)
theorem bF.apart {w0 W:World} {g:Nat} {a:ByteArray} {b:Int} {c:List ByteArray} {i:Int} {j:Int} {α:Type} {d:Kd α} {e:Nat} {base:Nat} {ok:Nat→Prop} {v:Value} {xs:List α} (h:bF w0 W g a b c i j) (m:d.R e W base ok v xs) (n:∀ q,q∈e :: d.E→q≠124):d.R e W base (fun k=>ok k∧k≠g) v xs:=by
 obtain⟨p,hb,hg,o⟩:=h;exact Kd.R_types m hb n
theorem bF.own_ne {w0 W:World} {g:Nat} {a:ByteArray} {b:Int} {c:List ByteArray} {i:Int} {j:Int} {α:Type} {d:Kd α} {e:Nat} {base:Nat} {ok:Nat→Prop} {v:Value} {xs:List α} (h:bF w0 W g a b c i j) (k:d.R e W base ok v xs) (m:e≠124):some g≠v.ownBlock:=by
 obtain⟨o,hb,hg,n⟩:=h;exact Kd.R_ne k hb m
theorem bF.apartS {w0 W:World} {g:Nat} {a:ByteArray} {b:Int} {c:List ByteArray} {i:Int} {j:Int} {α:Type} {d:Kd α} {e:Nat} {base:Nat} {ok:Nat→Prop} {v:Value} {xs:List α} (h:bF w0 W g a b c i j) (m:Kd.S d e W base ok v xs) (n:∀ q,q∈e :: d.E→q≠124):Kd.S d e W base (fun k=>ok k∧k≠g) v xs:=by
 obtain⟨p,hb,hg,o⟩:=h;exact Kd.S_types m hb n
theorem bF.own_neS {w0 W:World} {g:Nat} {a:ByteArray} {b:Int} {c:List ByteArray} {i:Int} {j:Int} {α:Type} {d:Kd α} {e:Nat} {base:Nat} {ok:Nat→Prop} {v:Value} {xs:List α} (h:bF w0 W g a b c i j) (k:Kd.S d e W base ok v xs) (m:e≠124):some g≠v.ownBlock:=by
 obtain⟨o,hb,hg,n⟩:=h;exact Kd.S_ne k hb m
theorem bF.lt {w0 W:World} {g:Nat} {a:ByteArray} {b:Int} {c:List ByteArray} {d:Int} {e:Int} (h:bF w0 W g a b c d e):g < W.heap.size:=by
 obtain⟨j,hb,hg,i⟩:=h;exact blk_lt hb
theorem bF.ge {w0 W:World} {g:Nat} {a:ByteArray} {b:Int} {c:List ByteArray} {d:Int} {e:Int} (h:bF w0 W g a b c d e):w0.heap.size≤g:=by
 obtain⟨j,hb,hg,i⟩:=h;exact hg
theorem bF.ne_blk {w0 W:World} {g:Nat} {c:ByteArray} {d:Int} {e:List ByteArray} {i:Int} {j:Int} {a:Nat} {cs:Array Value} {t:TypeId} {fr:Nat×Nat} (h:bF w0 W g c d e i j) (b:W.heap[a]?=some (.cells cs t fr)) (k:t≠124):g≠a:=by
 obtain⟨n,hb,hg,m⟩:=h;rintro rfl;exact k (mM b hb)
theorem bF.far {w0 W:World} {g:Nat} {a:ByteArray} {b:Int} {c:List ByteArray} {d:Int} {e:Int} {p:Addr} {cs:Array Value} {t:TypeId} (h:bF w0 W g a b c d e) (i:g≠p.block) (j:W.heap[p.block]?=some (.cells cs t (0,0))) (n:t ∉ [9]) (u:Value):bF w0 (W.setCell p u) g a b c d e:=by
 refine h.same (fun k s o=>Below.heap_setCell W p u k ?_);rintro rfl;rcases o with rfl|⟨q,r,v,m⟩
 · exact i rfl
 · exact n ((mM j m) ▸ r)
theorem kQ {W:World} {g:Nat} {b:Value} {a:ByteArray} {c:Int} {d:Int} {e:Int} (h:W.heap[g]?=some (.cells #[.string a,.int .i64 c,b,.int .i64 d,.int .i64 e] 124 (0,0))):W.cell? ⟨g,0,none⟩=some (.string a):=(Zkc h 0).trans rfl
theorem bF.set_0 {w0 W:World} {g:Nat} {i:ByteArray} {a:Int} {b:List ByteArray} {c:Int} {d:Int} (h:bF w0 W g i a b c d) (x:ByteArray):bF w0 (W.setCell ⟨g,0,none⟩ (.string x)) g x a b c d:=by
 obtain⟨j,hb,hg,e⟩:=h;exact⟨j,by simpa using blk_set hb 0 (.string x),hg,Kd.R_far e (p:=⟨g,0,none⟩) (fun _ k=>k) _⟩
theorem gR {W:World} {g:Nat} {b:Value} {c:ByteArray} {a:Int} {d:Int} {e:Int} (h:W.heap[g]?=some (.cells #[.string c,.int .i64 a,b,.int .i64 d,.int .i64 e] 124 (0,0))):W.cell? ⟨g,1,none⟩=some (.int .i64 a):=(Zkc h 1).trans rfl
theorem bF.set_1 {w0 W:World} {g:Nat} {a:ByteArray} {i:Int} {b:List ByteArray} {c:Int} {d:Int} (h:bF w0 W g a i b c d) (x:Int):bF w0 (W.setCell ⟨g,1,none⟩ (.int .i64 x)) g a x b c d:=by
 obtain⟨j,hb,hg,e⟩:=h;exact⟨j,by simpa using blk_set hb 1 (.int .i64 x),hg,Kd.R_far e (p:=⟨g,1,none⟩) (fun _ k=>k) _⟩
theorem jD {W:World} {g:Nat} {a:Value} {b:ByteArray} {c:Int} {d:Int} {e:Int} (h:W.heap[g]?=some (.cells #[.string b,.int .i64 c,a,.int .i64 d,.int .i64 e] 124 (0,0))):W.cell? ⟨g,2,none⟩=some (a):=(Zkc h 2).trans rfl
theorem lR {W:World} {g:Nat} {b:Value} {c:ByteArray} {d:Int} {a:Int} {e:Int} (h:W.heap[g]?=some (.cells #[.string c,.int .i64 d,b,.int .i64 a,.int .i64 e] 124 (0,0))):W.cell? ⟨g,3,none⟩=some (.int .i64 a):=(Zkc h 3).trans rfl
theorem bF.set_3 {w0 W:World} {g:Nat} {a:ByteArray} {b:Int} {c:List ByteArray} {i:Int} {d:Int} (h:bF w0 W g a b c i d) (x:Int):bF w0 (W.setCell ⟨g,3,none⟩ (.int .i64 x)) g a b c x d:=by
 obtain⟨j,hb,hg,e⟩:=h;exact⟨j,by simpa using blk_set hb 3 (.int .i64 x),hg,Kd.R_far e (p:=⟨g,3,none⟩) (fun _ k=>k) _⟩
theorem fU {W:World} {g:Nat} {b:Value} {c:ByteArray} {d:Int} {e:Int} {a:Int} (h:W.heap[g]?=some (.cells #[.string c,.int .i64 d,b,.int .i64 e,.int .i64 a] 124 (0,0))):W.cell? ⟨g,4,none⟩=some (.int .i64 a):=(Zkc h 4).trans rfl
theorem bF.set_4 {w0 W:World} {g:Nat} {a:ByteArray} {b:Int} {c:List ByteArray} {d:Int} {i:Int} (h:bF w0 W g a b c d i) (x:Int):bF w0 (W.setCell ⟨g,4,none⟩ (.int .i64 x)) g a b c d x:=by
 obtain⟨j,hb,hg,e⟩:=h;exact⟨j,by simpa using blk_set hb 4 (.int .i64 x),hg,Kd.R_far e (p:=⟨g,4,none⟩) (fun _ k=>k) _⟩
theorem bF.mk0 {w0 W:World} {g:Nat} {a:ByteArray} {b:Int} {c:Int} {d:Int} (e:W.heap[g]?=some (.cells #[.string a,.int .i64 b,.slice none 0 0,.int .i64 c,.int .i64 d] 124 (0,0))) (i:w0.heap.size≤g):bF w0 W g a b [] c d:=⟨_,e,i,Kd.R_nil _ _ _ _ _⟩
theorem bO {w0 W:World} {g:Nat} {a:ByteArray} {b:Int} {c:List ByteArray} {d:Int} {e:Int} (h:bF w0 W g a b c d e:=by repeat (first|(with_reducible first|(refine Aside0.out ?_;assumption)|apply bF.alloc|apply bF.drewN|apply bF.drew|apply bF.set_0|apply bF.set_1|apply bF.set_3|apply bF.set_4|refine bF.far ?_ (Aside0.out (by assumption)) dR (by decide) _)|(refine Aside0.out ?_;assumption))):bF w0 W g a b c d e:=h
theorem dV {w W:World} (h:Below w.heap.size w W:=by repeat (first|(with_reducible first|(refine Aside0.out ?_;assumption)|apply below_alloc|apply pw_below_drewN|apply below_drew1|refine below_set ?_ (Aside0.out (by assumption))|refine below_set ?_ (bF.ge (Aside0.out (by assumption))))|(refine Aside0.out ?_;assumption))):Below w.heap.size w W:=h
def bJ (w W:World) (g:Nat):Prop:=w.heap.size≤W.heap.size∧∀ i,i < w.heap.size→i≠g→(∀ cells q,q∈[9]→w.heap[i]?≠some (.cells cells q (0,0)))→W.heap[i]?=w.heap[i]?
theorem bJ.refl (w:World) (g:Nat):bJ w w g:=⟨Nat.le_refl _,fun _ _ _ _=>rfl⟩
theorem bJ.of_below {w w1:World} (h:Below w.heap.size w w1) (g:Nat):bJ w w1 g:=⟨h.size,fun i a _ _=>h.block i a⟩
theorem bJ.trans {w w1 e:World} {g:Nat} (h:bJ w w1 g) (k:bJ w1 e g):bJ w e g:=
 ⟨Nat.le_trans h.1 k.1,fun i a b d=>(k.2 i (Nat.lt_of_lt_of_le a h.1) b (fun c q j=>by rw [h.2 i a b d];exact d c q j)).trans (h.2 i a b d)⟩
theorem bJ.set_ {w w1:World} {g:Nat} (h:bJ w w1 g) (j:Nat) (u:Value):bJ w (w1.setCell ⟨g,j,none⟩ u) g:=⟨by simpa [World.setCell] using h.1,fun i b a c=>(Below.heap_setCell w1 ⟨g,j,none⟩ u i a).trans (h.2 i b a c)⟩
theorem bJ.drewN {w w1:World} {g:Nat} (h:bJ w w1 g) (m:Nat):bJ w (w1.drewN m) g:=h
theorem bJ.drew {w w1:World} {g:Nat} (h:bJ w w1 g):bJ w w1.drew g:=h
theorem bJ.alloc {w w1:World} {g:Nat} (h:bJ w w1 g) (o:Obj):bJ w (w1.alloc o) g:=h.trans (.of_below (Zba (Below.refl _ _) o) g)
theorem bJ.far {w w1:World} {g:Nat} (h:bJ w w1 g) {p:Addr} (d:w.heap.size≤p.block) (u:Value):bJ w (w1.setCell p u) g:=⟨by simpa [World.setCell] using h.1,fun i a b c=>(Below.heap_setCell w1 p u i (by omega)).trans (h.2 i a b c)⟩
theorem bS {w w1 a:World} {g:Nat} (h0:bJ w w1 g:=by exact HK.out) (h:bJ w a g:=by repeat (first|(with_reducible first|exact HK.out|apply bJ.set_|apply bJ.drewN|apply bJ.drew|apply bJ.alloc|refine bJ.far ?_ (Aside0.out (by assumption)) _)|exact HK.out)):bJ w a g:=h
theorem bJ.size {w w1:World} {g:Nat} (h:bJ w w1 g):w.heap.size≤w1.heap.size:=h.1
theorem bJ.blk {w w1:World} {g g':Nat} {cs:Array Value} {t:TypeId} {fr:Nat×Nat} (h:bJ w w1 g) (a:w.heap[g']?=some (.cells cs t fr)) (b:g'≠g) (d:∀ q,q∈[9]→t≠q):w1.heap[g']?=some (.cells cs t fr):=(h.2 g' (blk_lt a) b (fun c q e i=>d q e (mM a i))).trans a
theorem bJ.grown {w w1 a:World} {g:Nat} {row:Option Nat} (h:bJ w w1 g) (b:w1.grownBy a row) (d:∀ k,row=some k→∃ q,q∈[9]∧∃ cells,w1.heap[k]?=some (.cells cells q (0,0))):bJ w a g:=
 h.trans ⟨b.size,fun i j n m=>b.block i j (fun e=>by obtain⟨q,hq,c,hc⟩:=d i e.symm;exact m c q hq hc)⟩
theorem bF.app {w0 W a:World} {g:Nat} {b u:Value} {c:ByteArray} {d:Int} {n:List ByteArray} {e:Int} {i:Int} {x:List ByteArray} (m:W.heap[g]?=some (.cells #[.string c,.int .i64 d,b,.int .i64 e,.int .i64 i] 124 (0,0))) (o:w0.heap.size≤g) (q:Kd.R Kd.string 9 W w0.heap.size (fun k=>k≠g) b n) (r:Kd.R Kd.string 9 a w0.heap.size (fun k=>k≠g) u x) (s:W.grownBy a b.ownBlock):a.heap[g]?=some (.cells #[.string c,.int .i64 d,b,.int .i64 e,.int .i64 i] 124 (0,0))∧bF w0 (a.setCell ⟨g,2,none⟩ u) g c d x e i:=
 have j:=blk_grown m s (Kd.R_ne q m (by decide))
 ⟨j,u,by simpa using blk_set j 2 u,o,Kd.R_far (p:=⟨g,2,none⟩) r (fun _ t=>t) _⟩
theorem bJ.grownB {w w1 b:World} {g:Nat} {row:Option Nat} (h:bJ w w1 g) (c:w1.grownBy b row) (a:row=none∨∃ k,row=some k∧w.heap.size≤k):bJ w b g:=
 ⟨Nat.le_trans h.1 c.size,fun i d j m=>(c.block i (Nat.lt_of_lt_of_le d h.1) (fun e=>by rcases a with a|⟨k,a,n⟩ <;> rw [a] at e <;> cases e;omega)).trans (h.2 i d j m)⟩
theorem bJ.Rk {w w1:World} {g:Nat} {α:Type} {d:Kd α} {e base:Nat} {ok:Nat→Prop} {v:Value} {xs:List α} (i:d.R e w base (fun k=>ok k∧k≠g) v xs) (j:bJ w w1 g) (m:∀ q,q∈e :: d.E→q ∉ [9]):d.R e w1 base (fun k=>ok k∧k≠g) v xs:=Kd.R_mono (Kd.R_move (Kd.R_bound i) (fun k h=>j.2 k h.2.2.1 h.1.2 (fun c q n o=>by obtain⟨p,a,c2,b⟩:=h.2.2.2;exact m p a ((mM o b) ▸ n)))) (fun _ h=>h.1)
theorem bJ.oldS {w w1:World} {g:Nat} {α:Type} {d:Kd α} {e base:Nat} {ok:Nat→Prop} {v:Value} {xs:List α} (i:Kd.S d e w base (fun k=>ok k∧k≠g) v xs) (j:bJ w w1 g) (m:∀ q,q∈e :: d.E→q ∉ [9]):Kd.S d e w1 base (fun k=>ok k∧k < w.heap.size) v xs:=Kd.S_mono (Kd.S_move (Kd.S_bound i) (fun k h=>j.2 k h.2.2.1 h.1.2 (fun c q n o=>by obtain⟨p,a,c2,b⟩:=h.2.2.2;exact m p a ((mM o b) ▸ n)))) (fun _ h=>⟨h.1.1,h.2.2.1⟩)
def aX.f (a:ByteArray) (b:Int) (c:List ByteArray) (e:Int) (d:Int) (i:Int) (j:Int):Option (ByteArray×Int×List ByteArray×Int×Int):=if d=0 then (some (a,b,c,j,i)) else (some (a,b,c,e,d))
theorem aX.calls (g:Nat) (d:ByteArray) (i:Int) (j:List ByteArray) (k:Int) (m:Int) (o:Int) (p:Int) (r1:ByteArray) (q:Int) (r:List ByteArray) (r4:Int) (s:Int) (w0 w:World) (t:bF w0 w g d i j k m) (c:Below w0.heap.size w0 w) (h:aX.f d i j k m o p=some (r1,q,r,r4,s)):
 Calls Tryz.prog 154 #[.pointer (some ⟨g,0,none⟩),.int .i64 o,.int .i64 p] w fun e w'=>e=.returned (.tuple #[])∧bF w0 w' g r1 q r r4 s∧Below w0.heap.size w0 w'∧bJ w w' g:=by
 have n:=Zm t;have HK:=Zm (bJ.refl w g);have HL:=Zm c.size;clear t;have ag:=Zm c.size;have A:=Zm c;clear c;have H:=h;clear h;unfold aX.f at H;replace H:=eM H;rcases H with ⟨u,v,x,H⟩|⟨u,v,x,H⟩
 · simp only [Option.some.injEq,Prod.mk.injEq] at H;obtain⟨rfl,rfl,rfl,rfl,rfl⟩:=H;obtain⟨B,a,y,-⟩:=n.out;have D:=kQ a;have E:=gR a;have G:=jD a;have I:=lR a;have J:=fU a;have K:=Zkf a 0;have L:=Zkf a 1;have M:=Zkf a 2;have O:=Zkf a 3;have P:=Zkf a 4;clear a y;go_enter Tryz.func154,Tryz.ntmps154;go_wp2
   first|go_end0|((try simp only [Exit.inBlock,Exit.then]);refine bodyPost_ret (results_none rfl _ _ _) rfl ?_)
   exact⟨gP,by exact bO,by exact bk A.out,bS⟩
 clear u;simp only [Option.some.injEq,Prod.mk.injEq] at H;obtain⟨rfl,rfl,rfl,rfl,rfl⟩:=H;obtain⟨T,b,z,-⟩:=n.out;have U:=kQ b;have X:=gR b;have Y:=jD b;have Z:=lR b;have aa:=fU b;have ab:=Zkf b 0;have ac:=Zkf b 1;have ad:=Zkf b 2;have ae:=Zkf b 3;have af:=Zkf b 4;clear b z;go_enter Tryz.func154,Tryz.ntmps154;go_wp2
 first|go_end0|((try simp only [Exit.inBlock,Exit.then]);refine bodyPost_ret (results_none rfl _ _ _) rfl ?_)
 exact⟨gP,by exact bO,by exact dV,bS⟩
def aN.j0:Nat→Bool→ByteArray→Int→List ByteArray→Int→Int→Option (Int×ByteArray×Int×List ByteArray×Int×Int)
 | 0,_,_,_,_,_,_=>none
 | k+1,x19,a,b,d,e,i=>if x19=true then ((bW.f a).bind fun j=>((aX.f a b d e i 4 j).bind fun c=>(some (0,c.1,c.2.1,c.2.2.1,c.2.2.2.1,c.2.2.2.2)))) else (if 0≤(wrap64 ((wrap64 (b+1)) - 1)) then (if (wrap64 ((wrap64 (b+1)) - 1)) < (a.size:Int) then (some (wrap64 (bt a (wrap64 ((wrap64 (b+1)) - 1))),a,wrap64 (b+1),d,e,i)) else (none)) else (none))
def aN.f (k:Nat) (a:ByteArray) (b:Int) (d:List ByteArray) (e:Int) (c:Int):Option (Int×ByteArray×Int×List ByteArray×Int×Int):=if c=0 then ((bW.f a).bind fun i=>(aN.j0 k (decide (b ≥ i)) a b d e c)) else (aN.j0 k true a b d e c)
theorem aN.calls (k:Nat) (g:Nat) (a:ByteArray) (d:Int) (s:List ByteArray) (t:Int) (p:Int) (r1:Int) (v:ByteArray) (x:Int) (r4:List ByteArray) (y:Int) (z:Int) (w0 w:World) (A:bF w0 w g a d s t p) (q:Below w0.heap.size w0 w) (h:aN.f k a d s t p=some (r1,v,x,r4,y,z)):
 Calls Tryz.prog 153 #[.pointer (some ⟨g,0,none⟩)] w fun e w'=>e=.returned (.int .i64 r1)∧bF w0 w' g v x r4 y z∧Below w0.heap.size w0 w'∧bJ w w' g:=by
 have i:=Zm A;have HK:=Zm (bJ.refl w g);have HL:=Zm q.size;clear A;have Z:=Zm q.size;have c:=Zm q;clear q;have H:=h;clear h;unfold aN.f at H;obtain⟨v2,b,hg,hr⟩:=i.out;have f0:=kQ b;have f1:=gR b;have f3:=lR b;have f4:=fU b;have z1:=Zkf b 1;have Y:=Tryz.underlying124;have D:∀ W:World,Calls Tryz.prog 101 #[.string a] W fun e B=>e=.returned (.int .i64 (a.size:Int))∧Drawn0 W B:=fun W=>bW.calls a (a.size:Int) W rfl
 have u:∀ (W:World) (n:Nat),Calls Tryz.prog 101 #[.string a] (W.drewN n) fun e E=>e=.returned (.int .i64 (a.size:Int))∧∃ m,E=W.drewN m:=fun W n=>Calls.quiet_of ((D (W.drewN n)).mono fun e B ⟨J,⟨m,K⟩⟩=>⟨J,m,K⟩)
 clear hr;by_cases c1:p=0;rotate_left
 · rw [if_neg c1] at H;have aa:(p != 0)=true:=bne_iff_ne.mpr c1
   cases k with
   | zero=>simp [aN.j0] at H
   | succ k=>
    simp only [aN.j0,bW.f,Option.bind_some,↓reduceIte] at H;replace H:=cM H;obtain⟨⟨L,M,O,P,T⟩,r,H⟩:=H;(try dsimp only at H);simp only [Option.some.injEq,Prod.mk.injEq] at H;obtain⟨rfl,rfl,rfl,rfl,rfl,rfl⟩:=H;clear b;go_enter Tryz.func153,Tryz.ntmps153;go_wp2;go_quiet (fail);go_wp2_with (first|((with_reducible refine gate_callee (f:=101) rfl ?_);refine cQ (some 25) Tryz.func101 #[.string a] ?_;refine cD (bW.calls _ _ _ rfl) ?_;rintro e w' ⟨rfl,⟨U,rfl⟩⟩;refine⟨_,rfl,?_⟩)|((with_reducible refine gate_callee (f:=154) rfl ?_);refine cQ (some 26) Tryz.func154 #[.pointer (some ⟨g,0,none⟩),.int .i64 4,.int .i64 (a.size:Int)] ?_;refine cD (aX.calls g _ _ _ _ _ _ _ _ _ _ _ _ w0 _ bO (bk c.out) r.out) ?_;rintro e G ⟨rfl,j,b,o⟩;refine⟨_,rfl,?_⟩;replace HK:=Zm (bJ.trans bS o);replace c:=Zm b;replace i:=Zm j;clear b o j));go_ret;exact⟨rfl,i.out,c.out,HK.out⟩
 subst c1;rw [if_pos rfl] at H;simp only [bW.f,Option.bind_some] at H
 cases k with
 | zero=>simp [aN.j0] at H
 | succ k=>
  simp only [aN.j0,bW.f,Option.bind_some] at H;by_cases c2:d ≥ (a.size:Int);rotate_left
  · have I:decide ((a.size:Int)≤d)=false:=decide_eq_false c2;rw [if_neg (by simpa using c2)] at H;replace H:=hY H;obtain⟨c3,H⟩:=H;replace H:=hY H;obtain⟨c4,H⟩:=H;simp only [Option.some.injEq,Prod.mk.injEq] at H;obtain⟨rfl,rfl,rfl,rfl,rfl,rfl⟩:=H;have ab:=decide_eq_true c3;have ac:=decide_eq_true c4;have ad:=eq_true c3;have ae:=eq_true c4;have X:=bt_at a (wrap64 (wrap64 (d+1) - 1));clear c2;go_enter Tryz.func153,Tryz.ntmps153;go_wp2;go_quiet ((go_at_call 101;exact u _ _));go_wp2;go_quiet (fail);go_wp2;go_ret;have af:=Zm hg;exact⟨by first|rfl|(simp [X,c3,c4] <;> rfl),bO,Zbn (Zbs (bk c.out) hg) _,bJ.drewN (bJ.set_ (bJ.drewN HK.out _) 1 _) _⟩
  have I:decide ((a.size:Int)≤d)=true:=decide_eq_true c2;rw [if_pos (by simpa using c2)] at H;replace H:=cM H;obtain⟨⟨L,M,O,P,T⟩,r,H⟩:=H;(try dsimp only at H);simp only [Option.some.injEq,Prod.mk.injEq] at H;obtain⟨rfl,rfl,rfl,rfl,rfl,rfl⟩:=H;clear b c2;go_enter Tryz.func153,Tryz.ntmps153;go_wp2;go_quiet ((go_at_call 101;exact u _ _));go_wp2_with (first|((with_reducible refine gate_callee (f:=101) rfl ?_);refine cQ (some 25) Tryz.func101 #[.string a] ?_;refine cD (bW.calls _ _ _ rfl) ?_;rintro e w' ⟨rfl,⟨U,rfl⟩⟩;refine⟨_,rfl,?_⟩)|((with_reducible refine gate_callee (f:=154) rfl ?_);refine cQ (some 26) Tryz.func154 #[.pointer (some ⟨g,0,none⟩),.int .i64 4,.int .i64 (a.size:Int)] ?_;refine cD (aX.calls g _ _ _ _ _ _ _ _ _ _ _ _ w0 _ bO (bk c.out) r.out) ?_;rintro e G ⟨rfl,j,b,o⟩;refine⟨_,rfl,?_⟩;replace HK:=Zm (bJ.trans bS o);replace c:=Zm b;replace i:=Zm j;clear b o j));go_ret;exact⟨rfl,i.out,c.out,HK.out⟩
def cA.l0:Nat→List Int→Int→Int→ByteArray→Int→List ByteArray→Int→Int→Option (ByteArray×Int×List ByteArray×Int×Int)
 | 0,_,_,_,_,_,_,_,_=>none
 | k+1,e,o,c,i,d,j,m,n=>if c < o then (if 0≤c then (if c < (e.length:Int) then ((aN.f k i d j m n).bind fun a=>(if a.1=(rd e c) then (cA.l0 k e o (wrap64 (c+1)) a.2.1 a.2.2.1 a.2.2.2.1 a.2.2.2.2.1 a.2.2.2.2.2) else ((aX.f a.2.1 a.2.2.1 a.2.2.2.1 a.2.2.2.2.1 a.2.2.2.2.2 3 d).bind fun b=>(some (b.1,b.2.1,b.2.2.1,b.2.2.2.1,b.2.2.2.2))))) else (none)) else (none)) else (some (i,d,j,m,n))
def cA.f (k:Nat) (b:ByteArray) (c:Int) (d:List ByteArray) (e:Int) (i:Int):Option (ByteArray×Int×List ByteArray×Int×Int):=(some (([67,70,1]:List Int):List Int)).bind fun a=>(cA.l0 k a (a.length:Int) 0 b c d e i)
theorem cA.calls (k:Nat) (g:Nat) (x:ByteArray) (y:Int) (z:List ByteArray) (A:Int) (B:Int) (r1:ByteArray) (D:Int) (E:List ByteArray) (r4:Int) (G:Int) (w0 w:World) (hI:bF w0 w g x y z A B) (I:Below w0.heap.size w0 w) (h:cA.f k x y z A B=some (r1,D,E,r4,G)):
 Calls Tryz.prog 98 #[.pointer (some ⟨g,0,none⟩)] w fun e w'=>e=.returned (.tuple #[])∧bF w0 w' g r1 D E r4 G∧Below w0.heap.size w0 w'∧bJ w w' g:=by
 have p:=Zm hI;have HK:=Zm (bJ.refl w g);have HL:=Zm I.size;clear hI;have a2:=Zm I.size;have b:=Zm I;clear I;have H:=h;clear h;unfold cA.f at H;obtain⟨i,hy_⟩:∃ y_:List Int,y_=(([67,70,1]:List Int)):=⟨_,rfl⟩;replace H:(cA.l0 k i (i.length:Int) 0 x y z A B)=some (r1,D,E,r4,G):=iU
 have O:=Zm hy_;clear hy_;have J:=Zm H;clear H;go_enter Tryz.func98,Tryz.ntmps98;go_wp2_with (first|((with_reducible refine gate_dst (N:=5) rfl ?_);refine Kd.R_lit (Kd.int .i64) _ 2 ?hg (N:=5) ?hd (xs:=([67,70,1]:List Int)) (inner:=[.int .i64 67,.int .i64 70,.int .i64 1]) (ok:=fun _=>True) (okp:=fun _=>True) ?hr ?hp (fun _ d=>d) trivial (Below.refl _ _) (Nat.le_refl _) (by simp) ?_;(case hd=>rfl);(case hg=>rfl);(case hr=>exact jE);(case hp=>exact(Reps.one (show Kd.M (Kd.int .i64) _ _ _ 67 [.int .i64 67] from rfl) (Reps.one (show Kd.M (Kd.int .i64) _ _ _ 70 [.int .i64 70] from rfl) (Reps.one (show Kd.M (Kd.int .i64) _ _ _ 1 [.int .i64 1] from rfl) (Reps.none _ _)))));intro aL w2 q c ai ad;clear ai ad;(first|rw [← O.out] at q|(simp only [Int.reduceToNat] at q;rw [← O.out] at q));have P:=Zm (Kd.R_lower q (bJ.size bS));replace p:=Zm (bF.below bO c);replace HK:=Zm (bJ.trans bS (bJ.of_below c g));replace b:=dJ b c;clear c q;obtain⟨aj,ak,al⟩:=Kd.R_slice P.out;subst al));go_loopg [7] k (fun kq v7 w'=>∃ (j:Int) (s:ByteArray) (n:Int) (t:List ByteArray) (u:Int) (v:Int),v7=.int .i64 j∧Aside0 (cA.l0 kq i (i.length:Int) j s n t u v=some (r1,D,E,r4,G))∧Aside0 (kq≤k)∧Aside0 (Kd.R (Kd.int .i64) 2 w' w.heap.size (fun _=>True) (.slice aj i.length ak) i)∧Aside0 (bF w0 w' g s n t u v)∧Aside0 (bJ w w' g)∧Aside0 (Below w0.heap.size w0 w'))
 case atStart=>exact⟨(0),(x),(y),(z),(A),(B),dS,J,⟨Nat.le_refl _⟩,⟨pr P.out⟩,⟨by exact bO⟩,⟨bS⟩,⟨bk b.out⟩⟩
 case round=>
  clear J;obtain⟨j,s,n,t,u,v,rfl,HA,aa,m,p,HK,b⟩:=hrel
  cases gk with
  | zero=>exact absurd HA.out (by simp [cA.l0])
  | succ k1=>
   have H:=HA.out;clear HA;simp only [cA.l0] at H;replace H:=jC H;rcases H with ⟨ag,H⟩|⟨ag,H⟩
   · simp only [Option.some.injEq,Prod.mk.injEq] at H;obtain⟨rfl,rfl,rfl,rfl,rfl⟩:=H;go_wp2
     first|go_end0|((try simp only [Exit.inBlock,Exit.then]);refine bodyPost_ret (results_none rfl _ _ _) rfl ?_)
     exact⟨gP,by exact bO,by exact bk b.out,bS⟩
   replace H:=eG H;obtain⟨c6b0,H⟩:=H;replace H:=eG H;obtain⟨c7b0,H⟩:=H;replace H:=cM H;obtain⟨⟨aO,T,U,X,Y,Z⟩,A8,H⟩:=H;(try dsimp only at H);have ab:=Zm H;clear H;have K:0≤(j:Int):=eF;have L:j < (i.length:Int):=eF;obtain⟨aF,ah,an⟩:=Kd.at_int (Kd.R_reads' m.out).2.2 j K L;cases ah;replace K:=eq_true K;replace L:=eq_true L;obtain⟨ao,a,ae,-⟩:=p.out;have ap:=kQ a;have aq:=gR a;have ar:=jD a;have au:=lR a;have av:=fU a;have aw:=Zkf a 0;have ax:=Zkf a 1;have ay:=Zkf a 2;have az:=Zkf a 3;have aB:=Zkf a 4;clear a ae;go_upto_if 18 with (first|((with_reducible refine gate_callee (f:=153) rfl ?_);refine cQ (some 16) Tryz.func153 #[.pointer (some ⟨g,0,none⟩)] ?_;refine cD (aN.calls _ g _ _ _ _ _ _ _ _ _ _ _ w0 _ bO (bk b.out) A8.out) ?_;rintro e a3 ⟨rfl,r,c,d⟩;refine⟨_,rfl,?_⟩;replace m:=Zm (Kd.R_mono (bJ.Rk (bF.apart (by exact bO:bF w0 _ g s n t u v) (pr m.out) (by decide)) d (by decide)) (fun _ h=>h.1));replace HK:=Zm (bJ.trans bS d);replace b:=Zm c;replace p:=Zm r;clear c d r));have H:=ab.out;clear ab;replace H:=eM H;rcases H with ⟨ac,o,af,H⟩|⟨ac,o,af,H⟩
   · (first|rw [o]|(simp only [i64_w,i32_w];rw [o])|skip);replace H:=cM H;obtain⟨⟨aP,aR,aS,a0,a1⟩,am,H⟩:=H;(try dsimp only at H);simp only [Option.some.injEq,Prod.mk.injEq] at H;obtain⟨rfl,rfl,rfl,rfl,rfl⟩:=H;go_wp2_with (first|((with_reducible refine gate_callee (f:=154) rfl ?_);refine cQ (some 21) Tryz.func154 #[.pointer (some ⟨g,0,none⟩),.int .i64 3,.int .i64 n] ?_;refine cD (aX.calls g _ _ _ _ _ _ _ _ _ _ _ _ w0 _ bO (bk b.out) am.out) ?_;rintro e a4 ⟨rfl,r,c,d⟩;refine⟨_,rfl,?_⟩;replace m:=Zm (Kd.R_mono (bJ.Rk (bF.apart (by exact bO:bF w0 _ g T U X Y Z) (pr m.out) (by decide)) d (by decide)) (fun _ h=>h.1));replace HK:=Zm (bJ.trans bS d);replace b:=Zm c;replace p:=Zm r;clear c d r))
     first|go_end0|((try simp only [Exit.inBlock,Exit.then]);refine bodyPost_ret (results_none rfl _ _ _) rfl ?_)
     exact⟨gP,by exact bO,by exact bk b.out,bS⟩
   clear ac;(first|rw [o]|(simp only [i64_w,i32_w];rw [o])|skip);have J:=Zm H;clear H;go_wp2;go_roundg k1
   case measure=>have:=aa.out;omega
   case rel=>exact⟨(wrap64 (j+1)),(T),(U),(X),(Y),(Z),dS,J,⟨by have:=aa.out;omega⟩,⟨pr m.out⟩,⟨by exact bO⟩,⟨bS⟩,⟨bk b.out⟩⟩
def cN.l0:Nat→ByteArray→Int→Int→Option (Bool)
 | 0,_,_,_=>none
 | k+1,b,c,a=>if a < c then (if 0≤a then (if a < (b.size:Int) then (if (bt b a) < 32 then (some false) else (if (bt b a) > 126 then (some false) else (cN.l0 k b c (wrap64 (a+1))))) else (none)) else (none)) else (some true)
def cN.f (k:Nat) (a:ByteArray):Option (Bool):=cN.l0 k a (a.size:Int) 0
theorem cN.mono_l:∀ k,(∀ a b c,LeO (cN.l0 k a b c) (cN.l0 (k+1) a b c))
 | 0=>by intros;intro r h;simp [cN.l0] at h
 | k+1=>by
  have ih0:=cN.mono_l k;intros;unfold cN.l0;exact lM
theorem cN.calls (k:Nat) (b:ByteArray) (r:Bool) (w:World) (h:cN.f k b=some r):
 Calls Tryz.prog 155 #[.string b] w fun e w'=>e=.returned (.bool r)∧Drawn0 w w':=by
 have H:=h;clear h;unfold cN.f at H;have n:=Zm H;clear H;go_enter Tryz.func155,Tryz.ntmps155;go_wp2;go_loopg [6] k (fun q x w'=>∃ (a:Int),x=.int .i64 a∧Aside0 (cN.l0 q b (b.size:Int) a=some r)∧Aside0 (q≤k)∧Drawn0 w w')
 case atStart=>exact⟨(0),dS,n,⟨Nat.le_refl _⟩,mX⟩
 case round=>
  clear n;obtain⟨a,rfl,HA,o,⟨m1,rfl⟩⟩:=hrel
  cases gk with
  | zero=>exact absurd HA.out (by simp [cN.l0])
  | succ y=>
   have H:=HA.out;clear HA;simp only [cN.l0] at H;replace H:=jC H;rcases H with ⟨s,H⟩|⟨s,H⟩
   · obtain rfl:=Option.some.inj H;go_wp2;go_ret;exact hU
   replace H:=eG H;obtain⟨c3b0,H⟩:=H;replace H:=eG H;obtain⟨c4b0,H⟩:=H;replace H:=jC H;rcases H with ⟨t,H⟩|⟨t,H⟩
   · replace H:=iG H;rcases H with ⟨i,H⟩|⟨i,H⟩
     · have u:decide (126 < (bt b a))=false:=decide_eq_false i;clear i;have n:=Zm H;clear H;have c:0≤(a:Int):=eF;have d:a < (b.size:Int):=eF;have p:=bt_at b a;replace c:=eq_true c;replace d:=eq_true d;have j:0≤(a:Int):=eF;have m:a < (b.size:Int):=eF;have v:=bt_at b a;replace j:=eq_true j;replace m:=eq_true m;go_wp2;go_roundg y
       case measure=>have:=o.out;omega
       case rel=>exact⟨(wrap64 (a+1)),dS,n,⟨by have:=o.out;omega⟩,mX⟩
     have u:decide (126 < (bt b a))=true:=decide_eq_true i;clear i;obtain rfl:=Option.some.inj H;have c:0≤(a:Int):=eF;have d:a < (b.size:Int):=eF;have p:=bt_at b a;replace c:=eq_true c;replace d:=eq_true d;have j:0≤(a:Int):=eF;have m:a < (b.size:Int):=eF;have v:=bt_at b a;replace j:=eq_true j;replace m:=eq_true m;go_wp2;go_ret;exact hU
   obtain rfl:=Option.some.inj H;have c:0≤(a:Int):=eF;have d:a < (b.size:Int):=eF;have p:=bt_at b a;replace c:=eq_true c;replace d:=eq_true d;go_wp2;go_ret;exact hU
end Go.Proofs.YtkbebmifpccofaaGreat.PFnClassCut
