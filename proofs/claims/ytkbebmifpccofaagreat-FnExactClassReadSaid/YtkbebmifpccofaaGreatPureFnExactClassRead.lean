/- The program's ClassRead returns what the reference's returns, in memory of its own, for every text. -/
import Derived.Test.YtkbebmifpccofaaGreatPFnExactClassReadx19
namespace Go.Proofs.YtkbebmifpccofaaGreat.Pure
open Go.RowKit Go.Proofs.YtkbebmifpccofaaGreat.PFnExactClassRead Go.Proofs.YtkbebmifpccofaaGreatW.PrintWords Go.Proofs.YtkbebmifpccofaaGreatW.PrintLast
set_option linter.unusedVariables false
set_option linter.unusedSimpArgs false
theorem rD:∀ n:Nat,n < 44→cO.f 16 (((n+1:Nat):Int))=dP.f (((n+1:Nat):Int))∧(dP.f (((n+1:Nat):Int))).isSome=true:=by decide +kernel
theorem lD (a:Int):∃ F,dP.f a=some F∧∀ k,16≤k→cO.f k a=some F:=by
 have up:∀ F,cO.f 16 a=some F→∀ k,16≤k→cO.f k a=some F:=fun F h k b=>at_rounds (g:=fun k=>cO.f k a) (fun k=>cO.mono _ _) b h
 by_cases h1:1≤a∧a≤44
 · have e:a=(((a - 1).toNat+1:Nat):Int):=by omega
   have h:=rD (a - 1).toNat (by omega)
   rw[← e] at h
   obtain⟨F,hF⟩:=Option.isSome_iff_exists.mp h.2
   exact⟨F,hF,up F (h.1.trans hF)⟩
 · refine⟨⟨#[33]⟩,?_,up _ ?_⟩
   · unfold dP.f jE.f cE.f
     by_cases c:a ≥ 1
     · rw[if_pos c]
       simp only[Option.bind_some]
       rw[if_neg (by simp;omega)]
     · rw[if_neg c]
       simp only[Option.bind_some]
       rw[if_neg (by simp)]
   · unfold cO.f kT.f
     simp only[Option.bind_some]
     by_cases c:a < 1
     · rw[if_pos c]
       rfl
     · rw[if_neg c,decide_eq_true (by simp;omega)]
       rfl
theorem kW {i:Int} {n:Nat} (h0:0≤i) (h:i < (n:Int)) (a:n≤140737488351232):wrap64 (i+1)=i+1:=by
 unfold wrap64
 omega
theorem pZ:∀ c:Nat,c < 256→fC.f (c:Int) 0=eF.f (c:Int) true∧fC.f (c:Int) 1=eF.f (c:Int) false:=by decide +kernel
theorem lL (c:Int) (b:Bool):∃ r,eF.f c b=some r:=by
 unfold eF.f
 repeat' split
 all_goals exact⟨_,rfl⟩
theorem qJ (c i:Int) (h0:0≤c) (h1:c≤255) (d:0≤i):fC.f c i=eF.f c (i == 0):=by
 obtain⟨n,rfl⟩:=Int.eq_ofNat_of_zero_le h0
 have h:=pZ n (by omega)
 by_cases e:i=0
 · subst e;simpa using h.1
 · have a:(i == 0)=false:=by simpa using e
   rw[a,← h.2]
   unfold fC.f
   have b:decide (i > 0)=decide ((1:Int) > 0):=by simp;omega
   rw[b]
theorem qA (s:ByteArray) (j:s.size≤140737488351232) (d:Nat):∀ (k k':Nat) (i:Int),0≤i→i≤s.size→(s.size:Int) - i=d→d < k→d < k'→
 ∃ b,aD.l0 k s i=some b∧aV.l0 k' s (s.size:Int) i=some (b && decide (1≤s.size∧s.size≤20)):=by
 induction d with
 | zero =>
  intro k k' i h0 h1 hd n e
  obtain⟨k,rfl⟩:∃ m,k=m+1:=⟨k - 1,by omega⟩
  obtain⟨k',rfl⟩:∃ m,k'=m+1:=⟨k' - 1,by omega⟩
  refine⟨true,?_,?_⟩
  · simp only[aD.l0];rw[if_neg (by omega)]
  · simp only[aV.l0]
    rw[if_neg (by omega)]
    simp only[cC.f,cE.f,Option.bind_some]
    by_cases c1:(s.size:Int) ≥ 1
    · rw[if_pos c1]
      simp only[Option.bind_some,Bool.true_and]
      exact congrArg some (decide_eq_decide.mpr (by omega))
    · rw[if_neg c1,decide_eq_false (show ¬ (1≤s.size∧s.size≤20) by omega)]
      rfl
 | succ d ih =>
  intro k k' i h0 h1 hd n e
  obtain⟨k,rfl⟩:∃ m,k=m+1:=⟨k - 1,by omega⟩
  obtain⟨k',rfl⟩:∃ m,k'=m+1:=⟨k' - 1,by omega⟩
  have a:i < (s.size:Int):=by omega
  have c:=bt_range s i
  simp only[aD.l0,aV.l0]
  rw[if_pos a,if_pos h0,if_pos a,if_pos h0,if_pos a,kW h0 a j,qJ _ _ c.1 c.2 h0]
  obtain⟨r,hr⟩:=lL (bt s i) (i == 0)
  rw[hr]
  cases r with
  | false=>exact⟨false,by simp,by simp⟩
  | true =>
   obtain⟨b,o,p⟩:=ih k k' (i+1) (by omega) (by omega) (by omega) (by omega) (by omega)
   exact⟨b,by simpa using o,by simpa using p⟩
theorem mJ (s:ByteArray) (c:s.size≤140737488351232):∃ b,(∀ k,s.size+3≤k→aD.f k s=some b)∧(∀ k,s.size+3≤k→aV.f k s=some b):=by
 obtain⟨b,d,e⟩:=qA s c s.size (s.size+1) (s.size+1) 0 (by omega) (by omega) (by omega) (by omega) (by omega)
 refine⟨b && decide (1≤s.size∧s.size≤20),fun k i=>?_,fun k i=>?_⟩
 · obtain⟨k,rfl⟩:∃ m,k=m+1:=⟨k - 1,by omega⟩
   have a:=at_rounds (g:=fun k=>aD.l0 k s 0) (k':=k) (fun k=>(aD.mono_l k).2 s 0) (by omega) d
   unfold aD.f
   by_cases c1:(s.size:Int) < 1
   · rw[if_pos c1]
     simp only[aD.j0]
     simp;omega
   · rw[if_neg c1]
     by_cases c2:(s.size:Int) > 20
     · simp only[aD.j0,c2]
       simp;omega
     · simp only[aD.j0,c2]
       rw[decide_eq_false (by simp),if_neg (by simp),a]
       simp;omega
 · unfold aV.f
   exact at_rounds (g:=fun k=>aV.l0 k s (s.size:Int) 0) (fun k=>aV.mono_l k s (s.size:Int) 0) (by omega) e
def iT:Nat→ByteArray→Int→Int→Int
 | 0,_,_,i=>i
 | n+1,t,f,i=>if i < (t.size:Int)∧eF.f (bt t i) (i == f)=some true then iT n t f (i+1) else i
def nameAt (t:ByteArray) (f:Int):Int×Bool:=
 if iT 20 t f f < (t.size:Int)∧bt t (iT 20 t f f)=59∧iT 20 t f f≠f then (iT 20 t f f+1,true) else (iT 20 t f f,false)
def iD (t:ByteArray) (a:Int):Int×Bool:=
 if a < (t.size:Int)∧bt t a=73 then (a+1,true) else if a < (t.size:Int)∧bt t a=76 then nameAt t (a+1) else (a,false)
def iU (t:ByteArray) (a:Int):Int×Bool:=if a < (t.size:Int)∧bt t a=91 then iD t (a+1) else iD t a
theorem oV (t:ByteArray) (f:Int):∀ (n:Nat) (i:Int),i≤(t.size:Int)→i≤iT n t f i∧iT n t f i≤(t.size:Int)
 | 0,i,h=>⟨Int.le_refl _,h⟩
 | n + 1, i, h => by
  unfold iT
  by_cases c:i < (t.size:Int)∧eF.f (bt t i) (i == f)=some true
  · rw[if_pos c]
    have:=oV t f n (i+1) (by omega)
    omega
  · rw[if_neg c]
    omega
theorem vD (t:ByteArray) (f:Int) (h:f≤(t.size:Int)):f≤(nameAt t f).1∧(nameAt t f).1≤(t.size:Int):=by
 have:=oV t f 20 f h
 unfold nameAt
 split
 · dsimp only;omega
 · dsimp only;omega
theorem sK (t:ByteArray) (a:Int) (h:a≤(t.size:Int)):a≤(iD t a).1∧(iD t a).1≤(t.size:Int)∧((iD t a).2=true→a < (iD t a).1):=by
 unfold iD
 split
 · dsimp only;omega
 · split
   · have:=vD t (a+1) (by omega)
     exact⟨by omega,this.2,fun _=>by omega⟩
   · simpa using h
theorem oZ (t:ByteArray) (a:Int) (h:a≤(t.size:Int)):a≤(iU t a).1∧(iU t a).1≤(t.size:Int)∧((iU t a).2=true→a < (iU t a).1):=by
 unfold iU
 split
 · have:=sK t (a+1) (by omega)
   exact⟨by omega,this.2.1,fun _=>by omega⟩
 · exact sK t a h
theorem qD (t:ByteArray) (a:t.size≤140737488351232) (f:Int) (d:0≤f):∀ (n k:Nat) (i:Int),f≤i→i - f=20 - (n:Int)→i≤(t.size:Int)→n < k→
 bI.l0 k t f i=some (if iT n t f i < (t.size:Int)∧bt t (iT n t f i)=59∧iT n t f i≠f then (iT n t f i+1,true) else (iT n t f i,false)):=by
 intro n
 induction n with
 | zero =>
  intro k i h0 h1 h2 c
  obtain⟨k,rfl⟩:∃ m,k=m+1:=⟨k - 1,by omega⟩
  have w1:wrap64 (i - f)=i - f:=by unfold wrap64;omega
  rw[show iT 0 t f i=i from rfl]
  simp only[bI.l0,w1]
  by_cases c1:i < (t.size:Int)
  · rw[if_pos c1,if_neg (by omega),if_neg (by omega),if_pos (by omega),kW (by omega) c1 a]
    by_cases c2:bt t i=59
    · by_cases c3:i=f
      · rw[if_pos c2,if_pos c3,if_neg (by omega)]
      · rw[if_pos c2,if_neg c3,if_pos ⟨c1,c2,c3⟩]
    · rw[if_neg c2,if_neg (by omega)]
  · rw[if_neg c1,if_pos (by omega),if_neg (by omega)]
 | succ n ih =>
  intro k i h0 h1 h2 c
  obtain⟨k,rfl⟩:∃ m,k=m+1:=⟨k - 1,by omega⟩
  have w1:wrap64 (i - f)=i - f:=by unfold wrap64;omega
  obtain⟨b,hb⟩:=lL (bt t i) (i == f)
  by_cases c1:i < (t.size:Int)
  · simp only[bI.l0,w1]
    rw[if_pos c1,if_pos (by omega),if_pos (by omega),hb,kW (by omega) c1 a]
    cases b with
    | true =>
     have e:iT (n+1) t f i=iT n t f (i+1):=by
      rw[iT,if_pos ⟨c1,hb⟩]
     rw[e]
     simpa using ih k (i+1) (by omega) (by omega) (by omega) (by omega)
    | false =>
     have e:iT (n+1) t f i=i:=by
      rw[iT,hb];simp
     rw[e]
     simp only[Option.bind_some]
     rw[if_neg (by simp),if_neg (by omega)]
     by_cases c2:bt t i=59
     · by_cases c3:i=f
       · rw[if_pos c2,if_pos c3,if_neg (by omega)]
       · rw[if_pos c2,if_neg c3,if_pos ⟨c1,c2,c3⟩]
     · rw[if_neg c2,if_neg (by omega)]
  · have e:iT (n+1) t f i=i:=by
     rw[iT,if_neg (by omega)]
    rw[e]
    simp only[bI.l0]
    rw[if_neg c1,if_pos (by omega),if_neg (by omega)]
theorem sQ (t:ByteArray) (i:Int) (b:Int):cL.f t i true b=some (t,i,true):=by
 simp[cL.f,bF.f,gQ.f]
theorem wV (t:ByteArray) (i:Int) (b:Int):bF.f t i true b=some (false,t,i,true):=by
 simp[bF.f,gQ.f]
theorem nE (t:ByteArray) (a:t.size≤140737488351232) (i b:Int) (h0:0≤i):
 bF.f t i false b=some (if i < (t.size:Int)∧bt t i=b then (true,t,i+1,false) else (false,t,i,false)):=by
 unfold bF.f gQ.f
 simp only[cC.f,Option.bind_some]
 rw[if_neg (by simp)]
 by_cases c:i < (t.size:Int)
 · rw[if_pos c,if_pos h0,if_pos c]
   simp only[Option.bind_some]
   by_cases c2:bt t i=b
   · rw[if_pos (by simpa using c2),if_pos ⟨c,c2⟩,kW h0 c a]
   · rw[if_neg (by simpa using c2),if_neg (fun h=>c2 h.2)]
 · rw[if_neg c,if_neg (by omega)]
   rfl
theorem nS (t:ByteArray) (a:t.size≤140737488351232) (i b:Int) (h0:0≤i):
 cL.f t i false b=some (if i < (t.size:Int)∧bt t i=b then (t,i+1,false) else (t,i,true)):=by
 unfold cL.f
 rw[nE t a i b h0]
 by_cases c:i < (t.size:Int)∧bt t i=b
 · rw[if_pos c,if_pos c];rfl
 · rw[if_neg c,if_neg c];rfl
theorem wI (t:ByteArray) (a:t.size≤140737488351232) (f:Int) (r:0≤f):∀ (n k:Nat) (i:Int),f≤i→i - f=20 - (n:Int)→i≤(t.size:Int)→n < k→
 bV.l0 k f t i false=some (if iT n t f i < (t.size:Int)∧bt t (iT n t f i)=59∧iT n t f i≠f then (t,iT n t f i+1,false) else (t,iT n t f i,true)):=by
 have j:f≤(t.size:Int)→wrap64 (f+20)=f+20:=fun _=>by unfold wrap64;omega
 intro n
 induction n with
 | zero =>
  intro k i h0 h1 h2 p
  obtain⟨k,rfl⟩:∃ m,k=m+1:=⟨k - 1,by omega⟩
  rw[show iT 0 t f i=i from rfl]
  simp only[bV.l0,cC.f,Option.bind_some,j (by omega)]
  rw[if_neg (by simp)]
  by_cases c1:i < (t.size:Int)
  · rw[if_pos c1,if_neg (by omega),if_neg (by omega),nS t a i 59 (by omega)]
    by_cases c2:bt t i=59
    · rw[if_pos ⟨c1,c2⟩,if_pos ⟨c1,c2,by omega⟩];rfl
    · rw[if_neg (fun h=>c2 h.2),if_neg (fun h=>c2 h.2.1)];rfl
  · rw[if_neg c1,if_neg (by omega),nS t a i 59 (by omega),if_neg (by omega),if_neg (by omega)];rfl
 | succ n ih =>
  intro k i h0 h1 h2 p
  obtain⟨k,rfl⟩:∃ m,k=m+1:=⟨k - 1,by omega⟩
  have w1:wrap64 (i - f)=i - f:=by unfold wrap64;omega
  obtain⟨b,hb⟩:=lL (bt t i) (i == f)
  have o:=bt_range t i
  have d:=qJ (bt t i) (i - f) o.1 o.2 (by omega)
  have q:(i - f == 0)=(i == f):=by
   by_cases c:i=f
   · subst c;simp
   · rw[beq_eq_false_iff_ne.mpr c,beq_eq_false_iff_ne.mpr (by omega)]
  rw[q,hb] at d
  by_cases c1:i < (t.size:Int)
  · simp only[bV.l0,cC.f,Option.bind_some,j (by omega),w1]
    rw[if_neg (by simp),if_pos c1,if_pos (by omega),if_pos (by omega),if_pos c1,d,kW (by omega) c1 a]
    cases b with
    | true =>
     have e:iT (n+1) t f i=iT n t f (i+1):=by
      rw[iT,if_pos ⟨c1,hb⟩]
     rw[e]
     simpa using ih k (i+1) (by omega) (by omega) (by omega) (by omega)
    | false =>
     have e:iT (n+1) t f i=i:=by
      rw[iT,hb];simp
     rw[e]
     simp only[Option.bind_some]
     rw[if_neg (by simp)]
     by_cases c3:i=f
     · rw[if_pos c3,sQ,if_neg (by omega)];rfl
     · rw[if_neg c3,nS t a i 59 (by omega)]
       by_cases c2:bt t i=59
       · rw[if_pos ⟨c1,c2⟩,if_pos ⟨c1,c2,c3⟩];rfl
       · rw[if_neg (fun h=>c2 h.2),if_neg (fun h=>c2 h.2.1)];rfl
  · have e:iT (n+1) t f i=i:=by
     rw[iT,if_neg (by omega)]
    rw[e]
    simp only[bV.l0,cC.f,Option.bind_some]
    rw[if_neg (by simp),if_neg c1]
    by_cases c3:i=f
    · rw[if_pos c3,sQ,if_neg (by omega)];rfl
    · rw[if_neg c3,nS t a i 59 (by omega),if_neg (by omega),if_neg (by omega)];rfl
theorem nG (t:ByteArray) (b:t.size≤140737488351232) (k:Nat) (d:21 < k) (a:Int) (h0:0≤a) (h1:a < (t.size:Int)) (h2:bt t a≠73):
 bI.j0 k t a false=some (iD t a):=by
 obtain⟨k,rfl⟩:∃ m,k=m+1:=⟨k - 1,by omega⟩
 simp only[bI.j0]
 rw[if_neg (by simp),if_pos h0,if_pos h1,kW h0 h1 b]
 have e:iD t a=if a < (t.size:Int)∧bt t a=76 then nameAt t (a+1) else (a,false):=by
  unfold iD
  exact if_neg (fun h=>h2 h.2)
 rw[e]
 by_cases c:bt t a=76
 · rw[if_pos c,if_pos ⟨h1,c⟩]
   exact qD t b (a+1) (by omega) 20 k (a+1) (by omega) (by omega) (by omega) (by omega)
 · rw[if_neg c,if_neg (fun h=>c h.2)]
theorem pQ (t:ByteArray) (b:t.size≤140737488351232) (k:Nat) (d:22 < k) (a:Int) (h0:0≤a) (h1:a≤(t.size:Int)):
 bI.f k t a true=some (iD t a):=by
 obtain⟨k,rfl⟩:∃ m,k=m+1:=⟨k - 1,by omega⟩
 simp only[bI.f]
 by_cases c:a < (t.size:Int)
 · rw[if_neg (by omega),if_pos h0,if_pos c,kW h0 c b]
   by_cases c2:bt t a=73
   · rw[if_pos c2];unfold iD;rw[if_pos ⟨c,c2⟩]
   · rw[if_neg c2]
     have e:=nG t b k (by omega) a h0 c c2
     by_cases c3:bt t a=91
     · rw[if_pos c3];exact e
     · rw[if_neg c3];exact e
 · rw[if_pos (by omega)];unfold iD;rw[if_neg (by omega),if_neg (by omega)]
theorem oG (t:ByteArray) (b:t.size≤140737488351232) (k:Nat) (d:24 < k) (a:Int) (h0:0≤a) (h1:a≤(t.size:Int)):
 bI.f k t a false=some (iU t a):=by
 obtain⟨k,rfl⟩:∃ m,k=m+1:=⟨k - 1,by omega⟩
 simp only[bI.f]
 unfold iU
 by_cases c:a < (t.size:Int)
 · rw[if_neg (by omega),if_pos h0,if_pos c,kW h0 c b]
   by_cases c2:bt t a=73
   · rw[if_pos c2,if_neg (by omega)];unfold iD;rw[if_pos ⟨c,c2⟩]
   · rw[if_neg c2]
     by_cases c3:bt t a=91
     · rw[if_pos c3,if_pos ⟨c,c3⟩]
       obtain⟨k,rfl⟩:∃ m,k=m+1:=⟨k - 1,by omega⟩
       simp only[bI.j0]
       rw[if_pos (by simp),kW h0 c b,pQ t b k (by omega) (a+1) (by omega) (by omega)]
       rfl
     · rw[if_neg c3,if_neg (fun h=>c3 h.2)]
       exact nG t b k (by omega) a h0 c c2
 · rw[if_pos (by omega),if_neg (by omega)];unfold iD;rw[if_neg (by omega),if_neg (by omega)]
theorem qH (t:ByteArray) (b:t.size≤140737488351232) (k:Nat) (d:21 < k) (s a:Int) (hs:0≤s) (c:s≤a) (h1:a≤(t.size:Int)):
 ((bF.f t a false 73).bind fun (x:Bool×ByteArray×Int×Bool)=>(if x.1=true then (if x.2.2.2=true then (some ((⟨#[]⟩:ByteArray),x.2.1,x.2.2.1,x.2.2.2)) else (if 0≤s then (if s≤x.2.2.1 then (if x.2.2.1≤(x.2.1.size:Int) then (some (x.2.1.extract (s:Int).toNat (x.2.2.1:Int).toNat,x.2.1,x.2.2.1,x.2.2.2)) else (none)) else (none)) else (none))) else ((bF.f x.2.1 x.2.2.1 x.2.2.2 76).bind fun y=>(if y.1=true then ((bV.f k y.2.1 y.2.2.1 y.2.2.2).bind fun z=>(if z.2.2=true then (some ((⟨#[]⟩:ByteArray),z.1,z.2.1,z.2.2)) else (if 0≤s then (if s≤z.2.1 then (if z.2.1≤(z.1.size:Int) then (some (z.1.extract (s:Int).toNat (z.2.1:Int).toNat,z.1,z.2.1,z.2.2)) else (none)) else (none)) else (none)))) else (some ((⟨#[]⟩:ByteArray),y.2.1,y.2.2.1,true))))))
  = some ((if (iD t a).2=true then t.extract s.toNat (iD t a).1.toNat else ⟨#[]⟩),t,(iD t a).1,!(iD t a).2):=by
 have h0:0≤a:=by omega
 rw[nE t b a 73 h0]
 by_cases c1:a < (t.size:Int)∧bt t a=73
 · have e:iD t a=(a+1,true):=by unfold iD;rw[if_pos c1]
   rw[if_pos c1,e]
   simp only[Option.bind_some]
   rw[if_pos trivial,if_neg (by simp),if_pos hs,if_pos (by omega),if_pos (by omega)]
   rfl
 · rw[if_neg c1]
   simp only[Option.bind_some]
   rw[if_neg (by simp),nE t b a 76 h0]
   by_cases c2:a < (t.size:Int)∧bt t a=76
   · have e:iD t a=nameAt t (a+1):=by unfold iD;rw[if_neg c1,if_pos c2]
     rw[if_pos c2,e]
     simp only[Option.bind_some]
     have i:=oV t (a+1) 20 (a+1) (by omega)
     rw[if_pos trivial,bV.f,wI t b (a+1) (by omega) 20 k (a+1) (by omega) (by omega) (by omega) (by omega)]
     unfold nameAt
     by_cases c3:iT 20 t (a+1) (a+1) < (t.size:Int)∧bt t (iT 20 t (a+1) (a+1))=59∧iT 20 t (a+1) (a+1)≠a+1
     · rw[if_pos c3,if_pos c3]
       simp only[Option.bind_some]
       rw[if_neg (by simp),if_pos hs,if_pos (by omega),if_pos (by omega)]
       rfl
     · rw[if_neg c3,if_neg c3]
       rfl
   · have e:iD t a=(a,false):=by unfold iD;rw[if_neg c1,if_neg c2]
     rw[if_neg c2,e]
     rfl
theorem nC (t:ByteArray) (b:t.size≤140737488351232) (k:Nat) (d:21 < k) (a:Int) (h0:0≤a) (h1:a≤(t.size:Int)):
 cX.f k t a false=some ((if (iU t a).2=true then t.extract a.toNat (iU t a).1.toNat else ⟨#[]⟩),t,(iU t a).1,!(iU t a).2):=by
 unfold cX.f
 rw[nE t b a 91 h0]
 unfold iU
 by_cases c:a < (t.size:Int)∧bt t a=91
 · rw[if_pos c,if_pos c]
   exact qH t b k d a (a+1) h0 (by omega) (by omega)
 · rw[if_neg c,if_neg c]
   exact qH t b k d a a h0 (by omega) (by omega)
theorem yN (s t:ByteArray) (h:s.size=t.size) (c:∀ i:Nat,i < s.size→bt s i=bt t i):s=t:=by
 apply ByteArray.ext
 apply Array.ext
 · exact h
 · intro i h1 h2
   have e:=c i h1
   have a:=bt_at s i (by simpa using h1)
   have b:=bt_at t i (by simpa using h2)
   rw[← a,← b] at e
   exact UInt8.toNat_inj.mp (by exact_mod_cast e)
theorem rJ (s:ByteArray) (c:UInt8):s.toList=[c]↔s.size=1∧bt s 0=(c.toNat:Int):=by
 constructor
 · intro h
   have e:s=⟨#[c]⟩:=WideShapes.bytes_inj (by rw[← Lib.toList_data];exact h)
   subst e
   exact⟨rfl,rfl⟩
 · intro h
   have e:s=⟨#[c]⟩:=by
    refine yN _ _ h.1 (fun i a=>?_)
    obtain rfl:i=0:=by omega
    exact h.2
   subst e
   rw[Lib.toList_data]
theorem qL (s:ByteArray) (a:Int) (h:iD s a=((s.size:Int),true)):
 (a+1=(s.size:Int)∧bt s a=73)∨(a+3≤(s.size:Int)∧bt s a=76):=by
 unfold iD at h
 split at h
 · rename_i c
   have:=(Prod.mk.inj h).1
   exact .inl ⟨this,c.2⟩
 · split at h
   · rename_i c
     have b:=oV s (a+1) 20 (a+1) (by omega)
     unfold nameAt at h
     split at h
     · rename_i c2
       have:=(Prod.mk.inj h).1
       exact .inr ⟨by omega,c.2⟩
     · exact absurd (Prod.mk.inj h).2 (by simp)
   · exact absurd (Prod.mk.inj h).2 (by simp)
theorem sL (s:ByteArray) (h:iU s 0=((s.size:Int),true)):
 (s.size=1∧bt s 0=73)∨(3≤s.size∧bt s 0=76)∨(s.size=2∧bt s 0=91∧bt s 1=73)∨(4≤s.size∧bt s 0=91∧bt s 1=76):=by
 unfold iU at h
 split at h
 · rename_i c
   rcases qL s _ h with h|h
   · exact .inr (.inr (.inl ⟨by omega,c.2,h.2⟩))
   · exact .inr (.inr (.inr ⟨by omega,c.2,h.2⟩))
 · rcases qL s _ h with h|h
   · exact .inl ⟨by omega,h.2⟩
   · exact .inr (.inl ⟨by omega,h.2⟩)
def jN (s:ByteArray):Bool:=(iU s 0).2 && (iU s 0).1 == (s.size:Int)
theorem qN (s:ByteArray) (h:jN s=true):iU s 0=((s.size:Int),true):=by
 unfold jN at h
 rw[Bool.and_eq_true,beq_iff_eq] at h
 exact Prod.ext h.2 h.1
theorem tN (s:ByteArray) (b:s.size≤20000) (k:Nat) (a:24 < k):dG.f k s=some (jN s):=by
 unfold dG.f jN
 rw[if_neg (by omega),oG s (by omega) k a 0 (by omega) (by omega)]
 simp only[Option.bind_some]
 cases (iU s 0).2 <;> simp
theorem pH (s:ByteArray) (a:s.size≤140737488351232) (k:Nat) (b:24 < k):dQ.f k s=some (jN s):=by
 unfold dQ.f jN
 rw[nC s a k (by omega) 0 (by omega) (by omega)]
 simp only[Option.bind_some,cC.f]
 cases (iU s 0).2 <;> simp
theorem uE (t:ByteArray) (f:Int):∀ (n:Nat) (i:Int),iT n t f i≤i+n
 | 0,i=>by unfold iT;omega
 | n + 1, i => by
  unfold iT
  split
  · have:=uE t f n (i+1)
    omega
  · omega
theorem wK (t:ByteArray) (a:Int):(iD t a).1≤a+22:=by
 have:=uE t (a+1) 20 (a+1)
 unfold iD nameAt
 repeat' split
 all_goals (dsimp only;omega)
theorem vK (s:ByteArray) (h:jN s=true):s.size≤23:=by
 have e:=qN s h
 unfold iU at e
 split at e
 · have:=wK s (0+1)
   rw[e] at this
   dsimp only at this
   omega
 · have:=wK s 0
   rw[e] at this
   dsimp only at this
   omega
theorem mZ (s:ByteArray) (k:Nat) (a:24 < k):dG.f k s=some (jN s):=by
 by_cases c:s.size≤20000
 · exact tN s c k a
 · have e:jN s=false:=by
    cases h:jN s with
    | false=>rfl
    | true=>have:=vK s h;omega
   rw[e]
   unfold dG.f
   rw[if_pos (by omega)]
theorem tP (s:ByteArray) (h:s.size=1∧bt s 0=73):jN s=true:=by
 have a:iD s 0=(1,true):=by unfold iD;rw[if_pos ⟨by omega,h.2⟩];rfl
 unfold jN iU
 rw[if_neg (by omega),a,h.1]
 rfl
theorem qW (s:ByteArray):cK.f 2 [s]=some (decide (s.size≤20000)):=by
 by_cases h:s.size≤20000
 · simp[cK.f,cK.l0,rdOf,wrap64,h]
   omega
 · simp[cK.f,cK.l0,rdOf,wrap64,h]
   omega
theorem pJ (s:ByteArray) (k:Nat) (a:2≤k):cK.f k [s]=some (decide (s.size≤20000)):=by
 obtain⟨d,rfl⟩:∃ d,k=2+d:=⟨k - 2,by omega⟩
 induction d with
 | zero=>exact qW s
 | succ d ih=>exact cK.mono [s] (2+d) _ (ih (by omega))
abbrev qE:=List ByteArray×ByteArray×Int×Int
def lI (a:Int):qE:=(([]:List ByteArray),(⟨#[]⟩:ByteArray),a,3)
def lZ (s:ByteArray) (a:Int) (ps:List ByteArray):qE:=
 if a < (s.size:Int)∧bt s a=86 then (if a+1 < (s.size:Int) then lI (a+1) else (ps,(⟨#[86]⟩:ByteArray),0,0))
 else if (iU s a).2=true then (if (iU s a).1 < (s.size:Int) then lI (iU s a).1 else (ps,s.extract a.toNat (iU s a).1.toNat,0,0)) else lI (iU s a).1
def jY:Nat→ByteArray→Int→List ByteArray→qE
 | 0,_,a,_=>lI a
 | n + 1, s, a, ps => if a < (s.size : Int) then
  (if bt s a=41 then lZ s (a+1) ps else if ps.length=8 then lI a else
   if (iU s a).2=true then jY n s (iU s a).1 (ps++[s.extract a.toNat (iU s a).1.toNat]) else lI (iU s a).1)
  else lI a
def descOf (s:ByteArray):qE:=if 0 < (s.size:Int)∧bt s 0=40 then jY 9 s 1 [] else lI 0
theorem oJ:∀ (n:Nat) (s:ByteArray) (a:Int) (ps:List ByteArray),ps.length≤8→(jY n s a ps).1.length≤8
 | 0,s,a,ps,h=>by simp[jY,lI]
 | n + 1, s, a, ps, h => by
  unfold jY
  split
  · split
    · unfold lZ
      repeat' split
      all_goals first|exact h|exact Nat.zero_le _
    · split
      · exact Nat.zero_le _
      · split
        · exact oJ n s _ _ (by simp;omega)
        · exact Nat.zero_le _
  · exact Nat.zero_le _
theorem uL (s:ByteArray):(descOf s).1.length≤8:=by
 unfold descOf
 split
 · exact oJ _ _ _ _ (by simp)
 · exact Nat.zero_le _
theorem mY (s:ByteArray) (d:s.size≤140737488351232) (k:Nat) (j:25 < k) (a:Int) (h0:0≤a) (h1:a≤(s.size:Int)) (ps:List ByteArray) (b:Bool) (e:b=decide (a < (s.size:Int)∧bt s a=86)):
 aU.j3 k s a b ps ⟨#[]⟩=some (lZ s a ps):=by
 obtain⟨k,rfl⟩:∃ m,k=m+1:=⟨k - 1,by omega⟩
 have i:=oZ s a h1
 simp only[aU.j3,dL.f,Option.bind_some]
 unfold lZ
 by_cases c:a < (s.size:Int)∧bt s a=86
 · rw[e,decide_eq_true c,if_pos c,if_pos rfl,kW h0 c.1 d]
   by_cases c2:a+1 < (s.size:Int)
   · rw[if_pos c2,if_pos c2];rfl
   · rw[if_neg c2,if_neg c2]
 · rw[e,decide_eq_false c,if_neg c,if_neg (by simp),oG s d k (by omega) a h0 h1]
   simp only[Option.bind_some]
   by_cases c2:(iU s a).2=true
   · rw[if_pos c2,if_pos c2,if_pos h0,if_pos i.1,if_pos i.2.1]
     by_cases c3:(iU s a).1 < (s.size:Int)
     · rw[if_pos c3,if_pos c3];rfl
     · rw[if_neg c3,if_neg c3]
   · rw[if_neg c2,if_neg c2];rfl
theorem mX (s:ByteArray) (b:s.size≤140737488351232):∀ (n k:Nat) (a:Int) (ps:List ByteArray),0≤a→a≤(s.size:Int)→ps.length+n=9→1≤n→30+2*n≤k→
 aU.l0 k s a ps ⟨#[]⟩=some (jY n s a ps)
 | 0,k,a,ps,h0,h1,hp,h2,hk=>by omega
 | n + 1, k, a, ps, h0, h1, hp, h2, hk => by
  obtain⟨k,rfl⟩:∃ m,k=m+2:=⟨k - 2,by omega⟩
  have d:=oZ s a h1
  unfold jY
  simp only[aU.l0]
  by_cases c:a < (s.size:Int)
  · rw[if_pos c,if_pos c,if_pos h0]
    simp only[aU.j2,dL.f,Option.bind_some]
    by_cases c2:bt s a=41
    · have e:(bt s a != 41)=false:=bne_eq_false_iff_eq.mpr c2
      rw[if_pos c2,e,if_neg (by simp),if_neg (by omega),kW h0 c b]
      by_cases c3:a+1 < (s.size:Int)
      · rw[if_pos c3,if_pos (by omega)]
        exact mY s b k (by omega) (a+1) (by omega) (by omega) ps _ (by
         by_cases c4:bt s (a+1)=86
         · rw[decide_eq_true ⟨c3,c4⟩];simpa using c4
         · rw[decide_eq_false (fun h=>c4 h.2)];simpa using c4)
      · rw[if_neg c3]
        exact mY s b k (by omega) (a+1) (by omega) (by omega) ps _ (by rw[decide_eq_false (fun h=>c3 h.1)])
    · have e:(bt s a != 41)=true:=bne_iff_ne.mpr c2
      rw[if_neg c2,e,if_pos rfl]
      by_cases c3:ps.length=8
      · rw[if_pos (by omega),if_pos c3];rfl
      · rw[if_neg (by omega),if_neg c3,oG s b k (by omega) a h0 h1]
        simp only[Option.bind_some]
        by_cases c4:(iU s a).2=true
        · rw[if_pos c4,if_pos c4,if_pos h0,if_pos d.1,if_pos d.2.1,if_pos (by omega)]
          exact mX s b n k _ _ (by omega) d.2.1 (by simp;omega) (by omega) (by omega)
        · rw[if_neg c4,if_neg c4];rfl
  · rw[if_neg c,if_neg c]
    simp only[aU.j2,dL.f,Option.bind_some]
    rw[if_neg (by simp),if_pos (by omega)];rfl
theorem kP (s:ByteArray) (k:Nat) (b:0 < k) (a:Int) (ps:List ByteArray):aK.j2 k s s a true ps ⟨#[]⟩=some (lI a):=by
 obtain⟨k,rfl⟩:∃ m,k=m+1:=⟨k - 1,by omega⟩
 simp only[aK.j2,wV,Option.bind_some]
 rfl
theorem pG (s:ByteArray) (b:s.size≤140737488351232) (k:Nat) (e:25 < k) (a:Int) (h0:0≤a) (h1:a≤(s.size:Int)) (ps:List ByteArray):
 aK.j2 k s s a false ps ⟨#[]⟩=some (lZ s a ps):=by
 obtain⟨k,rfl⟩:∃ m,k=m+1:=⟨k - 1,by omega⟩
 have i:=oZ s a h1
 simp only[aK.j2,nE s b a 86 h0,Option.bind_some,cC.f]
 unfold lZ
 by_cases c:a < (s.size:Int)∧bt s a=86
 · rw[if_pos c,if_pos c]
   simp only[if_pos trivial]
   by_cases c2:a+1 < (s.size:Int)
   · rw[if_pos c2,if_pos c2,if_neg (by simp)];rfl
   · rw[if_neg c2,if_neg c2,if_neg (by simp)]
 · rw[if_neg c,if_neg c]
   rw[if_neg (by simp),if_neg (by simp)]
   dsimp only
   rw[nC s b k (by omega) a h0 h1]
   simp only[Option.bind_some]
   by_cases c2:(iU s a).2=true
   · rw[if_pos c2,c2]
     simp only[if_pos trivial]
     rw[if_neg (by simp)]
     by_cases c3:(iU s a).1 < (s.size:Int)
     · rw[if_pos c3,if_pos c3];rfl
     · rw[if_neg c3,if_neg c3]
   · have d:(iU s a).2=false:=by simpa using c2
     rw[if_neg c2,d]
     rfl
theorem mS (s:ByteArray) (b:s.size≤140737488351232):∀ (n k:Nat) (a:Int) (ps:List ByteArray),0≤a→a≤(s.size:Int)→ps.length+n=9→1≤n→30+2*n≤k→
 aK.l0 k s s a false ps ⟨#[]⟩=some (jY n s a ps)
 | 0,k,a,ps,h0,h1,hp,h2,hk=>by omega
 | n + 1, k, a, ps, h0, h1, hp, h2, hk => by
  obtain⟨k,rfl⟩:∃ m,k=m+2:=⟨k - 2,by omega⟩
  have p:=oZ s a h1
  have j:∀ (i:Int) (d:List ByteArray),aK.l0 k s s i true d ⟨#[]⟩=some (lI i):=fun i d=>by
   obtain⟨k,rfl⟩:∃ m,k=m+2:=⟨k - 2,by omega⟩
   simp only[aK.l0]
   rw[if_pos trivial]
   simp only[aK.j1]
   rw[if_neg (by simp)]
   exact kP s k (by omega) i d
  unfold jY
  simp only[aK.l0]
  rw[if_neg (by simp),nE s b a 41 h0]
  simp only[Option.bind_some]
  by_cases c:a < (s.size:Int)
  · rw[if_pos c]
    by_cases c2:bt s a=41
    · rw[if_pos ⟨c,c2⟩,if_pos c2]
      simp only[aK.j1]
      rw[if_neg (by simp)]
      exact pG s b k (by omega) (a+1) (by omega) (by omega) ps
    · rw[if_neg (fun h=>c2 h.2),if_neg c2]
      simp only[aK.j1]
      rw[if_pos (by simp)]
      by_cases c3:ps.length=8
      · rw[if_pos (by omega),if_pos c3]
        exact kP s k (by omega) a ps
      · rw[if_neg (by omega),if_neg c3,nC s b k (by omega) a h0 h1]
        simp only[Option.bind_some]
        rw[if_pos (by omega)]
        by_cases c4:(iU s a).2=true
        · rw[if_pos c4,if_pos c4,c4]
          exact mS s b n k _ _ (by omega) p.2.1 (by simp;omega) (by omega) (by omega)
        · have o:(iU s a).2=false:=by simpa using c4
          rw[if_neg c4,if_neg c4,o]
          exact j _ _
  · rw[if_neg c,if_neg (fun h=>c h.1)]
    simp only[aK.j1]
    rw[if_pos (by simp)]
    by_cases c3:ps.length=8
    · rw[if_pos (by omega)]
      exact kP s k (by omega) a ps
    · rw[if_neg (by omega),nC s b k (by omega) a h0 h1]
      simp only[Option.bind_some]
      rw[if_pos (by omega)]
      have e:iU s a=(a,false):=by
       unfold iU iD
       rw[if_neg (fun h=>c h.1),if_neg (fun h=>c h.1),if_neg (fun h=>c h.1)]
      rw[e]
      exact j _ _
theorem vI (s:ByteArray) (a:s.size≤20000) (k:Nat) (b:60≤k):aU.f k s=some (descOf s):=by
 obtain⟨k,rfl⟩:∃ m,k=m+1:=⟨k - 1,by omega⟩
 unfold aU.f descOf
 rw[if_neg (by omega)]
 by_cases c:(s.size:Int)=0
 · rw[if_pos c,if_neg (by omega)]
   simp only[aU.j0,dL.f,Option.bind_some]
   rw[if_pos trivial];rfl
 · rw[if_neg c,if_pos (by omega)]
   simp only[aU.j0,dL.f,Option.bind_some]
   by_cases c2:bt s 0=40
   · rw[bne_eq_false_iff_eq.mpr c2,if_neg (by simp),if_pos ⟨by omega,c2⟩]
     exact mX s (by omega) 9 k 1 [] (by omega) (by omega) (by simp) (by omega) (by omega)
   · rw[bne_iff_ne.mpr c2,if_pos rfl,if_neg (fun h=>c2 h.2)];rfl
theorem nX (s:ByteArray) (a:s.size≤140737488351232) (k:Nat) (b:60≤k):aK.f k s=some (descOf s):=by
 unfold aK.f descOf
 rw[nS s a 0 40 (by omega)]
 simp only[Option.bind_some]
 by_cases c:(0:Int) < (s.size:Int)∧bt s 0=40
 · rw[if_pos c,if_pos c]
   exact mS s a 9 k 1 [] (by omega) (by omega) (by simp) (by omega) (by omega)
 · rw[if_neg c,if_neg c]
   obtain⟨k,rfl⟩:∃ m,k=m+2:=⟨k - 2,by omega⟩
   simp only[aK.l0]
   rw[if_pos trivial]
   simp only[aK.j1]
   rw[if_neg (by simp)]
   exact kP s k (by omega) 0 []
def fN (s:ByteArray):qE:=if s.size≤20000 then descOf s else (([]:List ByteArray),(⟨#[]⟩:ByteArray),0,2)
theorem pC (s:ByteArray):(fN s).1.length≤8:=by
 unfold fN
 split
 · exact uL s
 · exact Nat.zero_le _
theorem qM (s:ByteArray) (k:Nat) (a:60≤k):aU.f k s=some (fN s):=by
 unfold fN
 by_cases c:s.size≤20000
 · rw[if_pos c];exact vI s c k a
 · rw[if_neg c]
   unfold aU.f
   rw[if_pos (by omega)]
def rS (c n d:ByteArray):Bool:=decide (c.toList=[]) && (decide (n.toList=[]) && decide (d.toList=[]))
theorem wC (k:Nat) (o a:Int) (c n d:ByteArray):cF.f k o a c n d=cF.j0 k (rS c n d) o a c n d:=by
 unfold cF.f rS
 by_cases h1:c.toList=[]
 · rw[if_pos h1,decide_eq_true h1]
   by_cases h2:n.toList=[]
   · rw[if_pos h2,decide_eq_true h2]
     have e:(d.toList == ([]:List UInt8))=decide (d.toList=[]):=by
      rw[Bool.eq_iff_iff,beq_iff_eq,decide_eq_true_eq]
     rw[e];rfl
   · rw[if_neg h2,decide_eq_false h2];rfl
 · rw[if_neg h1,decide_eq_false h1];rfl
theorem vH (o a:Int) (c n d:ByteArray):fE.f o a c n d=some (rS c n d):=by
 unfold fE.f rS
 by_cases h1:c.toList=[]
 · rw[if_pos h1,decide_eq_true h1]
   by_cases h2:n.toList=[]
   · rw[if_pos h2,decide_eq_true h2]
     have e:(d.toList == ([]:List UInt8))=decide (d.toList=[]):=by
      rw[Bool.eq_iff_iff,beq_iff_eq,decide_eq_true_eq]
     rw[e];rfl
   · rw[if_neg h2,decide_eq_false h2];rfl
 · rw[if_neg h1,decide_eq_false h1];rfl
theorem uB (s:ByteArray) (k:Nat) (a:60≤k):eS.f k s=some ((fN s).2.2.2 == 0):=by
 unfold eS.f fN
 rw[pJ s k (by omega)]
 by_cases c:s.size≤20000
 · rw[decide_eq_true c,if_pos c]
   simp only[Option.bind_some]
   rw[if_pos trivial,nX s (by omega) k a]
   rfl
 · rw[decide_eq_false c,if_neg c]
   rfl
theorem sC (o a:Int) (c n d:ByteArray) (G:c.size≤1048576) (I:n.size≤1048576) (hd:d.size≤1048576):
 ∃ r,(∀ k,1048600≤k→dW.f k o a c n d=some r)∧(∀ k,1048600≤k→cF.f k o a c n d=some r):=by
 obtain⟨F,v,w⟩:=lD o
 obtain⟨t,y,z⟩:=mJ c (by omega)
 obtain⟨u,A,i2⟩:=mJ n (by omega)
 have x:∀ k,1048599≤k→∃ r,dW.f (k+1) o a c n d=some r∧cF.f (k+1) o a c n d=some r:=by
  intro k b
  rw[wC]
  unfold dW.f
  simp only[cF.j0,v,w (k+1) (by omega),Option.bind_some,vH,y (k+1) (by omega),A (k+1) (by omega),z k (by omega),i2 k (by omega),mZ d (k+1) (by omega),pH d (by omega) k (by omega),qM d (k+1) (by omega),uB d k (by omega),kH.f,cE.f,fU.f,dC.f]
  generalize rS c n d=B
  by_cases i:F.toList=[]
  · rw[if_pos i,if_pos i]
    cases B <;> by_cases ha:a=0 <;> simp[ha]
  rw[if_neg i,if_neg i]
  by_cases f1:F.toList=[110]
  · rw[if_pos f1,if_pos f1]
    cases B <;> by_cases h1:a ≥ -2147483648 <;> by_cases h2:a≤2147483647 <;> simp[h1,h2]
  rw[if_neg f1,if_neg f1]
  by_cases f2:F.toList=[105]
  · rw[if_pos f2,if_pos f2]
    cases B <;> by_cases h1:a ≥ 0 <;> by_cases h2:a < 16 <;> simp[h1,h2] <;> omega
  rw[if_neg f2,if_neg f2]
  by_cases j:F.toList=[116]
  · rw[if_pos j,if_pos j]
    cases B <;> by_cases h1:a ≥ 0 <;> by_cases h2:a < 60 <;> simp[h1,h2] <;> omega
  rw[if_neg j,if_neg j]
  by_cases m:F.toList=[99]
  · rw[if_pos m,if_pos m]
    by_cases ha:a=0 <;> by_cases h2:n.toList=[] <;> cases t <;> simp[ha,h2]
  rw[if_neg m,if_neg m]
  by_cases p:F.toList=[121]
  · rw[if_pos p,if_pos p]
    by_cases ha:a=0
    · rw[if_pos ha,if_pos ha]
      by_cases h1:c.toList=[]
      · rw[if_pos h1,if_pos h1]
        by_cases h2:n.toList=[]
        · rw[if_pos h2,if_pos h2]
          by_cases ht:jN d=true
          · have hs:=sL d (qN d ht)
            rw[ht,if_pos rfl,if_pos (by omega)]
            by_cases h3:d.toList=[73]
            · rw[if_pos h3]
              have:=(rJ d 73).mp h3
              have e:bt d 0=73:=this.2
              exact⟨_,rfl,by rw[e];rfl⟩
            · rw[if_neg h3,if_pos rfl,if_pos (by omega)]
              refine⟨_,rfl,congrArg some ?_⟩
              have h4:¬ (d.size=1∧bt d 0=73):=fun h=>h3 ((rJ d 73).mpr h)
              by_cases h5:bt d 0=76
              · rw[h5];rfl
              · have h6:bt d 0=91:=by omega
                rw[h6];rfl
          · have h3:¬ d.toList=[73]:=fun h=>ht (tP d ((rJ d 73).mp h))
            rw[if_neg ht,if_neg h3,if_neg ht]
            exact⟨_,rfl,rfl⟩
        · rw[if_neg h2,if_neg h2]
          exact⟨_,rfl,rfl⟩
      · rw[if_neg h1,if_neg h1]
        exact⟨_,rfl,rfl⟩
    · rw[if_neg ha,if_neg ha]
      exact⟨_,rfl,rfl⟩
  rw[if_neg p,if_neg p]
  by_cases q:F.toList=[102]
  · rw[if_pos q,if_pos q]
    by_cases ha:a=0 <;> cases t <;> cases u <;> simp[ha]
  rw[if_neg q,if_neg q]
  by_cases s:F.toList=[109]
  · rw[if_pos s,if_pos s]
    by_cases ha:a=0
    · rw[if_pos ha,if_pos ha]
      cases t
      · simp
      · cases u
        · by_cases h3:n.toList=[60,105,110,105,116,62] <;> simp[h3]
        · simp
    · rw[if_neg ha,if_neg ha]
      exact⟨_,rfl,rfl⟩
  rw[if_neg s,if_neg s]
  exact⟨_,rfl,rfl⟩
 obtain⟨r,D,E⟩:=x 1048599 (Nat.le_refl _)
 refine⟨r,fun k b=>?_,fun k b=>?_⟩
 · exact at_rounds (g:=fun k=>dW.f k o a c n d) (fun k=>dW.mono _ _ _ _ _ _) b D
 · exact at_rounds (g:=fun k=>cF.f k o a c n d) (fun k=>cF.mono _ _ _ _ _ _) b E
theorem uR (s:ByteArray) (k:Nat) (a:60≤k):iL.f k s=some (fN s):=by
 unfold iL.f fN
 rw[pJ s k (by omega)]
 by_cases c:s.size≤20000
 · rw[decide_eq_true c,if_pos c]
   simp only[Option.bind_some]
   rw[if_pos trivial,nX s (by omega) k a]
   rfl
 · rw[decide_eq_false c,if_neg c]
   rfl
theorem uG {α:Type} (d:α) (l:List α) (i:Int) (h:i.toNat < l.length):rdOf d l i=l[i.toNat]:=by
 simp[rdOf,List.getD_eq_getElem?_getD,List.getElem?_eq_getElem h]
def aE (g:Nat→Option Bool) (P:Prop):Prop:=∃ r,Ev g r∧(r=true↔P)
theorem aE.iff {g:Nat→Option Bool} {P Q:Prop} (h:aE g P) (e:P↔Q):aE g Q:=by
 obtain⟨r,h1,h2⟩:=h
 exact⟨r,h1,h2.trans e⟩
theorem aE.congr {g f:Nat→Option Bool} {P:Prop} (e:∀ k,g k=f k) (h:aE f P):aE g P:=by
 obtain⟨r,h1,h2⟩:=h
 exact⟨r,Ev.congr e h1,h2⟩
theorem aE.step {g f:Nat→Option Bool} {P:Prop} (e:∀ k,g (k+1)=f k) (h:aE f P):aE g P:=by
 obtain⟨r,h1,h2⟩:=h
 exact⟨r,Ev.step e h1,h2⟩
theorem aE.yes:aE (fun _=>some true) True:=⟨true,Ev.now _,by simp⟩
theorem aE.no:aE (fun _=>some false) False:=⟨false,Ev.now _,by simp⟩
theorem aE.val (b:Bool):aE (fun _=>some b) (b=true):=⟨b,Ev.now _,Iff.rfl⟩
theorem aE.ite {c:Prop} [Decidable c] {g:Nat→Option Bool} {P:Prop} (h:aE g P):aE (fun k=>if c then g k else some false) (c∧P):=by
 by_cases hc:c
 · exact aE.iff (aE.congr (fun k=>if_pos hc) h) (by simp[hc])
 · exact aE.iff (aE.congr (f:=fun _=>some false) (fun k=>if_neg hc) aE.no) (by simp[hc])
theorem aE.iten {c:Prop} [Decidable c] {g:Nat→Option Bool} {P:Prop} (h:aE g P):aE (fun k=>if c then some false else g k) (¬ c∧P):=by
 by_cases hc:c
 · exact aE.iff (aE.congr (f:=fun _=>some false) (fun k=>if_pos hc) aE.no) (by simp[hc])
 · exact aE.iff (aE.congr (fun k=>if_neg hc) h) (by simp[hc])
theorem aE.bind {g h:Nat→Option Bool} {P Q:Prop} (a:aE h Q) (b:aE g P):aE (fun k=>(h k).bind fun t=>if t=true then g k else some false) (Q∧P):=by
 obtain⟨r,h1,h2⟩:=a
 obtain⟨s,c,d⟩:=b
 cases r with
 | true=>exact⟨s,Ev.bind (f:=fun k t=>if t=true then g k else some false) h1 (Ev.congr (fun k=>if_pos rfl) c),by rw[d,← h2];simp⟩
 | false=>exact⟨false,Ev.bind (f:=fun k t=>if t=true then g k else some false) h1 (Ev.congr (f:=fun _=>some false) (fun k=>if_neg (by simp)) (Ev.now _)),by rw[← h2];simp⟩
theorem aE.last {h:Nat→Option Bool} {Q:Prop} (a:aE h Q):aE (fun k=>(h k).bind fun t=>some t) Q:=by
 obtain⟨r,h1,h2⟩:=a
 exact⟨r,Ev.bind (f:=fun _ t=>some t) h1 (Ev.now _),h2⟩
theorem aE.same {g h:Nat→Option Bool} {P:Prop} (a:aE g P) (b:aE h P):∃ r,Ev g r∧Ev h r:=by
 obtain⟨r,h1,h2⟩:=a
 obtain⟨s,c,d⟩:=b
 have e:r=s:=Bool.eq_iff_iff.mpr (h2.trans d.symm)
 subst e
 exact⟨r,h1,c⟩
theorem aE.true_ {g:Nat→Option Bool} {P:Prop} (h:aE g P) (p:P):Ev g true:=by
 obtain⟨r,h1,h2⟩:=h
 rw[h2.mpr p] at h1;exact h1
theorem toList_eq (a b:ByteArray):a.toList=b.toList↔a=b:=⟨fun h=>WideShapes.bytes_inj (by rw[← Lib.toList_data,← Lib.toList_data];exact h),fun h=>by rw[h]⟩
theorem pY {α:Type} {a b:List α} {i:Nat} (c:i < a.length) (d:i < b.length):a.drop i=b.drop i↔a[i]=b[i]∧a.drop (i+1)=b.drop (i+1):=by
 rw[List.drop_eq_getElem_cons c,List.drop_eq_getElem_cons d]
 constructor
 · intro h;exact List.cons.inj h
 · intro h;rw[h.1,h.2]
theorem getD_at {α:Type} {a:List α} {z:α} {i:Nat} (h:i < a.length):a.getD (i:Int).toNat z=a[i]:=by
 simp[List.getD_eq_getElem?_getD,List.getElem?_eq_getElem h]
theorem mN {i n:Nat} (h:i < n) (a:n≤4611686018427387904):wrap64 ((i:Int)+1)=((i+1:Nat):Int):=by unfold wrap64;omega
theorem oS {α:Type} {z:α} {L:Nat→List α→List α→Int→Option Bool} {E:Nat→α→α→Option Bool}
 (j:∀ k a b i,L (k+1) a b i=if i < (a.length:Int) then (if 0≤i then (if i < (b.length:Int) then ((E k (a.getD i.toNat z) (b.getD i.toNat z)).bind fun t=>(if t=true then (L k a b (wrap64 (i+1))) else (some false))) else none) else none) else some true)
 (a b:List α) (n:∀ x∈a,∀ y∈b,aE (fun k=>E k x y) (x=y)) (p:a.length=b.length) (o:a.length≤4611686018427387904):aE (fun k=>L k a b 0) (a=b):=by
 have m:∀ (d i:Nat),i+d=a.length→aE (fun k=>L k a b (i:Int)) (a.drop i=b.drop i):=by
  intro d
  induction d with
  | zero =>
   intro i hd
   refine aE.iff (P:=True) (aE.step (f:=fun _=>some true) (fun k=>by rw[j,if_neg (by omega)]) aE.yes) ?_
   rw[List.drop_eq_nil_of_le (by omega),List.drop_eq_nil_of_le (by omega)];simp
  | succ d ih =>
   intro i hd
   have c:i < a.length:=by omega
   have e:i < b.length:=by omega
   rw[pY c e]
   refine aE.step (f:=fun k=>(E k a[i] b[i]).bind fun t=>(if t=true then (L k a b ((i+1:Nat):Int)) else (some false))) (fun k=>?_) (aE.bind (n _ (List.getElem_mem c) _ (List.getElem_mem e)) (ih (i+1) (by omega)))
   rw[j,if_pos (by omega),if_pos (by omega),if_pos (by omega),getD_at c,getD_at e,mN c o]
 exact m a.length 0 (by omega)
theorem zC {m:Int} {n:Nat} (h0:0≤m) (h1:m≤1048576) (a:n≤9223372036854775807):wrap64 (m - (n:Int))=m - (n:Int):=by unfold wrap64;omega
def pW (g:Nat→Option Int) (m:Int) (B:Prop):Prop:=∃ v,Ev g v∧(v < 0∨(0≤v∧v≤m∧B))
theorem pW.size {m:Int} {n:Nat} {g:Int→Nat→Option Int} {B:Prop} (h0:0≤m) (h1:m≤1048576) (a:n≤9223372036854775807) (h:∀ v,0≤v→v≤m→v=m - (n:Int)→pW (g v) v B):
 pW (fun k=>if wrap64 (m - (n:Int)) < 0 then some (-1) else g (wrap64 (m - (n:Int))) k) m ((n:Int)≤1048576∧B):=by
 rw[zC h0 h1 a]
 by_cases c:m - (n:Int) < 0
 · exact⟨-1,Ev.congr (f:=fun _=>some (-1)) (fun k=>by rw[if_pos c]) (Ev.now _),.inl (by omega)⟩
 · obtain⟨v,h2,h3⟩:=h (m - (n:Int)) (by omega) (by omega) rfl
   refine⟨v,Ev.congr (fun k=>by rw[if_neg c]) h2,?_⟩
   rcases h3 with h3|⟨h3,h4,h5⟩
   · exact .inl h3
   · exact .inr ⟨h3,by omega,by omega,h5⟩
theorem pW.bind {m:Int} {f:Nat→Option Int} {g:Nat→Int→Option Int} {A B:Prop} (a:pW f m A) (h:∀ v,0≤v→v≤m→pW (fun k=>g k v) v B):
 pW (fun k=>(f k).bind fun t=>if t < 0 then some (-1) else g k t) m (A∧B):=by
 obtain⟨v,hv,hb⟩:=a
 rcases hb with hb|⟨b,c,d⟩
 · exact⟨-1,Ev.bind (f:=fun k t=>if t < 0 then (some (-1)) else g k t) hv (Ev.congr (f:=fun _=>some (-1)) (fun k=>by rw[if_pos hb]) (Ev.now _)),.inl (by omega)⟩
 · obtain⟨u,hu,hc⟩:=h v b c
   refine⟨u,Ev.bind (f:=fun k t=>if t < 0 then (some (-1)) else g k t) hv (Ev.congr (fun k=>by rw[if_neg (by omega)]) hu),?_⟩
   rcases hc with hc|⟨e,j,i⟩
   · exact .inl hc
   · exact .inr ⟨e,by omega,d,i⟩
theorem pW.mono {m:Int} {f g:Nat→Option Int} {A B:Prop} (h:pW f m A) (e:∀ k,g k=f k) (i:A→B):pW g m B:=by
 obtain⟨v,h1,h2⟩:=h
 refine⟨v,Ev.congr e h1,?_⟩
 rcases h2 with h2|⟨h2,h3,h4⟩
 · exact .inl h2
 · exact .inr ⟨h2,h3,i h4⟩
theorem aE.ite2 {c:Prop} [Decidable c] {g h:Nat→Option Bool} {P Q:Prop} (a:aE g P) (b:aE h Q):aE (fun k=>if c then g k else h k) ((c∧P)∨(¬ c∧Q)):=by
 by_cases hc:c
 · exact aE.iff (aE.congr (fun k=>if_pos hc) a) (by simp[hc])
 · exact aE.iff (aE.congr (fun k=>if_neg hc) b) (by simp[hc])
theorem aE.iteP {c:Prop} [Decidable c] {g h:Nat→Option Bool} {P:Prop} (a:c) (b:aE g P):aE (fun k=>if c then g k else h k) P:=aE.congr (fun k=>if_pos a) b
theorem aE.iteN {c:Prop} [Decidable c] {g h:Nat→Option Bool} {P:Prop} (a:¬ c) (b:aE h P):aE (fun k=>if c then g k else h k) P:=aE.congr (fun k=>if_neg a) b
theorem aE.bind2 {g f h:Nat→Option Bool} {P Q R:Prop} (a:aE h Q) (b:aE g P) (c:aE f R):aE (fun k=>(h k).bind fun t=>if t=true then g k else f k) ((Q∧P)∨(¬ Q∧R)):=by
 obtain⟨r,h1,h2⟩:=a
 obtain⟨s,d,e⟩:=b
 obtain⟨u,f1,f2⟩:=c
 cases r with
 | true=>exact⟨s,Ev.bind (f:=fun k t=>if t=true then g k else f k) h1 (Ev.congr (fun k=>if_pos rfl) d),by rw[e,← h2];simp⟩
 | false=>exact⟨u,Ev.bind (f:=fun k t=>if t=true then g k else f k) h1 (Ev.congr (fun k=>if_neg (by simp)) f1),by rw[f2,← h2];simp⟩
theorem Ev.one {α:Type} {g:Nat→Option α} {a b:α} (h1:Ev g a) (h2:Ev g b):a=b:=by
 obtain⟨c,h1⟩:=h1
 obtain⟨d,h2⟩:=h2
 have i:=h1 (max c d) (by omega)
 have e:=h2 (max c d) (by omega)
 rw[i] at e
 exact Option.some.inj e
theorem aE.self {g:Nat→Option Bool} {r:Bool} (h:Ev g r):aE g (Ev g true):=
 ⟨r,h,⟨fun e=>by rw[e] at h;exact h,fun h2=>Ev.one h h2⟩⟩
theorem aE.other {g f:Nat→Option Bool} {r:Bool} (h:Ev g r) (a:Ev f r):aE f (Ev g true):=
 ⟨r,a,⟨fun e=>by rw[e] at h;exact h,fun h2=>Ev.one h h2⟩⟩
theorem aE.through {β:Type} {h:Nat→Option β} {v:β} {g:Nat→β→Option Bool} {P:Prop} (a:Ev h v) (b:aE (fun k=>g k v) P):aE (fun k=>(h k).bind fun t=>g k t) P:=by
 obtain⟨r,c,d⟩:=b
 exact⟨r,Ev.bind (f:=g) a c,d⟩
theorem pA {α:Type} {z:α} {L:Nat→Int→Option Bool} {R:Nat→Option Bool} {G:Nat→Int→α→Option Bool} {C:α→Prop} {P:Prop} (a:List α)
 (c:∀ k i,L (k+1) i=if i < (a.length:Int) then (if 0≤i then G k i (a.getD i.toNat z) else none) else R k)
 (j:∀ (i:Int) (x:α),x∈a→∀ Q:Prop,aE (fun k=>L k (wrap64 (i+1))) Q→aE (fun k=>G k i x) (C x∧Q)) (m:aE R P) (n:a.length≤4611686018427387904):aE (fun k=>L k 0) ((∀ x∈a,C x)∧P):=by
 have e:∀ (d i:Nat),i+d=a.length→aE (fun k=>L k (i:Int)) ((∀ x∈a.drop i,C x)∧P):=by
  intro d
  induction d with
  | zero =>
   intro i hd
   refine aE.iff (P:=P) (aE.step (f:=R) (fun k=>by rw[c,if_neg (by omega)]) m) ?_
   rw[List.drop_eq_nil_of_le (by omega)];simp
  | succ d ih =>
   intro i hd
   have b:i < a.length:=by omega
   have h2:=ih (i+1) (by omega)
   rw[← mN b n] at h2
   refine aE.iff (aE.step (f:=fun k=>G k (i:Int) a[i]) (fun k=>?_) (j i _ (List.getElem_mem b) _ h2)) (by rw[List.drop_eq_getElem_cons b,List.forall_mem_cons,and_assoc])
   rw[c,if_pos (by omega),if_pos (by omega),getD_at b]
 exact e a.length 0 (by omega)
theorem pF {α:Type} {z:α} {L:Nat→Int→Option Int} {E:Nat→α→Option Bool} {B:α→Prop} (a:List α)
 (q:∀ k i,L (k+1) i=if i < (a.length:Int) then (if 0≤i then (if i < (a.length:Int) then ((E k (a.getD i.toNat z)).bind fun t=>(if t=true then (some i) else (L k (wrap64 (i+1))))) else none) else none) else some (-1))
 (v:∀ x∈a,aE (fun k=>E k x) (B x)) (w:a.length≤4611686018427387904):
 ∃ r:Int,Ev (fun k=>L k 0) r∧((r=-1∧∀ x∈a,¬ B x)∨∃ n:Nat,r=n∧∃ h:n < a.length,B a[n]∧∀ j,(m:j < n)→¬ B (a[j]'(by omega))):=by
 have u:∀ (d i:Nat),i+d=a.length→∃ r:Int,Ev (fun k=>L k (i:Int)) r∧((r=-1∧∀ j,i≤j→(m:j < a.length)→¬ B a[j])∨∃ n:Nat,r=n∧i≤n∧∃ h:n < a.length,B a[n]∧∀ j,i≤j→(m:j < n)→¬ B (a[j]'(by omega))):=by
  intro d
  induction d with
  | zero =>
   intro i hd
   exact⟨-1,Ev.step (f:=fun _=>some (-1)) (fun k=>by rw[q,if_neg (by omega)]) (Ev.now _),.inl ⟨rfl,fun j h1 h2=>by omega⟩⟩
  | succ d ih =>
   intro i hd
   have o:i < a.length:=by omega
   obtain⟨b,hb,hB⟩:=v _ (List.getElem_mem o)
   have s:∀ k,L (k+1) (i:Int)=(E k a[i]).bind fun t=>(if t=true then (some (i:Int)) else (L k ((i+1:Nat):Int))):=fun k=>by
    rw[q,if_pos (by omega),if_pos (by omega),if_pos (by omega),getD_at o,mN o w]
   cases b with
   | true=>exact⟨i,Ev.step s (Ev.bind (f:=fun k t=>if t=true then (some (i:Int)) else (L k ((i+1:Nat):Int))) hb (Ev.congr (f:=fun _=>some (i:Int)) (fun k=>if_pos rfl) (Ev.now _))),.inr ⟨i,rfl,Nat.le_refl _,o,hB.mp rfl,fun j h1 h2=>by omega⟩⟩
   | false =>
    have p:¬ B a[i]:=fun h=>by have:=hB.mpr h;cases this
    obtain⟨r,hr,c⟩:=ih (i+1) (by omega)
    refine⟨r,Ev.step s (Ev.bind (f:=fun k t=>if t=true then (some (i:Int)) else (L k ((i+1:Nat):Int))) hb (Ev.congr (fun k=>if_neg (by simp)) hr)),?_⟩
    rcases c with ⟨e,c⟩|⟨n,e,h1,h2,h3,h4⟩
    · refine .inl ⟨e,fun j h1 h2=>?_⟩
      by_cases ej:j=i
      · subst ej;exact p
      · exact c j (by omega) h2
    · refine .inr ⟨n,e,by omega,h2,h3,fun j h5 h6=>?_⟩
      by_cases ej:j=i
      · subst ej;exact p
      · exact h4 j (by omega) h6
 obtain⟨r,hr,c⟩:=u a.length 0 (by omega)
 refine⟨r,hr,?_⟩
 rcases c with ⟨e,c⟩|⟨n,e,h1,h2,h3,h4⟩
 · refine .inl ⟨e,fun x y=>?_⟩
   obtain⟨j,m,rfl⟩:=List.mem_iff_getElem.mp y
   exact c j (by omega) m
 · exact .inr ⟨n,e,h2,h3,fun j m=>h4 j (by omega) m⟩
def lW (s:ByteArray):Prop:=Ev (fun k=>aD.f k s) true
theorem kJ (s:ByteArray) (h:s.size≤1048576):aE (fun k=>aD.f k s) (lW s):=by
 obtain⟨b,a,c⟩:=mJ s (by omega)
 exact aE.self (r:=b) ⟨_,a⟩
theorem mB (s:ByteArray) (h:s.size≤1048576):aE (fun k=>aV.f k s) (lW s):=by
 obtain⟨b,a,c⟩:=mJ s (by omega)
 exact aE.other (r:=b) ⟨_,a⟩ ⟨_,c⟩
def qO (x:cP):Prop:=Ev (fun k=>dW.f k x.f0 x.f1 x.f2 x.f3 x.f4) true
def zI (x:cP):Prop:=x.f2.size≤1048576∧x.f3.size≤1048576∧x.f4.size≤1048576
theorem wF (x:cP) (h:zI x):aE (fun k=>dW.f k x.f0 x.f1 x.f2 x.f3 x.f4) (qO x):=by
 obtain⟨b,a,c⟩:=sC x.f0 x.f1 x.f2 x.f3 x.f4 h.1 h.2.1 h.2.2
 exact aE.self (r:=b) ⟨_,a⟩
theorem wE (x:cP) (h:zI x):aE (fun k=>cF.f k x.f0 x.f1 x.f2 x.f3 x.f4) (qO x):=by
 obtain⟨b,a,c⟩:=sC x.f0 x.f1 x.f2 x.f3 x.f4 h.1 h.2.1 h.2.2
 exact aE.other (r:=b) ⟨_,a⟩ ⟨_,c⟩
def nN (o:Int):Prop:=∃ F,dP.f o=some F∧F.toList=([116]:List UInt8)
theorem qG {h:Nat→Option ByteArray} {L:Nat→Option Bool} {Q:Prop} (o a m:Int) (i:∀ F,dP.f o=some F→Ev h F) (d:aE L Q):
 aE (fun k=>(h k).bind fun F=>(if F.toList=([116]:List UInt8) then (if a ≥ m then (some false) else L k) else L k)) ((nN o→a < m)∧Q):=by
 obtain⟨F,b,n⟩:=lD o
 refine aE.through (g:=fun k F=>(if F.toList=([116]:List UInt8) then (if a ≥ m then (some false) else L k) else L k)) (i F b) ?_
 by_cases c:F.toList=([116]:List UInt8)
 · have j:nN o:=⟨F,b,c⟩
   refine aE.iff (aE.iteP c (aE.iten d)) ?_
   simp[j]
 · have j:¬ nN o:=fun ⟨p,e,h⟩=>by rw[b] at e;cases e;exact c h
   refine aE.iff (aE.iteN c d) ?_
   simp[j]
def pV (m:Int) (x:dB):Prop:=x.f0 ≥ 0∧x.f0 < x.f1∧x.f1≤m∧x.f2 ≥ 0∧x.f2 < m∧lW x.f3
theorem vX (m:Int) (x:dB) (h:x.f3.size≤1048576):aE (fun k=>hJ.f k x.f0 x.f1 x.f2 x.f3 m) (pV m x):=
 aE.congr (fun k=>rfl) (aE.ite (aE.ite (aE.ite (aE.ite (aE.ite (aE.last (kJ x.f3 h)))))))
theorem aE.iteY {c:Prop} [Decidable c] {g:Nat→Option Bool} {P:Prop} (h:aE g P):aE (fun k=>if c then some true else g k) (c∨P):=by
 by_cases hc:c
 · exact aE.iff (aE.congr (f:=fun _=>some true) (fun k=>if_pos hc) aE.yes) (by simp[hc])
 · exact aE.iff (aE.congr (fun k=>if_neg hc) h) (by simp[hc])
theorem aE.nots {h:Nat→Option Bool} {Q:Prop} (a:aE h Q):aE (fun k=>(h k).bind fun t=>some (!t)) (¬ Q):=by
 obtain⟨r,h1,h2⟩:=a
 exact⟨!r,Ev.bind (f:=fun _ t=>some (!t)) h1 (Ev.now _),by rw[← h2];simp⟩
theorem vW (m:Int) (o:0≤m) (n:m≤1048576) (x:dB) (h:x.f3.size≤1048576):aE (fun k=>gC.f k x.f0 x.f1 x.f2 x.f3 m) (¬ pV m x):=by
 have w:wrap64 (m - 1)=m - 1:=by unfold wrap64;omega
 have e:aE (fun k=>(cE.f x.f2 0 (wrap64 (m - 1))).bind fun j=>(if j=true then ((aV.f k x.f3).bind fun a=>(some (!a))) else (some true))) (¬ (x.f2 ≥ 0∧x.f2 < m∧lW x.f3)):=by
  rw[w]
  by_cases c:x.f2 ≥ 0
  · have b:cE.f x.f2 0 (m - 1)=some (decide (x.f2≤m - 1)):=by unfold cE.f;rw[if_pos c]
    rw[b]
    by_cases d:x.f2≤m - 1
    · rw[decide_eq_true d]
      refine aE.iff (aE.congr (f:=fun k=>(aV.f k x.f3).bind fun a=>(some (!a))) (fun k=>rfl) (aE.nots (mB x.f3 h))) ?_
      have i:x.f2 < m:=by omega
      simp[c,i]
    · rw[decide_eq_false d]
      refine aE.iff (aE.congr (f:=fun k=>some true) (fun k=>rfl) aE.yes) ?_
      have i:¬ x.f2 < m:=by omega
      simp[i]
  · have b:cE.f x.f2 0 (m - 1)=some false:=by unfold cE.f;rw[if_neg c]
    rw[b]
    refine aE.iff (aE.congr (f:=fun k=>some true) (fun k=>rfl) aE.yes) ?_
    simp[c]
 refine aE.iff (aE.congr (fun k=>rfl) (aE.iteY (aE.iteY (aE.iteY e)))) ?_
 unfold pV
 constructor
 · rintro (c|c|c|c) ⟨h0,h1,h2,h3⟩
   · omega
   · omega
   · omega
   · exact c h3
 · intro c
   by_cases c0:x.f0 < 0
   · exact .inl c0
   by_cases c1:x.f0 ≥ x.f1
   · exact .inr (.inl c1)
   by_cases c2:x.f1 > m
   · exact .inr (.inr (.inl c2))
   exact .inr (.inr (.inr fun h3=>c ⟨by omega,by omega,by omega,h3⟩))
theorem vY (m:Int) (j:0≤m) (d:m≤1048576) (a:List dB) (o:a.length≤1048576) (h:∀ x∈a,x.f3.size≤1048576):aE (fun k=>gA.f k a m) (¬ ∀ x∈a,pV m x):=by
 obtain⟨r,hr,b⟩:=pF (z:=pR) (L:=fun k i=>eH.l0 k a (a.length:Int) i m) (E:=fun k x=>gC.f k x.f0 x.f1 x.f2 x.f3 m) (B:=fun x=>¬ pV m x) a (fun k i=>rfl) (fun x c=>vW m j d x (h x c)) (by omega)
 refine⟨decide (r ≥ 0),Ev.bind (f:=fun _ t=>some (decide (t ≥ 0))) (g:=fun k=>eH.f k a m) hr (Ev.now _),?_⟩
 rcases b with ⟨e,b⟩|⟨n,e,h2,h3,h4⟩
 · subst e
   constructor
   · intro h;simp at h
   · intro h;exact absurd (fun x c=>Classical.not_not.mp (b x c)) h
 · subst e
   constructor
   · intro _ h;exact h3 (h _ (List.getElem_mem h2))
   · intro _;exact decide_eq_true (by omega)
def oI (cs:List cP) (hs:List dB):Prop:=1≤cs.length∧cs.length≤60∧hs.length≤6∧(∀ x∈cs,qO x∧(nN x.f0→x.f1 < (cs.length:Int)))∧∀ x∈hs,pV cs.length x
theorem uK (n d:ByteArray) (s a f:Bool) (t l:Int) (cs:List cP) (hs:List dB) (q:∀ x∈cs,zI x) (r:∀ x∈hs,x.f3.size≤1048576) (y:cs.length≤1048576) (u:hs.length≤1048576):
 aE (fun k=>cJ.f k n d s a f t l cs hs) (oI cs hs):=by
 have yes:aE (fun k=>cJ.j0 k true n d s a f t l cs hs (cs.length:Int)) False:=aE.step (f:=fun _=>some false) (fun k=>by simp only[cJ.j0,↓reduceIte]) aE.no
 have j:aE (fun k=>cJ.l0 k cs (cs.length:Int) 0 n d s a f t l cs hs (cs.length:Int)) ((∀ x∈cs,qO x∧(nN x.f0→x.f1 < (cs.length:Int)))∧∀ x∈hs,pV cs.length x):=by
  refine pA (z:=oQ) (C:=fun x=>qO x∧(nN x.f0→x.f1 < (cs.length:Int))) (L:=fun k i=>cJ.l0 k cs (cs.length:Int) i n d s a f t l cs hs (cs.length:Int))
   (G:=fun k i x=>(cF.f k x.f0 x.f1 x.f2 x.f3 x.f4).bind fun m=>(if m=true then ((dP.f x.f0).bind fun F=>(if F.toList=([116]:List UInt8) then (if x.f1 ≥ (cs.length:Int) then (some false) else (cJ.l0 k cs (cs.length:Int) (wrap64 (i+1)) n d s a f t l cs hs (cs.length:Int))) else (cJ.l0 k cs (cs.length:Int) (wrap64 (i+1)) n d s a f t l cs hs (cs.length:Int)))) else (some false)))
   (R:=fun k=>(gA.f k hs (cs.length:Int)).bind fun o=>(some (!o))) cs (fun k i=>?_) (fun i x v Q w=>?_) (aE.iff (aE.nots (vY _ (by omega) (by omega) hs u r)) (by simp)) (by omega)
  · show (if i < (cs.length:Int) then (if 0≤i then (if i < (cs.length:Int) then _ else none) else none) else _)=_
    by_cases c:i < (cs.length:Int)
    · rw[if_pos c,if_pos c,if_pos c];rfl
    · rw[if_neg c,if_neg c]
  · exact aE.iff (aE.bind (wE x (q x v)) (qG (h:=fun _=>dP.f x.f0) x.f0 x.f1 (cs.length:Int) (fun F e=>by rw[e];exact Ev.now F) w)) (by rw[and_assoc])
 refine aE.congr (f:=fun k=>(cE.f (cs.length:Int) 1 60).bind fun p=>(if p=true then (cJ.j0 k (decide ((hs.length:Int) > 6)) n d s a f t l cs hs (cs.length:Int)) else (cJ.j0 k true n d s a f t l cs hs (cs.length:Int)))) (fun k=>rfl) ?_
 unfold oI
 by_cases c1:(cs.length:Int) ≥ 1
 · by_cases c2:(cs.length:Int)≤60
   · have b:cE.f (cs.length:Int) 1 60=some true:=by unfold cE.f;rw[if_pos c1,decide_eq_true c2]
     rw[b]
     by_cases c3:(hs.length:Int) > 6
     · rw[decide_eq_true c3]
       exact aE.iff (aE.congr (fun k=>rfl) yes) ⟨fun h=>h.elim,fun h=>by omega⟩
     · rw[decide_eq_false c3]
       refine aE.iff (aE.congr (f:=fun k=>cJ.j0 k false n d s a f t l cs hs (cs.length:Int)) (fun k=>rfl) (aE.step (f:=fun k=>cJ.l0 k cs (cs.length:Int) 0 n d s a f t l cs hs (cs.length:Int)) (fun k=>by simp only[cJ.j0];rw[if_neg (by simp)]) j)) ?_
       exact⟨fun h=>⟨by omega,by omega,by omega,h⟩,fun h=>h.2.2.2⟩
   · have b:cE.f (cs.length:Int) 1 60=some false:=by unfold cE.f;rw[if_pos c1,decide_eq_false c2]
     rw[b]
     exact aE.iff (aE.congr (fun k=>rfl) yes) ⟨fun h=>h.elim,fun h=>by omega⟩
 · have b:cE.f (cs.length:Int) 1 60=some false:=by unfold cE.f;rw[if_neg c1]
   rw[b]
   exact aE.iff (aE.congr (fun k=>rfl) yes) ⟨fun h=>h.elim,fun h=>by omega⟩
def jW (n:ByteArray):Prop:=n.toList=([60,105,110,105,116,62]:List UInt8)
def rP (n d:ByteArray) (t l:Int):Prop:=(lW n∨jW n)∧(fN d).2.2.2=0∧0≤t∧t≤16∧0≤l∧l≤16
def sJ (d:ByteArray) (s:Bool):Int:=if s=true then ((fN d).1.length:Int) else ((fN d).1.length:Int)+1
def oH (n d:ByteArray) (s a f:Bool) (t l:Int) (cs:List cP) (hs:List dB):Prop:=
 if a=true then t=0∧l=0∧cs.length=0∧hs.length=0∧s=false∧f=false∧¬ jW n
 else oI cs hs∧sJ d s≤l∧(jW n→s=false∧f=false∧(fN d).2.1.toList=[86])
theorem uD (d:ByteArray):wrap64 (((fN d).1.length:Int)+1)=((fN d).1.length:Int)+1:=by
 have:=pC d
 unfold wrap64;omega
theorem tR (n:ByteArray) (s f:Bool) (t l:Int) (c h:Nat):
 aE (fun _=>if t=0 then (if l=0 then (if (c:Int)=0 then (if (h:Int)=0 then (if s=true then (some false) else (if f=true then (some false) else (some (n.toList != ([60,105,110,105,116,62]:List UInt8))))) else (some false)) else (some false)) else (some false)) else (some false))
  (t=0∧l=0∧c=0∧h=0∧s=false∧f=false∧¬ jW n):=by
 refine aE.iff (aE.ite (aE.ite (aE.ite (aE.ite (aE.iten (aE.iten (aE.val _))))))) ?_
 unfold jW
 simp
theorem tU {G:Nat→Option Bool} {r:ByteArray} (n:ByteArray) (s f:Bool) (a:Ev (fun k=>G k) (r.toList == ([86]:List UInt8))):
 aE (fun k=>if n.toList=([60,105,110,105,116,62]:List UInt8) then (if s=true then (some false) else (if f=true then (some false) else G k)) else (some true)) (jW n→s=false∧f=false∧r.toList=[86]):=by
 have b:aE G (r.toList=[86]):=⟨_,a,by simp⟩
 refine aE.iff (aE.ite2 (aE.iten (aE.iten b)) aE.yes) ?_
 unfold jW
 by_cases c:n.toList=([60,105,110,105,116,62]:List UInt8)
 · simp[c]
 · simp[c]
theorem sG (n d:ByteArray) (s a f:Bool) (t l:Int) (cs:List cP) (hs:List dB) (p:n.size≤1048576) (hd:d.size≤1048576) (A:∀ x∈cs,zI x) (B:∀ x∈hs,x.f3.size≤1048576) (D:cs.length≤1048576) (E:hs.length≤1048576):
 aE (fun k=>bK.f k n d s a f t l cs hs) (rP n d t l∧oH n d s a f t l cs hs):=by
 have yes:aE (fun k=>bK.j0 k true n d s a f t l cs hs) False:=aE.step (f:=fun _=>some false) (fun k=>by simp only[bK.j0,↓reduceIte]) aE.no
 have u:(fN d).2.2.2=0→aE (fun k=>bK.j0 k false n d s a f t l cs hs) (oH n d s a f t l cs hs):=by
  intro h0
  unfold oH
  cases a with
  | true =>
   rw[if_pos rfl]
   refine aE.step (fun k=>?_) (tR n s f t l cs.length hs.length)
   simp only[bK.j0]
   rw[if_neg (by simp),if_pos trivial]
  | false =>
   rw[if_neg (by simp)]
   have z:descOf d=fN d:=by
    unfold fN at h0 ⊢
    by_cases c:d.size≤20000
    · rw[if_pos c]
    · rw[if_neg c] at h0;simp at h0
   have I:Ev (fun k=>fR.f k n d s false f t l cs hs) (sJ d s):=by
    refine⟨60,fun k j=>?_⟩
    show (gJ.f k d).bind _=_
    have J:gJ.f k d=some ((fN d).1.length:Int):=by
     unfold gJ.f
     rw[uR d k j]
     simp only[Option.bind_some]
     rw[if_pos h0];rfl
    rw[J]
    simp only[Option.bind_some]
    unfold sJ
    cases s with
    | true=>rw[if_pos rfl,if_pos rfl]
    | false=>rw[if_neg (by simp),if_neg (by simp),uD]
   have K:aE (fun k=>(fR.f k n d s false f t l cs hs).bind fun o=>(if l < o then (some false) else (if n.toList=([60,105,110,105,116,62]:List UInt8) then (if s=true then (some false) else (if f=true then (some false) else ((aK.f k d).bind fun b=>(some (b.2.1.toList == ([86]:List UInt8)))))) else (some true))))
    (sJ d s≤l∧(jW n→s=false∧f=false∧(fN d).2.1.toList=[86])):=by
    refine aE.through (g:=fun k o=>(if l < o then (some false) else (if n.toList=([60,105,110,105,116,62]:List UInt8) then (if s=true then (some false) else (if f=true then (some false) else ((aK.f k d).bind fun b=>(some (b.2.1.toList == ([86]:List UInt8)))))) else (some true)))) I ?_
    refine aE.iff (aE.iten (tU (G:=fun k=>(aK.f k d).bind fun b=>(some (b.2.1.toList == ([86]:List UInt8)))) (r:=(fN d).2.1) n s f (Ev.bind (g:=fun k=>aK.f k d) (f:=fun _ (b:qE)=>(some (b.2.1.toList == ([86]:List UInt8)))) ⟨60,fun k j=>(nX d (by omega) k j).trans (congrArg some z)⟩ (Ev.now _)))) ?_
    rw[Int.not_lt]
   refine aE.step (fun k=>?_) (aE.bind (uK n d s false f t l cs hs A B D E) K)
   simp only[bK.j0]
   rw[if_neg (by simp),if_neg (by simp)]
 have mn:aE (fun k=>dC.f k n) (lW n∨jW n):=by
  refine aE.iff (aE.bind2 (mB n p) aE.yes (aE.val _)) ?_
  unfold jW
  by_cases c:lW n <;> simp[c]
 have ds:aE (fun k=>eS.f k d) ((fN d).2.2.2=0):=⟨_,⟨60,fun k j=>uB d k j⟩,by simp⟩
 have q:∀ v,aE (fun k=>cE.f v 0 16) (0≤v∧v≤16):=by
  intro v
  refine aE.iff (aE.congr (fun k=>rfl) (aE.ite (aE.val (decide (v≤16))))) ?_
  simp
 have last:aE (fun k=>(cE.f l 0 16).bind fun i=>(bK.j0 k (!i) n d s a f t l cs hs)) ((fN d).2.2.2=0→(0≤l∧l≤16)∧oH n d s a f t l cs hs)∨¬ (fN d).2.2.2=0:=by
  by_cases h0:(fN d).2.2.2=0
  · refine .inl ?_
    obtain⟨r,r1,m⟩:=q l
    refine aE.through (g:=fun k i=>(bK.j0 k (!i) n d s a f t l cs hs)) r1 ?_
    cases r with
    | true=>exact aE.iff (u h0) (by have:=m.mp rfl;simp[h0,this])
    | false =>
     have p:¬ (0≤l∧l≤16):=fun h=>by have:=m.mpr h;cases this
     exact aE.iff yes (by constructor;(intro h;exact h.elim);(intro h;exact p (h h0).1))
  · exact .inr h0
 unfold bK.f rP
 rcases last with last|h0
 · refine aE.iff (aE.bind2 mn (aE.bind2 ds (aE.bind2 (q t) last yes) yes) yes) ?_
   constructor
   · rintro (⟨h1,⟨h2,⟨h3,h4⟩|h3⟩|h2⟩|h1)
     · exact⟨⟨h1,h2,h3.1,h3.2,(h4 h2).1⟩,(h4 h2).2⟩
     · exact h3.2.elim
     · exact h2.2.elim
     · exact h1.2.elim
   · rintro ⟨⟨h1,h2,h3,h4,h5⟩,h6⟩
     exact .inl ⟨h1,.inl ⟨h2,.inl ⟨⟨h3,h4⟩,fun _=>⟨h5,h6⟩⟩⟩⟩
 · obtain⟨r,r1,m⟩:=ds
   have e:r=false:=by
    cases r with
    | true=>exact absurd (m.mp rfl) h0
    | false=>rfl
   subst e
   refine aE.iff (aE.bind2 mn (aE.through (h:=fun k=>eS.f k d) (g:=fun k w=>if w=true then ((cE.f t 0 16).bind fun y=>(if y=true then ((cE.f l 0 16).bind fun i=>(bK.j0 k (!i) n d s a f t l cs hs)) else (bK.j0 k true n d s a f t l cs hs))) else (bK.j0 k true n d s a f t l cs hs)) r1 (aE.congr (fun k=>if_neg (by simp)) yes)) yes) ?_
   constructor
   · rintro (h|h)
     · exact h.2.elim
     · exact h.2.elim
   · rintro ⟨⟨_,h,_⟩,_⟩;exact absurd h h0
theorem sH (n d:ByteArray) (s a f:Bool) (t l:Int) (cs:List cP) (hs:List dB) (K:n.size≤1048576) (hd:d.size≤1048576) (M:∀ x∈cs,zI x) (O:∀ x∈hs,x.f3.size≤1048576) (U:cs.length≤1048576) (W:hs.length≤1048576):
 aE (fun k=>aJ.f k n d s a f t l cs hs) (rP n d t l∧oH n d s a f t l cs hs):=by
 obtain⟨ps,r,q,c,hg⟩:∃ ps r q c,fN d=(ps,r,q,c):=⟨_,_,_,_,rfl⟩
 have y:=pC d
 have m:=uD d
 unfold rP oH sJ
 rw[hg] at y m ⊢
 simp only at y m ⊢
 have yes:aE (fun k=>aJ.j0 k true n d s a f t l cs hs ps r q c) False:=aE.step (f:=fun _=>some false) (fun k=>by simp only[aJ.j0,↓reduceIte]) aE.no
 have j:aE (fun k=>aJ.j2 k (cs.length:Int) true n d s a f t l cs hs ps r q c) False:=aE.step (f:=fun _=>some false) (fun k=>by simp only[aJ.j2,↓reduceIte]) aE.no
 have D:aE (fun k=>aJ.l0 k (cs.length:Int) 0 n d s a f t l cs hs ps r q c) ((∀ x∈cs,qO x∧(nN x.f0→x.f1 < (cs.length:Int)))∧(∀ x∈hs,pV cs.length x)∧(jW n→s=false∧f=false∧r.toList=[86])):=by
  refine pA (z:=oQ) (C:=fun x=>qO x∧(nN x.f0→x.f1 < (cs.length:Int))) (L:=fun k i=>aJ.l0 k (cs.length:Int) i n d s a f t l cs hs ps r q c)
   (G:=fun k i x=>(dW.f k x.f0 x.f1 x.f2 x.f3 x.f4).bind fun E=>(if E=true then ((cO.f k x.f0).bind fun F=>(if F.toList=([116]:List UInt8) then (if x.f1 ≥ (cs.length:Int) then (some false) else (aJ.l0 k (cs.length:Int) (wrap64 (i+1)) n d s a f t l cs hs ps r q c)) else (aJ.l0 k (cs.length:Int) (wrap64 (i+1)) n d s a f t l cs hs ps r q c))) else (some false)))
   (R:=fun k=>aJ.l1 k (cs.length:Int) 0 n d s a f t l cs hs ps r q c) cs (fun k i=>rfl) (fun i x o Q p=>?_) ?_ (by omega)
  · exact aE.iff (aE.bind (wF x (M x o)) (qG (h:=fun k=>cO.f k x.f0) x.f0 x.f1 (cs.length:Int) (fun F e=>by
     obtain⟨F',A,P⟩:=lD x.f0
     rw[e] at A;cases A
     exact⟨16,P⟩) p)) (by rw[and_assoc])
  · refine pA (z:=pR) (C:=fun x=>pV cs.length x) (L:=fun k i=>aJ.l1 k (cs.length:Int) i n d s a f t l cs hs ps r q c)
     (G:=fun k i x=>(hJ.f k x.f0 x.f1 x.f2 x.f3 (cs.length:Int)).bind fun I=>(if I=true then (aJ.l1 k (cs.length:Int) (wrap64 (i+1)) n d s a f t l cs hs ps r q c) else (some false)))
     (R:=fun k=>if n.toList=([60,105,110,105,116,62]:List UInt8) then (if s=true then (some false) else (if f=true then (some false) else (some (r.toList == ([86]:List UInt8))))) else (some true)) hs (fun k i=>rfl) (fun i x o Q p=>aE.bind (vX _ x (O x o)) p) (tU (r:=r) n s f (Ev.now _)) (by omega)
 have u:∀ v:Int,aE (fun k=>aJ.j1 k (cs.length:Int) v n d s a f t l cs hs ps r q c) (oI cs hs∧v≤l∧(jW n→s=false∧f=false∧r.toList=[86])):=by
  intro v
  have h6:aE (fun k=>aJ.j2 k (cs.length:Int) (decide ((hs.length:Int) > 6)) n d s a f t l cs hs ps r q c) (¬ (hs.length:Int) > 6∧((∀ x∈cs,qO x∧(nN x.f0→x.f1 < (cs.length:Int)))∧(∀ x∈hs,pV cs.length x)∧(jW n→s=false∧f=false∧r.toList=[86]))):=by
   by_cases b:(hs.length:Int) > 6
   · rw[decide_eq_true b];exact aE.iff j (by simp[b])
   · rw[decide_eq_false b]
     exact aE.iff (aE.step (f:=fun k=>aJ.l0 k (cs.length:Int) 0 n d s a f t l cs hs ps r q c) (fun k=>by simp only[aJ.j2];rw[if_neg (by simp)]) D) (by simp[b])
  refine aE.iff (aE.step (fun k=>rfl) (aE.ite2 j (aE.ite2 j (aE.ite2 j h6)))) ?_
  unfold oI
  constructor
  · rintro (h|⟨h1,h|⟨h2,h|⟨h3,h4,h5,h7,h8⟩⟩⟩)
    · exact h.2.elim
    · exact h.2.elim
    · exact h.2.elim
    · exact⟨⟨by omega,by omega,by omega,h5,h7⟩,by omega,h8⟩
  · rintro ⟨⟨h1,h2,h3,h5,h7⟩,h4,h8⟩
    exact .inr ⟨by omega,.inr ⟨by omega,.inr ⟨by omega,by omega,h5,h7,h8⟩⟩⟩
 have w:aE (fun k=>aJ.j0 k false n d s a f t l cs hs ps r q c) (if a=true then t=0∧l=0∧cs.length=0∧hs.length=0∧s=false∧f=false∧¬ jW n
  else oI cs hs∧(if s=true then (ps.length:Int) else (ps.length:Int)+1)≤l∧(jW n→s=false∧f=false∧r.toList=[86])):=by
  cases a with
  | true =>
   rw[if_pos rfl]
   refine aE.step (fun k=>?_) (tR n s f t l cs.length hs.length)
   simp only[aJ.j0]
   rw[if_neg (by simp),if_pos trivial]
  | false =>
   rw[if_neg (by simp)]
   cases s with
   | true =>
    rw[if_pos rfl]
    refine aE.step (fun k=>?_) (u (ps.length:Int))
    simp only[aJ.j0]
    rw[if_neg (by simp),if_neg (by simp),if_pos trivial]
   | false =>
    rw[if_neg (by simp)]
    refine aE.step (fun k=>?_) (u ((ps.length:Int)+1))
    simp only[aJ.j0]
    rw[if_neg (by simp),if_neg (by simp),if_neg (by simp),m]
 have inner:aE (fun k=>if c=0 then (if t < 0 then (aJ.j0 k true n d s a f t l cs hs ps r q c) else (if t > 16 then (aJ.j0 k true n d s a f t l cs hs ps r q c) else (if l < 0 then (aJ.j0 k true n d s a f t l cs hs ps r q c) else (aJ.j0 k (decide (l > 16)) n d s a f t l cs hs ps r q c)))) else (aJ.j0 k true n d s a f t l cs hs ps r q c))
  ((c=0∧0≤t∧t≤16∧0≤l∧l≤16)∧(if a=true then t=0∧l=0∧cs.length=0∧hs.length=0∧s=false∧f=false∧¬ jW n
  else oI cs hs∧(if s=true then (ps.length:Int) else (ps.length:Int)+1)≤l∧(jW n→s=false∧f=false∧r.toList=[86]))):=by
  generalize X:(if a=true then t=0∧l=0∧cs.length=0∧hs.length=0∧s=false∧f=false∧¬ jW n
   else oI cs hs∧(if s=true then (ps.length:Int) else (ps.length:Int)+1)≤l∧(jW n→s=false∧f=false∧r.toList=[86]))=B at w ⊢
  have h16:aE (fun k=>aJ.j0 k (decide (l > 16)) n d s a f t l cs hs ps r q c) (¬ l > 16∧B):=by
   by_cases b:l > 16
   · rw[decide_eq_true b];exact aE.iff yes (by simp[b])
   · rw[decide_eq_false b];exact aE.iff w (by simp[b])
  refine aE.iff (aE.ite2 (aE.ite2 yes (aE.ite2 yes (aE.ite2 yes h16))) yes) ?_
  constructor
  · rintro (⟨h0,h|⟨h1,h|⟨h2,h|⟨h3,h4,h5⟩⟩⟩⟩|h)
    · exact h.2.elim
    · exact h.2.elim
    · exact h.2.elim
    · exact⟨⟨h0,by omega,by omega,by omega,by omega⟩,h5⟩
    · exact h.2.elim
  · rintro ⟨⟨h0,h1,h2,h3,h4⟩,h5⟩
    exact .inl ⟨h0,.inr ⟨by omega,.inr ⟨by omega,.inr ⟨by omega,by omega,h5⟩⟩⟩⟩
 have J:Ev (fun k=>aU.f k d) (ps,r,q,c):=⟨60,fun k T=>(qM d k T).trans (congrArg some hg)⟩
 refine aE.iff (aE.through (h:=fun k=>aU.f k d) J (aE.congr (fun k=>rfl) (aE.bind2 (kJ n K) inner (aE.ite2 (c:=n.toList=([60,105,110,105,116,62]:List UInt8)) inner yes)))) ?_
 unfold jW
 by_cases c1:lW n
 · simp[c1,and_assoc]
 · by_cases c2:n.toList=([60,105,110,105,116,62]:List UInt8)
   · simp[c1,c2,and_assoc]
   · simp[c1,c2]
theorem mC {L:Nat→Int→Option Bool} {C:Nat→Prop} {P:Prop} (n:Nat)
 (c:∀ j,j < n→∀ Q:Prop,aE (fun k=>L k ((j+1:Nat):Int)) Q→aE (fun k=>L k (j:Int)) (C j∧Q)) (m:aE (fun k=>L k (n:Int)) P):aE (fun k=>L k 0) ((∀ j,j < n→C j)∧P):=by
 have b:∀ (d i:Nat),i+d=n→aE (fun k=>L k (i:Int)) ((∀ j,i≤j→j < n→C j)∧P):=by
  intro d
  induction d with
  | zero =>
   intro i hd
   have e:i=n:=by omega
   subst e
   exact aE.iff m ⟨fun h=>⟨fun j h1 h2=>by omega,h⟩,fun h=>h.2⟩
  | succ d ih =>
   intro i hd
   refine aE.iff (c i (by omega) _ (ih (i+1) (by omega))) ?_
   constructor
   · rintro ⟨h1,h2,h3⟩
     refine⟨fun j h4 h5=>?_,h3⟩
     by_cases e:j=i
     · subst e;exact h1
     · exact h2 j (by omega) h5
   · rintro ⟨h1,h2⟩
     exact⟨h1 i (Nat.le_refl _) (by omega),fun j h4 h5=>h1 j (by omega) h5,h2⟩
 exact aE.iff (b n 0 (by omega)) ⟨fun h=>⟨fun j a=>h.1 j (Nat.zero_le _) a,h.2⟩,fun h=>⟨fun j _ a=>h.1 j a,h.2⟩⟩
theorem getD_in {α:Type} {a:List α} {z:α} {i:Nat} (h:i < a.length):a.getD i z∈a:=by
 have e:a.getD i z=a[i]:=by simp[List.getD_eq_getElem?_getD,List.getElem?_eq_getElem h]
 rw[e];exact List.getElem_mem h
theorem qF {α:Type} {z:α} {B:α→Prop} {a:List α} {r:Int} (k:(r=-1∧∀ x∈a,¬ B x)∨∃ n:Nat,r=n∧∃ h:n < a.length,B a[n]∧∀ j,(c:j < n)→¬ B (a[j]'(by omega))) (i:Nat) (d:i < a.length) (b:B (a.getD i z)):
 r=(i:Int)↔∀ j,j < i→¬ B (a.getD j z):=by
 have e:∀ j,(h:j < a.length)→a.getD j z=a[j]:=fun j h=>by simp[List.getD_eq_getElem?_getD,List.getElem?_eq_getElem h]
 rcases k with ⟨_,h⟩|⟨n,m,h2,h3,h4⟩
 · exact absurd b (h _ (getD_in d))
 · subst m
   constructor
   · intro h j c
     have:n=i:=by omega
     subst this
     rw[e j (by omega)];exact h4 j c
   · intro h
     by_cases c1:n < i
     · exact absurd h3 (by rw[← e n h2];exact h n c1)
     · by_cases c2:i < n
       · rw[e i d] at b;exact absurd b (h4 i c2)
       · omega
theorem pN {G:Nat→Option Int} {L:Nat→Option Bool} {r i:Int} {Q:Prop} (a:Ev G r) (b:aE L Q):aE (fun k=>(G k).bind fun t=>if t=i then L k else some false) (r=i∧Q):=
 aE.through (g:=fun k t=>if t=i then L k else some false) a (aE.ite b)
def sW (a:List eM) (i:Nat):Prop:=lW (a.getD i nM).f0∧jN (a.getD i nM).f1=true∧∀ j,j < i→¬ (a.getD j nM).f0.toList=(a.getD i nM).f0.toList
def tQ (x:dS):Prop:=rP x.f0 x.f1 x.f5 x.f6∧oH x.f0 x.f1 x.f2 x.f3 x.f4 x.f5 x.f6 x.f7 x.f8
def rR (b:Bool) (a:List dS) (i:Nat):Prop:=tQ (a.getD i mO)∧((a.getD i mO).f3=true→b=true)∧∀ j,j < i→¬ ((a.getD j mO).f0.toList=(a.getD i mO).f0.toList∧(a.getD j mO).f1.toList=(a.getD i mO).f1.toList)
def zL (x:eM):Prop:=x.f0.size≤1048576∧x.f1.size≤1048576
def sX (x:dS):Prop:=x.f0.size≤1048576∧x.f1.size≤1048576∧(∀ i∈x.f7,zI i)∧(∀ h∈x.f8,h.f3.size≤1048576)∧x.f7.length≤1048576∧x.f8.length≤1048576
theorem type_spec (d:ByteArray):aE (fun k=>dG.f k d) (jN d=true):=⟨_,⟨40,fun k a=>mZ d k (by omega)⟩,Iff.rfl⟩
theorem vL (d:ByteArray) (h:d.size≤1048576):aE (fun k=>dQ.f k d) (jN d=true):=⟨_,⟨40,fun k a=>pH d (by omega) k (by omega)⟩,Iff.rfl⟩
theorem vA (x:dS) (h:sX x):aE (fun k=>aJ.f k x.f0 x.f1 x.f2 x.f3 x.f4 x.f5 x.f6 x.f7 x.f8) (tQ x):=
 sH _ _ _ _ _ _ _ _ _ h.1 h.2.1 h.2.2.1 h.2.2.2.1 h.2.2.2.2.1 h.2.2.2.2.2
theorem uZ (x:dS) (h:sX x):aE (fun k=>bK.f k x.f0 x.f1 x.f2 x.f3 x.f4 x.f5 x.f6 x.f7 x.f8) (tQ x):=
 sG _ _ _ _ _ _ _ _ _ h.1 h.2.1 h.2.2.1 h.2.2.2.1 h.2.2.2.2.1 h.2.2.2.2.2
theorem yZ {α:Type} {A B:Prop} [Decidable A] [Decidable B] (x y:α):(if A then (if B then x else y) else y)=if A∧B then x else y:=by
 by_cases a:A
 · by_cases b:B
   · rw[if_pos a,if_pos b,if_pos ⟨a,b⟩]
   · rw[if_pos a,if_neg b,if_neg (fun h=>b h.2)]
 · rw[if_neg a,if_neg (fun h=>a h.1)]
def rQ (b:Bool) (a:List eM) (c:List dS):Prop:=(∀ i,i < a.length→sW a i)∧(∀ i,i < c.length→rR b c i)
theorem lY (n s:ByteArray) (f b:Bool) (a:List eM) (d:List dS) (D:a.length≤1048576) (E:d.length≤1048576) (u:∀ x∈d,sX x) (v:∀ x∈a,zL x):
 aE (fun k=>aC.l0 k 0 n s f b a d) (rQ b a d):=by
 have e:∀ i:Nat,i < 1048576→wrap64 ((i:Int)+1)=((i+1:Nat):Int):=fun i h=>mN h (by omega)
 refine mC (L:=fun k i=>aC.l0 k i n s f b a d) a.length (fun i q Q t=>?_) (aE.step (f:=fun k=>aC.l2 k 0 n s f b a d) (fun k=>by simp only[aC.l0];rw[if_neg (by omega)]) ?_)
 · have yes:aE (fun k=>aC.j2 k (i:Int) true n s f b a d) False:=aE.step (f:=fun _=>some false) (fun k=>by simp only[aC.j2,↓reduceIte]) aE.no
   have inner:aE (fun k=>aC.l1 k (i:Int) 0 n s f b a d) ((∀ j,j < i→¬ (a.getD j nM).f0.toList=(a.getD i nM).f0.toList)∧Q):=by
    refine mC (L:=fun k j=>aC.l1 k (i:Int) j n s f b a d) i (fun j w y p=>?_) (aE.step (f:=fun k=>aC.l0 k ((i+1:Nat):Int) n s f b a d) (fun k=>by simp only[aC.l1];rw[if_neg (by omega),e i (by omega)]) t)
    refine aE.step (f:=fun k=>if (a.getD j nM).f0.toList=(a.getD i nM).f0.toList then (some false) else (aC.l1 k (i:Int) ((j+1:Nat):Int) n s f b a d)) (fun k=>?_) (aE.iten p)
    simp only[aC.l1]
    rw[if_pos (by omega),if_pos (by omega),if_pos (by omega),if_pos (by omega),if_pos (by omega),e j (by omega)];rfl
   have m:aE (fun k=>aC.j2 k (i:Int) false n s f b a d) ((∀ j,j < i→¬ (a.getD j nM).f0.toList=(a.getD i nM).f0.toList)∧Q):=aE.step (f:=fun k=>aC.l1 k (i:Int) 0 n s f b a d) (fun k=>by simp only[aC.j2];rw[if_neg (by simp)]) inner
   have z:aE (fun k=>(dG.f k (a.getD i nM).f1).bind fun o=>(aC.j2 k (i:Int) (!o) n s f b a d)) (jN (a.getD i nM).f1=true∧((∀ j,j < i→¬ (a.getD j nM).f0.toList=(a.getD i nM).f0.toList)∧Q)):=by
    obtain⟨r,r1,A⟩:=type_spec (a.getD i nM).f1
    refine aE.through (g:=fun k o=>(aC.j2 k (i:Int) (!o) n s f b a d)) r1 ?_
    rw[← A]
    cases r with
    | true=>exact aE.iff m (by simp)
    | false=>exact aE.iff yes (by simp)
   refine aE.iff (aE.step (fun k=>?_) (aE.bind2 (kJ (a.getD i nM).f0 (v _ (getD_in q)).1) z yes)) ?_
   · simp only[aC.l0]
     rw[if_pos (by omega),if_pos (by omega)];rfl
   · unfold sW
     constructor
     · rintro (⟨h1,h2,h3,h4⟩|h)
       · exact⟨⟨h1,h2,h3⟩,h4⟩
       · exact h.2.elim
     · rintro ⟨⟨h1,h2,h3⟩,h4⟩
       exact .inl ⟨h1,h2,h3,h4⟩
 · refine aE.iff (mC (L:=fun k i=>aC.l2 k i n s f b a d) (P:=True) (C:=rR b d) d.length (fun i q Q t=>?_) (aE.step (f:=fun _=>some true) (fun k=>by simp only[aC.l2];rw[if_neg (by omega)]) aE.yes)) (by simp)
   obtain⟨x,hx⟩:∃ x,x=d.getD i mO:=⟨_,rfl⟩
   have yes:aE (fun k=>aC.j5 k (i:Int) true n s f b a d x.f0 x.f1 x.f2 x.f3 x.f4 x.f5 x.f6 x.f7 x.f8) False:=aE.step (f:=fun _=>some false) (fun k=>by simp only[aC.j5,↓reduceIte]) aE.no
   have inner:aE (fun k=>aC.l3 k (i:Int) 0 n s f b a d x.f0 x.f1 x.f2 x.f3 x.f4 x.f5 x.f6 x.f7 x.f8) ((∀ j,j < i→¬ ((d.getD j mO).f0.toList=x.f0.toList∧(d.getD j mO).f1.toList=x.f1.toList))∧Q):=by
    refine mC (L:=fun k j=>aC.l3 k (i:Int) j n s f b a d x.f0 x.f1 x.f2 x.f3 x.f4 x.f5 x.f6 x.f7 x.f8) i (fun j w y p=>?_) (aE.step (f:=fun k=>aC.l2 k ((i+1:Nat):Int) n s f b a d) (fun k=>by simp only[aC.l3];rw[if_neg (by omega),e i (by omega)]) t)
    refine aE.step (f:=fun k=>if (d.getD j mO).f0.toList=x.f0.toList∧(d.getD j mO).f1.toList=x.f1.toList then (some false) else (aC.l3 k (i:Int) ((j+1:Nat):Int) n s f b a d x.f0 x.f1 x.f2 x.f3 x.f4 x.f5 x.f6 x.f7 x.f8)) (fun k=>?_) (aE.iten p)
    simp only[aC.l3]
    rw[if_pos (by omega),if_pos (by omega),if_pos (by omega),e j (by omega),← yZ];rfl
   have m:aE (fun k=>aC.j5 k (i:Int) false n s f b a d x.f0 x.f1 x.f2 x.f3 x.f4 x.f5 x.f6 x.f7 x.f8) ((∀ j,j < i→¬ ((d.getD j mO).f0.toList=x.f0.toList∧(d.getD j mO).f1.toList=x.f1.toList))∧Q):=aE.step (f:=fun k=>aC.l3 k (i:Int) 0 n s f b a d x.f0 x.f1 x.f2 x.f3 x.f4 x.f5 x.f6 x.f7 x.f8) (fun k=>by simp only[aC.j5];rw[if_neg (by simp)]) inner
   have B:aE (fun k=>aC.j5 k (i:Int) (!b) n s f b a d x.f0 x.f1 x.f2 x.f3 x.f4 x.f5 x.f6 x.f7 x.f8) (b=true∧((∀ j,j < i→¬ ((d.getD j mO).f0.toList=x.f0.toList∧(d.getD j mO).f1.toList=x.f1.toList))∧Q)):=by
    cases b with
    | true=>exact aE.iff m (by simp)
    | false=>exact aE.iff yes (by simp)
   refine aE.iff (aE.step (fun k=>?_) (aE.bind2 (vA x (by rw[hx];exact u _ (getD_in q))) (aE.ite2 (c:=x.f3=true) B m) yes)) ?_
   · simp only[aC.l2]
     rw[if_pos (by omega),if_pos (by omega),hx];rfl
   · unfold rR
     rw[← hx]
     constructor
     · rintro (⟨h1,⟨h2,h3,h4⟩|⟨h2,h4⟩⟩|h)
       · exact⟨⟨h1,fun _=>h3,h4.1⟩,h4.2⟩
       · exact⟨⟨h1,fun h=>absurd h h2,h4.1⟩,h4.2⟩
       · exact h.2.elim
     · rintro ⟨⟨h1,h2,h3⟩,h4⟩
       by_cases c:x.f3=true
       · exact .inl ⟨h1,.inl ⟨c,h2 c,h3,h4⟩⟩
       · exact .inl ⟨h1,.inr ⟨c,h3,h4⟩⟩
theorem vP (a:List eM) (b:a.length≤1048576) (t:ByteArray):∃ r:Int,Ev (fun k=>eX.f k a t) r∧((r=-1∧∀ x∈a,¬ x.f0.toList=t.toList)∨∃ n:Nat,r=n∧∃ h:n < a.length,a[n].f0.toList=t.toList∧∀ j,(c:j < n)→¬ (a[j]'(by omega)).f0.toList=t.toList):=
 pF (z:=nM) (L:=fun k i=>eX.l0 k a (a.length:Int) i t) (E:=fun k x=>fP.f x.f0 x.f1 x.f2 t) (B:=fun x=>x.f0.toList=t.toList) a (fun k i=>rfl) (fun x d=>aE.iff (aE.congr (fun k=>rfl) (aE.val (x.f0.toList == t.toList))) (by simp)) (by omega)
theorem vB (a:List dS) (b:a.length≤1048576) (t d:ByteArray):∃ r:Int,Ev (fun k=>eR.f k a t d) r∧((r=-1∧∀ x∈a,¬ (x.f0.toList=t.toList∧x.f1.toList=d.toList))∨∃ n:Nat,r=n∧∃ h:n < a.length,(a[n].f0.toList=t.toList∧a[n].f1.toList=d.toList)∧∀ j,(c:j < n)→¬ ((a[j]'(by omega)).f0.toList=t.toList∧(a[j]'(by omega)).f1.toList=d.toList)):=
 pF (z:=mO) (L:=fun k i=>eR.l0 k a (a.length:Int) i t d) (E:=fun k x=>fJ.f x.f0 x.f1 x.f2 x.f3 x.f4 x.f5 x.f6 x.f7 x.f8 t d) (B:=fun x=>x.f0.toList=t.toList∧x.f1.toList=d.toList) a (fun k i=>rfl) (fun x e=>aE.iff (aE.congr (fun k=>rfl) (aE.ite (aE.val (x.f1.toList == d.toList)))) (by simp)) (by omega)
theorem nT (n s:ByteArray) (f b:Bool) (a:List eM) (d:List dS) (v:a.length≤1048576) (w:d.length≤1048576) (A:∀ x∈d,sX x) (u:∀ x∈a,zL x):
 aE (fun k=>bD.l0 k a (a.length:Int) 0 n s f b a d) (rQ b a d):=by
 have q:∀ i:Nat,i < 1048576→wrap64 ((i:Int)+1)=((i+1:Nat):Int):=fun i h=>mN h (by omega)
 refine mC (L:=fun k i=>bD.l0 k a (a.length:Int) i n s f b a d) a.length (fun i e Q j=>?_) (aE.step (f:=fun k=>bD.l1 k d (d.length:Int) 0 n s f b a d) (fun k=>by simp only[bD.l0];rw[if_neg (by omega)]) ?_)
 · obtain⟨r,r1,m⟩:=vP a v (a.getD i nM).f0
   have o:=qF (z:=nM) (B:=fun x=>x.f0.toList=(a.getD i nM).f0.toList) m i e rfl
   have r4:Ev (fun k=>fZ.f k n s f b a d (a.getD i nM).f0) r:=Ev.bind (f:=fun _ t=>some t) r1 (Ev.now _)
   refine aE.iff (aE.step (fun k=>?_) (aE.bind (mB (a.getD i nM).f0 (u _ (getD_in e)).1) (aE.bind (vL (a.getD i nM).f1 (u _ (getD_in e)).2) (pN (i:=(i:Int)) r4 j)))) ?_
   · simp only[bD.l0]
     rw[if_pos (by omega),if_pos (by omega),if_pos (by omega),q i (by omega)];rfl
   · unfold sW
     rw[o,and_assoc,and_assoc]
 · refine aE.iff (mC (L:=fun k i=>bD.l1 k d (d.length:Int) i n s f b a d) (P:=True) (C:=rR b d) d.length (fun i e Q j=>?_) (aE.step (f:=fun _=>some true) (fun k=>by simp only[bD.l1];rw[if_neg (by omega)]) aE.yes)) (by simp)
   obtain⟨x,hx⟩:∃ x,x=d.getD i mO:=⟨_,rfl⟩
   obtain⟨r,r1,m⟩:=vB d w x.f0 x.f1
   have o:=qF (z:=mO) (B:=fun y=>y.f0.toList=x.f0.toList∧y.f1.toList=x.f1.toList) m i e (by rw[← hx];exact⟨rfl,rfl⟩)
   have r4:Ev (fun k=>eN.f k n s f b a d x.f0 x.f1) r:=Ev.bind (f:=fun _ t=>some t) r1 (Ev.now _)
   have p:=pN (i:=(i:Int)) r4 j
   refine aE.iff (aE.step (fun k=>?_) (aE.bind (uZ x (by rw[hx];exact A _ (getD_in e))) (aE.ite2 (c:=x.f3=true) (aE.ite (c:=b=true) p) p))) ?_
   · simp only[bD.l1]
     rw[if_pos (by omega),if_pos (by omega),if_pos (by omega),q i (by omega),hx];rfl
   · unfold rR
     rw[← hx,o]
     constructor
     · rintro ⟨h1,⟨h2,h3,h4⟩|⟨h2,h4⟩⟩
       · exact⟨⟨h1,fun _=>h3,h4.1⟩,h4.2⟩
       · exact⟨⟨h1,fun h=>absurd h h2,h4.1⟩,h4.2⟩
     · rintro ⟨⟨h1,h2,h3⟩,h4⟩
       by_cases c:x.f3=true
       · exact⟨h1,.inl ⟨c,h2 c,h3,h4⟩⟩
       · exact⟨h1,.inr ⟨c,h3,h4⟩⟩
theorem nI {N:Nat→ByteArray→Option Bool} {J:Nat→Bool→Option Bool} {P:Prop} (n s:ByteArray) (f b:Bool) (d a:Nat) (j:aE (fun k=>N k n) (lW n)) (hs:aE (fun k=>N k s) (lW s)) (yes:aE (fun k=>J k true) False) (m:aE (fun k=>J k false) P):
 aE (fun k=>(N k n).bind fun e=>(if e=true then ((N k s).bind fun i=>(if i=true then (if n.toList=s.toList then (J k true) else (if f=true then (if b=true then (J k true) else (if (d:Int) > 8 then (J k true) else (J k (decide ((a:Int) > 10))))) else (if (d:Int) > 8 then (J k true) else (J k (decide ((a:Int) > 10)))))) else (J k true))) else (J k true)))
  (lW n∧lW s∧¬ n.toList=s.toList∧¬ (f=true∧b=true)∧d≤8∧a≤10∧P):=by
 have h10:aE (fun k=>J k (decide ((a:Int) > 10))) (¬ (a:Int) > 10∧P):=by
  by_cases c:(a:Int) > 10
  · rw[decide_eq_true c];exact aE.iff yes (by simp[c])
  · rw[decide_eq_false c];exact aE.iff m (by simp[c])
 have h8:=aE.ite2 (c:=(d:Int) > 8) yes h10
 refine aE.iff (aE.bind2 j (aE.bind2 hs (aE.ite2 (c:=n.toList=s.toList) yes (aE.ite2 (c:=f=true) (aE.ite2 (c:=b=true) yes h8) h8)) yes) yes) ?_
 constructor
 · rintro (⟨h1,⟨h2,h|⟨h3,⟨h4,h|⟨h5,h|⟨h6,h7,h9⟩⟩⟩|⟨h4,h|⟨h6,h7,h9⟩⟩⟩⟩|h⟩|h)
   · exact h.2.elim
   · exact h.2.elim
   · exact h.2.elim
   · exact⟨h1,h2,h3,fun h=>h5 h.2,by omega,by omega,h9⟩
   · exact h.2.elim
   · exact⟨h1,h2,h3,fun h=>h4 h.1,by omega,by omega,h9⟩
   · exact h.2.elim
   · exact h.2.elim
 · rintro ⟨h1,h2,h3,h4,h5,h6,h7⟩
   refine .inl ⟨h1,.inl ⟨h2,.inr ⟨h3,?_⟩⟩⟩
   by_cases c:f=true
   · exact .inl ⟨c,.inr ⟨fun h=>h4 ⟨c,h⟩,.inr ⟨by omega,by omega,h7⟩⟩⟩
   · exact .inr ⟨c,.inr ⟨by omega,by omega,h7⟩⟩
theorem nV (n s:ByteArray) (f b:Bool) (a:List eM) (c:List dS) (d:n.size≤1048576) (hs:s.size≤1048576) (e:a.length≤1048576) (i:c.length≤1048576) (j:∀ x∈c,sX x) (m:∀ x∈a,zL x):
 ∃ r,Ev (fun k=>aC.f k n s f b a c) r∧Ev (fun k=>bD.f k n s f b a c) r:=by
 have o:aE (fun k=>aC.j0 k true n s f b a c) False:=aE.step (f:=fun _=>some false) (fun k=>by simp only[aC.j0,↓reduceIte]) aE.no
 have p:aE (fun k=>bD.j0 k true n s f b a c) False:=aE.step (f:=fun _=>some false) (fun k=>by simp only[bD.j0,↓reduceIte]) aE.no
 have q:aE (fun k=>aC.j0 k false n s f b a c) (rQ b a c):=aE.step (f:=fun k=>aC.l0 k 0 n s f b a c) (fun k=>by simp only[aC.j0];rw[if_neg (by simp)]) (lY n s f b a c e i j m)
 have u:aE (fun k=>bD.j0 k false n s f b a c) (rQ b a c):=aE.step (f:=fun k=>bD.l0 k a (a.length:Int) 0 n s f b a c) (fun k=>by simp only[bD.j0];rw[if_neg (by simp)]) (nT n s f b a c e i j m)
 exact aE.same (aE.congr (fun k=>rfl) (nI (N:=fun k t=>aD.f k t) (J:=fun k t=>aC.j0 k t n s f b a c) n s f b a.length c.length (kJ n d) (kJ s hs) o q)) (aE.congr (fun k=>rfl) (nI (N:=fun k t=>aV.f k t) (J:=fun k t=>bD.j0 k t n s f b a c) n s f b a.length c.length (mB n d) (mB s hs) p u))
abbrev St:=List ByteArray×List Int
def mL (N:Nat) (s:St):Prop:=s.1.length≤N∧s.2.length≤N
def nm (s:St) (n:Int):St:=(s.1,s.2++[n % 256])
def tx (s:St) (t:ByteArray):St:=match nF t s.1 0 with
 | some i=>(s.1,s.2++[i % 256])
 | none=>(s.1++[t],s.2++[(s.1.length:Int) % 256])
theorem mL.up {N M:Nat} {s:St} (h:mL N s) (a:N≤M):mL M s:=⟨Nat.le_trans h.1 a,Nat.le_trans h.2 a⟩
theorem jD {N:Nat} {s:St} (n:Int) (h:mL N s):mL (N+1) (nm s n):=⟨by have:=h.1;simp[nm];omega,by have:=h.2;simp[nm];omega⟩
theorem jS {N:Nat} {s:St} (t:ByteArray) (h:mL N s):mL (N+1) (tx s t):=by
 unfold tx
 split
 · exact⟨by have:=h.1;simp;omega,by have:=h.2;simp;omega⟩
 · exact⟨by have:=h.1;simp;omega,by have:=h.2;simp;omega⟩
theorem mQ {α:Type} {P:St→α→St} {c:Nat} (a:List α) (b:∀ x∈a,∀ s N,mL N s→mL (N+c) (P s x)):∀ (s:St) (N:Nat),mL N s→mL (N+c*a.length) (a.foldl P s):=by
 induction a with
 | nil=>intro s N h;simpa using h
 | cons x l ih =>
  intro s N h
  have h1:=ih (fun y d=>b y (List.mem_cons_of_mem _ d)) (P s x) (N+c) (b x (List.mem_cons_self ..) s N h)
  rw[List.foldl_cons,List.length_cons]
  exact h1.up (by rw[Nat.mul_add];omega)
theorem lT {α R:Type} {L:Nat→Int→St→Option R} {Z:Nat→St→Option R} {P:St→α→St} {c M:Nat} (a:List α)
 (n:∀ x∈a,∀ s N,mL N s→mL (N+c) (P s x))
 (hs:∀ i (h:i < a.length) s r,mL M s→Ev (fun k=>L k ((i+1:Nat):Int) (P s a[i])) r→Ev (fun k=>L k (i:Int) s) r)
 (o:∀ s r,Ev (fun k=>Z k s) r→Ev (fun k=>L k (a.length:Int) s) r)
 (b:St) (N:Nat) (h0:mL N b) (p:N+c*a.length≤M) {r:R} (q:Ev (fun k=>Z k (a.foldl P b)) r):Ev (fun k=>L k 0 b) r:=by
 have m:∀ (d i:Nat) (s:St),i+d=a.length→mL (N+c*i) s→Ev (fun k=>Z k ((a.drop i).foldl P s)) r→Ev (fun k=>L k (i:Int) s) r:=by
  intro d
  induction d with
  | zero =>
   intro i s hd j h
   obtain rfl:i=a.length:=by omega
   rw[List.drop_length] at h
   exact o s r h
  | succ d ih =>
   intro i s hd j h
   have e:i < a.length:=by omega
   rw[List.drop_eq_getElem_cons e,List.foldl_cons] at h
   have t:N+c*i≤M:=Nat.le_trans (Nat.add_le_add_left (Nat.mul_le_mul_left c (Nat.le_of_lt e)) N) p
   exact hs i e s r (j.up t) (ih (i+1) _ (by omega) ((n _ (List.getElem_mem e) s _ j).up (by rw[Nat.mul_add];omega)) h)
 exact m a.length 0 b (by omega) (by simpa using h0) (by simpa using q)
theorem yT (t:ByteArray):∀ (l:List ByteArray) (i:Nat) (j:Int),i+l.length≤4611686018427387904→nF t l (i:Int)=some j→(i:Int)≤j∧j < i+l.length:=by
 intro l
 induction l with
 | nil=>intro i j a h;simp[nF] at h
 | cons x l ih =>
  intro i j a h
  rw[nF] at h
  rw[List.length_cons] at a ⊢
  by_cases e:x.toList=t.toList
  · rw[if_pos e] at h;injection h with h;omega
  · rw[if_neg e,mN (n:=i+l.length+1) (by omega) (by omega)] at h
    have:=ih (i+1) j (by omega) h;omega
theorem vZ (p:List ByteArray) (t:ByteArray) (b:p.length≤4611686018427387904):Ev (fun k=>bX.f k p t) ((nF t p 0).getD (-1)):=by
 have j:∀ (d i:Nat),i+d=p.length→Ev (fun k=>bX.l0 k p t (p.length:Int) (i:Int)) ((nF t (p.drop i) (i:Int)).getD (-1)):=by
  intro d
  induction d with
  | zero =>
   intro i hd
   obtain rfl:i=p.length:=by omega
   rw[List.drop_length]
   exact Ev.step (f:=fun _=>some (-1)) (fun k=>by rw[bX.l0,if_neg (by omega)]) (Ev.now _)
  | succ d ih =>
   intro i hd
   have a:i < p.length:=by omega
   rw[List.drop_eq_getElem_cons a,nF]
   have c:rdOf ByteArray.empty p (i:Int)=p[i]:=by rw[uG _ _ _ (by simpa using a)];rfl
   by_cases e:p[i].toList=t.toList
   · rw[if_pos e]
     exact Ev.step (f:=fun _=>some (i:Int)) (fun k=>by rw[bX.l0,if_pos (by omega),if_pos (by omega),if_pos (by omega),c,if_pos e.symm]) (Ev.now _)
   · rw[if_neg e,mN a b]
     exact Ev.step (fun k=>by rw[bX.l0,if_pos (by omega),if_pos (by omega),if_pos (by omega),c,if_neg (fun h=>e h.symm),mN a b]) (ih (i+1) (by omega))
 exact j p.length 0 (by omega)
theorem lG (s:St) (t:ByteArray) (h:mL 1099511627774 s):bG.f s.1 s.2 t=some (tx s t):=by
 have h1:=h.1;have h2:=h.2
 unfold bG.f tx
 rw[if_pos (by omega)]
 cases hf:nF t s.1 0 with
 | some i=>simp only[];unfold bA.f;rw[if_pos (by omega)]
 | none =>
  simp only[]
  unfold bA.f
  rw[if_pos (by omega)]
  have e:wrap64 (((s.1++[t]).length:Int) - 1)=(s.1.length:Int):=by rw[List.length_append,List.length_singleton];unfold wrap64;omega
  rw[e]
theorem nQ (s:St) (n:Int) (h:mL 1099511627774 s):bA.f s.1 s.2 n=some (nm s n):=by
 have h2:=h.2
 unfold bA.f nm
 rw[if_pos (by omega)]
theorem vS (l:List Int):∀ s:St,l.foldl nm s=(s.1,s.2++l.map (· % 256)):=by
 induction l with
 | nil=>intro s;simp
 | cons x l ih=>intro s;rw[List.foldl_cons,ih];simp[nm]
theorem pM (s:St) (l:List Int) (h:mL 1099511627774 s) (a:s.2.length+l.length≤1099511627776):bN.f s.1 s.2 l=some (l.foldl nm s):=by
 unfold bN.f
 rw[if_pos a,vS]
theorem vJ (l:List ByteArray):∀ (s:St) (N:Nat),mL N s→N+l.length≤1099511627774→Ev (fun k=>bJ.g k s.1 s.2 l) (l.foldl tx s):=by
 induction l with
 | nil=>intro s N h a;exact Ev.congr (f:=fun _=>some s) (fun k=>rfl) (Ev.now _)
 | cons t l ih =>
  intro s N h a
  rw[List.length_cons] at a
  have h1:=h.1;have h2:=h.2
  have e:=ih (tx s t) (N+1) (jS t h) (by omega)
  rw[List.foldl_cons]
  refine Ev.congr (f:=fun k=>(bX.f k s.1 t).bind fun i=>if i < 0 then bJ.g k (s.1++[t]) (s.2++[(s.1.length:Int) % 256]) l else bJ.g k s.1 (s.2++[i % 256]) l) (fun k=>by rw[bJ.g,if_pos (by omega),if_pos (by omega)]) ?_
  refine Ev.bind (vZ s.1 t (by omega)) ?_
  unfold tx at e ⊢
  cases hf:nF t s.1 0 with
  | some i =>
   have b:=(yT t s.1 0 i (by omega) hf).1
   rw[hf] at e
   exact Ev.congr (fun k=>if_neg (by simp only[Option.getD_some];omega)) e
  | none =>
   rw[hf] at e
   exact Ev.congr (fun k=>if_pos (by simp)) e
theorem kN (s:St) (l:List ByteArray) (N:Nat) (h:mL N s) (a:N+l.length≤1099511627774):Ev (fun k=>bJ.f k s.1 s.2 l) (l.foldl tx s):=
 Ev.congr (fun k=>by unfold bJ.f;rw[if_pos (by omega)]) (vJ l s N h a)
theorem yL (n:Int):dN.f 2 n 1=some (strOfNums [n % 256]):=by
 simp[dN.f,dN.l0,wrap64]
theorem zS (n:Int):dN.f 5 n 4=some (strOfNums [n / 256 / 256 / 256 % 256,n / 256 / 256 % 256,n / 256 % 256,n % 256]):=by
 simp[dN.f,dN.l0,wrap64,List.replicate]
def q4 (a:Int):ByteArray:=strOfNums [a / 256 / 256 / 256 % 256,a / 256 / 256 % 256,a / 256 % 256,a % 256]
theorem rG (a:Int):(q4 a).size=4:=strOfNums_size _
def xK (F:ByteArray) (s:St) (x:cP):St:=
 if F.toList=([110]:List UInt8) then ((nm s x.f0).1,(nm s x.f0).2++bytesOf (q4 x.f1)) else if F.toList=([105]:List UInt8) then nm (nm s x.f0) x.f1 else if F.toList=([116]:List UInt8) then nm (nm s x.f0) x.f1 else if F.toList=([99]:List UInt8) then tx (nm s x.f0) x.f2 else if F.toList=([121]:List UInt8) then tx (nm s x.f0) x.f4 else if F.toList=([102]:List UInt8) then tx (tx (tx (nm s x.f0) x.f2) x.f3) x.f4 else if F.toList=([109]:List UInt8) then tx (tx (tx (nm s x.f0) x.f2) x.f3) x.f4 else nm s x.f0
def oP (s:St) (x:cP):St:=match dP.f x.f0 with
 | some F=>xK F s x
 | none=>s
def vM (x:cP):Prop:=∀ F,dP.f x.f0=some F→F.toList=([110]:List UInt8)→fU.f x.f1=some true
theorem pI {N:Nat} {s:St} (x:cP) (h:mL N s):mL (N+5) (oP s x):=by
 unfold oP
 cases hF:dP.f x.f0 with
 | none=>exact h.up (by omega)
 | some F =>
  simp only[]
  unfold xK
  have h1:=jD x.f0 h
  repeat' split
  · refine⟨Nat.le_trans h1.1 (by omega),?_⟩
    have e:(bytesOf (q4 x.f1)).length=4:=by rw[bytesOf_length,rG]
    have:=h1.2
    simp only[List.length_append,e];omega
  · exact(jD _ h1).up (by omega)
  · exact(jD _ h1).up (by omega)
  · exact(jS _ h1).up (by omega)
  · exact(jS _ h1).up (by omega)
  · exact(jS _ (jS _ (jS _ h1))).up (by omega)
  · exact(jS _ (jS _ (jS _ h1))).up (by omega)
  · exact h1.up (by omega)
theorem xT (a:Int):Ev (fun k=>dN.f k a 4) (q4 a):=⟨5,fun k b=>at_rounds (dN.mono a 4) b (zS a)⟩
theorem vE (a:Int) (h:fU.f a=some true):kM.f a=some (q4 a):=by
 unfold kM.f q4
 rw[h,Option.bind_some,if_pos rfl]
 congr 2
 have b:a % 4294967296 / 16777216=a / 256 / 256 / 256 % 256:=by omega
 have c:a % 4294967296 / 65536 % 256=a / 256 / 256 % 256:=by omega
 have d:a % 4294967296 / 256 % 256=a / 256 % 256:=by omega
 have e:a % 4294967296 % 256=a % 256:=by omega
 rw[b,c,d,e]
theorem uS (s:St) (x:cP) (N:Nat) (h:mL N s) (p:N≤1099511000000):Ev (fun k=>dU.f k s.1 s.2 x.f0 x.f1 x.f2 x.f3 x.f4) (oP s x):=by
 obtain⟨F,hF,hS⟩:=lD x.f0
 have h1:=jD x.f0 h
 have hs:=h.up (show N≤1099511627774 by omega)
 have n:=h1.up (show N+1≤1099511627774 by omega)
 unfold oP
 rw[hF]
 simp only[]
 unfold xK
 have o:∀ k,dU.f k s.1 s.2 x.f0 x.f1 x.f2 x.f3 x.f4=(if F.toList=([110]:List UInt8) then ((dN.f k x.f1 4).bind fun q=>if (nm s x.f0).2.length+q.size≤1099511627776 then some ((nm s x.f0).1,(nm s x.f0).2++bytesOf q) else none) else if F.toList=([105]:List UInt8) then bN.f (nm s x.f0).1 (nm s x.f0).2 [x.f1] else if F.toList=([116]:List UInt8) then bN.f (nm s x.f0).1 (nm s x.f0).2 [x.f1] else if F.toList=([99]:List UInt8) then bJ.f k (nm s x.f0).1 (nm s x.f0).2 [x.f2] else if F.toList=([121]:List UInt8) then bJ.f k (nm s x.f0).1 (nm s x.f0).2 [x.f4] else if F.toList=([102]:List UInt8) then bJ.f k (nm s x.f0).1 (nm s x.f0).2 [x.f2,x.f3,x.f4] else if F.toList=([109]:List UInt8) then bJ.f k (nm s x.f0).1 (nm s x.f0).2 [x.f2,x.f3,x.f4] else some (nm s x.f0)):=by
  intro k
  unfold dU.f
  rw[pM s [x.f0] hs (by have:=h.2;simp;omega),Option.bind_some,hF,Option.bind_some]
  rfl
 refine Ev.congr o ?_
 have i:=pM (nm s x.f0) [x.f1] n (by have:=h1.2;simp;omega)
 have j:=fun t=>kN (nm s x.f0) [t] (N+1) h1 (by simp;omega)
 have m:=fun a b c=>kN (nm s x.f0) [a,b,c] (N+1) h1 (by simp;omega)
 by_cases c1:F.toList=([110]:List UInt8)
 · rw[if_pos c1]
   refine Ev.congr (fun k=>if_pos c1) (Ev.bind (xT x.f1) (Ev.congr (f:=fun _=>some ((nm s x.f0).1,(nm s x.f0).2++bytesOf (q4 x.f1))) (fun k=>if_pos (by rw[rG];have:=h1.2;omega)) (Ev.now _)))
 rw[if_neg c1];refine Ev.congr (fun k=>if_neg c1) ?_
 by_cases c2:F.toList=([105]:List UInt8)
 · rw[if_pos c2];exact Ev.congr (fun k=>(if_pos c2).trans i) (Ev.now _)
 rw[if_neg c2];refine Ev.congr (fun k=>if_neg c2) ?_
 by_cases c3:F.toList=([116]:List UInt8)
 · rw[if_pos c3];exact Ev.congr (fun k=>(if_pos c3).trans i) (Ev.now _)
 rw[if_neg c3];refine Ev.congr (fun k=>if_neg c3) ?_
 by_cases c4:F.toList=([99]:List UInt8)
 · rw[if_pos c4];exact Ev.congr (fun k=>if_pos c4) (j _)
 rw[if_neg c4];refine Ev.congr (fun k=>if_neg c4) ?_
 by_cases c5:F.toList=([121]:List UInt8)
 · rw[if_pos c5];exact Ev.congr (fun k=>if_pos c5) (j _)
 rw[if_neg c5];refine Ev.congr (fun k=>if_neg c5) ?_
 by_cases d:F.toList=([102]:List UInt8)
 · rw[if_pos d];exact Ev.congr (fun k=>if_pos d) (m _ _ _)
 rw[if_neg d];refine Ev.congr (fun k=>if_neg d) ?_
 by_cases e:F.toList=([109]:List UInt8)
 · rw[if_pos e];exact Ev.congr (fun k=>if_pos e) (m _ _ _)
 rw[if_neg e];exact Ev.congr (fun k=>if_neg e) (Ev.now _)
theorem uT (s:St) (x:cP) (m:vM x) (N:Nat) (h:mL N s) (q:N≤1099511000000):Ev (fun k=>dI.f k s.1 s.2 x.f0 x.f1 x.f2 x.f3 x.f4) (oP s x):=by
 obtain⟨F,hF,hS⟩:=lD x.f0
 have h1:=jD x.f0 h
 have hs:=h.up (show N≤1099511627774 by omega)
 have d:=h1.up (show N+1≤1099511627774 by omega)
 have n:=m F hF
 unfold oP
 rw[hF]
 simp only[]
 refine⟨16,fun k o=>?_⟩
 show dI.f k s.1 s.2 x.f0 x.f1 x.f2 x.f3 x.f4=_
 unfold dI.f
 rw[nQ s x.f0 hs,Option.bind_some,hS k o,Option.bind_some]
 have j:∀ a b c,((bG.f (nm s x.f0).1 (nm s x.f0).2 a).bind fun p=>((bG.f p.1 p.2 b).bind fun p=>bG.f p.1 p.2 c))=some (tx (tx (tx (nm s x.f0) a) b) c):=by
  intro a b c
  rw[lG _ _ d,Option.bind_some,lG _ _ ((jS a h1).up (by omega)),Option.bind_some,lG _ _ ((jS b (jS a h1)).up (by omega))]
 unfold xK
 by_cases c1:F.toList=([110]:List UInt8)
 · rw[if_pos c1,if_pos c1,vE _ (n c1),Option.bind_some,if_pos (by rw[rG];have:=h1.2;omega)]
 rw[if_neg c1,if_neg c1]
 by_cases c2:F.toList=([105]:List UInt8)
 · rw[if_pos c2,if_pos c2,nQ _ _ d]
 rw[if_neg c2,if_neg c2]
 by_cases c3:F.toList=([116]:List UInt8)
 · rw[if_pos c3,if_pos c3,nQ _ _ d]
 rw[if_neg c3,if_neg c3]
 by_cases c4:F.toList=([99]:List UInt8)
 · rw[if_pos c4,if_pos c4,lG _ _ d]
 rw[if_neg c4,if_neg c4]
 by_cases c5:F.toList=([121]:List UInt8)
 · rw[if_pos c5,if_pos c5,lG _ _ d]
 rw[if_neg c5,if_neg c5]
 by_cases e:F.toList=([102]:List UInt8)
 · rw[if_pos e,if_pos e,j]
 rw[if_neg e,if_neg e]
 by_cases i:F.toList=([109]:List UInt8)
 · rw[if_pos i,if_pos i,j]
 rw[if_neg i,if_neg i]
def qS (a b c:Bool):Int:=(if a=true then 1 else 0)+(if b=true then 2 else 0)+(if c=true then 4 else 0)
theorem xH (a:Bool):Ev (fun k=>cR.f k [a]) (qS a false false):=⟨5,fun k b=>at_rounds (cR.mono [a]) b (by cases a <;> decide +kernel)⟩
theorem xI (a b:Bool):Ev (fun k=>cR.f k [a,b]) (qS a b false):=⟨5,fun k c=>at_rounds (cR.mono [a,b]) c (by cases a <;> cases b <;> decide +kernel)⟩
theorem xJ (a b c:Bool):Ev (fun k=>cR.f k [a,b,c]) (qS a b c):=⟨5,fun k d=>at_rounds (cR.mono [a,b,c]) d (by cases a <;> cases b <;> cases c <;> decide +kernel)⟩
theorem nK (a b c:Bool):Ev (fun k=>cZ.f k a b c) (qS a b c):=⟨5,fun k d=>at_rounds (cZ.mono a b c) d (by cases a <;> cases b <;> cases c <;> decide +kernel)⟩
def nJ (s:St) (f:eM):St:=nm (tx (tx s f.f0) f.f1) (qS f.f2 false false)
def vV (s:St) (h:dB):St:=tx (nm (nm (nm s h.f0) h.f1) h.f2) h.f3
def qI (s:St) (m:dS):St:=m.f8.foldl vV (nm (m.f7.foldl oP (nm (nm (nm (nm (tx (tx s m.f0) m.f1) (qS m.f2 m.f3 m.f4)) m.f5) m.f6) (m.f7.length:Int))) (m.f8.length:Int))
def yM (m:dS):Prop:=m.f7.length≤60∧m.f8.length≤6∧∀ x∈m.f7,vM x
def xF (n u:ByteArray) (f b:Bool) (a:List eM) (c:List dS):St:=c.foldl qI (nm (a.foldl nJ (nm (nm (tx (tx (([],[]):St) n) u) (qS f b false)) (a.length:Int))) (c.length:Int))
theorem mP {N:Nat} {s:St} (f:eM) (h:mL N s):mL (N+3) (nJ s f):=jD _ (jS _ (jS _ h))
theorem tD {N:Nat} {s:St} (x:dB) (h:mL N s):mL (N+4) (vV s x):=jS _ (jD _ (jD _ (jD _ h)))
theorem qZ {N:Nat} {s:St} (m:dS) (a:yM m) (h:mL N s):mL (N+400) (qI s m):=by
 have h1:=jD (m.f7.length:Int) (jD m.f6 (jD m.f5 (jD (qS m.f2 m.f3 m.f4) (jS m.f1 (jS m.f0 h)))))
 have h2:=mQ (P:=oP) (c:=5) m.f7 (fun x _ s N h=>pI x h) _ _ h1
 have h3:=mQ (P:=vV) (c:=4) m.f8 (fun x _ s N h=>tD x h) _ _ (jD (m.f8.length:Int) h2)
 have l1:=a.1;have l2:=a.2.1
 exact h3.up (by omega)
theorem qY {α:Type} {g:List α→Option Int} (a:∀ l,g l=some (l.length:Int)) (l:List α):Ev (fun _=>g l) (l.length:Int):=Ev.congr (f:=fun _=>some (l.length:Int)) (fun _=>a l) (Ev.now _)
theorem oD (s:St) (l:List Int) (N:Nat) (h:mL N s) (a:N+l.length≤1099511627774):Ev (fun _=>bN.f s.1 s.2 l) (l.foldl nm s):=Ev.congr (f:=fun _=>some (l.foldl nm s)) (fun _=>pM s l (h.up (by omega)) (by have:=h.2;omega)) (Ev.now _)
theorem jU (s:St) (n:Int) (N:Nat) (h:mL N s) (a:N≤1099511627774):Ev (fun _=>bA.f s.1 s.2 n) (nm s n):=Ev.congr (f:=fun _=>some (nm s n)) (fun _=>nQ s n (h.up a)) (Ev.now _)
theorem lO (s:St) (t:ByteArray) (N:Nat) (h:mL N s) (a:N≤1099511627774):Ev (fun _=>bG.f s.1 s.2 t) (tx s t):=Ev.congr (f:=fun _=>some (tx s t)) (fun _=>lG s t (h.up a)) (Ev.now _)
theorem tJ (s:St) (m:dS) (j:yM m) (N:Nat) (h:mL N s) (o:N≤1000000):Ev (fun k=>bB.f k s.1 s.2 m.f0 m.f1 m.f2 m.f3 m.f4 m.f5 m.f6 m.f7 m.f8) (qI s m):=by
 have p:=j.1;have q:=j.2.1
 have h2:=jS m.f1 (jS m.f0 h)
 have h6:=jD (m.f7.length:Int) (jD m.f6 (jD m.f5 (jD (qS m.f2 m.f3 m.f4) h2)))
 have n:=mQ (P:=oP) (c:=5) m.f7 (fun x _ s N h=>pI x h) _ _ h6
 unfold bB.f
 refine Ev.bind (kN s [m.f0,m.f1] N h (by simp;omega)) (Ev.bind (xJ m.f2 m.f3 m.f4) (Ev.bind (qY (g:=jR.f) (fun _=>rfl) m.f7) (Ev.bind (oD (tx (tx s m.f0) m.f1) [qS m.f2 m.f3 m.f4,m.f5,m.f6,(m.f7.length:Int)] (N+1+1) h2 (by simp;omega)) ?_)))
 refine lT (L:=fun k i s=>bB.l0 k m.f7 (m.f7.length:Int) i s.1 s.2 m.f0 m.f1 m.f2 m.f3 m.f4 m.f5 m.f6 m.f7 m.f8) (Z:=fun k s=>(gB.f m.f8).bind fun t=>((bN.f s.1 s.2 [t]).bind fun bt=>bB.l1 k m.f8 (m.f8.length:Int) 0 bt.1 bt.2)) (P:=oP) (c:=5) (M:=1099511000000) m.f7 (fun x _ s N h=>pI x h) (fun i b s r d a=>?_) (fun s r a=>Ev.step (fun k=>by rw[bB.l0,if_neg (by omega)]) a) _ (N+6) h6 (by omega) ?_
 · have e:aG m.f7 (i:Int)=m.f7[i]:=getD_at b
   exact Ev.step (fun k=>by rw[bB.l0,if_pos (by omega),if_pos (by omega),if_pos (by omega),e,mN b (by omega)]) (Ev.bind (uS s m.f7[i] 1099511000000 d (by omega)) a)
 have h7:=jD (m.f8.length:Int) n
 refine Ev.bind (qY (g:=gB.f) (fun _=>rfl) m.f8) (Ev.bind (oD _ [(m.f8.length:Int)] _ n (by simp;omega)) ?_)
 refine lT (L:=fun k i s=>bB.l1 k m.f8 (m.f8.length:Int) i s.1 s.2) (Z:=fun _ s=>some s) (P:=vV) (c:=4) (M:=1099511000000) m.f8 (fun x _ s N h=>tD x h) (fun i b s r d a=>?_) (fun s r a=>Ev.step (fun k=>by rw[bB.l1,if_neg (by omega)]) a) _ _ h7 (by omega) (Ev.now _)
 have e:aX m.f8 (i:Int)=m.f8[i]:=getD_at b
 refine Ev.step (fun k=>by rw[bB.l1,if_pos (by omega),if_pos (by omega),if_pos (by omega),e,mN b (by omega)]) (Ev.bind (oD s [m.f8[i].f0,m.f8[i].f1,m.f8[i].f2] 1099511000000 d (by simp)) (Ev.bind (kN _ [m.f8[i].f3] _ (jD m.f8[i].f2 (jD m.f8[i].f1 (jD m.f8[i].f0 d))) (by simp)) a))
theorem zK:mL 0 (([],[]):St):=⟨Nat.le_refl _,Nat.le_refl _⟩
theorem sR (n u:ByteArray) (f b:Bool) (a:List eM) (d:List dS) (y:a.length≤8) (z:d.length≤10) (q:∀ m∈d,yM m):Ev (fun k=>cS.f k n u f b a d) (xF n u f b a d):=by
 have h2:=jS u (jS n zK)
 have h4:=jD (a.length:Int) (jD (qS f b false) h2)
 have h5:=mQ (P:=nJ) (c:=3) a (fun x _ s N h=>mP x h) _ _ h4
 have h6:=jD (d.length:Int) h5
 unfold cS.f
 refine Ev.bind (kN (([],[]):St) [n,u] 0 zK (by simp)) (Ev.bind (xI f b) (Ev.bind (qY (g:=gK.f) (fun _=>rfl) a) (Ev.bind (oD (tx (tx (([],[]):St) n) u) [qS f b false,(a.length:Int)] _ h2 (by simp)) ?_)))
 refine lT (L:=fun k i s=>cS.l0 k a (a.length:Int) i n u f b a d s.1 s.2) (Z:=fun k s=>(gY.f d).bind fun t=>((bN.f s.1 s.2 [t]).bind fun bt=>cS.l1 k d (d.length:Int) 0 bt.1 bt.2)) (P:=nJ) (c:=3) (M:=100000) a (fun x _ s N h=>mP x h) (fun i j s r o e=>?_) (fun s r e=>Ev.step (fun k=>by rw[cS.l0,if_neg (by omega)]) e) _ _ h4 (by omega) ?_
 · have p:bP a (i:Int)=a[i]:=getD_at j
   have v:=jS a[i].f1 (jS a[i].f0 o)
   exact Ev.step (fun k=>by rw[cS.l0,if_pos (by omega),if_pos (by omega),if_pos (by omega),p,mN j (by omega)]) (Ev.bind (kN s [a[i].f0,a[i].f1] _ o (by simp)) (Ev.bind (xH a[i].f2) (Ev.bind (oD (tx (tx s a[i].f0) a[i].f1) [qS a[i].f2 false false] _ v (by simp)) e)))
 refine Ev.bind (qY (g:=gY.f) (fun _=>rfl) d) (Ev.bind (oD _ [(d.length:Int)] _ h5 (by simp;omega)) ?_)
 refine lT (L:=fun k i s=>cS.l1 k d (d.length:Int) i s.1 s.2) (Z:=fun _ s=>some s) (P:=qI) (c:=400) (M:=100000) d (fun x w s N h=>qZ x (q x w) h) (fun i j s r o e=>?_) (fun s r e=>Ev.step (fun k=>by rw[cS.l1,if_neg (by omega)]) e) _ _ h6 (by omega) (Ev.now _)
 have p:aA d (i:Int)=d[i]:=getD_at j
 exact Ev.step (fun k=>by rw[cS.l1,if_pos (by omega),if_pos (by omega),if_pos (by omega),p,mN j (by omega)]) (Ev.bind (tJ s d[i] (q _ (List.getElem_mem j)) _ o (by omega)) e)
theorem tH (n u:ByteArray) (f b:Bool) (a:List eM) (d:List dS) (Y:a.length≤8) (lm:d.length≤10) (y:∀ m∈d,yM m):Ev (fun k=>iI.f k n u f b a d) (xF n u f b a d):=by
 have h2:=jS u (jS n zK)
 have h3:=jD (qS f b false) h2
 have h4:=jD (a.length:Int) h3
 have h5:=mQ (P:=nJ) (c:=3) a (fun x _ s N h=>mP x h) _ _ h4
 have h6:=jD (d.length:Int) h5
 unfold iI.f aY.f
 refine Ev.bind (Ev.bind (lO (([],[]):St) n 0 zK (by omega)) (Ev.bind (lO _ u _ (jS n zK) (by omega)) (Ev.bind (nK f b false) (Ev.bind (jU _ (qS f b false) _ h2 (by omega)) (Ev.bind (jU _ (a.length:Int) _ h3 (by omega)) ?_))))) (Ev.now _)
 refine lT (L:=fun k i s=>aY.l0 k i s.1 s.2 n u f b a d) (Z:=fun k s=>(bA.f s.1 s.2 (d.length:Int)).bind fun bt=>aY.l1 k 0 bt.1 bt.2 n u f b a d) (P:=nJ) (c:=3) (M:=100000) a (fun x _ s N h=>mP x h) (fun i p s r o e=>?_) (fun s r e=>Ev.step (fun k=>by rw[aY.l0,if_neg (by omega)]) e) _ _ h4 (by omega) ?_
 · have t:bP a (i:Int)=a[i]:=getD_at p
   have w:=jS a[i].f0 o
   have O:=jS a[i].f1 w
   exact Ev.step (fun k=>by rw[aY.l0,if_pos (by omega),if_pos (by omega),t,mN p (by omega)]) (Ev.bind (lO s a[i].f0 _ o (by omega)) (Ev.bind (lO _ a[i].f1 _ w (by omega)) (Ev.bind (nK a[i].f2 false false) (Ev.bind (jU _ (qS a[i].f2 false false) _ O (by omega)) e))))
 refine Ev.bind (jU _ (d.length:Int) _ h5 (by omega)) ?_
 refine lT (L:=fun k i s=>aY.l1 k i s.1 s.2 n u f b a d) (Z:=fun _ s=>some s) (P:=qI) (c:=400) (M:=100000) d (fun x T s N h=>qZ x (y x T) h) (fun i p s r o e=>?_) (fun s r e=>Ev.step (fun k=>by rw[aY.l1,if_neg (by omega)]) e) _ _ h6 (by omega) (Ev.now _)
 have t:aA d (i:Int)=d[i]:=getD_at p
 obtain⟨U,W,hn⟩:=y _ (List.getElem_mem p)
 generalize d[i]=m at t U W hn e
 have z:=jS m.f0 o
 have A:=jS m.f1 z
 have B:=jD (qS m.f2 m.f3 m.f4) A
 have D:=jD m.f5 B
 have E:=jD m.f6 D
 have G:=jD (m.f7.length:Int) E
 have I:=mQ (P:=oP) (c:=5) m.f7 (fun x _ s N h=>pI x h) _ _ G
 have X:=jD (m.f8.length:Int) I
 refine Ev.step (fun k=>by rw[aY.l1,if_pos (by omega),if_pos (by omega),t]) (Ev.bind (lO s m.f0 _ o (by omega)) (Ev.bind (lO _ m.f1 _ z (by omega)) (Ev.bind (nK m.f2 m.f3 m.f4) (Ev.bind (jU _ (qS m.f2 m.f3 m.f4) _ A (by omega)) (Ev.bind (jU _ m.f5 _ B (by omega)) (Ev.bind (jU _ m.f6 _ D (by omega)) (Ev.bind (jU _ (m.f7.length:Int) _ E (by omega)) ?_)))))))
 refine lT (L:=fun k j s=>aY.l2 k (i:Int) j s.1 s.2 n u f b a d m.f0 m.f1 m.f2 m.f3 m.f4 m.f5 m.f6 m.f7 m.f8) (Z:=fun k s=>(bA.f s.1 s.2 (m.f8.length:Int)).bind fun bt=>aY.l3 k (i:Int) 0 bt.1 bt.2 n u f b a d m.f0 m.f1 m.f2 m.f3 m.f4 m.f5 m.f6 m.f7 m.f8) (P:=oP) (c:=5) (M:=200000) m.f7 (fun x _ s N h=>pI x h) (fun j q s r o e=>?_) (fun s r e=>Ev.step (fun k=>by rw[aY.l2,if_neg (by omega)]) e) _ _ G (by omega) ?_
 · have v:aG m.f7 (j:Int)=m.f7[j]:=getD_at q
   exact Ev.step (fun k=>by rw[aY.l2,if_pos (by omega),if_pos (by omega),v,mN q (by omega)]) (Ev.bind (uT s m.f7[j] (hn _ (List.getElem_mem q)) _ o (by omega)) e)
 refine Ev.bind (jU _ (m.f8.length:Int) _ I (by omega)) ?_
 refine lT (L:=fun k j s=>aY.l3 k (i:Int) j s.1 s.2 n u f b a d m.f0 m.f1 m.f2 m.f3 m.f4 m.f5 m.f6 m.f7 m.f8) (Z:=fun k s=>aY.l1 k ((i+1:Nat):Int) s.1 s.2 n u f b a d) (P:=vV) (c:=4) (M:=200000) m.f8 (fun x _ s N h=>tD x h) (fun j q s r o e=>?_) (fun s r e=>Ev.step (fun k=>by rw[aY.l3,if_neg (by omega),mN p (by omega)]) e) _ _ X (by omega) e
 have v:aX m.f8 (j:Int)=m.f8[j]:=getD_at q
 have J:=jD m.f8[j].f0 o
 have K:=jD m.f8[j].f1 J
 have b3:=jD m.f8[j].f2 K
 exact Ev.step (fun k=>by rw[aY.l3,if_pos (by omega),if_pos (by omega),v,mN q (by omega)]) (Ev.bind (jU s m.f8[j].f0 _ o (by omega)) (Ev.bind (jU _ m.f8[j].f1 _ J (by omega)) (Ev.bind (jU _ m.f8[j].f2 _ K (by omega)) (Ev.bind (lO _ m.f8[j].f3 _ b3 (by omega)) e))))
theorem xM {x:cP} (h:qO x):vM x:=by
 intro F hF c
 obtain⟨K,hK⟩:=h
 obtain⟨F',hF',hS⟩:=lD x.f0
 obtain rfl:F=F':=Option.some.inj (hF.symm.trans hF')
 have e:=hK (max K 16) (by omega)
 simp only[] at e
 unfold dW.f at e
 rw[hS _ (by omega),Option.bind_some,if_neg (by rw[c];decide),if_pos c] at e
 cases h1:fU.f x.f1 with
 | none=>rw[h1] at e;cases e
 | some t =>
  rw[h1,Option.bind_some] at e
  cases t with
  | true=>rfl
  | false=>rw[if_neg (by decide)] at e;cases e
theorem xN {m:dS} (h:tQ m):yM m:=by
 have h2:=h.2
 unfold oH at h2
 by_cases c:m.f3=true
 · rw[if_pos c] at h2
   refine⟨by omega,by omega,fun x a=>?_⟩
   rw[List.eq_nil_of_length_eq_zero h2.2.2.1] at a
   cases a
 · rw[if_neg c] at h2
   exact⟨h2.1.2.1,h2.1.2.2.1,fun x a=>xM (h2.1.2.2.2.1 x a).1⟩
theorem nU (n s:ByteArray) (f b:Bool) (c:List eM) (a:List dS) (d:n.size≤1048576) (hs:s.size≤1048576) (j:c.length≤1048576) (o:a.length≤1048576) (p:∀ x∈a,sX x) (q:∀ x∈c,zL x):
 ∃ r,Ev (fun k=>aC.f k n s f b c a) r∧Ev (fun k=>bD.f k n s f b c a) r∧(r=true→c.length≤8∧a.length≤10∧∀ m∈a,yM m):=by
 have w:aE (fun k=>aC.j0 k true n s f b c a) False:=aE.step (f:=fun _=>some false) (fun k=>by simp only[aC.j0,↓reduceIte]) aE.no
 have y:aE (fun k=>aC.j0 k false n s f b c a) (rQ b c a):=aE.step (f:=fun k=>aC.l0 k 0 n s f b c a) (fun k=>by simp only[aC.j0];rw[if_neg (by simp)]) (lY n s f b c a j o p q)
 obtain⟨r1,z,A⟩:aE (fun k=>aC.f k n s f b c a) _:=aE.congr (fun k=>rfl) (nI (N:=fun k t=>aD.f k t) (J:=fun k t=>aC.j0 k t n s f b c a) n s f b c.length a.length (kJ n d) (kJ s hs) w y)
 obtain⟨r,u,B⟩:=nV n s f b c a d hs j o p q
 refine⟨r,u,B,fun D=>?_⟩
 obtain⟨_,_,_,_,a4,E,hL⟩:=A.mp ((Ev.one z u).trans D)
 refine⟨a4,E,fun m v=>?_⟩
 obtain⟨i,hi,rfl⟩:=List.mem_iff_getElem.mp v
 have e:a.getD i mO=a[i]:=by simp[List.getD_eq_getElem?_getD,hi]
 exact xN (e ▸ (hL.2 i hi).1)
theorem pO (s:ByteArray) (e:s.size≤140737488351232) (d:Nat):∀ (k k':Nat) (i:Int),0≤i→i≤s.size→(s.size:Int) - i=d→d < k→d < k'→
 ∃ b,cI.l0 k s i=some b∧cN.l0 k' s (s.size:Int) i=some b:=by
 induction d with
 | zero =>
  intro k k' i h0 h1 hd j c
  obtain⟨k,rfl⟩:∃ m,k=m+1:=⟨k - 1,by omega⟩
  obtain⟨k',rfl⟩:∃ m,k'=m+1:=⟨k' - 1,by omega⟩
  refine⟨true,?_,?_⟩
  · simp only[cI.l0];rw[if_neg (by omega)]
  · simp only[cN.l0];rw[if_neg (by omega)]
 | succ d ih =>
  intro k k' i h0 h1 hd j c
  obtain⟨k,rfl⟩:∃ m,k=m+1:=⟨k - 1,by omega⟩
  obtain⟨k',rfl⟩:∃ m,k'=m+1:=⟨k' - 1,by omega⟩
  have a:i < (s.size:Int):=by omega
  simp only[cI.l0,cN.l0]
  rw[if_pos a,if_pos h0,if_pos a,if_pos h0,if_pos a,kW h0 a e]
  by_cases c1:bt s i < 32
  · exact⟨false,by rw[if_pos c1],by rw[if_pos c1]⟩
  · by_cases c2:bt s i > 126
    · exact⟨false,by rw[if_neg c1,if_pos c2],by rw[if_neg c1,if_pos c2]⟩
    · obtain⟨b,n,o⟩:=ih k k' (i+1) (by omega) (by omega) (by omega) (by omega) (by omega)
      exact⟨b,by rw[if_neg c1,if_neg c2];exact n,by rw[if_neg c1,if_neg c2];exact o⟩
theorem nL (a b:List Int):strOfNums (a++b)=strOfNums a++strOfNums b:=by
 apply WideShapes.bytes_inj
 simp[strOfNums]
theorem vG (s:ByteArray):strOfNums (bytesOf s)=s:=by
 apply WideShapes.bytes_inj
 simp only[strOfNums,bytesOf,List.map_map]
 show List.map ((fun n:Int=>UInt8.ofNat n.toNat) ∘ fun b:UInt8=>(b.toNat:Int)) s.data.toList=s.data.toList
 rw[show ((fun n:Int=>UInt8.ofNat n.toNat) ∘ fun b:UInt8=>(b.toNat:Int))=id from funext fun b=>by simp,List.map_id]
theorem qB (s:ByteArray):∃ q:ByteArray,Ev (fun k=>fA.f k s) q∧Ev (fun k=>jO.f k s) q∧q.size≤256:=by
 by_cases hbig:(s.size:Int) > 255
 · refine⟨⟨#[]⟩,Ev.congr (fun k=>if_pos hbig) (Ev.step (f:=fun _=>some (⟨#[]⟩:ByteArray)) (fun k=>by simp[fA.j0]) (Ev.now _)),Ev.congr (f:=fun _=>some (⟨#[]⟩:ByteArray)) (fun k=>if_pos hbig) (Ev.now _),by decide⟩
 · obtain⟨b,e,i⟩:=pO s (by omega) s.size 1000 1000 0 (by omega) (by omega) (by omega) (by omega) (by omega)
   have c:Ev (fun k=>cI.f k s) b:=⟨1000,fun k a=>at_rounds (cI.mono s) a e⟩
   have d:Ev (fun k=>cN.f k s) b:=⟨1000,fun k a=>at_rounds (cN.mono s) a i⟩
   cases b with
   | false =>
    refine⟨⟨#[]⟩,Ev.congr (fun k=>if_neg hbig) (Ev.bind d (Ev.step (f:=fun _=>some (⟨#[]⟩:ByteArray)) (fun k=>by simp[fA.j0]) (Ev.now _))),Ev.congr (fun k=>if_neg hbig) (Ev.bind c (Ev.congr (f:=fun _=>some (⟨#[]⟩:ByteArray)) (fun k=>if_neg (by simp)) (Ev.now _))),by decide⟩
   | true =>
    have n:(strOfNums [(s.size:Int) % 256]).size=1:=strOfNums_size _
    have j:Ev (fun k=>dN.f k (s.size:Int) 1) (strOfNums [(s.size:Int) % 256]):=⟨2,fun k a=>at_rounds (dN.mono (s.size:Int) 1) a (yL (s.size:Int))⟩
    have m:kL.f (s.size:Int)=some (strOfNums [(s.size:Int) % 256]):=by simp[kL.f,show ¬ ((s.size:Int) < 0) by omega,show ¬ (s.size > 255) by omega,show ¬ ((s.size:Int) > 255) by omega]
    refine⟨strOfNums [(s.size:Int) % 256]++s,Ev.congr (fun k=>if_neg hbig) (Ev.bind d (Ev.step (f:=fun k=>(dN.f k (s.size:Int) 1).bind fun t=>if t.size+s.size≤9223372036854775807 then some (t++s) else none) (fun k=>by simp[fA.j0,cC.f]) (Ev.bind j (Ev.congr (f:=fun _=>some (strOfNums [(s.size:Int) % 256]++s)) (fun k=>if_pos (by omega)) (Ev.now _))))),Ev.congr (fun k=>if_neg hbig) (Ev.bind c (Ev.congr (f:=fun _=>some (strOfNums [(s.size:Int) % 256]++s)) (fun k=>(if_pos rfl).trans (by rw[m,Option.bind_some,if_pos (by omega)])) (Ev.now _))),?_⟩
    have:(strOfNums [(s.size:Int) % 256]++s).size=(strOfNums [(s.size:Int) % 256]).size+s.size:=ByteArray.size_append
    omega
theorem tO (l:List ByteArray):∀ b:List Int,b.length+256*l.length≤1000000000→∃ a:List Int,Ev (fun k=>eK.g k (strOfNums b) l) (strOfNums a)∧Ev (fun k=>eE.g k b l) a∧a.length≤b.length+256*l.length:=by
 induction l with
 | nil=>exact fun b _=>⟨b,Ev.now _,Ev.now _,by simp⟩
 | cons t l ih =>
  intro b d
  rw[List.length_cons] at d
  obtain⟨q,h1,h2,h3⟩:=qB t
  have i:(b++bytesOf q).length=b.length+q.size:=by rw[List.length_append,bytesOf_length]
  obtain⟨a,c,e,j⟩:=ih (b++bytesOf q) (by omega)
  rw[nL,vG] at c
  refine⟨a,Ev.bind h1 (Ev.congr (fun k=>if_pos (by rw[strOfNums_size];omega)) c),Ev.bind h2 (Ev.congr (fun k=>if_pos (by omega)) e),by rw[List.length_cons];omega⟩
theorem sZ (n u:ByteArray) (f b:Bool) (e:List eM) (d:List dS) (q:e.length≤8) (t:d.length≤10) (j:∀ m∈d,yM m):∃ r:ByteArray,Ev (fun k=>eK.f k n u f b e d) r∧
 Ev (fun k=>(iI.f k n u f b e d).bind fun a=>if (a.1.length:Int) > 200 then some (⟨#[]⟩:ByteArray) else ((eE.g k [67,70,1,(a.1.length:Int) % 256] a.1).bind fun b=>if b.length+a.2.length≤1099511627776 then some (strOfNums (b++a.2)) else none)) r:=by
 have w1:=sR n u f b e d q t j
 have o:=tH n u f b e d q t j
 have h2:=jS u (jS n zK)
 have h5:=mQ (P:=nJ) (c:=3) e (fun x _ s N h=>mP x h) _ _ (jD (e.length:Int) (jD (qS f b false) h2))
 have w:=mQ (P:=qI) (c:=400) d (fun x y s N h=>qZ x (j x y) h) _ _ (jD (d.length:Int) h5)
 have p:mL 100000 (xF n u f b e d):=mL.up w (by omega)
 generalize xF n u f b e d=a at w1 o p
 by_cases c:(a.1.length:Int) > 200
 · exact⟨⟨#[]⟩,Ev.bind w1 (Ev.congr (f:=fun _=>some (⟨#[]⟩:ByteArray)) (fun k=>if_pos c) (Ev.now _)),Ev.bind o (Ev.congr (f:=fun _=>some (⟨#[]⟩:ByteArray)) (fun k=>if_pos c) (Ev.now _))⟩
 have z:(strOfNums [(a.1.length:Int) % 256]).size=1:=strOfNums_size _
 have A:Ev (fun k=>dN.f k (a.1.length:Int) 1) (strOfNums [(a.1.length:Int) % 256]):=⟨2,fun k B=>at_rounds (dN.mono (a.1.length:Int) 1) B (yL (a.1.length:Int))⟩
 have D:(⟨#[67,70,1]⟩:ByteArray)++strOfNums [(a.1.length:Int) % 256]=strOfNums [67,70,1,(a.1.length:Int) % 256]:=by
  rw[show [67,70,1,(a.1.length:Int) % 256]=[67,70,1]++[(a.1.length:Int) % 256] from rfl,nL]
  rfl
 obtain⟨i,v,E,G⟩:=tO a.1 [67,70,1,(a.1.length:Int) % 256] (by simp;omega)
 have J:i.length≤100000:=Nat.le_trans G (by simp;omega)
 have I:=p.2
 rw[← D] at v
 refine⟨strOfNums (i++a.2),Ev.bind w1 (Ev.congr (fun k=>if_neg c) (Ev.bind A (Ev.congr (fun k=>if_pos (by rw[z];omega)) (Ev.bind v (Ev.congr (f:=fun _=>some (strOfNums (i++a.2))) (fun k=>(if_pos (by rw[strOfNums_size,strOfNums_size];omega)).trans (by rw[nL])) (Ev.now _)))))),Ev.bind o (Ev.congr (fun k=>if_neg c) (Ev.bind E (Ev.congr (f:=fun _=>some (strOfNums (i++a.2))) (fun k=>if_pos (by omega)) (Ev.now _))))⟩
def EvB {α:Type} (g:Nat→Option α) (B:α→Prop):Prop:=∃ q,Ev g q∧B q
theorem EvB.step {α:Type} {g f:Nat→Option α} {B:α→Prop} (e:∀ k,g (k+1)=f k) (h:EvB f B):EvB g B:=h.elim fun q h=>⟨q,Ev.step e h.1,h.2⟩
theorem EvB.congr {α:Type} {g f:Nat→Option α} {B:α→Prop} (e:∀ k,g k=f k) (h:EvB f B):EvB g B:=h.elim fun q h=>⟨q,Ev.congr e h.1,h.2⟩
theorem EvB.bind {α β:Type} {g:Nat→Option β} {v:β} {f:Nat→β→Option α} {B:α→Prop} (a:Ev g v) (h:EvB (fun k=>f k v) B):EvB (fun k=>(g k).bind (f k)) B:=h.elim fun q h=>⟨q,Ev.bind a h.1,h.2⟩
theorem EvB.then {α β:Type} {g:Nat→Option β} {f:Nat→β→Option α} {A:β→Prop} {B:α→Prop} (b:EvB g A) (h:∀ v,A v→EvB (fun k=>f k v) B):EvB (fun k=>(g k).bind (f k)) B:=b.elim fun v a=>EvB.bind a.1 (h v a.2)
theorem EvB.now {α:Type} {v:α} {B:α→Prop} (h:B v):EvB (fun _=>some v) B:=⟨v,Ev.now _,h⟩
theorem EvB.ite {α:Type} {c:Prop} [Decidable c] {f g:Nat→Option α} {B:α→Prop} (h1:c→EvB f B) (h2:¬ c→EvB g B):EvB (fun k=>if c then f k else g k) B:=by
 by_cases hc:c
 · exact EvB.congr (fun k=>if_pos hc) (h1 hc)
 · exact EvB.congr (fun k=>if_neg hc) (h2 hc)
theorem EvB.ifp {α:Type} {c:Prop} [Decidable c] {f g:Nat→Option α} {B:α→Prop} (a:c) (h:EvB f B):EvB (fun k=>if c then f k else g k) B:=EvB.congr (fun k=>if_pos a) h
theorem EvB.mono {α:Type} {g:Nat→Option α} {B C:α→Prop} (h:EvB g B) (i:∀ q,B q→C q):EvB g C:=h.elim fun q h=>⟨q,h.1,i q h.2⟩
abbrev Rs (α:Type):=Except (Int×Int) (α×Int)
abbrev Rd (α:Type):=Int→Rs α
abbrev RS:=ByteArray×Int×List ByteArray×Int×Int
def iM {α:Type} (v:α):Rd α:=fun i=>.ok (v,i)
def rb {α β:Type} (m:Rd α) (f:α→Rd β):Rd β:=fun i=>match m i with
 | .ok r=>f r.1 r.2
 | .error x=>.error x
def bd {α:Type} (e:Except (Int×Int) Int) (m:Rd α):Rs α:=match e with
 | .ok i=>m i
 | .error x=>.error x
def pl {α:Type} (e:Rs α):Except (Int×Int) Int:=match e with
 | .ok r=>.ok r.2
 | .error x=>.error x
theorem dR {α β:Type} {e:Except (Int×Int) Int} {m:Rd α} {f:α→Rd β} {v:α} (a:∀ r,bd e m=.ok r→v=r.1):bd e (rb m f)=bd (pl (bd e m)) (f v):=by
 cases e with
 | error x=>rfl
 | ok i =>
  have a:∀ r,m i=.ok r→v=r.1:=a
  show rb m f i=bd (pl (m i)) (f v)
  unfold rb
  cases h:m i with
  | error x=>rfl
  | ok r=>rw[a r h];rfl
theorem kK {α:Type} {e:Except (Int×Int) Int} {v:α}:pl (bd e (iM v))=e:=by
 cases e <;> rfl
theorem mK {α:Type} {e:Except (Int×Int) Int} {v:α}:∀ r,bd e (iM v)=.ok r→v=r.1:=by
 intro r h
 cases e with
 | error x=>cases h
 | ok i=>cases h;rfl
theorem kE {α β:Type} {e:Except (Int×Int) Int} {m:Rd α} {f:α→Rd β} {x:Int×Int} (h:bd e m=.error x):bd e (rb m f)=.error x:=by
 cases e with
 | error y =>
  have h2:(Except.error y:Rs α)=Except.error x:=h
  cases h2;rfl
 | ok i =>
  have h:m i=.error x:=h
  have g:rb m f i=.error x:=by unfold rb;rw[h]
  exact g
theorem zU {α β γ:Type} (a:Rd α) (b:α→Rd β) (c:β→Rd γ) (i:Int):rb a (fun x=>rb (b x) c) i=rb (rb a b) c i:=by
 unfold rb
 cases a i with
 | error x=>rfl
 | ok r=>rfl
theorem zO {α:Type} {m a:Rd α} (h:∀ i,m i=a i) (e:Except (Int×Int) Int):bd e m=bd e a:=by
 cases e with
 | error x=>rfl
 | ok i=>exact h i
def rN {α:Type} (f:Rd α):Nat→Rd (List α)
 | 0=>iM []
 | n+1=>rb f (fun x=>rb (rN f n) (fun l=>iM (x :: l)))
theorem lS {α γ S:Type} {f:Rd α} {L:Nat→List α→S→Nat→Option γ} {Fin:List α→S→Nat→Option γ} {B:γ→Prop} {Q:Except (Int×Int) Int→S→Prop} {M:Nat}
 (t:∀ d a b i,Q (.ok i) b→a.length+(d+1)≤M→(∀ v j,Q (pl (f i)) j→(∀ r,f i=.ok r→v=r.1)→EvB (L d (a++[v]) j) B)→EvB (L (d+1) a b) B)
 (o:∀ d a b x,Q (.error x) b→EvB (Fin a b) B→EvB (L d a b) B)
 (u:∀ a b i,Q (.ok i) b→EvB (Fin a b) B→EvB (L 0 a b) B):∀ (d:Nat) (a:List α) (b:S) (e:Except (Int×Int) Int),Q e b→a.length+d≤M→
 (∀ l j,Q (pl (bd e (rN f d))) j→(∀ r,bd e (rN f d)=.ok r→l=a++r.1)→EvB (Fin l j) B)→EvB (L d a b) B:=by
 intro d
 induction d with
 | zero =>
  intro a b e h w n
  have c:∀ r,bd e (rN f 0)=.ok r→a=a++r.1:=fun r c=>by have:=mK r c;rw[← this,List.append_nil]
  cases e with
  | error x=>exact o 0 a b x h (n a b h c)
  | ok i=>exact u a b i h (n a b h c)
 | succ d ih =>
  intro a b e h w n
  cases e with
  | error x=>exact o (d+1) a b x h (n a b h (fun r c=>by cases c))
  | ok i =>
   refine t d a b i h (by omega) (fun v j y z=>?_)
   have p:bd (.ok i) (rN f (d+1))=bd (pl (f i)) (rb (rN f d) (fun l=>iM (v :: l))):=dR (e:=.ok i) (m:=f) (f:=fun x=>rb (rN f d) (fun l=>iM (x :: l))) z
   refine ih (a++[v]) j (pl (f i)) y (by simp;omega) (fun l s h2 A=>?_)
   refine n l s ?_ ?_
   · rw[p]
     cases hh:bd (pl (f i)) (rN f d) with
     | error x =>
      rw[hh] at h2
      rw[kE hh];exact h2
     | ok r =>
      rw[dR (v:=r.1) (fun D k=>by rw[hh] at k;cases k;rfl),kK];exact h2
   · intro r c
     rw[p] at c
     cases hh:bd (pl (f i)) (rN f d) with
     | error x =>
      rw[kE hh] at c;cases c
     | ok q =>
      rw[dR (v:=q.1) (fun D k=>by rw[hh] at k;cases k;rfl)] at c
      have h3:=mK r c
      rw[A q hh,← h3,List.append_assoc];rfl
section
variable (s:ByteArray) (p:List ByteArray)
def r1:Rd Int:=fun i=>if i < (s.size:Int) then .ok (bt s i,i+1) else .error (4,(s.size:Int))
def rT:Rd ByteArray:=fun i=>match r1 s i with
 | .ok r=>if r.1 < (p.length:Int) then .ok (rdOf ByteArray.empty p r.1,r.2) else .error (5,i)
 | .error x=>.error x
def rF (m c:Int):Rd Int:=fun i=>match r1 s i with
 | .ok r=>if r.1 > m then .error (c,i) else .ok r
 | .error x=>.error x
def r4:Rd Int:=fun i=>if i+4≤(s.size:Int) then .ok (wrap64 (wrap32 (((bt s i*256+bt s (i+1))*256+bt s (i+2))*256+bt s (i+3))),i+4) else .error (4,(s.size:Int))
def rO:Rd Int:=fun i=>match r1 s i with
 | .ok r=>if 1≤r.1∧r.1≤44 then .ok r else .error (3,i)
 | .error x=>.error x
def qV (F:ByteArray) (o:Int):Rd cP:=
 if F.toList=([110]:List UInt8) then rb (r4 s) (fun a=>iM ⟨o,a,⟨#[]⟩,⟨#[]⟩,⟨#[]⟩⟩)
 else if F.toList=([105]:List UInt8)∨F.toList=([116]:List UInt8) then rb (r1 s) (fun a=>iM ⟨o,a,⟨#[]⟩,⟨#[]⟩,⟨#[]⟩⟩)
 else if F.toList=([99]:List UInt8) then rb (rT s p) (fun c=>iM ⟨o,0,c,⟨#[]⟩,⟨#[]⟩⟩)
 else if F.toList=([121]:List UInt8) then rb (rT s p) (fun d=>iM ⟨o,0,⟨#[]⟩,⟨#[]⟩,d⟩)
 else if F.toList=([102]:List UInt8)∨F.toList=([109]:List UInt8) then rb (rT s p) (fun c=>rb (rT s p) (fun n=>rb (rT s p) (fun d=>iM ⟨o,0,c,n,d⟩)))
 else iM ⟨o,0,⟨#[]⟩,⟨#[]⟩,⟨#[]⟩⟩
def rI:Rd cP:=rb (rO s) (fun o=>match dP.f o with
 | some F=>qV s p F o
 | none=>iM ⟨o,0,⟨#[]⟩,⟨#[]⟩,⟨#[]⟩⟩)
def rH:Rd dB:=rb (r1 s) (fun a=>rb (r1 s) (fun b=>rb (r1 s) (fun c=>rb (rT s p) (fun t=>iM ⟨a,b,c,t⟩))))
def rM:Rd dS:=rb (rT s p) (fun n=>rb (rT s p) (fun d=>rb (rF s 7 3) (fun f=>rb (r1 s) (fun a=>rb (r1 s) (fun b=>rb (r1 s) (fun c=>rb (rN (rI s p) c.toNat) (fun e=>rb (r1 s) (fun h=>rb (rN (rH s p) h.toNat) (fun hs=>
 iM ⟨n,d,(Go.bits .and .i64 f 1) != 0,(Go.bits .and .i64 f 2) != 0,(Go.bits .and .i64 f 4) != 0,a,b,e,hs⟩)))))))))
def rX:Rd eM:=rb (rT s p) (fun n=>rb (rT s p) (fun t=>rb (rF s 1 3) (fun f=>iM ⟨n,t,f == 1⟩)))
def rC:Rd sS:=rb (rT s p) (fun n=>rb (rT s p) (fun u=>rb (rF s 3 3) (fun f=>rb (r1 s) (fun a=>rb (rN (rX s p) a.toNat) (fun c=>rb (r1 s) (fun b=>rb (rN (rM s p) b.toNat) (fun d=>
 iM ⟨n,u,(Go.bits .and .i64 f 1) != 0,(Go.bits .and .i64 f 2) != 0,c,d⟩)))))))
end
section
variable (s:ByteArray)
def rW (c:Int):Rd Int:=fun i=>match r1 s i with
 | .ok r=>if r.1=c then .ok r else .error (3,i)
 | .error x=>.error x
def sV:Rd Unit:=rb (rW s 67) (fun _=>rb (rW s 70) (fun _=>rb (rW s 1) (fun _=>iM ())))
def mW (t:ByteArray):Bool:=(cN.f 30000 t).getD false
def jV:Rd ByteArray:=fun i=>match r1 s i with
 | .ok r=>if (s.size:Int) < r.2+r.1 then .error (4,(s.size:Int)) else if mW (s.extract r.2.toNat (r.2+r.1).toNat)=true then .ok (s.extract r.2.toNat (r.2+r.1).toNat,r.2+r.1) else .error (3,i)
 | .error x=>.error x
def nR:Rd sS:=rb (sV s) (fun _=>rb (rF s 200 5) (fun m=>rb (rN (jV s) m.toNat) (fun p=>rC s p)))
end
theorem uF (t:ByteArray) (i:t.size≤20000):Ev (fun k=>cN.f k t) (mW t)∧Ev (fun k=>cI.f k t) (mW t):=by
 have h:∀ k,30000≤k→∃ b,cI.l0 k t 0=some b∧cN.l0 k t (t.size:Int) 0=some b:=fun k a=>pO t (by omega) t.size k k 0 (by omega) (by omega) (by omega) (by omega) (by omega)
 obtain⟨b,d,c⟩:=h 30000 (by omega)
 have e:mW t=b:=by unfold mW cN.f;rw[c];rfl
 rw[e]
 exact⟨⟨30000,fun k a=>at_rounds (g:=fun k=>cN.l0 k t (t.size:Int) 0) (fun k=>cN.mono_l k t (t.size:Int) 0) a c⟩,⟨30000,fun k a=>at_rounds (g:=fun k=>cI.l0 k t 0) (fun k=>cI.mono_l k t 0) a d⟩⟩
def yJ (e:Rs (List ByteArray)):List ByteArray:=match e with
 | .ok r=>r.1
 | .error _=>[]
def oW (s:ByteArray):Rd (List ByteArray):=rb (rF s 200 5) (fun m=>rN (jV s) m.toNat)
theorem sY (s:ByteArray):nR s 0=bd (pl (bd (pl (bd (.ok 0) (sV s))) (oW s))) (rC s (yJ (bd (pl (bd (.ok 0) (sV s))) (oW s)))):=by
 have a:nR s 0=bd (pl (bd (.ok 0) (sV s))) (rb (oW s) (fun p=>rC s p)):=by
  show bd (.ok 0) (nR s)=_
  unfold nR
  rw[dR (v:=()) (fun r _=>rfl)]
  exact zO (fun i=>zU _ _ _ i) _
 rw[a,dR (v:=yJ (bd (pl (bd (.ok 0) (sV s))) (oW s))) (fun r b=>by rw[b];rfl)]
abbrev CO:=ByteArray×ByteArray×Bool×Bool×List eM×List dS×Int×Int
def rA (a c:Int):CO:=(⟨#[]⟩,⟨#[]⟩,false,false,[],[],a,c)
def pB (s:ByteArray) (t:Bool) (o:ByteArray):CO:=match nR s 0 with
 | .error y=>rA y.2 y.1
 | .ok r=>if r.2 < (s.size:Int) then rA r.2 3 else if t=true then (if o=s then (r.1.f0,r.1.f1,r.1.f2,r.1.f3,r.1.f4,r.1.f5,0,0) else rA (s.size:Int) 5) else rA (s.size:Int) 1
def lU (s:ByteArray) (p:List ByteArray) (e:Except (Int×Int) Int) (x:RS):Prop:=match e with
 | .ok i=>0≤i∧i≤(s.size:Int)∧x=(s,i,p,0,0)
 | .error y=>y.1≠0∧∃ j a,x=(s,j,a,y.2,y.1)
def NI (s:ByteArray) (p:List ByteArray) (e:Rs Int) (q:Int×RS):Prop:=lU s p (pl e) q.2∧(∀ r,e=.ok r→q.1=r.1)∧0≤q.1∧q.1≤255
section
variable {s:ByteArray} (hs:s.size≤20000) {p:List ByteArray}
include hs
theorem kS {e:Except (Int×Int) Int} {x:RS} (h:lU s p e x):EvB (fun k=>aQ.f k x.1 x.2.1 x.2.2.1 x.2.2.2.1 x.2.2.2.2) (NI s p (bd e (r1 s))):=by
 cases e with
 | error y =>
  obtain⟨hy,j,p',rfl⟩:=h
  refine EvB.congr (fun k=>if_neg hy) (EvB.step (fun k=>by rw[aQ.j0,if_pos rfl]) ?_)
  refine EvB.bind (v:=(s.size:Int)) (Ev.now _) (EvB.bind (v:=(s,j,p',y.2,y.1)) ?_ (EvB.now ⟨⟨hy,j,p',rfl⟩,fun r a=>(by cases a),Int.le_refl 0,(by show (0:Int)≤255;decide)⟩))
  exact Ev.congr (f:=fun _=>some (s,j,p',y.2,y.1)) (fun k=>by unfold aZ.f;rw[if_neg hy]) (Ev.now _)
 | ok i =>
  obtain⟨h0,h1,rfl⟩:=h
  refine EvB.congr (fun k=>if_pos rfl) (EvB.bind (v:=(s.size:Int)) (Ev.now _) (EvB.step (fun k=>by rw[aQ.j0]) ?_))
  by_cases c:i < (s.size:Int)
  · have w:wrap64 (wrap64 (i+1) - 1)=i:=by unfold wrap64;omega
    have m:wrap64 (i+1)=i+1:=by unfold wrap64;omega
    have b:=bt_range s i
    have n:wrap64 (bt s i)=bt s i:=by unfold wrap64;omega
    have d:bd (.ok i) (r1 s)=.ok (bt s i,i+1):=if_pos c
    rw[d]
    refine EvB.congr (fun k=>by rw[if_neg (by simp;omega),w,m,if_pos h0,if_pos c,n]) (EvB.now ⟨⟨by omega,by omega,rfl⟩,fun r a=>by cases a;rfl,by show 0≤bt s i;omega,by show bt s i≤255;omega⟩)
  · have d:bd (.ok i) (r1 s)=.error (4,(s.size:Int)):=if_neg c
    rw[d]
    refine EvB.congr (fun k=>by rw[if_pos (by simp;omega)]) ?_
    refine EvB.bind (v:=(s.size:Int)) (Ev.now _) (EvB.bind (v:=(s,i,p,(s.size:Int),4)) (Ev.now _) (EvB.now ⟨⟨(by show (4:Int)≠0;decide),i,p,rfl⟩,fun r a=>(by cases a),Int.le_refl 0,(by show (0:Int)≤255;decide)⟩))
theorem kX {e:Except (Int×Int) Int} {x:RS} (h:lU s p e x):EvB (fun k=>bM.f k x.1 x.2.1 x.2.2.1 x.2.2.2.1 x.2.2.2.2) (fun q=>lU s p (pl (bd e (rT s p))) q.2∧∀ r,bd e (rT s p)=.ok r→q.1=r.1):=by
 unfold bM.f
 refine EvB.then (kS hs h) (fun t u=>?_)
 obtain⟨h2,d,o,z⟩:=u
 cases e with
 | error y =>
  obtain⟨hy,j,p',w⟩:=h2
  obtain⟨v,n⟩:=t
  obtain rfl:n=_:=w
  refine EvB.ite (fun _=>?_) (fun c=>EvB.ifp o (EvB.now ⟨⟨hy,j,p',rfl⟩,fun r a=>(by cases a)⟩))
  refine EvB.bind (v:=(s,j,p',y.2,y.1)) (Ev.congr (f:=fun _=>some (s,j,p',y.2,y.1)) (fun k=>by unfold aZ.f;rw[if_neg hy]) (Ev.now _)) (EvB.now ⟨⟨hy,j,p',rfl⟩,fun r a=>(by cases a)⟩)
 | ok i =>
  obtain⟨A,B,rfl⟩:=h
  obtain⟨v,n⟩:=t
  cases b:r1 s i with
  | error y =>
   have m:bd (.ok i) (rT s p)=.error y:=by show rT s p i=_;unfold rT;rw[b]
   have h2:lU s p (.error y) n:=by have h3:=h2;rw[show bd (.ok i) (r1 s)=.error y from b] at h3;exact h3
   rw[m]
   obtain⟨hy,j,p',rfl⟩:=h2
   refine EvB.ite (fun _=>?_) (fun c=>EvB.ifp o (EvB.now ⟨⟨hy,j,p',rfl⟩,fun r a=>(by cases a)⟩))
   refine EvB.bind (v:=(s,j,p',y.2,y.1)) (Ev.congr (f:=fun _=>some (s,j,p',y.2,y.1)) (fun k=>by unfold aZ.f;rw[if_neg hy]) (Ev.now _)) (EvB.now ⟨⟨hy,j,p',rfl⟩,fun r a=>(by cases a)⟩)
  | ok r =>
   have d:=d r b
   have h2:lU s p (.ok r.2) n:=by have h3:=h2;rw[show bd (.ok i) (r1 s)=.ok r from b] at h3;exact h3
   obtain⟨j0,j1,rfl⟩:=h2
   have d:v=r.1:=d
   subst d
   by_cases c:r.1 < (p.length:Int)
   · have m:bd (.ok i) (rT s p)=.ok (rdOf ByteArray.empty p r.1,r.2):=by show rT s p i=_;unfold rT;rw[b];exact if_pos c
     rw[m]
     exact EvB.congr (fun k=>(if_neg (by simp;omega)).trans (if_pos o)) (EvB.now ⟨⟨j0,j1,rfl⟩,fun r a=>by cases a;rfl⟩)
   · have m:bd (.ok i) (rT s p)=.error (5,i):=by show rT s p i=_;unfold rT;rw[b];exact if_neg c
     rw[m]
     refine EvB.congr (fun k=>if_pos (by simp;omega)) (EvB.bind (v:=(s,r.2,p,i,5)) (Ev.now _) (EvB.now ⟨⟨(by show (5:Int)≠0;decide),r.2,p,rfl⟩,fun r a=>(by cases a)⟩))
theorem rB {c:Int} (P:Int→Prop) [DecidablePred P] (m:Rd Int) (w:∀ i,m i=match r1 s i with
 | .ok r=>if P r.1 then .ok r else .error (c,i)
 | .error x=>.error x) (D:c≠0) (L:P 0∨True) {e:Except (Int×Int) Int} {x:RS} (h:lU s p e x) {α:Type} {A B:Nat→Int→RS→Option α} {C:α→Prop}
 (h1:∀ (t:Int×RS),NI s p (bd e m) t→P t.1→EvB (fun k=>A k t.1 t.2) C)
 (h2:∀ (t:Int×RS) (f:RS),NI s p (bd e m) (t.1,f)→0≤t.1→t.1≤255→¬ P t.1→(∀ _:Nat,aZ.f t.2.1 t.2.2.1 t.2.2.2.1 t.2.2.2.2.1 t.2.2.2.2.2 c x.2.1=some f)→(∃ y,bd e m=.error y)→EvB (fun k=>B k t.1 t.2) C):
 EvB (fun k=>(aQ.f k x.1 x.2.1 x.2.2.1 x.2.2.2.1 x.2.2.2.2).bind fun t=>if P t.1 then A k t.1 t.2 else B k t.1 t.2) C:=by
 refine EvB.then (kS hs h) (fun t E=>?_)
 obtain⟨v,z⟩:=t
 obtain⟨n,G,b,d⟩:=E
 cases e with
 | error y =>
  obtain⟨hy,j,p',I⟩:=n
  obtain rfl:z=(s,j,p',y.2,y.1):=I
  refine EvB.ite (fun q=>h1 (v,(s,j,p',y.2,y.1)) ⟨⟨hy,j,p',rfl⟩,fun r a=>(by cases a),b,d⟩ q) (fun q=>h2 (v,(s,j,p',y.2,y.1)) (s,j,p',y.2,y.1) ⟨⟨hy,j,p',rfl⟩,fun r a=>(by cases a),b,d⟩ b d q (fun k=>?_) ?_)
  · show aZ.f s j p' y.2 y.1 c x.2.1=_
    unfold aZ.f;rw[if_neg hy]
  · exact⟨y,rfl⟩
 | ok i =>
  obtain⟨M,O,rfl⟩:=h
  cases o:r1 s i with
  | error y =>
   have u:bd (.ok i) m=.error y:=by show m i=_;rw[w,o]
   have n:lU s p (.error y) z:=by have h3:=n;rw[show bd (.ok i) (r1 s)=.error y from o] at h3;exact h3
   rw[u] at h1 h2
   obtain⟨hy,j,p',rfl⟩:=n
   refine EvB.ite (fun q=>h1 (v,(s,j,p',y.2,y.1)) ⟨⟨hy,j,p',rfl⟩,fun r a=>(by cases a),b,d⟩ q) (fun q=>h2 (v,(s,j,p',y.2,y.1)) (s,j,p',y.2,y.1) ⟨⟨hy,j,p',rfl⟩,fun r a=>(by cases a),b,d⟩ b d q (fun k=>?_) ⟨y,rfl⟩)
   show aZ.f s j p' y.2 y.1 c i=_
   unfold aZ.f;rw[if_neg hy]
  | ok r =>
   have J:v=r.1:=G r o
   have n:lU s p (.ok r.2) z:=by have h3:=n;rw[show bd (.ok i) (r1 s)=.ok r from o] at h3;exact h3
   obtain⟨j0,j1,rfl⟩:=n
   subst J
   refine EvB.ite (fun q=>?_) (fun q=>?_)
   · have u:bd (.ok i) m=.ok r:=by show m i=_;rw[w,o];exact if_pos q
     exact h1 (r.1,(s,r.2,p,0,0)) (by rw[u];exact⟨⟨j0,j1,rfl⟩,fun K a=>(by cases a;rfl),b,d⟩) q
   · have u:bd (.ok i) m=.error (c,i):=by show m i=_;rw[w,o];exact if_neg q
     exact h2 (r.1,(s,r.2,p,0,0)) (s,r.2,p,i,c) (by rw[u];exact⟨⟨D,r.2,p,rfl⟩,fun K a=>(by cases a),b,d⟩) b d q (fun k=>by show aZ.f s r.2 p 0 0 c i=_;unfold aZ.f;rw[if_pos rfl]) ⟨_,u⟩
theorem qT (b m:Int) (j:0≤b) (d:shl .i64 1 b=m+1) {e:Except (Int×Int) Int} {x:RS} (h:lU s p e x):EvB (fun k=>dY.f k x.1 x.2.1 x.2.2.1 x.2.2.2.1 x.2.2.2.2 b) (NI s p (bd e (rF s m 3))):=by
 unfold dY.f
 refine EvB.congr (f:=fun k=>(aQ.f k x.1 x.2.1 x.2.2.1 x.2.2.2.1 x.2.2.2.2).bind fun t=>if t.1≤m then some t else ((aZ.f t.2.1 t.2.2.1 t.2.2.2.1 t.2.2.2.2.1 t.2.2.2.2.2 3 x.2.1).bind fun u=>some (t.1,u))) (fun k=>?_) ?_
 · congr 1;funext t
   rw[if_pos j,d]
   by_cases c:t.1≤m
   · rw[if_neg (by omega),if_pos c]
   · rw[if_pos (by omega),if_neg c]
 · refine rB hs (P:=fun v=>v≤m) (c:=3) (rF s m 3) (fun i=>?_) (by decide) (.inr trivial) h (A:=fun k v t=>some (v,t)) (B:=fun k v t=>((aZ.f t.1 t.2.1 t.2.2.1 t.2.2.2.1 t.2.2.2.2 3 x.2.1).bind fun u=>some (v,u))) (fun t a q=>EvB.now a) (fun t f a _ _ q n _=>?_)
   · unfold rF
     cases r1 s i with
     | error y=>rfl
     | ok r =>
      simp only[]
      by_cases c:r.1 > m
      · rw[if_pos c,if_neg (by omega)]
      · rw[if_neg c,if_pos (by omega)]
   · exact EvB.bind (v:=f) (Ev.congr (f:=fun _=>some f) n (Ev.now _)) (EvB.now a)
omit hs in
theorem zT (i:Int):r4 s i=rb (r1 s) (fun a=>rb (r1 s) (fun b=>rb (r1 s) (fun c=>rb (r1 s) (fun d=>iM (wrap64 (wrap32 (((a*256+b)*256+c)*256+d))))))) i:=by
 unfold r4 rb r1 iM
 by_cases c0:i < (s.size:Int)
 · simp only[if_pos c0]
   by_cases c1:i+1 < (s.size:Int)
   · simp only[if_pos c1]
     by_cases c2:i+1+1 < (s.size:Int)
     · simp only[if_pos c2]
       by_cases c3:i+1+1+1 < (s.size:Int)
       · simp only[if_pos c3]
         rw[if_pos (by omega),show i+1+1=i+2 by omega,show i+2+1=i+3 by omega,show i+3+1=i+4 by omega]
       · simp only[if_neg c3]
         rw[if_neg (by omega)]
     · simp only[if_neg c2]
       rw[if_neg (by omega)]
   · simp only[if_neg c1]
     rw[if_neg (by omega)]
 · simp only[if_neg c0]
   rw[if_neg (by omega)]
omit hs in
theorem vN {α:Type} {m a:Rd α} (h:∀ i,m i=a i) (e:Except (Int×Int) Int):bd e m=bd e a:=by
 cases e with
 | error x=>rfl
 | ok i=>exact h i
def II (s:ByteArray) (p:List ByteArray) (e:Rs cP) (q:Int×Int×ByteArray×ByteArray×ByteArray×RS):Prop:=lU s p (pl e) q.2.2.2.2.2∧∀ r,e=.ok r→(⟨q.1,q.2.1,q.2.2.1,q.2.2.2.1,q.2.2.2.2.1⟩:cP)=r.1
omit hs in
theorem nW {e:Except (Int×Int) Int} {x:RS} (h:lU s p e x) {o a:Int} {c n d:ByteArray} {v:cP} (j:e.isOk=true→(⟨o,a,c,n,d⟩:cP)=v):II s p (bd e (iM v)) (o,a,c,n,d,x):=by
 refine⟨by rw[kK];exact h,fun r b=>?_⟩
 cases e with
 | error x=>cases b
 | ok i=>cases b;exact j rfl
theorem zA {e:Except (Int×Int) Int} {x:RS} (h:lU s p e x) (o:Int) (c n d:ByteArray):
 EvB (fun k=>aW.l0 k 0 x.1 x.2.1 x.2.2.1 x.2.2.2.1 x.2.2.2.2 o 0 c n d) (II s p (bd e (rb (r4 s) (fun a=>iM ⟨o,a,c,n,d⟩)))):=by
 refine EvB.step (fun k=>by rw[aW.l0,if_pos (by decide)]) (EvB.then (kS hs h) (fun b h1=>?_))
 refine EvB.step (fun k=>by rw[aW.l0,if_pos (by unfold wrap64;omega)]) (EvB.then (kS hs h1.1) (fun i h2=>?_))
 refine EvB.step (fun k=>by rw[aW.l0,if_pos (by unfold wrap64;omega)]) (EvB.then (kS hs h2.1) (fun j h3=>?_))
 refine EvB.step (fun k=>by rw[aW.l0,if_pos (by unfold wrap64;omega)]) (EvB.then (kS hs h3.1) (fun m h4=>?_))
 refine EvB.step (f:=fun _=>_) (fun k=>by rw[aW.l0,if_neg (by unfold wrap64;omega)]) (EvB.now ?_)
 obtain⟨a1,u,I,a4⟩:=h1
 obtain⟨J,y,b3,b4⟩:=h2
 obtain⟨c1,c2,c3,c4⟩:=h3
 obtain⟨z,A,K,L⟩:=h4
 have q:bd e (r4 s)=bd (pl (bd (pl (bd (pl (bd (pl (bd e (r1 s))) (r1 s))) (r1 s))) (r1 s))) (iM (wrap64 (wrap32 (((b.1*256+i.1)*256+j.1)*256+m.1)))):=by
  rw[vN (zT (s:=s)),dR u,dR y,dR c2,dR A]
 have w:wrap64 (wrap32 (wrap64 (wrap64 (wrap64 (wrap64 (wrap64 (wrap64 (wrap64 (wrap64 (0*256)+b.1)*256)+i.1)*256)+j.1)*256)+m.1) % 4294967296))=wrap64 (wrap32 (((b.1*256+i.1)*256+j.1)*256+m.1)):=by
  have B:wrap64 (wrap64 (0*256)+b.1)=b.1:=by unfold wrap64;omega
  have D:wrap64 (wrap64 (b.1*256)+i.1)=b.1*256+i.1:=by unfold wrap64;omega
  have E:wrap64 (wrap64 ((b.1*256+i.1)*256)+j.1)=(b.1*256+i.1)*256+j.1:=by unfold wrap64;omega
  have G:wrap64 (wrap64 (((b.1*256+i.1)*256+j.1)*256)+m.1)=((b.1*256+i.1)*256+j.1)*256+m.1:=by unfold wrap64;omega
  rw[B,D,E,G]
  congr 2
  omega
 rw[dR (v:=wrap64 (wrap32 (((b.1*256+i.1)*256+j.1)*256+m.1))) (fun r t=>by rw[q] at t;exact mK r t),q,kK]
 refine nW z (fun _=>?_)
 rw[w]
theorem tY {e:Except (Int×Int) Int} {x:RS} (h:lU s p e x) (o:Int) (b:Bool):EvB (fun k=>aW.j2 k b x.1 x.2.1 x.2.2.1 x.2.2.2.1 x.2.2.2.2 o 0 (⟨#[]⟩:ByteArray) (⟨#[]⟩:ByteArray) (⟨#[]⟩:ByteArray))
 (II s p (bd e (if b=true then rb (rT s p) (fun c=>rb (rT s p) (fun n=>rb (rT s p) (fun d=>iM ⟨o,0,c,n,d⟩))) else iM ⟨o,0,⟨#[]⟩,⟨#[]⟩,⟨#[]⟩⟩))):=by
 refine EvB.step (fun k=>by rw[aW.j2]) ?_
 cases b with
 | false=>exact EvB.congr (f:=fun _=>_) (fun k=>if_neg (by simp)) (EvB.now (by rw[if_neg (by simp)];exact nW h (fun _=>rfl)))
 | true =>
  refine EvB.congr (fun k=>if_pos rfl) (EvB.then (kX hs h) (fun a h1=>EvB.then (kX hs h1.1) (fun i h2=>EvB.then (kX hs h2.1) (fun j h3=>EvB.now ?_))))
  rw[if_pos rfl,dR h1.2,dR h2.2,dR h3.2]
  exact nW h3.1 (fun _=>rfl)
theorem tX {e:Except (Int×Int) Int} {x:RS} (h:lU s p e x) (o:Int) (F:ByteArray) (b:Bool) (m:¬ F.toList=([110]:List UInt8)) (i:b=true↔(F.toList=([105]:List UInt8)∨F.toList=([116]:List UInt8))):
 EvB (fun k=>aW.j1 k F b x.1 x.2.1 x.2.2.1 x.2.2.2.1 x.2.2.2.2 o 0 (⟨#[]⟩:ByteArray) (⟨#[]⟩:ByteArray) (⟨#[]⟩:ByteArray)) (II s p (bd e (qV s p F o))):=by
 refine EvB.step (fun k=>by rw[aW.j1]) ?_
 unfold qV
 rw[if_neg m]
 cases b with
 | true =>
  rw[if_pos (i.mp rfl)]
  refine EvB.congr (fun k=>if_pos rfl) (EvB.then (kS hs h) (fun j h1=>EvB.now ?_))
  rw[dR h1.2.1]
  exact nW h1.1 (fun _=>rfl)
 | false =>
  rw[if_neg (fun c=>by have:=i.mpr c;simp at this)]
  refine EvB.congr (fun k=>if_neg (by simp)) (EvB.ite (fun c=>?_) (fun c=>EvB.ite (fun a=>?_) (fun a=>EvB.ite (fun d=>?_) (fun d=>?_))))
  · rw[if_pos c]
    refine EvB.then (kX hs h) (fun j h1=>EvB.now ?_)
    rw[dR h1.2]
    exact nW h1.1 (fun _=>rfl)
  · rw[if_neg c,if_pos a]
    refine EvB.then (kX hs h) (fun j h1=>EvB.now ?_)
    rw[dR h1.2]
    exact nW h1.1 (fun _=>rfl)
  · rw[if_neg c,if_neg a]
    have g:=tY hs h o (F.toList == ([102]:List UInt8))
    rw[if_pos (by simpa using d)] at g
    rw[if_pos (.inl d)];exact g
  · rw[if_neg c,if_neg a]
    have g:=tY hs h o (F.toList == ([109]:List UInt8))
    by_cases c4:F.toList=([109]:List UInt8)
    · rw[if_pos (by simpa using c4)] at g
      rw[if_pos (.inr c4)];exact g
    · rw[if_neg (by simpa using c4)] at g
      rw[if_neg (fun q=>q.elim d c4)];exact g
theorem zQ {e:Except (Int×Int) Int} {x:RS} (h:lU s p e x):EvB (fun k=>aW.f k x.1 x.2.1 x.2.2.1 x.2.2.2.1 x.2.2.2.2) (II s p (bd e (rI s p))):=by
 unfold aW.f
 refine EvB.congr (f:=fun k=>(aQ.f k x.1 x.2.1 x.2.2.1 x.2.2.2.1 x.2.2.2.2).bind fun t=>if 1≤t.1∧t.1≤44 then ((dP.f t.1).bind fun F=>(if F.toList=([110]:List UInt8) then (aW.l0 k 0 t.2.1 t.2.2.1 t.2.2.2.1 t.2.2.2.2.1 t.2.2.2.2.2 t.1 0 (⟨#[]⟩:ByteArray) (⟨#[]⟩:ByteArray) (⟨#[]⟩:ByteArray)) else (if F.toList=([105]:List UInt8) then (aW.j1 k F (F.toList == ([105]:List UInt8)) t.2.1 t.2.2.1 t.2.2.2.1 t.2.2.2.2.1 t.2.2.2.2.2 t.1 0 (⟨#[]⟩:ByteArray) (⟨#[]⟩:ByteArray) (⟨#[]⟩:ByteArray)) else (aW.j1 k F (F.toList == ([116]:List UInt8)) t.2.1 t.2.2.1 t.2.2.2.1 t.2.2.2.2.1 t.2.2.2.2.2 t.1 0 (⟨#[]⟩:ByteArray) (⟨#[]⟩:ByteArray) (⟨#[]⟩:ByteArray))))) else ((aZ.f t.2.1 t.2.2.1 t.2.2.2.1 t.2.2.2.2.1 t.2.2.2.2.2 3 x.2.1).bind fun u=>some (t.1,0,(⟨#[]⟩:ByteArray),(⟨#[]⟩:ByteArray),(⟨#[]⟩:ByteArray),u))) (fun k=>?_) ?_
 · congr 1;funext t
   have e:jE.f t.1=some (decide (1≤t.1∧t.1≤44)):=by
    unfold jE.f cE.f
    by_cases c:t.1 ≥ 1
    · rw[if_pos c]
      show some _=some _
      congr 1;simp;omega
    · rw[if_neg c]
      show some _=some _
      congr 1;simp;omega
   rw[e,Option.bind_some]
   by_cases c:1≤t.1∧t.1≤44
   · rw[if_pos c,if_pos (by simpa using c)]
   · rw[if_neg c,if_neg (by simpa using c)]
 · refine rB hs (P:=fun v=>1≤v∧v≤44) (c:=3) (rO s) (fun i=>rfl) (by decide) (.inr trivial) h (A:=fun k v t=>((dP.f v).bind fun F=>(if F.toList=([110]:List UInt8) then (aW.l0 k 0 t.1 t.2.1 t.2.2.1 t.2.2.2.1 t.2.2.2.2 v 0 (⟨#[]⟩:ByteArray) (⟨#[]⟩:ByteArray) (⟨#[]⟩:ByteArray)) else (if F.toList=([105]:List UInt8) then (aW.j1 k F (F.toList == ([105]:List UInt8)) t.1 t.2.1 t.2.2.1 t.2.2.2.1 t.2.2.2.2 v 0 (⟨#[]⟩:ByteArray) (⟨#[]⟩:ByteArray) (⟨#[]⟩:ByteArray)) else (aW.j1 k F (F.toList == ([116]:List UInt8)) t.1 t.2.1 t.2.2.1 t.2.2.2.1 t.2.2.2.2 v 0 (⟨#[]⟩:ByteArray) (⟨#[]⟩:ByteArray) (⟨#[]⟩:ByteArray))))))
    (B:=fun k v t=>((aZ.f t.1 t.2.1 t.2.2.1 t.2.2.2.1 t.2.2.2.2 3 x.2.1).bind fun u=>some (v,0,(⟨#[]⟩:ByteArray),(⟨#[]⟩:ByteArray),(⟨#[]⟩:ByteArray),u))) (fun t a q=>?_) (fun t f a n o q m b=>?_)
   · obtain⟨F,f1,_⟩:=lD t.1
     refine EvB.bind (v:=F) (Ev.congr (f:=fun _=>some F) (fun _=>f1) (Ev.now _)) ?_
     unfold rI
     rw[dR a.2.1]
     simp only[f1]
     refine EvB.ite (fun c=>?_) (fun c=>EvB.ite (fun d=>?_) (fun d=>?_))
     · unfold qV;rw[if_pos c];exact zA hs a.1 _ _ _ _
     · exact tX hs a.1 _ _ _ c (by simp[d])
     · exact tX hs a.1 _ _ _ c (by simp[d])
   · refine EvB.bind (v:=f) (Ev.congr (f:=fun _=>some f) m (Ev.now _)) (EvB.now ?_)
     obtain⟨y,b⟩:=b
     refine⟨?_,fun r j=>?_⟩
     · have h3:=a.1;rw[b] at h3
       unfold rI;rw[kE b];exact h3
     · unfold rI at j;rw[kE b] at j;cases j
theorem yW (n e:ByteArray) (a b c:Bool) (y z:Int) (o:List cP) {B:_→Prop} (d:Nat) (m:List dB) (x:RS) (t:Except (Int×Int) Int) (h:lU s p t x) (hd:m.length+d≤255)
 (I:∀ l x',lU s p (pl (bd t (rN (rH s p) d))) x'→(∀ r,bd t (rN (rH s p) d)=.ok r→l=m++r.1)→B (n,e,a,b,c,y,z,o,l,x')):
 EvB (fun k=>aH.l1 k (d:Int) x.1 x.2.1 x.2.2.1 x.2.2.2.1 x.2.2.2.2 n e a b c y z o m) B:=by
 refine lS (L:=fun d m x k=>aH.l1 k (d:Int) x.1 x.2.1 x.2.2.1 x.2.2.2.1 x.2.2.2.2 n e a b c y z o m) (Fin:=fun m x _=>some (n,e,a,b,c,y,z,o,m,x)) (Q:=lU s p) (M:=255) (f:=rH s p)
  (fun d m x i h hd J=>?_) (fun d m x U h v=>?_) (fun m x i h v=>?_) d m x t h hd (fun l x' h1 h2=>EvB.now (I l x' h1 h2))
 · have u:x.2.2.2.2=0:=by obtain⟨_,_,rfl⟩:=h;rfl
   refine EvB.step (fun k=>by rw[aH.l1,if_pos (by omega),u]) (EvB.step (fun k=>by rw[aH.j3,if_pos (by decide),← u]) ?_)
   refine EvB.then (kS hs h) (fun K h1=>EvB.then (kS hs h1.1) (fun O h2=>EvB.then (kS hs h2.1) (fun P h3=>EvB.then (kX hs h3.1) (fun T h4=>EvB.ifp (by omega) ?_))))
   have w:wrap64 (((d+1:Nat):Int) - 1)=(d:Int):=by unfold wrap64;omega
   rw[w]
   have D:rH s p i=bd (pl (bd (pl (bd (pl (bd (pl (bd (.ok i) (r1 s))) (r1 s))) (r1 s))) (rT s p))) (iM (⟨K.1,O.1,P.1,T.1⟩:dB)):=by
    show bd (.ok i) (rH s p)=_
    unfold rH
    rw[dR h1.2.1,dR h2.2.1,dR h3.2.1,dR h4.2]
   exact J _ _ (by rw[D,kK];exact h4.1) (fun r E=>by rw[D] at E;exact mK r E)
 · obtain⟨q,A,G⟩:=v
   have u:(x.2.2.2.2 == 0)=false:=by obtain⟨hy,j,p',rfl⟩:=h;exact beq_eq_false_iff_ne.mpr hy
   refine⟨q,?_,G⟩
   by_cases c0:(d:Int) > 0
   · exact Ev.step (fun k=>by rw[aH.l1,if_pos c0,u]) (Ev.step (fun k=>by rw[aH.j3,if_neg (by simp)]) A)
   · exact Ev.step (fun k=>by rw[aH.l1,if_neg c0]) (Ev.step (fun k=>by rw[aH.j3,if_neg (by simp)]) A)
 · exact EvB.step (fun k=>by rw[aH.l1,if_neg (by omega)]) (EvB.step (fun k=>by rw[aH.j3,if_neg (by simp)]) v)
def MI (s:ByteArray) (p:List ByteArray) (e:Rs dS) (q:ByteArray×ByteArray×Bool×Bool×Bool×Int×Int×List cP×List dB×RS):Prop:=lU s p (pl e) q.2.2.2.2.2.2.2.2.2∧∀ r,e=.ok r→(⟨q.1,q.2.1,q.2.2.1,q.2.2.2.1,q.2.2.2.2.1,q.2.2.2.2.2.1,q.2.2.2.2.2.2.1,q.2.2.2.2.2.2.2.1,q.2.2.2.2.2.2.2.2.1⟩:dS)=r.1
omit hs in
theorem zF {e:Except (Int×Int) Int} {x:RS} (h:lU s p e x) {n u:ByteArray} {a b c:Bool} {y z:Int} {d:List cP} {j:List dB} {v:dS} (m:(⟨n,u,a,b,c,y,z,d,j⟩:dS)=v):MI s p (bd e (iM v)) (n,u,a,b,c,y,z,d,j,x):=by
 refine⟨by rw[kK];exact h,fun r k=>?_⟩
 cases e with
 | error x=>cases k
 | ok i=>cases k;exact m
theorem yP (n e:ByteArray) (a b c:Bool) (y z:Int) {B:_→Prop} (d:Nat) (m:List cP) (x:RS) (o:Except (Int×Int) Int) (h:lU s p o x) (hd:m.length+d≤255)
 (u:∀ l x',lU s p (pl (bd o (rN (rI s p) d))) x'→(∀ r,bd o (rN (rI s p) d)=.ok r→l=m++r.1)→EvB (fun k=>aH.j1 k x'.1 x'.2.1 x'.2.2.1 x'.2.2.2.1 x'.2.2.2.2 n e a b c y z l) B):
 EvB (fun k=>aH.l0 k (d:Int) x.1 x.2.1 x.2.2.1 x.2.2.2.1 x.2.2.2.2 n e a b c y z m) B:=by
 refine lS (L:=fun d m x k=>aH.l0 k (d:Int) x.1 x.2.1 x.2.2.1 x.2.2.2.1 x.2.2.2.2 n e a b c y z m) (Fin:=fun l x' k=>aH.j1 k x'.1 x'.2.1 x'.2.2.1 x'.2.2.2.1 x'.2.2.2.2 n e a b c y z l) (Q:=lU s p) (M:=255) (f:=rI s p)
  (fun d m x i h hd v=>?_) (fun d m x A h q=>?_) (fun m x i h q=>?_) d m x o h hd u
 · have t:x.2.2.2.2=0:=by obtain⟨_,_,rfl⟩:=h;rfl
   refine EvB.step (fun k=>by rw[aH.l0,if_pos (by omega),if_pos t]) ?_
   refine EvB.then (zQ hs h) (fun D h1=>EvB.ifp (by omega) ?_)
   have w:wrap64 (((d+1:Nat):Int) - 1)=(d:Int):=by unfold wrap64;omega
   rw[w]
   exact v _ _ h1.1 h1.2
 · have t:¬ x.2.2.2.2=0:=by obtain⟨hy,j,p',rfl⟩:=h;exact hy
   by_cases c0:(d:Int) > 0
   · exact EvB.step (fun k=>by rw[aH.l0,if_pos c0,if_neg t]) q
   · exact EvB.step (fun k=>by rw[aH.l0,if_neg c0]) q
 · exact EvB.step (fun k=>by rw[aH.l0,if_neg (by omega)]) q
theorem zD {e:Except (Int×Int) Int} {x:RS} (h:lU s p e x):EvB (fun k=>aH.f k x.1 x.2.1 x.2.2.1 x.2.2.2.1 x.2.2.2.2) (MI s p (bd e (rM s p))):=by
 unfold aH.f
 refine EvB.then (kX hs h) (fun y h1=>EvB.then (kX hs h1.1) (fun z h2=>EvB.then (qT hs 3 7 (by decide) (by decide +kernel) h2.1) (fun A h3=>EvB.then (kS hs h3.1) (fun B h4=>EvB.then (kS hs h4.1) (fun D h5=>EvB.then (kS hs h5.1) (fun b h6=>?_))))))
 obtain⟨i,j,E,G⟩:=h6
 have m:b.1=((b.1.toNat:Nat):Int):=by omega
 rw[m]
 refine yP hs _ _ _ _ _ _ _ _ _ _ _ i (by simp;omega) (fun d I h7 n=>EvB.step (fun k=>by rw[aH.j1]) (EvB.then (kS hs h7) (fun c h8=>?_)))
 obtain⟨o,q,J,K⟩:=h8
 have t:c.1=((c.1.toNat:Nat):Int):=by omega
 rw[t]
 refine yW hs _ _ _ _ _ _ _ _ _ _ _ _ o (by simp;omega) (fun u L h9 w=>?_)
 unfold rM
 rw[dR h1.2,dR h2.2,dR h3.2.1,dR h4.2.1,dR h5.2.1,dR j,dR (v:=d) (fun r a=>by rw[n r a,List.nil_append]),dR q,dR (v:=u) (fun r a=>by rw[w r a,List.nil_append])]
 exact zF h9 rfl
def CI (s:ByteArray) (p:List ByteArray) (e:Rs sS) (q:ByteArray×ByteArray×Bool×Bool×List eM×List dS×RS):Prop:=lU s p (pl e) q.2.2.2.2.2.2∧∀ r,e=.ok r→(⟨q.1,q.2.1,q.2.2.1,q.2.2.2.1,q.2.2.2.2.1,q.2.2.2.2.2.1⟩:sS)=r.1
omit hs in
theorem yO {e:Except (Int×Int) Int} {x:RS} (h:lU s p e x) {n u:ByteArray} {a b:Bool} {c:List eM} {d:List dS} {v:sS} (k:(⟨n,u,a,b,c,d⟩:sS)=v):CI s p (bd e (iM v)) (n,u,a,b,c,d,x):=by
 refine⟨by rw[kK];exact h,fun r j=>?_⟩
 cases e with
 | error x=>cases j
 | ok i=>cases j;exact k
theorem xO (n u:ByteArray) (a b:Bool) (e:List eM) {B:_→Prop} (d:Nat) (c:List dS) (x:RS) (m:Except (Int×Int) Int) (h:lU s p m x) (hd:c.length+d≤255)
 (z:∀ l x',lU s p (pl (bd m (rN (rM s p) d))) x'→(∀ r,bd m (rN (rM s p) d)=.ok r→l=c++r.1)→B (n,u,a,b,e,l,x')):
 EvB (fun k=>aM.l1 k (d:Int) x.1 x.2.1 x.2.2.1 x.2.2.2.1 x.2.2.2.2 n u a b e c) B:=by
 refine lS (L:=fun d c x k=>aM.l1 k (d:Int) x.1 x.2.1 x.2.2.1 x.2.2.2.1 x.2.2.2.2 n u a b e c) (Fin:=fun c x _=>some (n,u,a,b,e,c,x)) (Q:=lU s p) (M:=255) (f:=rM s p)
  (fun d c x i h hd A=>?_) (fun d c x D h o=>?_) (fun c x i h o=>?_) d c x m h hd (fun l x' h1 h2=>EvB.now (z l x' h1 h2))
 · have t:x.2.2.2.2=0:=by obtain⟨_,_,rfl⟩:=h;rfl
   refine EvB.step (fun k=>by rw[aM.l1,if_pos (by omega),if_pos t]) ?_
   refine EvB.then (zD hs h) (fun E h1=>EvB.ifp (by omega) ?_)
   have w:wrap64 (((d+1:Nat):Int) - 1)=(d:Int):=by unfold wrap64;omega
   rw[w]
   exact A _ _ h1.1 h1.2
 · obtain⟨q,v,y⟩:=o
   have t:¬ x.2.2.2.2=0:=by obtain⟨hy,j,p',rfl⟩:=h;exact hy
   refine⟨q,?_,y⟩
   by_cases c0:(d:Int) > 0
   · exact Ev.step (fun k=>by rw[aM.l1,if_pos c0,if_neg t]) v
   · exact Ev.step (fun k=>by rw[aM.l1,if_neg c0]) v
 · exact EvB.step (fun k=>by rw[aM.l1,if_neg (by omega)]) o
theorem vQ (n u:ByteArray) (a b:Bool) {B:_→Prop} (d:Nat) (c:List eM) (x:RS) (e:Except (Int×Int) Int) (h:lU s p e x) (hd:c.length+d≤255)
 (y:∀ l x',lU s p (pl (bd e (rN (rX s p) d))) x'→(∀ r,bd e (rN (rX s p) d)=.ok r→l=c++r.1)→EvB (fun k=>(aQ.f k x'.1 x'.2.1 x'.2.2.1 x'.2.2.2.1 x'.2.2.2.2).bind fun t=>aM.l1 k t.1 t.2.1 t.2.2.1 t.2.2.2.1 t.2.2.2.2.1 t.2.2.2.2.2 n u a b l ([]:List dS)) B):
 EvB (fun k=>aM.l0 k (d:Int) x.1 x.2.1 x.2.2.1 x.2.2.2.1 x.2.2.2.2 n u a b c) B:=by
 refine lS (L:=fun d c x k=>aM.l0 k (d:Int) x.1 x.2.1 x.2.2.1 x.2.2.2.1 x.2.2.2.2 n u a b c) (Fin:=fun l x' k=>(aQ.f k x'.1 x'.2.1 x'.2.2.1 x'.2.2.2.1 x'.2.2.2.2).bind fun t=>aM.l1 k t.1 t.2.1 t.2.2.1 t.2.2.2.1 t.2.2.2.2.1 t.2.2.2.2.2 n u a b l ([]:List dS)) (Q:=lU s p) (M:=255) (f:=rX s p)
  (fun d c x i h hd z=>?_) (fun d c x G h m=>?_) (fun c x i h m=>?_) d c x e h hd y
 · have o:x.2.2.2.2=0:=by obtain⟨_,_,rfl⟩:=h;rfl
   refine EvB.step (fun k=>by rw[aM.l0,if_pos (by omega),o]) (EvB.step (fun k=>by rw[aM.j1,if_pos (by decide),← o]) ?_)
   refine EvB.then (kX hs h) (fun A h1=>EvB.then (kX hs h1.1) (fun D h2=>EvB.then (qT hs 1 1 (by decide) (by decide +kernel) h2.1) (fun E h3=>EvB.ifp (by omega) ?_)))
   have w:wrap64 (((d+1:Nat):Int) - 1)=(d:Int):=by unfold wrap64;omega
   rw[w]
   have q:rX s p i=bd (pl (bd (pl (bd (pl (bd (.ok i) (rT s p))) (rT s p))) (rF s 1 3))) (iM (⟨A.1,D.1,E.1 == 1⟩:eM)):=by
    show bd (.ok i) (rX s p)=_
    unfold rX
    rw[dR h1.2,dR h2.2,dR h3.2.1]
   exact z _ _ (by rw[q,kK];exact h3.1) (fun r v=>by rw[q] at v;exact mK r v)
 · have o:(x.2.2.2.2 == 0)=false:=by obtain⟨hy,j,p',rfl⟩:=h;exact beq_eq_false_iff_ne.mpr hy
   by_cases c0:(d:Int) > 0
   · exact EvB.step (fun k=>by rw[aM.l0,if_pos c0,o]) (EvB.step (fun k=>by rw[aM.j1,if_neg (by simp)]) m)
   · exact EvB.step (fun k=>by rw[aM.l0,if_neg c0]) (EvB.step (fun k=>by rw[aM.j1,if_neg (by simp)]) m)
 · exact EvB.step (fun k=>by rw[aM.l0,if_neg (by omega)]) (EvB.step (fun k=>by rw[aM.j1,if_neg (by simp)]) m)
theorem xC {e:Except (Int×Int) Int} {x:RS} (h:lU s p e x):EvB (fun k=>aM.f k x.1 x.2.1 x.2.2.1 x.2.2.2.1 x.2.2.2.2) (CI s p (bd e (rC s p))):=by
 unfold aM.f
 refine EvB.then (kX hs h) (fun w h1=>EvB.then (kX hs h1.1) (fun y h2=>EvB.then (qT hs 2 3 (by decide) (by decide +kernel) h2.1) (fun z h3=>EvB.then (kS hs h3.1) (fun b h4=>?_))))
 obtain⟨d,i,a4,b4⟩:=h4
 have q4:b.1=((b.1.toNat:Nat):Int):=by omega
 rw[q4]
 refine vQ hs _ _ _ _ _ _ _ _ d (by simp;omega) (fun j A h7 m=>EvB.then (kS hs h7) (fun c h8=>?_))
 obtain⟨n,o,B,D⟩:=h8
 have q:c.1=((c.1.toNat:Nat):Int):=by omega
 rw[q]
 refine xO hs _ _ _ _ _ _ _ _ _ n (by simp;omega) (fun t E h9 u=>?_)
 unfold rC
 rw[dR h1.2,dR h2.2,dR h3.2.1,dR i,dR (v:=j) (fun r a=>by rw[m r a,List.nil_append]),dR o,dR (v:=t) (fun r a=>by rw[u r a,List.nil_append])]
 exact yO h9 rfl
end
def zZ (s:ByteArray) (e:Rs (List ByteArray)) (x:RS):Prop:=match e with
 | .ok r=>0≤r.2∧r.2≤(s.size:Int)∧x=(s,r.2,r.1,0,0)
 | .error y=>y.1≠0∧∃ j a,x=(s,j,a,y.2,y.1)
section
variable {s:ByteArray} (hs:s.size≤20000)
include hs
theorem qU (c:Int) (y:List Int) (j:Nat) (p:j < 3) (r:y.length=3) (d:rd y (j:Int)=c) {e:Except (Int×Int) Int} {x:RS} (h:lU s [] e x) {B:RS→Prop}
 (m:∀ t,NI s [] (bd e (rW s c)) t→EvB (fun k=>cM.l0 k y 3 ((j+1:Nat):Int) t.2.1 t.2.2.1 t.2.2.2.1 t.2.2.2.2.1 t.2.2.2.2.2) B) (n:∀ f y,bd e (rW s c)=.error y→lU s [] (.error y) f→B f):
 EvB (fun k=>cM.l0 k y 3 (j:Int) x.1 x.2.1 x.2.2.1 x.2.2.2.1 x.2.2.2.2) B:=by
 have w:wrap64 ((j:Int)+1)=((j+1:Nat):Int):=by unfold wrap64;omega
 refine EvB.step (fun k=>by rw[cM.l0,if_pos (by omega),if_pos (by omega),if_pos (by omega),d,w]) ?_
 refine rB hs (P:=fun v=>v=c) (c:=3) (rW s c) (fun i=>rfl) (by decide) (.inr trivial) h (A:=fun k v t=>cM.l0 k y 3 ((j+1:Nat):Int) t.1 t.2.1 t.2.2.1 t.2.2.2.1 t.2.2.2.2)
  (B:=fun k v t=>((aZ.f t.1 t.2.1 t.2.2.1 t.2.2.2.1 t.2.2.2.2 3 x.2.1).bind fun u=>some u)) (fun t b q=>m t b) (fun t f b _ _ q o a=>?_)
 obtain⟨z,a⟩:=a
 refine EvB.bind (v:=f) (Ev.congr (f:=fun _=>some f) o (Ev.now _)) (EvB.now (n f z a ?_))
 have h1:=b.1
 rw[a] at h1;exact h1
theorem yY:EvB (fun k=>cM.f k s 0 [] 0 0) (lU s [] (pl (bd (.ok 0) (sV s)))):=by
 unfold cM.f
 refine EvB.bind (v:=[67,70,1]) (Ev.now _) ?_
 have h0:lU s [] (.ok 0) (s,0,[],0,0):=⟨Int.le_refl _,by omega,rfl⟩
 refine qU hs 67 [67,70,1] 0 (by decide) rfl (by decide) h0 (fun d h1=>qU hs 70 [67,70,1] 1 (by decide) rfl (by decide) h1.1 (fun e h2=>qU hs 1 [67,70,1] 2 (by decide) rfl (by decide) h2.1 (fun c h3=>?_) (fun f y a b=>?_)) (fun f y a b=>?_)) (fun f y a b=>?_)
 · refine EvB.step (f:=fun _=>some c.2) (fun k=>by rw[cM.l0,if_neg (by omega)]) (EvB.now ?_)
   unfold sV
   rw[dR h1.2.1,dR h2.2.1,dR h3.2.1,kK];exact h3.1
 · unfold sV
   rw[dR h1.2.1,dR h2.2.1,kE a];exact b
 · unfold sV
   rw[dR h1.2.1,kE a];exact b
 · unfold sV
   rw[kE a];exact b
omit hs in
theorem rE (many:Int) {y:Int×Int} (b:y.1≠0) (j:Int) (a:List ByteArray):∀ d k,bT.l k d many s j a y.2 y.1=some (s,j,a,y.2,y.1)
 | 0,k=>rfl
 | d+1,k=>by rw[bT.l,if_neg b]
theorem xQ (many:Int) (d:Nat):∀ (a:List ByteArray) (i:Int),0≤i→i≤(s.size:Int)→a.length+d≤255→EvB (fun k=>bT.l k d many s i a 0 0) (zZ s (match rN (jV s) d i with
 | .ok r=>.ok (a++r.1,r.2)
 | .error y=>.error y)):=by
 induction d with
 | zero =>
  intro a i h0 h1 hd
  refine EvB.congr (f:=fun _=>some (s,i,a,0,0)) (fun k=>rfl) (EvB.now ?_)
  show zZ s (.ok (a++[],i)) _
  rw[List.append_nil];exact⟨h0,h1,rfl⟩
 | succ d ih =>
  intro a i h0 h1 hd
  have D:lU s a (.ok i) (s,i,a,0,0):=⟨h0,h1,rfl⟩
  refine EvB.congr (fun k=>by rw[bT.l,if_pos rfl]) (EvB.then (kS hs D) (fun t E=>?_))
  obtain⟨n,x⟩:=t
  obtain⟨o,G,I,J⟩:=E
  cases hr:r1 s i with
  | error y =>
   have p:rN (jV s) (d+1) i=.error y:=kE (e:=.ok i) (show bd (.ok i) (jV s)=.error y by show jV s i=_;unfold jV;rw[hr])
   rw[p]
   have o:lU s a (.error y) x:=by have h3:=o;rw[show bd (.ok i) (r1 s)=.error y from hr] at h3;exact h3
   obtain⟨hy,j,p',rfl⟩:=o
   exact EvB.congr (f:=fun _=>_) (fun k=>if_neg hy) (EvB.now ⟨hy,j,p',rfl⟩)
  | ok r =>
   have K:n=r.1:=G r hr
   have o:lU s a (.ok r.2) x:=by have h3:=o;rw[show bd (.ok i) (r1 s)=.ok r from hr] at h3;exact h3
   obtain⟨j0,j1,rfl⟩:=o
   subst K
   simp only[] at I J
   have w:wrap64 (r.2+r.1)=r.2+r.1:=by unfold wrap64;omega
   refine EvB.congr (fun k=>if_pos rfl) ?_
   simp only[w]
   refine EvB.ite (fun c=>?_) (fun c=>EvB.ifp j0 (EvB.ifp (by omega) ?_))
   · have p:rN (jV s) (d+1) i=.error (4,(s.size:Int)):=kE (e:=.ok i) (show bd (.ok i) (jV s)=.error (4,(s.size:Int)) by show jV s i=_;unfold jV;rw[hr];exact if_pos c)
     rw[p]
     exact EvB.congr (f:=fun _=>some (s,r.2,a,(s.size:Int),4)) (fun k=>by unfold aZ.f;rw[if_pos rfl]) (EvB.now ⟨by show (4:Int)≠0;decide,r.2,a,rfl⟩)
   · have L:(s.extract r.2.toNat (r.2+r.1).toNat).size≤20000:=by rw[ByteArray.size_extract];omega
     refine EvB.bind (uF _ L).1 (EvB.ifp (by omega) ?_)
     cases hp:mW (s.extract r.2.toNat (r.2+r.1).toNat) with
     | true =>
      have B:jV s i=.ok (s.extract r.2.toNat (r.2+r.1).toNat,r.2+r.1):=by unfold jV;rw[hr];exact(if_neg c).trans (if_pos hp)
      have h:=ih (a++[s.extract r.2.toNat (r.2+r.1).toNat]) (r.2+r.1) (by omega) (by omega) (by simp;omega)
      refine EvB.congr (fun k=>if_pos rfl) (h.mono (fun q u=>?_))
      have z:rN (jV s) (d+1) i=bd (pl (bd (.ok i) (jV s))) (rb (rN (jV s) d) (fun l=>iM (s.extract r.2.toNat (r.2+r.1).toNat :: l))):=dR (e:=.ok i) (m:=jV s) (f:=fun x=>rb (rN (jV s) d) (fun l=>iM (x :: l))) (fun T h2=>by rw[show bd (.ok i) (jV s)=jV s i from rfl,B] at h2;cases h2;rfl)
      have M:pl (bd (.ok i) (jV s))=.ok (r.2+r.1):=by rw[show bd (.ok i) (jV s)=jV s i from rfl,B];rfl
      rw[M] at z
      cases hh:rN (jV s) d (r.2+r.1) with
      | error y =>
       rw[hh] at u
       rw[z,kE (e:=.ok (r.2+r.1)) (show bd (.ok (r.2+r.1)) (rN (jV s) d)=.error y from hh)];exact u
      | ok b =>
       rw[hh] at u
       have O:rN (jV s) (d+1) i=.ok (s.extract r.2.toNat (r.2+r.1).toNat :: b.1,b.2):=by
        rw[z,dR (v:=b.1) (fun U A=>by rw[show bd (.ok (r.2+r.1)) (rN (jV s) d)=rN (jV s) d (r.2+r.1) from rfl,hh] at A;cases A;rfl),show bd (.ok (r.2+r.1)) (rN (jV s) d)=rN (jV s) d (r.2+r.1) from rfl,hh];rfl
       rw[O]
       have P:a++(s.extract r.2.toNat (r.2+r.1).toNat :: b.1)=a++[s.extract r.2.toNat (r.2+r.1).toNat]++b.1:=by simp
       show zZ s (.ok (a++(s.extract r.2.toNat (r.2+r.1).toNat :: b.1),b.2)) q
       rw[P];exact u
     | false =>
      have p:rN (jV s) (d+1) i=.error (3,i):=kE (e:=.ok i) (show bd (.ok i) (jV s)=.error (3,i) by show jV s i=_;unfold jV;rw[hr];exact(if_neg c).trans (if_neg (by rw[hp];simp)))
      rw[p]
      refine EvB.congr (fun k=>if_neg (by simp)) (EvB.bind (v:=(s,r.2+r.1,a,i,3)) (Ev.congr (f:=fun _=>some (s,r.2+r.1,a,i,3)) (fun k=>by unfold aZ.f;rw[if_pos rfl]) (Ev.now _)) ?_)
      exact EvB.congr (f:=fun _=>some (s,r.2+r.1,a++[s.extract r.2.toNat (r.2+r.1).toNat],i,3)) (fun k=>rE many (y:=(3,i)) (by show (3:Int)≠0;decide) _ _ d k) (EvB.now ⟨by show (3:Int)≠0;decide,_,_,rfl⟩)
theorem wL {e:Except (Int×Int) Int} {x:RS} (h:lU s [] e x):EvB (fun k=>bT.f k x.1 x.2.1 x.2.2.1 x.2.2.2.1 x.2.2.2.2) (zZ s (bd e (oW s))):=by
 unfold bT.f
 refine EvB.congr (f:=fun k=>(aQ.f k x.1 x.2.1 x.2.2.1 x.2.2.2.1 x.2.2.2.2).bind fun t=>if t.1≤200 then bT.l k t.1.toNat t.1 t.2.1 t.2.2.1 t.2.2.2.1 t.2.2.2.2.1 t.2.2.2.2.2 else ((aZ.f t.2.1 t.2.2.1 t.2.2.2.1 t.2.2.2.2.1 t.2.2.2.2.2 5 x.2.1).bind fun u=>bT.l k t.1.toNat t.1 u.1 u.2.1 u.2.2.1 u.2.2.2.1 u.2.2.2.2)) (fun k=>?_) ?_
 · congr 1;funext t
   by_cases c:t.1≤200
   · rw[if_neg (by omega),if_pos c]
   · rw[if_pos (by omega),if_neg c]
 · refine rB hs (P:=fun v=>v≤200) (c:=5) (rF s 200 5) (fun i=>?_) (by decide) (.inr trivial) h (A:=fun k v t=>bT.l k v.toNat v t.1 t.2.1 t.2.2.1 t.2.2.2.1 t.2.2.2.2) (B:=fun k v t=>((aZ.f t.1 t.2.1 t.2.2.1 t.2.2.2.1 t.2.2.2.2 5 x.2.1).bind fun u=>bT.l k v.toNat v u.1 u.2.1 u.2.2.1 u.2.2.2.1 u.2.2.2.2)) (fun t m q=>?_) (fun t f m I J q w a=>?_)
   · unfold rF
     cases r1 s i with
     | error y=>rfl
     | ok r =>
      simp only[]
      by_cases c:r.1 > 200
      · rw[if_pos c,if_neg (by omega)]
      · rw[if_neg c,if_pos (by omega)]
   · obtain⟨v,K⟩:=t
     obtain⟨b,z,L,o⟩:=m
     cases a:bd e (rF s 200 5) with
     | error y =>
      rw[a] at b
      obtain⟨hy,j,p',rfl⟩:=b
      unfold oW;rw[kE a]
      exact EvB.congr (f:=fun _=>_) (fun k=>rE _ hy j p' _ k) (EvB.now ⟨hy,j,p',rfl⟩)
     | ok r =>
      rw[a] at b
      obtain⟨j0,j1,rfl⟩:=b
      have D:v=r.1:=z r a
      have o:v≤255:=o
      have E:=xQ hs v v.toNat [] r.2 j0 j1 (by simp;omega)
      refine E.mono (fun q d=>?_)
      have G:bd e (oW s)=rN (jV s) v.toNat r.2:=by
       unfold oW
       rw[dR (v:=v) (fun M p=>by rw[a] at p;cases p;exact D),a];rfl
      rw[G]
      cases hN:rN (jV s) v.toNat r.2 with
      | error y=>rw[hN] at d;exact d
      | ok O=>rw[hN] at d;exact d
   · obtain⟨y,a⟩:=a
     have h1:=m.1
     rw[a] at h1
     obtain⟨hy,j,p',n⟩:=h1
     have n:f=(s,j,p',y.2,y.1):=n
     subst n
     refine EvB.bind (v:=(s,j,p',y.2,y.1)) (Ev.congr (f:=fun _=>some (s,j,p',y.2,y.1)) w (Ev.now _)) ?_
     unfold oW;rw[kE a]
     exact EvB.congr (f:=fun _=>_) (fun k=>rE _ hy j p' _ k) (EvB.now ⟨hy,j,p',rfl⟩)
theorem rU (t:Bool) (o:ByteArray) (u:∀ c j,nR s 0=.ok (c,j)→Ev (fun k=>bD.f k c.f0 c.f1 c.f2 c.f3 c.f4 c.f5) t∧(t=true→Ev (fun k=>eK.f k c.f0 c.f1 c.f2 c.f3 c.f4 c.f5) o)):Ev (fun k=>gP.f k s) (pB s t o):=by
 unfold gP.f
 obtain⟨M,a1,v⟩:=yY hs
 obtain⟨w,x,i⟩:=wL hs v
 have n:=sY s
 refine Ev.bind a1 (Ev.bind x ?_)
 generalize bd (pl (bd (.ok 0) (sV s))) (oW s)=E at i n
 have z:lU s (yJ E) (pl E) w:=by
  cases E with
  | error y=>exact i
  | ok r=>exact i
 obtain⟨q,c1,c2⟩:=xC hs z
 rw[← n] at c2
 refine Ev.bind c1 ?_
 obtain⟨d,A⟩:=c2
 obtain⟨B,D,G,I,q4,J,p⟩:=q
 unfold pB
 cases hA:nR s 0 with
 | error y =>
  rw[hA] at d
  obtain⟨hy,j,p',b⟩:=d
  have b:p=(s,j,p',y.2,y.1):=b
  subst b
  exact Ev.congr (f:=fun _=>some (rA y.2 y.1)) (fun k=>if_neg hy) (Ev.now _)
 | ok r =>
  obtain⟨c,j⟩:=r
  rw[hA] at d
  obtain⟨j0,j1,b⟩:=d
  have b:p=(s,j,yJ E,0,0):=b
  subst b
  have m:=A (c,j) hA
  have m:(⟨B,D,G,I,q4,J⟩:sS)=c:=m
  obtain⟨K,L⟩:=u c j hA
  subst m
  refine Ev.congr (fun k=>if_pos rfl) (Ev.bind (a:=(s.size:Int)) (Ev.now _) ?_)
  by_cases c3:j < (s.size:Int)
  · exact Ev.congr (f:=fun _=>some (rA j 3)) (fun k=>if_pos c3) (Ev.congr (fun k=>by simp only[];rw[if_pos c3]) (Ev.now _))
  · refine Ev.congr (fun k=>if_neg c3) (Ev.bind K ?_)
    simp only[]
    rw[if_neg c3]
    cases t with
    | false =>
     exact Ev.congr (fun k=>if_neg (by simp)) (Ev.bind (a:=(s.size:Int)) (Ev.now _) (Ev.congr (f:=fun _=>some (rA (s.size:Int) 1)) (fun k=>rfl) (Ev.now _)))
    | true =>
     rw[if_pos rfl]
     refine Ev.congr (fun k=>if_pos rfl) (Ev.bind (L rfl) ?_)
     by_cases c4:o=s
     · rw[if_pos c4]
       exact Ev.congr (f:=fun _=>some _) (fun k=>if_pos (by rw[c4])) (Ev.now _)
     · rw[if_neg c4]
       exact Ev.congr (fun k=>if_neg (fun e=>c4 ((toList_eq _ _).mp e))) (Ev.bind (a:=(s.size:Int)) (Ev.now _) (Ev.congr (f:=fun _=>some (rA (s.size:Int) 5)) (fun k=>rfl) (Ev.now _)))
end
def lR (s:ByteArray) (p:List ByteArray) (e:Except (Int×Int) Int) (x:RS):Prop:=match e with
 | .ok i=>0≤i∧i≤(s.size:Int)∧x=(s,i,p,0,0)
 | .error y=>y.1≠0∧∃ j a,x=(s,j,a,y.1,y.2)
def N4 (s:ByteArray) (p:List ByteArray) (e:Rs Int) (q:Int×RS):Prop:=lR s p (pl e) q.2∧(∀ r,e=.ok r→q.1=r.1)
def NS (s:ByteArray) (p:List ByteArray) (e:Rs Int) (q:Int×RS):Prop:=lR s p (pl e) q.2∧(∀ r,e=.ok r→q.1=r.1)∧0≤q.1∧q.1≤255
section
variable {s:ByteArray} (hs:s.size≤20000) {p:List ByteArray}
include hs
theorem vT (i:Int) (h0:0≤i) (h1:i≤(s.size:Int)):Ev (fun k=>dV.f k s i 1) (if i < (s.size:Int) then (bt s i,i+1,0) else (0,0,4)):=by
 have w:wrap64 ((s.size:Int) - 1)=(s.size:Int) - 1:=by unfold wrap64;omega
 have a:wrap64 (i+1)=i+1:=by unfold wrap64;omega
 have b:=bt_range s i
 have d:wrap64 (wrap64 (256*0)+wrap64 (bt s i))=bt s i:=by unfold wrap64;omega
 unfold dV.f
 refine Ev.congr (fun k=>(if_neg (by omega)).trans (if_neg (by omega))) ?_
 simp only[w]
 by_cases c:i < (s.size:Int)
 · rw[if_pos c]
   refine Ev.congr (fun k=>if_neg (by omega)) (Ev.step (fun k=>by rw[dV.l0,a,if_pos (by omega),if_pos h0,if_pos c,d]) (Ev.step (f:=fun _=>some (bt s i,i+1,0)) (fun k=>by rw[dV.l0,a,if_neg (by omega),if_neg (by decide)]) (Ev.now _)))
 · rw[if_neg c]
   exact Ev.congr (f:=fun _=>some (0,0,4)) (fun k=>if_pos (by omega)) (Ev.now _)
theorem yU (i:Int) (h0:0≤i) (h1:i≤(s.size:Int)):Ev (fun k=>dV.f k s i 4) (if i+4≤(s.size:Int) then (wrap64 (wrap32 (((bt s i*256+bt s (i+1))*256+bt s (i+2))*256+bt s (i+3))),i+4,0) else (0,0,4)):=by
 have w:wrap64 ((s.size:Int) - 4)=(s.size:Int) - 4:=by unfold wrap64;omega
 have a:wrap64 (i+4)=i+4:=by unfold wrap64;omega
 have q:=bt_range s i
 have r:=bt_range s (i+1)
 have t:=bt_range s (i+2)
 have b3:=bt_range s (i+3)
 have b:wrap64 (i+1)=i+1:=by unfold wrap64;omega
 have d:wrap64 (i+1+1)=i+2:=by unfold wrap64;omega
 have e:wrap64 (i+2+1)=i+3:=by unfold wrap64;omega
 have j:wrap64 (i+3+1)=i+4:=by unfold wrap64;omega
 have m:wrap64 (wrap64 (256*0)+wrap64 (bt s i))=bt s i:=by unfold wrap64;omega
 have n:wrap64 (wrap64 (256*bt s i)+wrap64 (bt s (i+1)))=bt s i*256+bt s (i+1):=by unfold wrap64;omega
 have o:wrap64 (wrap64 (256*(bt s i*256+bt s (i+1)))+wrap64 (bt s (i+2)))=(bt s i*256+bt s (i+1))*256+bt s (i+2):=by unfold wrap64;omega
 have p:wrap64 (wrap64 (256*((bt s i*256+bt s (i+1))*256+bt s (i+2)))+wrap64 (bt s (i+3)))=((bt s i*256+bt s (i+1))*256+bt s (i+2))*256+bt s (i+3):=by unfold wrap64;omega
 unfold dV.f
 refine Ev.congr (fun k=>(if_neg (by omega)).trans (if_neg (by omega))) ?_
 simp only[w]
 by_cases c:i+4≤(s.size:Int)
 · rw[if_pos c]
   refine Ev.congr (fun k=>if_neg (by omega)) (Ev.step (fun k=>by rw[dV.l0,a,if_pos (by omega),if_pos h0,if_pos (by omega),m,b]) ?_)
   refine Ev.step (fun k=>by rw[dV.l0,a,if_pos (by omega),if_pos (by omega),if_pos (by omega),n,d]) ?_
   refine Ev.step (fun k=>by rw[dV.l0,a,if_pos (by omega),if_pos (by omega),if_pos (by omega),o,e]) ?_
   refine Ev.step (fun k=>by rw[dV.l0,a,if_pos (by omega),if_pos (by omega),if_pos (by omega),p,j]) ?_
   exact Ev.step (f:=fun _=>some _) (fun k=>by rw[dV.l0,a,if_neg (by omega),if_pos rfl];rfl) (Ev.now _)
 · rw[if_neg c]
   exact Ev.congr (f:=fun _=>some (0,0,4)) (fun k=>if_pos (by omega)) (Ev.now _)
omit hs in
theorem lN (j a b:Int) (c:List ByteArray) (n:Int):bQ.f s j c 0 n a b=some (s,j,c,a,b):=by unfold bQ.f;rw[if_pos rfl]
omit hs in
theorem tL {y:Int×Int} (e:y.1≠0) (j a b c:Int) (d:List ByteArray) (k:Nat):aT.f k s j d y.1 y.2 a b c=some (0,s,j,d,y.1,y.2):=by unfold aT.f;rw[if_neg e]
theorem yI (b c:Int) (q:c≠0∨b < 0) (m:Rd Int) (a:∀ i,m i=if b < 0 then r1 s i else rF s b c i) {e:Except (Int×Int) Int} {x:RS} (h:lR s p e x):EvB (fun k=>aT.f k x.1 x.2.1 x.2.2.1 x.2.2.2.1 x.2.2.2.2 1 b c) (NS s p (bd e m)):=by
 cases e with
 | error y =>
  obtain⟨hy,j,p',rfl⟩:=h
  exact EvB.congr (f:=fun _=>some (0,s,j,p',y.1,y.2)) (fun k=>tL hy j 1 b c p' k) (EvB.now ⟨⟨hy,j,p',rfl⟩,fun r d=>(by cases d),Int.le_refl 0,(by show (0:Int)≤255;decide)⟩)
 | ok i =>
  obtain⟨h0,h1,rfl⟩:=h
  have g:=vT hs i h0 h1
  refine EvB.congr (fun k=>if_pos rfl) (EvB.bind g ?_)
  have a:=a i
  have o:=bt_range s i
  by_cases c0:i < (s.size:Int)
  · have n:r1 s i=.ok (bt s i,i+1):=if_pos c0
    rw[if_pos c0]
    refine EvB.congr (fun k=>if_pos rfl) ?_
    by_cases c1:b < 0
    · rw[if_pos c1,n] at a
      show EvB _ (NS s p (m i))
      rw[a]
      exact EvB.congr (f:=fun _=>some (bt s i,s,i+1,p,0,0)) (fun k=>if_neg (by omega)) (EvB.now ⟨⟨by omega,by omega,rfl⟩,fun r d=>(by cases d;rfl),o.1,o.2⟩)
    · rw[if_neg c1] at a
      unfold rF at a
      rw[n] at a
      simp only[] at a
      show EvB _ (NS s p (m i))
      by_cases c2:bt s i > b
      · rw[if_pos c2] at a
        rw[a]
        refine EvB.congr (fun k=>(if_pos (by omega)).trans (if_pos c2)) (EvB.bind (v:=(s,i,p,c,i)) (Ev.congr (f:=fun _=>some (s,i,p,c,i)) (fun k=>lN _ _ _ _ _) (Ev.now _)) (EvB.now ⟨⟨q.resolve_right c1,i,p,rfl⟩,fun r d=>(by cases d),Int.le_refl 0,(by show (0:Int)≤255;decide)⟩))
      · rw[if_neg c2] at a
        rw[a]
        exact EvB.congr (f:=fun _=>some (bt s i,s,i+1,p,0,0)) (fun k=>(if_pos (by omega)).trans (if_neg c2)) (EvB.now ⟨⟨by omega,by omega,rfl⟩,fun r d=>(by cases d;rfl),o.1,o.2⟩)
  · have n:r1 s i=.error (4,(s.size:Int)):=if_neg c0
    have t:m i=.error (4,(s.size:Int)):=by
     rw[a]
     by_cases c1:b < 0
     · rw[if_pos c1,n]
     · rw[if_neg c1];unfold rF;rw[n]
    rw[if_neg c0]
    show EvB _ (NS s p (m i))
    rw[t]
    refine EvB.congr (fun k=>if_neg (by decide)) (EvB.bind (v:=(s,i,p,4,(s.size:Int))) (Ev.congr (f:=fun _=>some (s,i,p,4,(s.size:Int))) (fun k=>lN _ _ _ _ _) (Ev.now _)) (EvB.now ⟨⟨(by show (4:Int)≠0;decide),i,p,rfl⟩,fun r d=>(by cases d),Int.le_refl 0,(by show (0:Int)≤255;decide)⟩))
theorem pL {e:Except (Int×Int) Int} {x:RS} (h:lR s p e x):EvB (fun k=>aT.f k x.1 x.2.1 x.2.2.1 x.2.2.2.1 x.2.2.2.2 1 (-1) 0) (NS s p (bd e (r1 s))):=yI hs (-1) 0 (.inr (by decide)) _ (fun i=>(if_pos (by decide)).symm) h
theorem vC (b c:Int) (a:¬ b < 0) (d:c≠0) {e:Except (Int×Int) Int} {x:RS} (h:lR s p e x):EvB (fun k=>aT.f k x.1 x.2.1 x.2.2.1 x.2.2.2.1 x.2.2.2.2 1 b c) (NS s p (bd e (rF s b c))):=yI hs b c (.inl d) _ (fun i=>(if_neg a).symm) h
theorem aAb {e:Except (Int×Int) Int} {x:RS} (h:lR s p e x):EvB (fun k=>aT.f k x.1 x.2.1 x.2.2.1 x.2.2.2.1 x.2.2.2.2 4 (-1) 0) (N4 s p (bd e (r4 s))):=by
 cases e with
 | error y =>
  obtain⟨hy,j,p',rfl⟩:=h
  exact EvB.congr (f:=fun _=>some (0,s,j,p',y.1,y.2)) (fun k=>tL hy j 4 (-1) 0 p' k) (EvB.now ⟨⟨hy,j,p',rfl⟩,fun r a=>(by cases a)⟩)
 | ok i =>
  obtain⟨h0,h1,rfl⟩:=h
  have g:=yU hs i h0 h1
  refine EvB.congr (fun k=>if_pos rfl) (EvB.bind g ?_)
  show EvB _ (N4 s p (r4 s i))
  unfold r4
  by_cases c0:i+4≤(s.size:Int)
  · rw[if_pos c0,if_pos c0]
    exact EvB.congr (f:=fun _=>some _) (fun k=>(if_pos rfl).trans (if_neg (by decide))) (EvB.now ⟨⟨by omega,by omega,rfl⟩,fun r a=>(by cases a;rfl)⟩)
  · rw[if_neg c0,if_neg c0]
    refine EvB.congr (fun k=>if_neg (by decide)) (EvB.bind (v:=(s,i,p,4,(s.size:Int))) (Ev.congr (f:=fun _=>some (s,i,p,4,(s.size:Int))) (fun k=>lN _ _ _ _ _) (Ev.now _)) (EvB.now ⟨⟨(by show (4:Int)≠0;decide),i,p,rfl⟩,fun r a=>(by cases a)⟩))
theorem kY (J:p.length≤1000) {e:Except (Int×Int) Int} {x:RS} (h:lR s p e x):EvB (fun k=>bH.f k x.1 x.2.1 x.2.2.1 x.2.2.2.1 x.2.2.2.2) (fun q=>lR s p (pl (bd e (rT s p))) q.2∧∀ r,bd e (rT s p)=.ok r→q.1=r.1):=by
 unfold bH.f
 cases e with
 | error y =>
  obtain⟨hy,j,p',rfl⟩:=h
  refine EvB.bind (v:=(0,s,j,p',y.1,y.2)) (Ev.congr (f:=fun _=>some (0,s,j,p',y.1,y.2)) (fun k=>tL hy j 1 _ 5 p' k) (Ev.now _)) ?_
  exact EvB.congr (f:=fun _=>some ((⟨#[]⟩:ByteArray),s,j,p',y.1,y.2)) (fun k=>(if_neg hy).trans (if_neg hy)) (EvB.now ⟨⟨hy,j,p',rfl⟩,fun r a=>(by cases a)⟩)
 | ok i =>
  have z:=h
  obtain⟨h0,h1,rfl⟩:=h
  have w:wrap64 ((p.length:Int) - 1)=(p.length:Int) - 1:=by unfold wrap64;omega
  by_cases c0:p.length=0
  · have D:wrap64 ((p.length:Int) - 1)=-1:=by rw[w];omega
    simp only[D]
    refine EvB.then (pL hs z) (fun t m=>?_)
    obtain⟨v,n⟩:=t
    obtain⟨d,o,_⟩:=m
    show EvB _ (fun (q:ByteArray×RS)=>lR s p (pl (rT s p i)) q.2∧∀ r,rT s p i=.ok r→q.1=r.1)
    unfold rT
    have d:lR s p (pl (r1 s i)) n:=d
    cases a:r1 s i with
    | error y =>
     rw[a] at d
     obtain⟨hy,j,p',rfl⟩:=d
     exact EvB.congr (f:=fun _=>some ((⟨#[]⟩:ByteArray),s,j,p',y.1,y.2)) (fun k=>(if_neg hy).trans (if_neg hy)) (EvB.now ⟨⟨hy,j,p',rfl⟩,fun r a=>(by cases a)⟩)
    | ok r =>
     rw[a] at d
     have A:v=r.1:=o r a
     obtain⟨j0,j1,rfl⟩:=d
     have u:r=(bt s i,i+1):=by
      unfold r1 at a
      by_cases c:i < (s.size:Int)
      · rw[if_pos c] at a;cases a;rfl
      · rw[if_neg c] at a;cases a
     have b:=bt_range s i
     have E:¬ r.1 < (p.length:Int):=by rw[u];show ¬ bt s i < _;omega
     simp only[]
     rw[if_neg E]
     have G:wrap64 (r.2 - 1)=i:=by rw[u];show wrap64 (i+1 - 1)=i;unfold wrap64;omega
     refine EvB.congr (fun k=>(if_pos trivial).trans (if_pos c0)) (EvB.bind (v:=(s,r.2,p,5,i)) (Ev.congr (f:=fun _=>some (s,r.2,p,5,i)) (fun k=>by rw[lN,G]) (Ev.now _)) ?_)
     exact EvB.congr (f:=fun _=>some ((⟨#[]⟩:ByteArray),s,r.2,p,5,i)) (fun k=>if_neg (by show ¬ (5:Int)=0;decide)) (EvB.now ⟨⟨(by show (5:Int)≠0;decide),r.2,p,rfl⟩,fun r a=>(by cases a)⟩)
  · simp only[w]
    refine EvB.then (vC hs _ 5 (by omega) (by decide) z) (fun t m=>?_)
    obtain⟨v,n⟩:=t
    obtain⟨d,o,_⟩:=m
    have I:rT s p i=match rF s ((p.length:Int) - 1) 5 i with
     | .ok r=>.ok (rdOf ByteArray.empty p r.1,r.2)
     | .error y=>.error y:=by
     unfold rT rF
     cases r1 s i with
     | error y=>rfl
     | ok r =>
      simp only[]
      by_cases c:r.1 < (p.length:Int)
      · rw[if_pos c,if_neg (by omega)]
      · rw[if_neg c,if_pos (by omega)]
    show EvB _ (fun (q:ByteArray×RS)=>lR s p (pl (rT s p i)) q.2∧∀ r,rT s p i=.ok r→q.1=r.1)
    rw[I]
    have d:lR s p (pl (rF s ((p.length:Int) - 1) 5 i)) n:=d
    cases a:rF s ((p.length:Int) - 1) 5 i with
    | error y =>
     rw[a] at d
     obtain⟨hy,j,p',rfl⟩:=d
     exact EvB.congr (f:=fun _=>some ((⟨#[]⟩:ByteArray),s,j,p',y.1,y.2)) (fun k=>(if_neg hy).trans (if_neg hy)) (EvB.now ⟨⟨hy,j,p',rfl⟩,fun r a=>(by cases a)⟩)
    | ok r =>
     rw[a] at d
     have A:v=r.1:=o r a
     obtain⟨j0,j1,rfl⟩:=d
     subst A
     have B:0≤r.1∧r.1 < (p.length:Int):=by
      unfold rF at a
      unfold r1 at a
      have b:=bt_range s i
      by_cases c:i < (s.size:Int)
      · rw[if_pos c] at a
        simp only[] at a
        by_cases c2:bt s i > (p.length:Int) - 1
        · rw[if_pos c2] at a;cases a
        · rw[if_neg c2] at a;cases a
          show 0≤bt s i∧bt s i < (p.length:Int)
          omega
      · rw[if_neg c] at a;cases a
     exact EvB.congr (f:=fun _=>some (rdOf ByteArray.empty p r.1,s,r.2,p,0,0)) (fun k=>(if_pos rfl).trans ((if_neg c0).trans ((if_pos rfl).trans ((if_pos B.1).trans (if_pos B.2))))) (EvB.now ⟨⟨j0,j1,rfl⟩,fun K a=>(by cases a;rfl)⟩)
def zM (s:ByteArray) (p:List ByteArray) (e:Rs cP) (q:Int×Int×ByteArray×ByteArray×ByteArray×RS):Prop:=lR s p (pl e) q.2.2.2.2.2∧∀ r,e=.ok r→(⟨q.1,q.2.1,q.2.2.1,q.2.2.2.1,q.2.2.2.2.1⟩:cP)=r.1
omit hs in
theorem nY {e:Except (Int×Int) Int} {x:RS} (h:lR s p e x) {o a:Int} {c n d:ByteArray} {v:cP} (j:(⟨o,a,c,n,d⟩:cP)=v):zM s p (bd e (iM v)) (o,a,c,n,d,x):=by
 refine⟨by rw[kK];exact h,fun r b=>?_⟩
 cases e with
 | error x=>cases b
 | ok i=>cases b;exact j
variable (hp:p.length≤1000)
include hp
theorem uA {e:Except (Int×Int) Int} {x:RS} (h:lR s p e x) (o:Int) (b:Bool):EvB (fun k=>bC.j3 k b x.1 x.2.1 x.2.2.1 x.2.2.2.1 x.2.2.2.2 o 0 (⟨#[]⟩:ByteArray) (⟨#[]⟩:ByteArray) (⟨#[]⟩:ByteArray))
 (zM s p (bd e (if b=true then rb (rT s p) (fun c=>rb (rT s p) (fun n=>rb (rT s p) (fun d=>iM ⟨o,0,c,n,d⟩))) else iM ⟨o,0,⟨#[]⟩,⟨#[]⟩,⟨#[]⟩⟩))):=by
 refine EvB.step (fun k=>by rw[bC.j3]) ?_
 cases b with
 | false=>exact EvB.congr (f:=fun _=>_) (fun k=>if_neg (by simp)) (EvB.now (by rw[if_neg (by simp)];exact nY h rfl))
 | true =>
  refine EvB.congr (fun k=>if_pos rfl) (EvB.then (kY hs hp h) (fun a h1=>EvB.then (kY hs hp h1.1) (fun i h2=>EvB.then (kY hs hp h2.1) (fun j h3=>EvB.now ?_))))
  rw[if_pos rfl,dR h1.2,dR h2.2,dR h3.2]
  exact nY h3.1 rfl
theorem tZ {e:Except (Int×Int) Int} {x:RS} (h:lR s p e x) (o:Int) (F:ByteArray) (b:Bool) (m:¬ F.toList=([110]:List UInt8)) (i:b=true↔(F.toList=([105]:List UInt8)∨F.toList=([116]:List UInt8))):
 EvB (fun k=>bC.j2 k F b x.1 x.2.1 x.2.2.1 x.2.2.2.1 x.2.2.2.2 o 0 (⟨#[]⟩:ByteArray) (⟨#[]⟩:ByteArray) (⟨#[]⟩:ByteArray)) (zM s p (bd e (qV s p F o))):=by
 refine EvB.step (fun k=>by rw[bC.j2]) ?_
 unfold qV
 rw[if_neg m]
 cases b with
 | true =>
  rw[if_pos (i.mp rfl)]
  refine EvB.congr (fun k=>if_pos rfl) (EvB.then (pL hs h) (fun j h1=>EvB.now ?_))
  rw[dR h1.2.1]
  exact nY h1.1 rfl
 | false =>
  rw[if_neg (fun c=>by have:=i.mpr c;simp at this)]
  refine EvB.congr (fun k=>if_neg (by simp)) (EvB.ite (fun c=>?_) (fun c=>EvB.ite (fun a=>?_) (fun a=>EvB.ite (fun d=>?_) (fun d=>?_))))
  · rw[if_pos c]
    refine EvB.then (kY hs hp h) (fun j h1=>EvB.now ?_)
    rw[dR h1.2]
    exact nY h1.1 rfl
  · rw[if_neg c,if_pos a]
    refine EvB.then (kY hs hp h) (fun j h1=>EvB.now ?_)
    rw[dR h1.2]
    exact nY h1.1 rfl
  · rw[if_neg c,if_neg a]
    have g:=uA hs hp h o (F.toList == ([102]:List UInt8))
    rw[if_pos (by simpa using d)] at g
    rw[if_pos (.inl d)];exact g
  · rw[if_neg c,if_neg a]
    have g:=uA hs hp h o (F.toList == ([109]:List UInt8))
    by_cases c4:F.toList=([109]:List UInt8)
    · rw[if_pos (by simpa using c4)] at g
      rw[if_pos (.inr c4)];exact g
    · rw[if_neg (by simpa using c4)] at g
      rw[if_neg (fun q=>q.elim d c4)];exact g
theorem oU {e:Except (Int×Int) Int} {x:RS} (h:lR s p e x) (o:Int):EvB (fun k=>bC.j1 k x.1 x.2.1 x.2.2.1 x.2.2.2.1 x.2.2.2.2 o 0 (⟨#[]⟩:ByteArray) (⟨#[]⟩:ByteArray) (⟨#[]⟩:ByteArray)) (zM s p (bd e (match dP.f o with
 | some F=>qV s p F o
 | none=>iM ⟨o,0,⟨#[]⟩,⟨#[]⟩,⟨#[]⟩⟩))):=by
 obtain⟨F,f1,f2⟩:=lD o
 simp only[f1]
 refine EvB.step (fun k=>by rw[bC.j1]) (EvB.bind (v:=F) ⟨16,f2⟩ (EvB.ite (fun c=>?_) (fun c=>EvB.ite (fun a=>?_) (fun a=>?_))))
 · unfold qV;rw[if_pos c]
   refine EvB.then (aAb hs h) (fun b h1=>EvB.now ?_)
   rw[dR h1.2]
   exact nY h1.1 rfl
 · exact tZ hs hp h _ _ _ c (by simp[a])
 · exact tZ hs hp h _ _ _ c (by simp[a])
theorem zR {e:Except (Int×Int) Int} {x:RS} (h:lR s p e x):EvB (fun k=>bC.f k x.1 x.2.1 x.2.2.1 x.2.2.2.1 x.2.2.2.2) (zM s p (bd e (rI s p))):=by
 unfold bC.f
 refine EvB.then (vC hs 44 3 (by decide) (by decide) h) (fun t u=>?_)
 obtain⟨v,q⟩:=t
 obtain⟨a,w,_⟩:=u
 cases e with
 | error y =>
  have a:lR s p (.error y) q:=a
  obtain⟨hy,j,p',rfl⟩:=a
  refine EvB.congr (fun k=>if_neg hy) (EvB.step (fun k=>by rw[bC.j0,if_neg (by simp)]) ?_)
  have h2:lR s p (.error y) (s,j,p',y.1,y.2):=⟨hy,j,p',rfl⟩
  exact oU hs hp h2 v
 | ok i =>
  have d:rO s i=match rF s 44 3 i with
   | .ok r=>if 1≤r.1 then .ok r else .error (3,i)
   | .error y=>.error y:=by
   unfold rO rF
   cases r1 s i with
   | error y=>rfl
   | ok r =>
    simp only[]
    by_cases c:r.1 > 44
    · rw[if_pos c,if_neg (by omega)]
    · rw[if_neg c]
      by_cases c2:1≤r.1
      · simp only[];rw[if_pos c2,if_pos (by omega)]
      · simp only[];rw[if_neg c2,if_neg (by omega)]
  have a:lR s p (pl (rF s 44 3 i)) q:=a
  cases hr:rF s 44 3 i with
  | error y =>
   rw[hr] at a d
   obtain⟨hy,j,p',rfl⟩:=a
   have m:bd (.ok i) (rI s p)=.error y:=kE (e:=.ok i) (show bd (.ok i) (rO s)=.error y from d)
   rw[m]
   refine EvB.congr (fun k=>if_neg hy) (EvB.step (fun k=>by rw[bC.j0,if_neg (by simp)]) ?_)
   have h2:lR s p (.error y) (s,j,p',y.1,y.2):=⟨hy,j,p',rfl⟩
   exact oU hs hp h2 v
  | ok r =>
   rw[hr] at a d
   simp only[] at d
   have z:v=r.1:=w r hr
   obtain⟨j0,j1,rfl⟩:=a
   subst z
   have o:r=(bt s i,i+1):=by
    unfold rF r1 at hr
    by_cases c:i < (s.size:Int)
    · rw[if_pos c] at hr
      simp only[] at hr
      by_cases c2:bt s i > 44
      · rw[if_pos c2] at hr;cases hr
      · rw[if_neg c2] at hr;cases hr;rfl
    · rw[if_neg c] at hr;cases hr
   obtain⟨_,D,_⟩:=h
   by_cases c:1≤r.1
   · rw[if_pos c] at d
     have n:(r.1 == 0)=false:=beq_eq_false_iff_ne.mpr (by omega)
     refine EvB.congr (fun k=>if_pos rfl) (EvB.step (fun k=>by rw[bC.j0,n,if_neg (by simp)]) ?_)
     unfold rI
     rw[dR (v:=r.1) (fun E h2=>by rw[show bd (.ok i) (rO s)=rO s i from rfl,d] at h2;cases h2;rfl),show bd (.ok i) (rO s)=rO s i from rfl,d]
     have h2:lR s p (.ok r.2) (s,r.2,p,0,0):=⟨j0,j1,rfl⟩
     exact oU hs hp h2 r.1
   · rw[if_neg c] at d
     have b:=bt_range s i
     have A:r.1=0:=by rw[o] at c ⊢;show bt s i=0;have c:¬ 1≤bt s i:=c;omega
     have n:(r.1 == 0)=true:=beq_iff_eq.mpr A
     have B:wrap64 (r.2 - 1)=i:=by rw[o];show wrap64 (i+1 - 1)=i;unfold wrap64;omega
     have m:bd (.ok i) (rI s p)=.error (3,i):=kE (e:=.ok i) (show bd (.ok i) (rO s)=.error (3,i) from d)
     rw[m]
     refine EvB.congr (fun k=>if_pos rfl) (EvB.step (fun k=>by rw[bC.j0,n,if_pos rfl]) ?_)
     refine EvB.bind (v:=(s,r.2,p,3,i)) (Ev.congr (f:=fun _=>some (s,r.2,p,3,i)) (fun k=>by rw[lN,B]) (Ev.now _)) ?_
     have h2:lR s p (.error (3,i)) (s,r.2,p,3,i):=⟨(by show (3:Int)≠0;decide),r.2,p,rfl⟩
     exact oU hs hp h2 r.1
theorem yX (n e:ByteArray) (a b c:Bool) (y z:Int) (o:List cP) {B:_→Prop} (N:Nat) (U:N≤255) (d:Nat) (m:List dB) (x:RS) (t:Except (Int×Int) Int) (h:lR s p t x) (hd:m.length+d≤255)
 (I:∀ l x',lR s p (pl (bd t (rN (rH s p) d))) x'→(∀ r,bd t (rN (rH s p) d)=.ok r→l=m++r.1)→B (n,e,a,b,c,y,z,o,l,x')):
 EvB (fun k=>aI.l1 k (N:Int) ((N:Int) - (d:Int)) x.1 x.2.1 x.2.2.1 x.2.2.2.1 x.2.2.2.2 n e a b c y z o m) B:=by
 refine lS (L:=fun d m x k=>aI.l1 k (N:Int) ((N:Int) - (d:Int)) x.1 x.2.1 x.2.2.1 x.2.2.2.1 x.2.2.2.2 n e a b c y z o m) (Fin:=fun m x _=>some (n,e,a,b,c,y,z,o,m,x)) (Q:=lR s p) (M:=255) (f:=rH s p)
  (fun d m x i h hd J=>?_) (fun d m x W h v=>?_) (fun m x i h v=>?_) d m x t h hd (fun l x' h1 h2=>EvB.now (I l x' h1 h2))
 · have u:x.2.2.2.1=0:=by obtain⟨_,_,rfl⟩:=h;rfl
   refine EvB.step (fun k=>by rw[aI.l1,if_pos (by omega),u]) (EvB.step (fun k=>by rw[aI.j3,if_pos (by decide),← u]) ?_)
   refine EvB.then (pL hs h) (fun K h1=>EvB.then (pL hs h1.1) (fun O h2=>EvB.then (pL hs h2.1) (fun P h3=>EvB.then (kY hs hp h3.1) (fun T h4=>EvB.ifp (by omega) ?_))))
   have w:wrap64 ((N:Int) - ((d+1:Nat):Int)+1)=(N:Int) - (d:Int):=by unfold wrap64;omega
   rw[w]
   have D:rH s p i=bd (pl (bd (pl (bd (pl (bd (pl (bd (.ok i) (r1 s))) (r1 s))) (r1 s))) (rT s p))) (iM (⟨K.1,O.1,P.1,T.1⟩:dB)):=by
    show bd (.ok i) (rH s p)=_
    unfold rH
    rw[dR h1.2.1,dR h2.2.1,dR h3.2.1,dR h4.2]
   exact J _ _ (by rw[D,kK];exact h4.1) (fun r E=>by rw[D] at E;exact mK r E)
 · obtain⟨q,A,G⟩:=v
   have u:(x.2.2.2.1 == 0)=false:=by obtain⟨hy,j,p',rfl⟩:=h;exact beq_eq_false_iff_ne.mpr hy
   refine⟨q,?_,G⟩
   by_cases c0:(N:Int) - (d:Int) < (N:Int)
   · exact Ev.step (fun k=>by rw[aI.l1,if_pos c0,u]) (Ev.step (fun k=>by rw[aI.j3,if_neg (by simp)]) A)
   · exact Ev.step (fun k=>by rw[aI.l1,if_neg c0]) (Ev.step (fun k=>by rw[aI.j3,if_neg (by simp)]) A)
 · exact EvB.step (fun k=>by rw[aI.l1,if_neg (by omega)]) (EvB.step (fun k=>by rw[aI.j3,if_neg (by simp)]) v)
def MS (s:ByteArray) (p:List ByteArray) (e:Rs dS) (q:ByteArray×ByteArray×Bool×Bool×Bool×Int×Int×List cP×List dB×RS):Prop:=lR s p (pl e) q.2.2.2.2.2.2.2.2.2∧∀ r,e=.ok r→(⟨q.1,q.2.1,q.2.2.1,q.2.2.2.1,q.2.2.2.2.1,q.2.2.2.2.2.1,q.2.2.2.2.2.2.1,q.2.2.2.2.2.2.2.1,q.2.2.2.2.2.2.2.2.1⟩:dS)=r.1
omit hs hp in
theorem zG {e:Except (Int×Int) Int} {x:RS} (h:lR s p e x) {n u:ByteArray} {a b c:Bool} {y z:Int} {d:List cP} {j:List dB} {v:dS} (m:(⟨n,u,a,b,c,y,z,d,j⟩:dS)=v):MS s p (bd e (iM v)) (n,u,a,b,c,y,z,d,j,x):=by
 refine⟨by rw[kK];exact h,fun r k=>?_⟩
 cases e with
 | error x=>cases k
 | ok i=>cases k;exact m
theorem yQ (n e:ByteArray) (a b c:Bool) (y z:Int) {B:_→Prop} (N:Nat) (A:N≤255) (d:Nat) (m:List cP) (x:RS) (o:Except (Int×Int) Int) (h:lR s p o x) (hd:m.length+d≤255)
 (u:∀ l x',lR s p (pl (bd o (rN (rI s p) d))) x'→(∀ r,bd o (rN (rI s p) d)=.ok r→l=m++r.1)→EvB (fun k=>aI.j1 k x'.1 x'.2.1 x'.2.2.1 x'.2.2.2.1 x'.2.2.2.2 n e a b c y z l) B):
 EvB (fun k=>aI.l0 k (N:Int) ((N:Int) - (d:Int)) x.1 x.2.1 x.2.2.1 x.2.2.2.1 x.2.2.2.2 n e a b c y z m) B:=by
 refine lS (L:=fun d m x k=>aI.l0 k (N:Int) ((N:Int) - (d:Int)) x.1 x.2.1 x.2.2.1 x.2.2.2.1 x.2.2.2.2 n e a b c y z m) (Fin:=fun l x' k=>aI.j1 k x'.1 x'.2.1 x'.2.2.1 x'.2.2.2.1 x'.2.2.2.2 n e a b c y z l) (Q:=lR s p) (M:=255) (f:=rI s p)
  (fun d m x i h hd v=>?_) (fun d m x D h q=>?_) (fun m x i h q=>?_) d m x o h hd u
 · have t:x.2.2.2.1=0:=by obtain⟨_,_,rfl⟩:=h;rfl
   refine EvB.step (fun k=>by rw[aI.l0,if_pos (by omega),if_pos t]) ?_
   refine EvB.then (zR hs hp h) (fun E h1=>EvB.ifp (by omega) ?_)
   have w:wrap64 ((N:Int) - ((d+1:Nat):Int)+1)=(N:Int) - (d:Int):=by unfold wrap64;omega
   rw[w]
   exact v _ _ h1.1 h1.2
 · have t:¬ x.2.2.2.1=0:=by obtain⟨hy,j,p',rfl⟩:=h;exact hy
   by_cases c0:(N:Int) - (d:Int) < (N:Int)
   · exact EvB.step (fun k=>by rw[aI.l0,if_pos c0,if_neg t]) q
   · exact EvB.step (fun k=>by rw[aI.l0,if_neg c0]) q
 · exact EvB.step (fun k=>by rw[aI.l0,if_neg (by omega)]) q
theorem zE {e:Except (Int×Int) Int} {x:RS} (h:lR s p e x):EvB (fun k=>aI.f k x.1 x.2.1 x.2.2.1 x.2.2.2.1 x.2.2.2.2) (MS s p (bd e (rM s p))):=by
 unfold aI.f
 refine EvB.then (kY hs hp h) (fun B h1=>EvB.then (kY hs hp h1.1) (fun D h2=>EvB.then (vC hs 7 3 (by decide) (by decide) h2.1) (fun E h3=>EvB.then (pL hs h3.1) (fun G h4=>EvB.then (pL hs h4.1) (fun I h5=>EvB.then (pL hs h5.1) (fun a h6=>?_))))))
 obtain⟨i,j,J,K⟩:=h6
 have m:a.1=((a.1.toNat:Nat):Int):=by omega
 have n:(0:Int)=((a.1.toNat:Nat):Int) - ((a.1.toNat:Nat):Int):=by omega
 rw[m]
 refine EvB.congr (fun k=>congrArg (fun z=>aI.l0 k ((a.1.toNat:Nat):Int) z _ _ _ _ _ _ _ _ _ _ _ _ _) n) ?_
 refine yQ hs hp _ _ _ _ _ _ _ _ (by omega) _ _ _ _ i (by simp;omega) (fun d L h7 o=>EvB.step (fun k=>by rw[aI.j1]) (EvB.then (pL hs h7) (fun b h8=>?_)))
 obtain⟨q,t,M,O⟩:=h8
 have u:b.1=((b.1.toNat:Nat):Int):=by omega
 have w:(0:Int)=((b.1.toNat:Nat):Int) - ((b.1.toNat:Nat):Int):=by omega
 rw[u]
 refine EvB.congr (fun k=>congrArg (fun z=>aI.l1 k ((b.1.toNat:Nat):Int) z _ _ _ _ _ _ _ _ _ _ _ _ _ _) w) ?_
 refine yX hs hp _ _ _ _ _ _ _ _ _ (by omega) _ _ _ _ q (by simp;omega) (fun y P h9 A=>?_)
 unfold rM
 rw[dR h1.2,dR h2.2,dR h3.2.1,dR h4.2.1,dR h5.2.1,dR j,dR (v:=d) (fun r c=>by rw[o r c,List.nil_append]),dR t,dR (v:=y) (fun r c=>by rw[A r c,List.nil_append])]
 exact zG h9 (by simp only[Int.sub_self])
def CS (s:ByteArray) (p:List ByteArray) (e:Rs sS) (q:ByteArray×ByteArray×Bool×Bool×List eM×List dS×RS):Prop:=lR s p (pl e) q.2.2.2.2.2.2∧∀ r,e=.ok r→(⟨q.1,q.2.1,q.2.2.1,q.2.2.2.1,q.2.2.2.2.1,q.2.2.2.2.2.1⟩:sS)=r.1
omit hs hp in
theorem yR {e:Except (Int×Int) Int} {x:RS} (h:lR s p e x) {n u:ByteArray} {a b:Bool} {c:List eM} {d:List dS} {v:sS} (k:(⟨n,u,a,b,c,d⟩:sS)=v):CS s p (bd e (iM v)) (n,u,a,b,c,d,x):=by
 refine⟨by rw[kK];exact h,fun r j=>?_⟩
 cases e with
 | error x=>cases j
 | ok i=>cases j;exact k
theorem xP (n u:ByteArray) (a b:Bool) (e:List eM) {B:_→Prop} (N:Nat) (D:N≤255) (d:Nat) (c:List dS) (x:RS) (m:Except (Int×Int) Int) (h:lR s p m x) (hd:c.length+d≤255)
 (z:∀ l x',lR s p (pl (bd m (rN (rM s p) d))) x'→(∀ r,bd m (rN (rM s p) d)=.ok r→l=c++r.1)→B (n,u,a,b,e,l,x')):
 EvB (fun k=>aN.l1 k (N:Int) ((N:Int) - (d:Int)) x.1 x.2.1 x.2.2.1 x.2.2.2.1 x.2.2.2.2 n u a b e c) B:=by
 refine lS (L:=fun d c x k=>aN.l1 k (N:Int) ((N:Int) - (d:Int)) x.1 x.2.1 x.2.2.1 x.2.2.2.1 x.2.2.2.2 n u a b e c) (Fin:=fun c x _=>some (n,u,a,b,e,c,x)) (Q:=lR s p) (M:=255) (f:=rM s p)
  (fun d c x i h hd A=>?_) (fun d c x E h o=>?_) (fun c x i h o=>?_) d c x m h hd (fun l x' h1 h2=>EvB.now (z l x' h1 h2))
 · have t:x.2.2.2.1=0:=by obtain⟨_,_,rfl⟩:=h;rfl
   refine EvB.step (fun k=>by rw[aN.l1,if_pos (by omega),if_pos t]) ?_
   refine EvB.then (zE hs hp h) (fun G h1=>EvB.ifp (by omega) ?_)
   have w:wrap64 ((N:Int) - ((d+1:Nat):Int)+1)=(N:Int) - (d:Int):=by unfold wrap64;omega
   rw[w]
   exact A _ _ h1.1 h1.2
 · obtain⟨q,v,y⟩:=o
   have t:¬ x.2.2.2.1=0:=by obtain⟨hy,j,p',rfl⟩:=h;exact hy
   refine⟨q,?_,y⟩
   by_cases c0:(N:Int) - (d:Int) < (N:Int)
   · exact Ev.step (fun k=>by rw[aN.l1,if_pos c0,if_neg t]) v
   · exact Ev.step (fun k=>by rw[aN.l1,if_neg c0]) v
 · exact EvB.step (fun k=>by rw[aN.l1,if_neg (by omega)]) o
theorem vR (n u:ByteArray) (a b:Bool) {B:_→Prop} (N:Nat) (G:N≤255) (d:Nat) (c:List eM) (x:RS) (e:Except (Int×Int) Int) (h:lR s p e x) (hd:c.length+d≤255)
 (y:∀ l x',lR s p (pl (bd e (rN (rX s p) d))) x'→(∀ r,bd e (rN (rX s p) d)=.ok r→l=c++r.1)→EvB (fun k=>(aT.f k x'.1 x'.2.1 x'.2.2.1 x'.2.2.2.1 x'.2.2.2.2 1 (-1) 0).bind fun t=>aN.l1 k t.1 0 t.2.1 t.2.2.1 t.2.2.2.1 t.2.2.2.2.1 t.2.2.2.2.2 n u a b l ([]:List dS)) B):
 EvB (fun k=>aN.l0 k (N:Int) ((N:Int) - (d:Int)) x.1 x.2.1 x.2.2.1 x.2.2.2.1 x.2.2.2.2 n u a b c) B:=by
 refine lS (L:=fun d c x k=>aN.l0 k (N:Int) ((N:Int) - (d:Int)) x.1 x.2.1 x.2.2.1 x.2.2.2.1 x.2.2.2.2 n u a b c) (Fin:=fun l x' k=>(aT.f k x'.1 x'.2.1 x'.2.2.1 x'.2.2.2.1 x'.2.2.2.2 1 (-1) 0).bind fun t=>aN.l1 k t.1 0 t.2.1 t.2.2.1 t.2.2.2.1 t.2.2.2.2.1 t.2.2.2.2.2 n u a b l ([]:List dS)) (Q:=lR s p) (M:=255) (f:=rX s p)
  (fun d c x i h hd z=>?_) (fun d c x I h m=>?_) (fun c x i h m=>?_) d c x e h hd y
 · have o:x.2.2.2.1=0:=by obtain⟨_,_,rfl⟩:=h;rfl
   refine EvB.step (fun k=>by rw[aN.l0,if_pos (by omega),o]) (EvB.step (fun k=>by rw[aN.j1,if_pos (by decide),← o]) ?_)
   refine EvB.then (kY hs hp h) (fun A h1=>EvB.then (kY hs hp h1.1) (fun D h2=>EvB.then (vC hs 1 3 (by decide) (by decide) h2.1) (fun E h3=>EvB.ifp (by omega) ?_)))
   have w:wrap64 ((N:Int) - ((d+1:Nat):Int)+1)=(N:Int) - (d:Int):=by unfold wrap64;omega
   rw[w]
   have q:rX s p i=bd (pl (bd (pl (bd (pl (bd (.ok i) (rT s p))) (rT s p))) (rF s 1 3))) (iM (⟨A.1,D.1,E.1 == 1⟩:eM)):=by
    show bd (.ok i) (rX s p)=_
    unfold rX
    rw[dR h1.2,dR h2.2,dR h3.2.1]
   exact z _ _ (by rw[q,kK];exact h3.1) (fun r v=>by rw[q] at v;exact mK r v)
 · have o:(x.2.2.2.1 == 0)=false:=by obtain⟨hy,j,p',rfl⟩:=h;exact beq_eq_false_iff_ne.mpr hy
   by_cases c0:(N:Int) - (d:Int) < (N:Int)
   · exact EvB.step (fun k=>by rw[aN.l0,if_pos c0,o]) (EvB.step (fun k=>by rw[aN.j1,if_neg (by simp)]) m)
   · exact EvB.step (fun k=>by rw[aN.l0,if_neg c0]) (EvB.step (fun k=>by rw[aN.j1,if_neg (by simp)]) m)
 · exact EvB.step (fun k=>by rw[aN.l0,if_neg (by omega)]) (EvB.step (fun k=>by rw[aN.j1,if_neg (by simp)]) m)
theorem xE {e:Except (Int×Int) Int} {x:RS} (h:lR s p e x):EvB (fun k=>aN.f k x.1 x.2.1 x.2.2.1 x.2.2.2.1 x.2.2.2.2) (CS s p (bd e (rC s p))):=by
 unfold aN.f
 refine EvB.then (kY hs hp h) (fun A h1=>EvB.then (kY hs hp h1.1) (fun B h2=>EvB.then (vC hs 3 3 (by decide) (by decide) h2.1) (fun D h3=>EvB.then (pL hs h3.1) (fun a h4=>?_))))
 obtain⟨d,i,a4,b4⟩:=h4
 have q4:a.1=((a.1.toNat:Nat):Int):=by omega
 have j:(0:Int)=((a.1.toNat:Nat):Int) - ((a.1.toNat:Nat):Int):=by omega
 rw[q4]
 refine EvB.congr (fun k=>congrArg (fun z=>aN.l0 k ((a.1.toNat:Nat):Int) z _ _ _ _ _ _ _ _ _ _) j) ?_
 refine vR hs hp _ _ _ _ _ (by omega) _ _ _ _ d (by simp;omega) (fun m E h7 n=>EvB.then (pL hs h7) (fun b h8=>?_))
 obtain⟨o,q,G,I⟩:=h8
 have t:b.1=((b.1.toNat:Nat):Int):=by omega
 have u:(0:Int)=((b.1.toNat:Nat):Int) - ((b.1.toNat:Nat):Int):=by omega
 rw[t]
 refine EvB.congr (fun k=>congrArg (fun z=>aN.l1 k ((b.1.toNat:Nat):Int) z _ _ _ _ _ _ _ _ _ _ _) u) ?_
 refine xP hs hp _ _ _ _ _ _ (by omega) _ _ _ _ o (by simp;omega) (fun w J h9 y=>?_)
 unfold rC
 rw[dR h1.2,dR h2.2,dR h3.2.1,dR i,dR (v:=m) (fun r c=>by rw[n r c,List.nil_append]),dR q,dR (v:=w) (fun r c=>by rw[y r c,List.nil_append])]
 exact yR h9 (by simp only[Int.sub_self])
omit hs hp in
theorem pP (b:ByteArray) {y:Int×Int} (c:y.1≠0) (j:Int) (a:List ByteArray):∀ d k,cG.l k b d s j a y.1 y.2=some (s,j,a,y.1,y.2)
 | 0,k=>rfl
 | d+1,k=>by rw[cG.l,if_neg c]
omit hp in
theorem yV (i:Int) (h0:0≤i) (h1:i≤(s.size:Int)):∃ q:ByteArray×Int×Int,Ev (fun k=>iH.f k s i) q∧(match jV s i with
 | .ok r=>q=(r.1,r.2,0)∧r.2≤(s.size:Int)∧i≤r.2
 | .error y=>(q.2.2=4∧y=(4,(s.size:Int)))∨(q.2.2=3∧y=(3,i))):=by
 have g:=vT hs i h0 h1
 unfold jV r1
 by_cases c:i < (s.size:Int)
 · rw[if_pos c] at g
   rw[if_pos c]
   have b:=bt_range s i
   have w:wrap64 ((s.size:Int) - bt s i)=(s.size:Int) - bt s i:=by unfold wrap64;omega
   have a:wrap64 (i+1+bt s i)=i+1+bt s i:=by unfold wrap64;omega
   have d:Ev (fun k=>lF.f k s i) (bt s i,i+1,0):=Ev.bind g (Ev.now _)
   simp only[]
   by_cases c2:(s.size:Int) < i+1+bt s i
   · rw[if_pos c2]
     refine⟨((⟨#[]⟩:ByteArray),0,4),Ev.bind d (Ev.congr (f:=fun _=>some ((⟨#[]⟩:ByteArray),0,4)) (fun k=>(if_pos rfl).trans (if_pos (by rw[w];show i+1 > _;omega))) (Ev.now _)),.inl ⟨rfl,rfl⟩⟩
   · rw[if_neg c2]
     have j:(s.extract (i+1).toNat (i+1+bt s i).toNat).size≤20000:=by rw[ByteArray.size_extract];omega
     have e:=(uF _ j).2
     have base:∀ q,Ev (fun k=>(cI.f k (s.extract (i+1).toNat (i+1+bt s i).toNat)).bind fun t=>if t=true then some (s.extract (i+1).toNat (i+1+bt s i).toNat,i+1+bt s i,0) else some ((⟨#[]⟩:ByteArray),0,3)) q→Ev (fun k=>iH.f k s i) q:=by
      intro q m
      unfold iH.f
      refine Ev.bind d (Ev.congr (fun k=>(if_pos rfl).trans ((if_neg (by rw[w];show ¬ i+1 > _;omega)).trans ((if_pos (by show 0≤i+1;omega)).trans ((if_pos (by rw[a];show i+1≤_;omega)).trans (if_pos (by rw[a];omega)))))) ?_)
      simp only[a];exact m
     by_cases c3:mW (s.extract (i+1).toNat (i+1+bt s i).toNat)=true
     · rw[if_pos c3]
       exact⟨_,base _ (Ev.bind e (Ev.congr (f:=fun _=>some _) (fun k=>if_pos c3) (Ev.now _))),rfl,by show i+1+bt s i≤_;omega,by show i≤i+1+bt s i;omega⟩
     · rw[if_neg c3]
       exact⟨((⟨#[]⟩:ByteArray),0,3),base _ (Ev.bind e (Ev.congr (f:=fun _=>some ((⟨#[]⟩:ByteArray),0,3)) (fun k=>if_neg c3) (Ev.now _))),.inr ⟨rfl,rfl⟩⟩
 · rw[if_neg c] at g
   rw[if_neg c]
   exact⟨((⟨#[]⟩:ByteArray),0,4),Ev.bind (Ev.bind g (Ev.now _)) (Ev.congr (f:=fun _=>some ((⟨#[]⟩:ByteArray),0,4)) (fun k=>if_neg (by decide)) (Ev.now _)),.inl ⟨rfl,rfl⟩⟩
def SP (s:ByteArray) (e:Rs (List ByteArray)) (x:RS):Prop:=match e with
 | .ok r=>0≤r.2∧r.2≤(s.size:Int)∧x=(s,r.2,r.1,0,0)
 | .error y=>y.1≠0∧∃ j a,x=(s,j,a,y.1,y.2)
omit hp in
theorem xR (d:Nat):∀ (a:List ByteArray) (i:Int),0≤i→i≤(s.size:Int)→a.length+d≤255→EvB (fun k=>cG.l k s d s i a 0 0) (SP s (match rN (jV s) d i with
 | .ok r=>.ok (a++r.1,r.2)
 | .error y=>.error y)):=by
 induction d with
 | zero =>
  intro a i h0 h1 hd
  refine EvB.congr (f:=fun _=>some (s,i,a,0,0)) (fun k=>rfl) (EvB.now ?_)
  show SP s (.ok (a++[],i)) _
  rw[List.append_nil];exact⟨h0,h1,rfl⟩
 | succ d ih =>
  intro a i h0 h1 hd
  obtain⟨q,c,hc⟩:=yV hs i h0 h1
  refine EvB.congr (fun k=>by rw[cG.l,if_pos rfl]) (EvB.bind c ?_)
  cases hr:jV s i with
  | error y =>
   rw[hr] at hc
   have p:rN (jV s) (d+1) i=.error y:=kE (e:=.ok i) (show bd (.ok i) (jV s)=.error y from hr)
   rw[p]
   rcases hc with ⟨h4,rfl⟩|⟨h3,rfl⟩
   · refine EvB.congr (fun k=>if_neg (by rw[h4];decide)) (EvB.bind (v:=(s,i,a,4,(s.size:Int))) (Ev.congr (f:=fun _=>some (s,i,a,4,(s.size:Int))) (fun k=>by rw[if_pos h4,if_pos h4,lN]) (Ev.now _)) ?_)
     exact EvB.congr (f:=fun _=>some (s,i,a,4,(s.size:Int))) (fun k=>pP s (y:=(4,(s.size:Int))) (by show (4:Int)≠0;decide) i a d k) (EvB.now ⟨(by show (4:Int)≠0;decide),i,a,rfl⟩)
   · have o:¬ q.2.2=4:=by rw[h3];decide
     refine EvB.congr (fun k=>if_neg (by rw[h3];decide)) (EvB.bind (v:=(s,i,a,3,i)) (Ev.congr (f:=fun _=>some (s,i,a,3,i)) (fun k=>by rw[if_neg o,if_neg o,lN]) (Ev.now _)) ?_)
     exact EvB.congr (f:=fun _=>some (s,i,a,3,i)) (fun k=>pP s (y:=(3,i)) (by show (3:Int)≠0;decide) i a d k) (EvB.now ⟨(by show (3:Int)≠0;decide),i,a,rfl⟩)
  | ok r =>
   rw[hr] at hc
   obtain⟨rfl,t,r1'⟩:=hc
   have h:=ih (a++[r.1]) r.2 (by omega) t (by simp;omega)
   refine EvB.congr (fun k=>(if_pos rfl).trans (if_pos (by omega))) (h.mono (fun q c=>?_))
   have j:rN (jV s) (d+1) i=bd (pl (bd (.ok i) (jV s))) (rb (rN (jV s) d) (fun l=>iM (r.1 :: l))):=dR (e:=.ok i) (m:=jV s) (f:=fun x=>rb (rN (jV s) d) (fun l=>iM (x :: l))) (fun z h2=>by rw[show bd (.ok i) (jV s)=jV s i from rfl,hr] at h2;cases h2;rfl)
   have u:pl (bd (.ok i) (jV s))=.ok r.2:=by rw[show bd (.ok i) (jV s)=jV s i from rfl,hr];rfl
   rw[u] at j
   cases hh:rN (jV s) d r.2 with
   | error y =>
    rw[hh] at c
    rw[j,kE (e:=.ok r.2) (show bd (.ok r.2) (rN (jV s) d)=.error y from hh)];exact c
   | ok b =>
    rw[hh] at c
    have w:rN (jV s) (d+1) i=.ok (r.1 :: b.1,b.2):=by
     rw[j,dR (v:=b.1) (fun A n=>by rw[show bd (.ok r.2) (rN (jV s) d)=rN (jV s) d r.2 from rfl,hh] at n;cases n;rfl),show bd (.ok r.2) (rN (jV s) d)=rN (jV s) d r.2 from rfl,hh];rfl
    rw[w]
    show SP s (.ok (a++(r.1 :: b.1),b.2)) q
    rw[show a++(r.1 :: b.1)=a++[r.1]++b.1 by simp];exact c
end
def RP {α:Type} (P:α→Prop) (m:Rd α):Prop:=∀ i r,m i=.ok r→P r.1
theorem RP.ret {α:Type} {P:α→Prop} {v:α} (h:P v):RP P (iM v):=by
 intro i r a
 cases a;exact h
theorem RP.bnd {α β:Type} {A:α→Prop} {B:β→Prop} {m:Rd α} {f:α→Rd β} (h:RP A m) (g:∀ v,A v→RP B (f v)):RP B (rb m f):=by
 intro i r a
 unfold rb at a
 cases hm:m i with
 | error x=>rw[hm] at a;cases a
 | ok r1=>rw[hm] at a;exact g r1.1 (h i r1 hm) r1.2 r a
theorem RP.many {α:Type} {A:α→Prop} {f:Rd α} (h:RP A f):∀ n,RP (fun l:List α=>l.length=n∧∀ x∈l,A x) (rN f n)
 | 0=>RP.ret ⟨rfl,fun x a=>absurd a (by simp)⟩
 | n + 1 => RP.bnd h (fun v c => RP.bnd (RP.many h n) (fun l b => RP.ret ⟨by simp[b.1], fun x a => by
  rcases List.mem_cons.mp a with rfl|a
  · exact c
  · exact b.2 x a⟩))
section
variable (s:ByteArray) (p:List ByteArray)
theorem vF:RP (fun v=>0≤v∧v≤255) (r1 s):=by
 intro i r a
 unfold r1 at a
 by_cases c:i < (s.size:Int)
 · rw[if_pos c] at a;cases a;exact bt_range s i
 · rw[if_neg c] at a;cases a
theorem aAd (m c:Int):RP (fun v=>0≤v∧v≤255) (rF s m c):=by
 intro i r a
 unfold rF at a
 cases h1:r1 s i with
 | error x=>rw[h1] at a;cases a
 | ok q =>
  rw[h1] at a
  simp only[] at a
  by_cases c1:q.1 > m
  · rw[if_pos c1] at a;cases a
  · rw[if_neg c1] at a;cases a;exact vF s i _ h1
theorem sM (d:∀ t∈p,t.size≤20000):RP (fun t=>t.size≤20000) (rT s p):=by
 intro i r a
 unfold rT at a
 cases h1:r1 s i with
 | error x=>rw[h1] at a;cases a
 | ok q =>
  rw[h1] at a
  simp only[] at a
  have b:=vF s i _ h1
  by_cases c1:q.1 < (p.length:Int)
  · rw[if_pos c1] at a;cases a
    have c:q.1.toNat < p.length:=by omega
    have e:rdOf ByteArray.empty p q.1=p[q.1.toNat]:=uG ByteArray.empty p q.1 c
    show (rdOf ByteArray.empty p q.1).size≤20000
    rw[e];exact d _ (List.getElem_mem c)
  · rw[if_neg c1] at a;cases a
def IZ (i:cP):Prop:=i.f2.size≤20000∧i.f3.size≤20000∧i.f4.size≤20000
theorem uM:(⟨#[]⟩:ByteArray).size≤20000:=by decide
theorem RP.any {α:Type} (m:Rd α):RP (fun _=>True) m:=fun _ _ _=>trivial
theorem aAf (e:∀ t∈p,t.size≤20000):RP IZ (rI s p):=by
 have a:=sM s p e
 refine RP.bnd (RP.any _) (fun o _=>?_)
 obtain⟨F,f1,_⟩:=lD o
 simp only[f1]
 unfold qV
 repeat' split
 · exact RP.bnd (RP.any _) (fun _ _=>RP.ret ⟨uM,uM,uM⟩)
 · exact RP.bnd (RP.any _) (fun _ _=>RP.ret ⟨uM,uM,uM⟩)
 · exact RP.bnd a (fun c b=>RP.ret ⟨b,uM,uM⟩)
 · exact RP.bnd a (fun c b=>RP.ret ⟨uM,uM,b⟩)
 · exact RP.bnd a (fun c b=>RP.bnd a (fun n i=>RP.bnd a (fun d hd=>RP.ret ⟨b,i,hd⟩)))
 · exact RP.ret ⟨uM,uM,uM⟩
theorem aAe (a:∀ t∈p,t.size≤20000):RP (fun h:dB=>h.f3.size≤20000) (rH s p):=
 RP.bnd (RP.any _) (fun _ _=>RP.bnd (RP.any _) (fun _ _=>RP.bnd (RP.any _) (fun _ _=>RP.bnd (sM s p a) (fun _ b=>RP.ret b))))
def MZ (m:dS):Prop:=m.f0.size≤20000∧m.f1.size≤20000∧(m.f7.length≤255∧∀ i∈m.f7,IZ i)∧(m.f8.length≤255∧∀ h∈m.f8,h.f3.size≤20000)
theorem aAg (a:∀ t∈p,t.size≤20000):RP MZ (rM s p):=
 RP.bnd (sM s p a) (fun _ h1=>RP.bnd (sM s p a) (fun _ h2=>RP.bnd (RP.any _) (fun _ _=>RP.bnd (RP.any _) (fun _ _=>RP.bnd (RP.any _) (fun _ _=>RP.bnd (vF s) (fun c b=>RP.bnd (RP.many (aAf s p a) c.toNat) (fun _ h7=>RP.bnd (vF s) (fun h d=>RP.bnd (RP.many (aAe s p a) h.toNat) (fun _ h8=>RP.ret ⟨h1,h2,⟨by rw[h7.1];omega,h7.2⟩,by rw[h8.1];omega,h8.2⟩)))))))))
def zX (c:sS):Prop:=c.f0.size≤20000∧c.f1.size≤20000∧(c.f4.length≤255∧∀ f∈c.f4,f.f0.size≤20000∧f.f1.size≤20000)∧(c.f5.length≤255∧∀ m∈c.f5,MZ m)
theorem aAc (c:∀ t∈p,t.size≤20000):RP zX (rC s p):=
 RP.bnd (sM s p c) (fun _ h1=>RP.bnd (sM s p c) (fun _ h2=>RP.bnd (RP.any _) (fun _ _=>RP.bnd (vF s) (fun a i=>RP.bnd (RP.many (A:=fun f:eM=>f.f0.size≤20000∧f.f1.size≤20000) (RP.bnd (sM s p c) (fun _ d=>RP.bnd (sM s p c) (fun _ e=>RP.bnd (RP.any _) (fun _ _=>RP.ret ⟨d,e⟩)))) a.toNat) (fun _ h4=>RP.bnd (vF s) (fun b j=>RP.bnd (RP.many (aAg s p c) b.toNat) (fun _ h5=>RP.ret ⟨h1,h2,⟨by rw[h4.1];omega,h4.2⟩,by rw[h5.1];omega,h5.2⟩)))))))
theorem zW (hs:s.size≤20000):RP (fun t=>t.size≤20000) (jV s):=by
 intro i r a
 unfold jV at a
 cases h1:r1 s i with
 | error x=>rw[h1] at a;cases a
 | ok q =>
  rw[h1] at a
  simp only[] at a
  by_cases c1:(s.size:Int) < q.2+q.1
  · rw[if_pos c1] at a;cases a
  · rw[if_neg c1] at a
    by_cases c2:mW (s.extract q.2.toNat (q.2+q.1).toNat)=true
    · rw[if_pos c2] at a;cases a
      show (s.extract q.2.toNat (q.2+q.1).toNat).size≤20000
      rw[ByteArray.size_extract];omega
    · rw[if_neg c2] at a;cases a
theorem zV (hs:s.size≤20000):RP (fun p:List ByteArray=>p.length≤255∧∀ t∈p,t.size≤20000) (oW s):=
 RP.bnd (aAd s 200 5) (fun m d=>fun i r c=>by
  obtain⟨a,b⟩:=RP.many (zW s hs) m.toNat i r c
  exact⟨by rw[a];omega,b⟩)
theorem yK (hs:s.size≤20000) (e:Except (Int×Int) Int):(yJ (bd e (oW s))).length≤255∧∀ t∈yJ (bd e (oW s)),t.size≤20000:=by
 cases e with
 | error y=>exact⟨by show 0≤255;decide,fun t a=>absurd a (by show t ∉ [];simp)⟩
 | ok i =>
  cases h:oW s i with
  | error y=>rw[show bd (.ok i) (oW s)=oW s i from rfl,h];exact⟨by show 0≤255;decide,fun t a=>absurd a (by show t ∉ [];simp)⟩
  | ok r=>rw[show bd (.ok i) (oW s)=oW s i from rfl,h];exact zV s hs i r h
theorem zN (hs:s.size≤20000) (r:sS×Int) (h:nR s 0=.ok r):zX r.1:=by
 rw[sY] at h
 cases hp:pl (bd (pl (bd (.ok 0) (sV s))) (oW s)) with
 | error y=>rw[hp] at h;cases h
 | ok i =>
  rw[hp] at h
  exact aAc s _ (yK s hs _).2 i r h
end
theorem yS {c:sS} (h:zX c):c.f0.size≤1048576∧c.f1.size≤1048576∧c.f4.length≤1048576∧c.f5.length≤1048576∧(∀ x∈c.f5,sX x)∧(∀ x∈c.f4,zL x):=by
 obtain⟨h0,h1,⟨h4,h4'⟩,h5,h5'⟩:=h
 refine⟨by omega,by omega,by omega,by omega,fun m j=>?_,fun f k=>?_⟩
 · obtain⟨a,b,⟨c,c'⟩,d,d'⟩:=h5' m j
   exact⟨by omega,by omega,fun i e=>⟨by have:=(c' i e).1;omega,by have:=(c' i e).2.1;omega,by have:=(c' i e).2.2;omega⟩,fun q n=>by have:=d' q n;omega,by omega,by omega⟩
 · have:=h4' f k
   exact⟨by omega,by omega⟩
theorem aAa (s:ByteArray):match bd (.ok 0) (sV s) with
 | .ok r=>cG.hd s 3 0=none∧r.2=3∧3≤(s.size:Int)
 | .error y=>cG.hd s 3 0=some (y.2,y.1):=by
 have d:bt (⟨#[67,70,1]⟩:ByteArray) 0=67:=by decide
 have e:bt (⟨#[67,70,1]⟩:ByteArray) (0+1)=70:=by decide
 have i:bt (⟨#[67,70,1]⟩:ByteArray) (0+1+1)=1:=by decide
 show match sV s 0 with
  | .ok r=>cG.hd s 3 0=none∧r.2=3∧3≤(s.size:Int)
  | .error y=>cG.hd s 3 0=some (y.2,y.1)
 unfold sV rb rW r1 iM
 simp only[cG.hd,d,e,i]
 by_cases c0:(0:Int) < (s.size:Int)
 · rw[if_pos c0,if_neg (by omega)]
   simp only[]
   by_cases a:bt s 0=67
   · rw[if_pos a,if_pos a]
     simp only[]
     by_cases c1:(0:Int)+1 < (s.size:Int)
     · rw[if_pos c1,if_neg (by omega)]
       simp only[]
       by_cases b:bt s (0+1)=70
       · rw[if_pos b,if_pos b]
         simp only[]
         by_cases c2:(0:Int)+1+1 < (s.size:Int)
         · rw[if_pos c2,if_neg (by omega)]
           simp only[]
           by_cases c:bt s (0+1+1)=1
           · rw[if_pos c,if_pos c]
             exact⟨rfl,rfl,by omega⟩
           · rw[if_neg c,if_neg c]
         · rw[if_neg c2,if_pos (by omega)]
           simp only[];congr 2;omega
       · rw[if_neg b,if_neg b]
     · rw[if_neg c1,if_pos (by omega)]
       simp only[];congr 2;omega
   · rw[if_neg a,if_neg a]
 · rw[if_neg c0,if_pos (by omega)]
   simp only[];congr 2;omega
theorem rV {s:ByteArray} (hs:s.size≤20000) (t:Bool) (o:ByteArray) (I:∀ c j,nR s 0=.ok (c,j)→Ev (fun k=>aC.f k c.f0 c.f1 c.f2 c.f3 c.f4 c.f5) t∧(t=true→Ev (fun k=>eE.f k c.f0 c.f1 c.f2 c.f3 c.f4 c.f5) o)):Ev (fun k=>cG.f k s) (pB s t o):=by
 refine Ev.congr (fun k=>by unfold cG.f;exact if_neg (by omega)) ?_
 have hd:=aAa s
 have i:=sY s
 cases h0:bd (.ok 0) (sV s) with
 | error y =>
  rw[h0] at hd i
  simp only[] at hd
  have m:nR s 0=.error y:=i
  unfold pB
  rw[m]
  exact Ev.congr (f:=fun _=>some (rA y.2 y.1)) (fun k=>by rw[hd];rfl) (Ev.now _)
 | ok r =>
  rw[h0] at hd i
  simp only[] at hd
  obtain⟨hn,h3,hz⟩:=hd
  have a:pl (.ok r:Rs Unit)=.ok 3:=by show Except.ok r.2=_;rw[h3]
  rw[a] at i
  have G:lR s [] (.ok 3) (s,3,[],0,0):=⟨by decide,hz,rfl⟩
  refine Ev.congr (fun k=>by rw[hn]) ?_
  obtain⟨tt,a1,J⟩:=vC hs 200 5 (by decide) (by decide) G
  obtain⟨v,b⟩:=tt
  obtain⟨p,K,g3,A⟩:=J
  have A:v≤255:=A
  refine Ev.bind a1 ?_
  have L:∃ u,Ev (fun k=>cG.l k s v.toNat b.1 b.2.1 b.2.2.1 b.2.2.2.1 b.2.2.2.2) u∧SP s (bd (.ok 3) (oW s)) u:=by
   cases hF:bd (.ok 3) (rF s 200 5) with
   | error y =>
    rw[hF] at p
    obtain⟨hy,j,p',d⟩:=p
    have d:b=(s,j,p',y.1,y.2):=d
    subst d
    refine⟨(s,j,p',y.1,y.2),Ev.congr (f:=fun _=>some (s,j,p',y.1,y.2)) (fun k=>pP s hy j p' _ k) (Ev.now _),?_⟩
    unfold oW;rw[kE hF];exact⟨hy,j,p',rfl⟩
   | ok r =>
    rw[hF] at p
    obtain⟨j0,j1,d⟩:=p
    have d:b=(s,r.2,[],0,0):=d
    subst d
    have M:v=r.1:=K r hF
    obtain⟨q,x,n⟩:=xR hs v.toNat [] r.2 j0 j1 (by simp;omega)
    refine⟨q,x,?_⟩
    have O:bd (.ok 3) (oW s)=rN (jV s) v.toNat r.2:=by
     unfold oW
     rw[dR (v:=v) (fun r' B=>by rw[hF] at B;cases B;exact M),hF];rfl
    rw[O]
    cases hN:rN (jV s) v.toNat r.2 with
    | error y=>rw[hN] at n;exact n
    | ok r3=>rw[hN] at n;exact n
  obtain⟨u,P,z⟩:=L
  have T:=(yK s hs (.ok 3)).1
  refine Ev.bind P ?_
  generalize bd (.ok 3) (oW s)=E at z i T
  have U:lR s (yJ E) (pl E) u:=by
   cases E with
   | error y=>exact z
   | ok r=>exact z
  obtain⟨q,c1,c2⟩:=xE hs (by omega) U
  rw[← i] at c2
  refine Ev.bind c1 ?_
  obtain⟨w,W⟩:=c2
  obtain⟨X,x,n,Y,q4,Z,D⟩:=q
  unfold pB
  cases m:nR s 0 with
  | error y =>
   rw[m] at w
   obtain⟨hy,j,p',a⟩:=w
   have a:D=(s,j,p',y.1,y.2):=a
   subst a
   exact Ev.congr (f:=fun _=>some (rA y.2 y.1)) (fun k=>if_neg hy) (Ev.now _)
  | ok r =>
   obtain⟨c,j⟩:=r
   rw[m] at w
   obtain⟨j0,j1,a⟩:=w
   have a:D=(s,j,yJ E,0,0):=a
   subst a
   have hc:(⟨X,x,n,Y,q4,Z⟩:sS)=c:=W (c,j) m
   obtain⟨t1,t2⟩:=I c j m
   subst hc
   refine Ev.congr (fun k=>if_pos rfl) ?_
   by_cases c3:j < (s.size:Int)
   · exact Ev.congr (f:=fun _=>some (rA j 3)) (fun k=>if_pos c3) (Ev.congr (fun k=>by simp only[];rw[if_pos c3]) (Ev.now _))
   · refine Ev.congr (fun k=>if_neg c3) (Ev.bind t1 ?_)
     simp only[]
     rw[if_neg c3]
     cases t with
     | false=>exact Ev.congr (f:=fun _=>some (rA (s.size:Int) 1)) (fun k=>if_neg (by simp)) (Ev.now _)
     | true =>
      rw[if_pos rfl]
      refine Ev.congr (fun k=>if_pos rfl) (Ev.bind (t2 rfl) ?_)
      by_cases c4:o=s
      · rw[if_pos c4]
        exact Ev.congr (f:=fun _=>some _) (fun k=>if_pos (by rw[c4])) (Ev.now _)
      · rw[if_neg c4]
        exact Ev.congr (f:=fun _=>some (rA (s.size:Int) 5)) (fun k=>if_neg (fun e=>c4 ((toList_eq _ _).mp e))) (Ev.now _)
theorem oO (s:ByteArray) (hs:s.size≤1048576):∃ r:CO,Ev (fun k=>cG.f k s) r∧Ev (fun k=>fL.f k s) r∧r.2.2.2.2.1.length≤255∧r.2.2.2.2.2.1.length≤255∧(∀ m∈r.2.2.2.2.2.1,m.f7.length≤255∧m.f8.length≤255):=by
 by_cases hz:s.size≤20000
 · have q:∃ (t:Bool) (o:ByteArray),∀ c j,nR s 0=.ok (c,j)→(Ev (fun k=>bD.f k c.f0 c.f1 c.f2 c.f3 c.f4 c.f5) t∧(t=true→Ev (fun k=>eK.f k c.f0 c.f1 c.f2 c.f3 c.f4 c.f5) o))∧(Ev (fun k=>aC.f k c.f0 c.f1 c.f2 c.f3 c.f4 c.f5) t∧(t=true→Ev (fun k=>eE.f k c.f0 c.f1 c.f2 c.f3 c.f4 c.f5) o))∧zX c:=by
    cases hA:nR s 0 with
    | error y=>exact⟨false,⟨#[]⟩,fun c j h=>by cases h⟩
    | ok r =>
     have i:=zN s hz r hA
     obtain⟨z0,z1,z4,z5,zm,zf⟩:=yS i
     obtain⟨t,n,p,u⟩:=nU r.1.f0 r.1.f1 r.1.f2 r.1.f3 r.1.f4 r.1.f5 z0 z1 z4 z5 zm zf
     cases t with
     | false=>exact⟨false,⟨#[]⟩,fun c j h=>by cases h;exact⟨⟨p,fun h=>by cases h⟩,⟨n,fun h=>by cases h⟩,i⟩⟩
     | true =>
      obtain⟨lf,lm,e⟩:=u rfl
      obtain⟨o,v,o2⟩:=sZ r.1.f0 r.1.f1 r.1.f2 r.1.f3 r.1.f4 r.1.f5 lf lm e
      refine⟨true,o,fun c j h=>?_⟩
      cases h
      refine⟨⟨p,fun _=>v⟩,⟨n,fun _=>?_⟩,i⟩
      unfold eE.f
      exact Ev.bind n (Ev.congr (fun k=>if_pos rfl) o2)
   obtain⟨t,o,hto⟩:=q
   refine⟨pB s t o,rV hz t o (fun c j h=>(hto c j h).2.1),?_,?_⟩
   · unfold fL.f
     refine Ev.bind (a:=true) ?_ (Ev.congr (fun k=>if_pos rfl) (Ev.bind (rU hz t o (fun c j h=>(hto c j h).1)) (Ev.now _)))
     have h:=qW s
     rw[decide_eq_true hz] at h
     exact⟨_,fun k e=>at_rounds (cK.mono [s]) e h⟩
   · unfold pB
     cases hA:nR s 0 with
     | error y=>exact⟨by show 0≤255;decide,by show 0≤255;decide,fun m d=>absurd d (by show m ∉ [];simp)⟩
     | ok r =>
      obtain⟨c,j⟩:=r
      obtain⟨_,_,⟨w,_⟩,x,h5⟩:=(hto c j hA).2.2
      have no:∀ a b:Int,(rA a b).2.2.2.2.1.length≤255∧(rA a b).2.2.2.2.2.1.length≤255∧∀ m∈(rA a b).2.2.2.2.2.1,m.f7.length≤255∧m.f8.length≤255:=fun a b=>⟨by show 0≤255;decide,by show 0≤255;decide,fun m d=>absurd d (by show m ∉ [];simp)⟩
      simp only[]
      split
      · exact no _ _
      · split
        · split
          · exact⟨w,x,fun m d=>⟨(h5 m d).2.2.1.1,(h5 m d).2.2.2.1⟩⟩
          · exact no _ _
        · exact no _ _
 · refine⟨rA 0 2,Ev.congr (f:=fun _=>some (rA 0 2)) (fun k=>by unfold cG.f;exact if_pos (by omega)) (Ev.now _),?_,by show 0≤255;decide,by show 0≤255;decide,fun m d=>absurd d (by show m ∉ [];simp)⟩
   unfold fL.f
   refine Ev.bind (a:=false) ?_ (Ev.congr (f:=fun _=>some (rA 0 2)) (fun k=>if_neg (by simp)) (Ev.now _))
   have h:=qW s
   rw[decide_eq_false hz] at h
   exact⟨_,fun k e=>at_rounds (cK.mono [s]) e h⟩
theorem xG (x y:cP):aE (fun k=>jL.f x.f0 x.f1 x.f2 x.f3 x.f4 y.f0 y.f1 y.f2 y.f3 y.f4) (x=y):=by
 obtain⟨a0,a1,a,b,a4⟩:=x
 obtain⟨c,d,e,b3,b4⟩:=y
 unfold jL.f
 refine aE.iff (aE.ite (aE.ite (aE.ite (aE.ite (aE.ite aE.yes))))) ?_
 rw[toList_eq,toList_eq,toList_eq]
 simp
theorem vO (a b:List cP) (c:a.length≤1048576):aE (fun k=>eB.f k a b) (a=b):=by
 by_cases hl:a.length=b.length
 · refine aE.congr (f:=fun k=>eB.l0 k a b 0) (fun k=>by unfold eB.f;rw[if_pos (by omega)]) ?_
   exact oS (z:=oQ) (E:=fun k x y=>jL.f x.f0 x.f1 x.f2 x.f3 x.f4 y.f0 y.f1 y.f2 y.f3 y.f4) (fun k a b i=>rfl) a b (fun x _ y _=>xG x y) hl (by omega)
 · exact aE.iff (aE.congr (f:=fun _=>some false) (fun k=>by unfold eB.f;rw[if_neg (by omega)]) aE.no) ⟨fun h=>h.elim,fun h=>hl (congrArg List.length h)⟩
theorem rY (x y:dB):aE (fun k=>gU.f x.f0 x.f1 x.f2 x.f3 y.f0 y.f1 y.f2 y.f3) (x=y):=by
 obtain⟨a0,a1,a,b⟩:=x
 obtain⟨c,d,e,b3⟩:=y
 unfold gU.f
 refine aE.iff (aE.ite (aE.ite (aE.ite (aE.ite aE.yes)))) ?_
 rw[toList_eq]
 simp
theorem qR (a b:List dB) (c:a.length≤1048576):aE (fun k=>cV.f k a b) (a=b):=by
 by_cases hl:a.length=b.length
 · refine aE.congr (f:=fun k=>cV.l0 k a b 0) (fun k=>by unfold cV.f;rw[if_pos (by omega)]) ?_
   exact oS (z:=pR) (E:=fun k x y=>gU.f x.f0 x.f1 x.f2 x.f3 y.f0 y.f1 y.f2 y.f3) (fun k a b i=>rfl) a b (fun x _ y _=>rY x y) hl (by omega)
 · exact aE.iff (aE.congr (f:=fun _=>some false) (fun k=>by unfold cV.f;rw[if_neg (by omega)]) aE.no) ⟨fun h=>h.elim,fun h=>hl (congrArg List.length h)⟩
theorem rZ (c d:ByteArray) (e i j:Bool) (m n:Int) (a:List cP) (b:List dB) (o p:ByteArray) (q b3 r:Bool) (s t:Int) (u:List cP) (v:List dB) (h7:a.length≤1048576) (h8:b.length≤1048576):
 aE (fun k=>gI.f k c d e i j m n a b o p q b3 r s t u v) (c=o∧d=p∧e=q∧i=b3∧j=r∧m=s∧n=t∧a=u∧b=v):=by
 unfold gI.f
 refine aE.iff (aE.ite (aE.ite (aE.iten (aE.iten (aE.iten (aE.ite (aE.ite (aE.bind (vO _ _ h7) (aE.bind (qR _ _ h8) aE.yes))))))))) ?_
 rw[toList_eq,toList_eq]
 simp
theorem tB (x y:dS) (h7:x.f7.length≤1048576) (h8:x.f8.length≤1048576):aE (fun k=>gI.f k x.f0 x.f1 x.f2 x.f3 x.f4 x.f5 x.f6 x.f7 x.f8 y.f0 y.f1 y.f2 y.f3 y.f4 y.f5 y.f6 y.f7 y.f8) (x=y):=by
 obtain⟨a0,a1,a,b,a4,c,d,e,i⟩:=x
 obtain⟨j,m,n,b3,b4,b5,o,p,q⟩:=y
 exact aE.iff (rZ _ _ _ _ _ _ _ _ _ _ _ _ _ _ _ _ _ _ h7 h8) (by simp)
def zY (x:dS):Prop:=x.f7.length≤1048576∧x.f8.length≤1048576
theorem uO (x y:eM):aE (fun k=>iG.f x.f0 x.f1 x.f2 y.f0 y.f1 y.f2) (x=y):=by
 obtain⟨a0,a1,a⟩:=x
 obtain⟨b,c,d⟩:=y
 unfold iG.f
 refine aE.iff (aE.ite (aE.ite (aE.iten aE.yes))) ?_
 rw[toList_eq,toList_eq]
 simp
theorem tA (a b:List eM) (c:a.length≤1048576):aE (fun k=>dH.f k a b) (a=b):=by
 by_cases hl:a.length=b.length
 · refine aE.congr (f:=fun k=>dH.l0 k a b 0) (fun k=>by unfold dH.f;rw[if_pos (by omega)]) ?_
   exact oS (z:=nM) (E:=fun k x y=>iG.f x.f0 x.f1 x.f2 y.f0 y.f1 y.f2) (fun k a b i=>rfl) a b (fun x _ y _=>uO x y) hl (by omega)
 · exact aE.iff (aE.congr (f:=fun _=>some false) (fun k=>by unfold dH.f;rw[if_neg (by omega)]) aE.no) ⟨fun h=>h.elim,fun h=>hl (congrArg List.length h)⟩
theorem sA (a b:List dS) (e:a.length≤1048576) (c:∀ x∈a,zY x):aE (fun k=>dD.f k a b) (a=b):=by
 by_cases hl:a.length=b.length
 · refine aE.congr (f:=fun k=>dD.l0 k a b 0) (fun k=>by unfold dD.f;rw[if_pos (by omega)]) ?_
   exact oS (z:=mO) (E:=fun k x y=>gI.f k x.f0 x.f1 x.f2 x.f3 x.f4 x.f5 x.f6 x.f7 x.f8 y.f0 y.f1 y.f2 y.f3 y.f4 y.f5 y.f6 y.f7 y.f8) (fun k a b i=>rfl) a b (fun x d y _=>tB x y (c x d).1 (c x d).2) hl (by omega)
 · exact aE.iff (aE.congr (f:=fun _=>some false) (fun k=>by unfold dD.f;rw[if_neg (by omega)]) aE.no) ⟨fun h=>h.elim,fun h=>hl (congrArg List.length h)⟩
theorem uN (n s:ByteArray) (f b:Bool) (c:List eM) (a:List dS) (i j:ByteArray) (m o:Bool) (d:List eM) (e:List dS) (h4:c.length≤1048576) (h5:a.length≤1048576) (p:∀ x∈a,zY x):
 aE (fun k=>jC.f k n s f b c a i j m o d e) (n=i∧s=j∧f=m∧b=o∧c=d∧a=e):=by
 unfold jC.f
 refine aE.iff (aE.ite (aE.ite (aE.iten (aE.iten (aE.bind (tA c d h4) (aE.bind (sA a e h5 p) aE.yes)))))) ?_
 rw[toList_eq,toList_eq]
 simp
theorem sF (d:Nat):∀ (n:Nat) (x:ByteArray),n < 10 ^ d→n < 9223372036854775808→x.size+d≤1000→∃ r,Ev (fun k=>bE.l0 k n x) r:=by
 induction d with
 | zero =>
  intro n x a b i
  have e:n=0:=by simpa using a
  subst e
  refine⟨(⟨#[109]⟩:ByteArray)++x,Ev.step (f:=fun _=>some ((⟨#[109]⟩:ByteArray)++x)) (fun k=>?_) (Ev.now _)⟩
  simp only[bE.l0]
  rw[if_neg (by omega),if_pos (by omega)]
 | succ d ih =>
  intro n x a b i
  by_cases c:n=0
  · subst c
    refine⟨(⟨#[109]⟩:ByteArray)++x,Ev.step (f:=fun _=>some ((⟨#[109]⟩:ByteArray)++x)) (fun k=>?_) (Ev.now _)⟩
    simp only[bE.l0]
    rw[if_neg (by omega),if_pos (by omega)]
  · have j:wrap64 (Int.tdiv (n:Int) 10)=((n / 10:Nat):Int):=by
     rw[Int.tdiv_eq_ediv_of_nonneg (by omega)]
     unfold wrap64
     omega
    have m:n < 10 ^ d*10:=by rw[← Nat.pow_succ];exact a
    have hs:∀ y:List Int,(strOfNums y).size=y.length:=strOfNums_size
    obtain⟨r,hr⟩:=ih (n / 10) (strOfNums [(wrap64 (48+(Int.tmod (n:Int) 10))) % 256]++x) (by omega) (by omega) (by rw[ByteArray.size_append,hs];simp;omega)
    refine⟨r,Ev.step (fun k=>?_) hr⟩
    simp only[bE.l0,Option.bind_some,j]
    rw[if_pos (by omega),if_pos (by rw[hs];simp;omega)]
theorem uY (n:Int) (h0:0≤n) (h1:n < 9223372036854775808):∃ r,Ev (fun k=>bE.f k n) r:=by
 obtain⟨m,rfl⟩:=Int.eq_ofNat_of_zero_le h0
 by_cases c:(m:Int)≤0
 · refine⟨(⟨#[109,48]⟩:ByteArray),Ev.congr (f:=fun _=>some (⟨#[109,48]⟩:ByteArray)) (fun k=>?_) (Ev.now _)⟩
   unfold bE.f
   rw[if_pos c]
 · have a:(10:Nat) ^ 19=10000000000000000000:=by decide +kernel
   obtain⟨r,hr⟩:=sF 19 m ⟨#[]⟩ (by rw[a];omega) (by omega) (by show 0+19≤1000;omega)
   refine⟨r,Ev.congr (fun k=>?_) hr⟩
   unfold bE.f
   rw[if_neg c]
theorem mt (m:Int) (h0:0≤m) (h1:m < 9223372036854775807):∃ r,Ev (fun k=>bE.f k m) r:=uY m h0 (by omega)
def kF {α:Type} (E:α→Int→Int→Prop):List α→Int→Int→Prop
 | [],n,m=>m=n
 | x :: l,n,m=>∃ p,E x n p∧kF E l p m
theorem kF.snoc {α:Type} {E:α→Int→Int→Prop}:∀ {l:List α} {n p m:Int} {x:α},kF E l n p→E x p m→kF E (l++[x]) n m
 | [], n, p, m, x, h, e => by
  obtain rfl:p=n:=h
  exact⟨m,e,rfl⟩
 | y :: l, n, p, m, x, h, e => by
  obtain⟨q,h1,h2⟩:=h
  exact⟨q,h1,kF.snoc h2 e⟩
theorem kF.le {α:Type} {E:α→Int→Int→Prop} (a:∀ x n m,E x n m→n≤m):∀ {l:List α} {n m:Int},kF E l n m→n≤m
 | [], n, m, h => by
  obtain rfl:m=n:=h
  exact Int.le_refl _
 | y :: l, n, m, h => by
  obtain⟨q,h1,h2⟩:=h
  exact Int.le_trans (a _ _ _ h1) (kF.le a h2)
theorem nD {α:Type} {L:Nat→List α→Int→Int→Option (Int×List α)} {c:Nat} {M:Int} (E:α→Int→Int→Prop) (b:List α) (u:b.length≤4611686018427387904)
 (v:∀ k a m,L (k+1) a m (a.length:Int)=some (m,a))
 (hs:∀ (B:Int×List α→Prop) (a:List α) (m:Int) (i:Nat) (o:i < b.length),a.length=b.length→a[i]?=some b[i]→0≤m→m≤M→(∀ n x,E x m n→m≤n→n≤m+c→EvB (fun k=>L k (a.set i x) n (wrap64 ((i:Int)+1))) B)→EvB (fun k=>L k a m (i:Int)) B)
 (m:Int) (h0:0≤m) (A:m+((c*b.length:Nat):Int)≤M):EvB (fun k=>L k b m 0) (fun q=>kF E q.2 m q.1∧q.2.length=b.length∧m≤q.1∧q.1≤m+((c*b.length:Nat):Int)):=by
 have t:∀ (d i:Nat) (a:List α) (m1:Int),i+d=b.length→a.length=b.length→(∀ j,i≤j→a[j]?=b[j]?)→m≤m1→m1≤m+((c*i:Nat):Int)→kF E (a.take i) m m1→EvB (fun k=>L k a m1 (i:Int)) (fun q=>kF E q.2 m q.1∧q.2.length=b.length∧m≤q.1∧q.1≤m+((c*b.length:Nat):Int)):=by
  intro d
  induction d with
  | zero =>
   intro i a m1 hd p s h1 h2 r
   obtain rfl:i=a.length:=by omega
   rw[List.take_length] at r
   exact⟨(m1,a),Ev.step (f:=fun _=>some (m1,a)) (fun k=>v k a m1) (Ev.now _),r,p,h1,by rw[← p];exact h2⟩
  | succ d ih =>
   intro i a m1 hd p s h1 h2 r
   have o:i < b.length:=by omega
   have e:c*(i+1)=c*i+c:=Nat.mul_succ c i
   have D:c*(i+1)≤c*b.length:=Nat.mul_le_mul_left c o
   refine hs _ a m1 i o p (by rw[s i (Nat.le_refl _)];simp[o]) (by omega) (by omega) (fun n x w G I=>?_)
   rw[mN o u]
   refine ih (i+1) (a.set i x) n (by omega) (by simpa using p) (fun j z=>by rw[List.getElem?_set_ne (by omega),s j (by omega)]) (by omega) (by omega) ?_
   have y:(a.set i x).take (i+1)=a.take i++[x]:=by
    rw[List.take_add_one,List.getElem?_set_self (by omega),List.take_set,List.set_eq_of_length_le (by simp;omega)]
    rfl
   rw[y]
   exact kF.snoc r w
 exact t b.length 0 b m (by omega) rfl (fun _ _=>rfl) (Int.le_refl _) (by simp) rfl
theorem nB {α:Type} {L:Nat→Int→Int→Option Int} {M:Int} (E:α→Int→Int→Prop) (j:∀ x n m,E x n m→n≤m) (a:List α) (t:a.length≤4611686018427387904)
 (u:∀ k m,L (k+1) m (a.length:Int)=some m)
 (hs:∀ (i:Nat) (c:i < a.length) (m e r:Int),0≤m→e≤M→E a[i] m e→Ev (fun k=>L k e (wrap64 ((i:Int)+1))) r→Ev (fun k=>L k m (i:Int)) r)
 (n m:Int) (h0:0≤n) (v:m≤M) (H:kF E a n m):Ev (fun k=>L k n 0) m:=by
 have s:∀ (d i:Nat) (m1:Int),i+d=a.length→n≤m1→kF E (a.drop i) m1 m→Ev (fun k=>L k m1 (i:Int)) m:=by
  intro d
  induction d with
  | zero =>
   intro i m1 hd h1 b
   obtain rfl:i=a.length:=by omega
   rw[List.drop_length] at b
   obtain rfl:m=m1:=b
   exact Ev.step (f:=fun _=>some m) (fun k=>u k m) (Ev.now _)
  | succ d ih =>
   intro i m1 hd h1 b
   have c:i < a.length:=by omega
   rw[List.drop_eq_getElem_cons c] at b
   obtain⟨p,o,q⟩:=b
   have:=j _ _ _ o
   have:=kF.le j q
   refine hs i c m1 p m (by omega) (by omega) o ?_
   rw[mN c t]
   exact ih (i+1) p (by omega) (by omega) q
 exact s a.length 0 n (by omega) (Int.le_refl _) H
def b3 (n:Int):Bool:=Int.tmod n 3 == 0
def wZ (x:eM) (n m:Int):Prop:=m=n+3∧Ev (fun k=>bE.f k n) x.f0∧Ev (fun k=>bE.f k (n+1)) x.f1∧x.f2=b3 (n+2)
def uI (x:cP) (n m:Int):Prop:=m=n+5∧x.f0=n∧x.f1=n+1∧Ev (fun k=>bE.f k (n+2)) x.f2∧Ev (fun k=>bE.f k (n+3)) x.f3∧Ev (fun k=>bE.f k (n+4)) x.f4
def uH (x:dB) (n m:Int):Prop:=m=n+4∧x.f0=n∧x.f1=n+1∧x.f2=n+2∧Ev (fun k=>bE.f k (n+3)) x.f3
def xA (x:dS) (n m:Int):Prop:=n≤m∧Ev (fun k=>bE.f k n) x.f0∧Ev (fun k=>bE.f k (n+1)) x.f1∧x.f2=b3 (n+2)∧x.f3=b3 (n+3)∧x.f4=b3 (n+4)∧x.f5=n+5∧x.f6=n+6∧(x.f7.length≤1048576∧x.f8.length≤1048576)∧∃ p,kF uI x.f7 (n+7) p∧kF uH x.f8 p m
theorem oY {α:Type} (z:α) (l:List α) (i:Nat) (x:α) (h:i < l.length):(l.set (i:Int).toNat x).getD (i:Int).toNat z=x:=by
 rw[Int.toNat_natCast]
 have e:(l.set i x)[i]?=some x:=by rw[List.getElem?_set_self h]
 simp[List.getD,e]
theorem w1 (m:Int) (h0:0≤m) (h1:m≤9000000000000000000):wrap64 (m+1)=m+1:=by unfold wrap64;omega
theorem sE (l:List eM) (j:l.length≤1048576) (m:Int) (h0:0≤m) (h1:m≤1000000000000000000):EvB (fun k=>eD.f k l m) (fun q=>kF wZ q.2 m q.1∧q.2.length=l.length∧m≤q.1∧q.1≤m+((3*l.length:Nat):Int)):=by
 refine nD (L:=fun k a m i=>eD.l0 k a m i) (c:=3) (M:=2000000000000000000) wZ l (by omega) (fun k a m=>by simp only[eD.l0];rw[if_neg (by omega)]) (fun B a m i s j t h0 u H=>?_) m h0 (by omega)
 have e:i < a.length:=by omega
 have n:∀ x,bP (a.set (i:Int).toNat x) (i:Int)=x:=fun x=>oY nM a i x e
 have o:wrap64 (m+1)=m+1:=w1 m h0 (by omega)
 have p:wrap64 (m+1+1)=m+2:=by unfold wrap64;omega
 have r:wrap64 (m+2+1)=m+3:=by unfold wrap64;omega
 obtain⟨v,b⟩:=mt m h0 (by omega)
 obtain⟨w,d⟩:=mt (m+1) (by omega) (by omega)
 refine EvB.step (fun k=>by rw[eD.l0,if_pos (by omega)]) ?_
 simp only[o,p,r]
 refine EvB.bind b (EvB.congr (fun k=>if_pos (by omega)) (EvB.bind (Ev.now _) ?_))
 refine EvB.bind d (EvB.bind (Ev.now _) ?_)
 simp only[n,List.set_set]
 rw[Int.toNat_natCast]
 exact H (m+3) _ ⟨rfl,b,d,rfl⟩ (by omega) (by omega)
theorem uX (l:List cP) (n:l.length≤1048576) (m:Int) (h0:0≤m) (h1:m≤1000000000000000000):EvB (fun k=>eQ.f k l m) (fun q=>kF uI q.2 m q.1∧q.2.length=l.length∧m≤q.1∧q.1≤m+((5*l.length:Nat):Int)):=by
 refine nD (L:=fun k a m i=>eQ.l0 k a m i) (c:=5) (M:=2000000000000000000) uI l (by omega) (fun k a m=>by simp only[eQ.l0];rw[if_neg (by omega)]) (fun B a m i u n v h0 w H=>?_) m h0 (by omega)
 have j:i < a.length:=by omega
 have o:∀ x,aG (a.set (i:Int).toNat x) (i:Int)=x:=fun x=>oY oQ a i x j
 have p:wrap64 (m+1)=m+1:=w1 m h0 (by omega)
 have r:wrap64 (m+1+1)=m+2:=by unfold wrap64;omega
 have s:wrap64 (m+2+1)=m+3:=by unfold wrap64;omega
 have q4:wrap64 (m+3+1)=m+4:=by unfold wrap64;omega
 have t:wrap64 (m+4+1)=m+5:=by unfold wrap64;omega
 obtain⟨y,b⟩:=mt (m+2) (by omega) (by omega)
 obtain⟨z,d⟩:=mt (m+3) (by omega) (by omega)
 obtain⟨A,e⟩:=mt (m+4) (by omega) (by omega)
 refine EvB.step (fun k=>by rw[eQ.l0,if_pos (by omega),if_pos (by omega)]) ?_
 simp only[p,r,s,q4,t]
 refine EvB.bind (Ev.now _) (EvB.bind (Ev.now _) (EvB.bind b (EvB.bind (Ev.now _) (EvB.bind d (EvB.bind (Ev.now _) (EvB.bind e ?_))))))
 simp only[o,List.set_set]
 rw[Int.toNat_natCast]
 exact H (m+5) _ ⟨rfl,rfl,rfl,b,d,e⟩ (by omega) (by omega)
theorem uW (l:List dB) (e:l.length≤1048576) (m:Int) (h0:0≤m) (h1:m≤1000000000000000000):EvB (fun k=>dO.f k l m) (fun q=>kF uH q.2 m q.1∧q.2.length=l.length∧m≤q.1∧q.1≤m+((4*l.length:Nat):Int)):=by
 refine nD (L:=fun k a m i=>dO.l0 k a m i) (c:=4) (M:=2000000000000000000) uH l (by omega) (fun k a m=>by simp only[dO.l0];rw[if_neg (by omega)]) (fun B a m i r e s h0 t H=>?_) m h0 (by omega)
 have d:i < a.length:=by omega
 have j:∀ x,aX (a.set (i:Int).toNat x) (i:Int)=x:=fun x=>oY pR a i x d
 have n:wrap64 (m+1)=m+1:=w1 m h0 (by omega)
 have o:wrap64 (m+1+1)=m+2:=by unfold wrap64;omega
 have p:wrap64 (m+2+1)=m+3:=by unfold wrap64;omega
 have q4:wrap64 (m+3+1)=m+4:=by unfold wrap64;omega
 obtain⟨u,b⟩:=mt (m+3) (by omega) (by omega)
 refine EvB.step (fun k=>by rw[dO.l0,if_pos (by omega),if_pos (by omega)]) ?_
 simp only[n,o,p,q4]
 refine EvB.bind (Ev.now _) (EvB.bind (Ev.now _) (EvB.bind (Ev.now _) (EvB.bind b ?_)))
 simp only[j,List.set_set]
 rw[Int.toNat_natCast]
 exact H (m+4) _ ⟨rfl,rfl,rfl,rfl,b⟩ (by omega) (by omega)
theorem tI (l:List dS) (t:l.length≤1048576) (u:∀ x∈l,x.f7.length≤1048576∧x.f8.length≤1048576) (m:Int) (h0:0≤m) (h1:m≤1000000000):EvB (fun k=>eC.f k l m) (fun q=>kF xA q.2 m q.1∧q.2.length=l.length∧m≤q.1∧q.1≤m+((10000000*l.length:Nat):Int)):=by
 refine nD (L:=fun k a m i=>eC.l0 k a m i) (c:=10000000) (M:=100000000000000000) xA l (by omega) (fun k a m=>by simp only[eC.l0];rw[if_neg (by omega)]) (fun B a m i w t e h0 Y H=>?_) m h0 (by omega)
 have b:i < a.length:=by omega
 have y:a[i]=l[i]:=by rw[List.getElem?_eq_getElem b] at e;exact Option.some.inj e
 have z:aA a (i:Int)=l[i]:=(getD_at b:a.getD (i:Int).toNat mO=a[i]).trans y
 have d:∀ x,aA (a.set (i:Int).toNat x) (i:Int)=x:=fun x=>oY mO a i x b
 obtain⟨A,D⟩:=u _ (List.getElem_mem w)
 have E:wrap64 (m+1)=m+1:=w1 m h0 (by omega)
 have G:wrap64 (m+1+1)=m+2:=by unfold wrap64;omega
 have I:wrap64 (m+2+1)=m+3:=by unfold wrap64;omega
 have q4:wrap64 (m+3+1)=m+4:=by unfold wrap64;omega
 have J:wrap64 (m+4+1)=m+5:=by unfold wrap64;omega
 have K:wrap64 (m+5+1)=m+6:=by unfold wrap64;omega
 have O:wrap64 (m+6+1)=m+7:=by unfold wrap64;omega
 obtain⟨j,n⟩:=mt m h0 (by omega)
 obtain⟨o,p⟩:=mt (m+1) (by omega) (by omega)
 obtain⟨⟨m8,L7⟩,P,r,n7,T⟩:=uX l[i].f7 A (m+7) (by omega) (by omega)
 simp only[] at T r n7
 obtain⟨⟨m9,U⟩,W,s,n8,X⟩:=uW l[i].f8 D m8 (by omega) (by omega)
 simp only[] at X s n8
 refine EvB.step (fun k=>by rw[eC.l0,if_pos (by omega)]) ?_
 simp only[E,G,I,q4,J,K,O]
 refine EvB.bind n (EvB.congr (fun k=>if_pos (by omega)) (EvB.bind (Ev.now _) ?_))
 refine EvB.bind p (EvB.bind (Ev.now _) (EvB.bind (Ev.now _) (EvB.bind (Ev.now _) (EvB.bind (Ev.now _) (EvB.bind (Ev.now _) ?_)))))
 simp only[d,List.set_set,z]
 refine EvB.bind (v:=(m8,a.set (i:Int).toNat ⟨j,o,b3 (m+2),b3 (m+3),b3 (m+4),m+5,m+6,L7,l[i].f8⟩)) ?_ ?_
 · refine Ev.congr (fun k=>by unfold iV.f;rw[if_pos (by omega),if_pos (by rw[List.length_set];omega),d]) ?_
   simp only[List.set_set]
   exact Ev.bind P (Ev.now _)
 refine EvB.bind (v:=(m9,a.set (i:Int).toNat ⟨j,o,b3 (m+2),b3 (m+3),b3 (m+4),m+5,m+6,L7,U⟩)) ?_ ?_
 · refine Ev.congr (fun k=>by unfold iW.f;rw[if_pos (by omega),if_pos (by rw[List.length_set];omega),d]) ?_
   simp only[List.set_set]
   exact Ev.bind W (Ev.now _)
 rw[Int.toNat_natCast]
 exact H m9 _ ⟨by omega,n,p,rfl,rfl,rfl,rfl,rfl,⟨by simp only[];omega,by simp only[];omega⟩,m8,r,s⟩ (by omega) (by omega)
theorem sB (l:List eM) (u:l.length≤1048576) (n m:Int) (h0:0≤n) (a:m≤1000000000000000000) (H:kF wZ l n m):Ev (fun k=>bY.f k l n) m:=by
 refine nB (L:=fun k m i=>bY.l0 k l m i) (M:=1000000000000000000) wZ (fun x n m h=>by have:=h.1;omega) l (by omega) (fun k m=>by simp only[bY.l0];rw[if_neg (by omega)]) (fun i b m v r h0 h1 c d=>?_) n m h0 a H
 obtain⟨rfl,e,j,o⟩:=c
 have p:bP l (i:Int)=l[i]:=(getD_at b:l.getD (i:Int).toNat nM=l[i])
 have q:wrap64 (m+1)=m+1:=w1 m h0 (by omega)
 have s:wrap64 (m+1+1)=m+2:=by unfold wrap64;omega
 have t:wrap64 (m+2+1)=m+3:=by unfold wrap64;omega
 refine Ev.step (fun k=>by show bY.l0 (k+1) l m (i:Int)=_;rw[bY.l0,if_pos (by omega),if_pos (by omega)]) ?_
 simp only[q,s,t,p]
 refine Ev.bind e (Ev.congr (fun k=>if_pos rfl) (Ev.bind j (Ev.congr (fun k=>if_pos rfl) (Ev.congr (fun k=>if_neg ?_) d))))
 rw[o];simp[b3]
theorem uQ (l:List cP) (y:l.length≤1048576) (n m:Int) (h0:0≤n) (a:m≤1000000000000000000) (H:kF uI l n m):Ev (fun k=>bS.f k l n) m:=by
 refine nB (L:=fun k m i=>bS.l0 k l m i) (M:=1000000000000000000) uI (fun x n m h=>by have:=h.1;omega) l (by omega) (fun k m=>by simp only[bS.l0];rw[if_neg (by omega)]) (fun i b m z r h0 h1 c d=>?_) n m h0 a H
 obtain⟨rfl,e,j,o,p,q⟩:=c
 have s:aG l (i:Int)=l[i]:=(getD_at b:l.getD (i:Int).toNat oQ=l[i])
 have t:wrap64 (m+1)=m+1:=w1 m h0 (by omega)
 have u:wrap64 (m+1+1)=m+2:=by unfold wrap64;omega
 have v:wrap64 (m+2+1)=m+3:=by unfold wrap64;omega
 have q4:wrap64 (m+3+1)=m+4:=by unfold wrap64;omega
 have w:wrap64 (m+4+1)=m+5:=by unfold wrap64;omega
 refine Ev.step (fun k=>by show bS.l0 (k+1) l m (i:Int)=_;rw[bS.l0,if_pos (by omega),if_pos (by omega)]) ?_
 simp only[t,u,v,q4,w,s]
 exact Ev.congr (fun k=>if_pos e) (Ev.congr (fun k=>if_pos j) (Ev.bind o (Ev.congr (fun k=>if_pos rfl) (Ev.bind p (Ev.congr (fun k=>if_pos rfl) (Ev.bind q (Ev.congr (fun k=>if_pos rfl) d)))))))
theorem uP (l:List dB) (v:l.length≤1048576) (n m:Int) (h0:0≤n) (a:m≤1000000000000000000) (H:kF uH l n m):Ev (fun k=>cH.f k l n) m:=by
 refine nB (L:=fun k m i=>cH.l0 k l m i) (M:=1000000000000000000) uH (fun x n m h=>by have:=h.1;omega) l (by omega) (fun k m=>by simp only[cH.l0];rw[if_neg (by omega)]) (fun i b m w r h0 h1 c d=>?_) n m h0 a H
 obtain⟨rfl,e,j,o,p⟩:=c
 have q:aX l (i:Int)=l[i]:=(getD_at b:l.getD (i:Int).toNat pR=l[i])
 have s:wrap64 (m+1)=m+1:=w1 m h0 (by omega)
 have t:wrap64 (m+1+1)=m+2:=by unfold wrap64;omega
 have u:wrap64 (m+2+1)=m+3:=by unfold wrap64;omega
 have q4:wrap64 (m+3+1)=m+4:=by unfold wrap64;omega
 refine Ev.step (fun k=>by show cH.l0 (k+1) l m (i:Int)=_;rw[cH.l0,if_pos (by omega),if_pos (by omega)]) ?_
 simp only[s,t,u,q4,q]
 exact Ev.congr (fun k=>if_pos e) (Ev.congr (fun k=>if_pos j) (Ev.congr (fun k=>if_pos o) (Ev.bind p (Ev.congr (fun k=>if_pos rfl) d))))
theorem tG (l:List dS) (K:l.length≤1048576) (n m:Int) (h0:0≤n) (c:m≤100000000000000000) (H:kF xA l n m):Ev (fun k=>bR.f k l n) m:=by
 refine nB (L:=fun k m i=>bR.l0 k l m i) (M:=100000000000000000) xA (fun x n m h=>h.1) l (by omega) (fun k m=>by simp only[bR.l0];rw[if_neg (by omega)]) (fun i d m O r h0 h1 e j=>?_) n m h0 c H
 obtain⟨P,o,q,s,t,u,v,w,⟨y,z⟩,p,a,b⟩:=e
 have A:aA l (i:Int)=l[i]:=(getD_at d:l.getD (i:Int).toNat mO=l[i])
 have T:=kF.le (fun x n m (h:uI x n m)=>by have:=h.1;omega) a
 have U:=kF.le (fun x n m (h:uH x n m)=>by have:=h.1;omega) b
 have B:wrap64 (m+1)=m+1:=w1 m h0 (by omega)
 have D:wrap64 (m+1+1)=m+2:=by unfold wrap64;omega
 have E:wrap64 (m+2+1)=m+3:=by unfold wrap64;omega
 have q4:wrap64 (m+3+1)=m+4:=by unfold wrap64;omega
 have G:wrap64 (m+4+1)=m+5:=by unfold wrap64;omega
 have I:wrap64 (m+5+1)=m+6:=by unfold wrap64;omega
 have J:wrap64 (m+6+1)=m+7:=by unfold wrap64;omega
 refine Ev.step (fun k=>by show bR.l0 (k+1) l m (i:Int)=_;rw[bR.l0,if_pos (by omega),if_pos (by omega)]) ?_
 simp only[B,D,E,q4,G,I,J,A]
 refine Ev.bind o (Ev.congr (fun k=>if_pos rfl) (Ev.bind q (Ev.congr (fun k=>if_pos rfl) ?_)))
 refine Ev.congr (fun k=>if_neg (by rw[s];simp[b3])) (Ev.congr (fun k=>if_neg (by rw[t];simp[b3])) (Ev.congr (fun k=>if_neg (by rw[u];simp[b3])) (Ev.congr (fun k=>if_pos v) (Ev.congr (fun k=>if_pos w) ?_))))
 exact Ev.bind (uQ _ y _ _ (by omega) (by omega) a) (Ev.congr (fun k=>if_neg (by omega)) (Ev.bind (uP _ z _ _ (by omega) (by omega) b) (Ev.congr (fun k=>if_neg (by omega)) j)))
theorem pK (n s:ByteArray) (f b:Bool) (c:List eM) (a:List dS) (i:c.length≤1048576) (j:a.length≤1048576) (m:∀ x∈a,x.f7.length≤1048576∧x.f8.length≤1048576):
 EvB (fun k=>iS.f k n s f b c a 1) (fun q=>¬ q.1 < 0∧Ev (fun k=>iF.f k n s f b q.2.1 q.2.2 1) q.1):=by
 obtain⟨⟨m1,F1⟩,o,d,p,r,c1⟩:=sE c i 1 (by omega) (by omega)
 simp only[] at r d p c1
 obtain⟨⟨m2,M2⟩,t,e,u,v,c2⟩:=tI a j m m1 (by omega) (by omega)
 simp only[] at v e u c2
 refine⟨(m2,F1,M2),Ev.bind o (Ev.bind t (Ev.now _)),by simp only[];omega,?_⟩
 unfold iF.f
 refine Ev.bind (sB F1 (by omega) 1 m1 (by omega) (by omega) d) (Ev.congr (fun k=>if_neg (by omega)) ?_)
 exact Ev.bind (tG M2 (by omega) m1 m2 (by omega) (by omega) e) (Ev.congr (fun k=>if_neg (by omega)) (Ev.now _))
theorem FnExactClassRead:laws_FnExactClassRead.Pure:=by
 intro s hs
 refine Ev.rounds (Ev.congr (fun k=>rfl) ?_)
 by_cases h1:s.size≤1048576
 · refine Ev.congr (fun k=>if_neg (by omega)) ?_
   obtain⟨r,r1,b,j,m,lm⟩:=oO s h1
   have e:∀ x∈r.2.2.2.2.2.1,zY x:=fun x a=>by
    have:=lm x a
    unfold zY
    omega
   have c:Ev (fun k=>fS.f k r.1 r.2.1 r.2.2.1 r.2.2.2.1 r.2.2.2.2.1 r.2.2.2.2.2.1 r.2.2.2.2.2.2.1 r.2.2.2.2.2.2.2 r.1 r.2.1 r.2.2.1 r.2.2.2.1 r.2.2.2.2.1 r.2.2.2.2.2.1 r.2.2.2.2.2.2.1 r.2.2.2.2.2.2.2) true:=
    Ev.bind (aE.true_ (uN _ _ _ _ _ _ _ _ _ _ _ _ (by omega) (by omega) e) ⟨rfl,rfl,rfl,rfl,rfl,rfl⟩) (Ev.congr (fun k=>if_pos rfl) (Ev.congr (fun k=>if_pos rfl) (Ev.congr (fun k=>if_pos rfl) (Ev.now _))))
   obtain⟨q,m1,m2,m3⟩:=pK r.1 r.2.1 r.2.2.1 r.2.2.2.1 r.2.2.2.2.1 r.2.2.2.2.2.1 (by omega) (by omega) (fun x a=>by have:=lm x a;omega)
   have i:Ev (fun k=>gX.f k r.1 r.2.1 r.2.2.1 r.2.2.2.1 r.2.2.2.2.1 r.2.2.2.2.2.1 r.2.2.2.2.2.2.1 r.2.2.2.2.2.2.2 1) q:=Ev.bind m1 (Ev.now _)
   have d:Ev (fun k=>fH.f k r.1 r.2.1 r.2.2.1 r.2.2.2.1 q.2.1 q.2.2 r.2.2.2.2.2.2.1 r.2.2.2.2.2.2.2 1) q.1:=Ev.bind m3 (Ev.congr (fun k=>if_neg m2) (Ev.now _))
   refine Ev.bind r1 (Ev.bind b (Ev.bind c (Ev.congr (fun k=>if_pos rfl) (Ev.bind i (Ev.bind d (Ev.congr (fun k=>if_neg m2) (Ev.congr (fun k=>if_pos rfl) ?_)))))))
   exact Ev.bind b (Ev.bind c (Ev.congr (fun k=>if_pos rfl) (Ev.bind d (Ev.congr (fun k=>if_neg m2) (Ev.congr (fun k=>if_pos rfl) (Ev.now _))))))
 · exact Ev.congr (f:=fun _=>some true) (fun k=>if_pos (by omega)) (Ev.now _)
end Go.Proofs.YtkbebmifpccofaaGreat.Pure
