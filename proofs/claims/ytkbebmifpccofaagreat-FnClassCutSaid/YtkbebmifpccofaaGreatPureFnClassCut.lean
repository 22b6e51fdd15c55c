/- Of a drawn right class's bytes no beginning alone is a class: it is told to be too short, at its end. -/
import Derived.Test.YtkbebmifpccofaaGreatPFnClassCutx28
namespace Go.Proofs.YtkbebmifpccofaaGreat.Pure
open Go.RowKit Go.Proofs.YtkbebmifpccofaaGreat.PFnClassCut Go.Proofs.YtkbebmifpccofaaGreatW.PrintWords Go.Proofs.YtkbebmifpccofaaGreatW.PrintLast
set_option linter.unusedVariables false
set_option linter.unusedSimpArgs false
theorem pC:∀ n:Nat,n < 44→bU.f 16 (((n+1:Nat):Int))=cO.f (((n+1:Nat):Int))∧(cO.f (((n+1:Nat):Int))).isSome=true:=by decide +kernel
theorem iP (a:Int):∃ F,cO.f a=some F∧∀ k,16≤k→bU.f k a=some F:=by
  have up:∀ F,bU.f 16 a=some F→∀ k,16≤k→bU.f k a=some F:=fun F h k b=>at_rounds (g:=fun k=>bU.f k a) (fun k=>bU.mono _ _) b h
  by_cases h1:1≤a∧a≤44
  · have e:a=(((a - 1).toNat+1:Nat):Int):=by omega
    have h:=pC (a - 1).toNat (by omega)
    rw [← e] at h
    obtain⟨F,hF⟩:=Option.isSome_iff_exists.mp h.2
    exact⟨F,hF,up F (h.1.trans hF)⟩
  · refine⟨⟨#[33]⟩,?_,up _ ?_⟩
    · unfold cO.f gC.f cX.f
      by_cases c:a ≥ 1
      · rw [if_pos c]
        simp only [Option.bind_some]
        rw [if_neg (by simp;omega)]
      · rw [if_neg c]
        simp only [Option.bind_some]
        rw [if_neg (by simp)]
    · unfold bU.f jM.f
      simp only [Option.bind_some]
      by_cases c:a < 1
      · rw [if_pos c]
        rfl
      · rw [if_neg c,decide_eq_true (by simp;omega)]
        rfl
theorem jO {i:Int} {n:Nat} (h0:0≤i) (h:i < (n:Int)) (a:n≤140737488351232):wrap64 (i+1)=i+1:=by
  unfold wrap64
  omega
theorem nY:∀ c:Nat,c < 256→eB.f (c:Int) 0=dK.f (c:Int) true∧eB.f (c:Int) 1=dK.f (c:Int) false:=by decide +kernel
theorem jW (c:Int) (b:Bool):∃ r,dK.f c b=some r:=by
  unfold dK.f
  repeat' split
  all_goals exact⟨_,rfl⟩
theorem oL (c i:Int) (h0:0≤c) (h1:c≤255) (d:0≤i):eB.f c i=dK.f c (i == 0):=by
  obtain⟨n,rfl⟩:=Int.eq_ofNat_of_zero_le h0
  have h:=nY n (by omega)
  by_cases e:i=0
  · subst e;simpa using h.1
  · have a:(i == 0)=false:=by simpa using e
    rw [a,← h.2]
    unfold eB.f
    have b:decide (i > 0)=decide ((1:Int) > 0):=by simp;omega
    rw [b]
theorem nZ (s:ByteArray) (j:s.size≤140737488351232) (d:Nat):∀ (k k':Nat) (i:Int),0≤i→i≤s.size→(s.size:Int) - i=d→d < k→d < k'→
    ∃ b,aE.l0 k s i=some b∧aV.l0 k' s (s.size:Int) i=some (b && decide (1≤s.size∧s.size≤20)):=by
  induction d with
  | zero =>
    intro k k' i h0 h1 n o e
    obtain⟨k,rfl⟩:∃ m,k=m+1:=⟨k - 1,by omega⟩
    obtain⟨k',rfl⟩:∃ m,k'=m+1:=⟨k' - 1,by omega⟩
    refine⟨true,?_,?_⟩
    · simp only [aE.l0];rw [if_neg (by omega)]
    · simp only [aV.l0]
      rw [if_neg (by omega)]
      simp only [bW.f,cX.f,Option.bind_some]
      by_cases c1:(s.size:Int) ≥ 1
      · rw [if_pos c1]
        simp only [Option.bind_some,Bool.true_and]
        exact congrArg some (decide_eq_decide.mpr (by omega))
      · rw [if_neg c1,decide_eq_false (show ¬ (1≤s.size∧s.size≤20) by omega)]
        rfl
  | succ d ih =>
    intro k k' i h0 h1 n o e
    obtain⟨k,rfl⟩:∃ m,k=m+1:=⟨k - 1,by omega⟩
    obtain⟨k',rfl⟩:∃ m,k'=m+1:=⟨k' - 1,by omega⟩
    have a:i < (s.size:Int):=by omega
    have c:=bt_range s i
    simp only [aE.l0,aV.l0]
    rw [if_pos a,if_pos h0,if_pos a,if_pos h0,if_pos a,jO h0 a j,oL _ _ c.1 c.2 h0]
    obtain⟨r,hr⟩:=jW (bt s i) (i == 0)
    rw [hr]
    cases r with
    | false=>exact⟨false,by simp,by simp⟩
    | true =>
      obtain⟨b,p,q⟩:=ih k k' (i+1) (by omega) (by omega) (by omega) (by omega) (by omega)
      exact⟨b,by simpa using p,by simpa using q⟩
theorem jX (s:ByteArray) (c:s.size≤140737488351232):∃ b,(∀ k,s.size+3≤k→aE.f k s=some b)∧(∀ k,s.size+3≤k→aV.f k s=some b):=by
  obtain⟨b,d,e⟩:=nZ s c s.size (s.size+1) (s.size+1) 0 (by omega) (by omega) (by omega) (by omega) (by omega)
  refine⟨b && decide (1≤s.size∧s.size≤20),fun k i=>?_,fun k i=>?_⟩
  · obtain⟨k,rfl⟩:∃ m,k=m+1:=⟨k - 1,by omega⟩
    have a:=at_rounds (g:=fun k=>aE.l0 k s 0) (k':=k) (fun k=>(aE.mono_l k).2 s 0) (by omega) d
    unfold aE.f
    by_cases c1:(s.size:Int) < 1
    · rw [if_pos c1]
      simp only [aE.j0]
      simp;omega
    · rw [if_neg c1]
      by_cases c2:(s.size:Int) > 20
      · simp only [aE.j0,c2]
        simp;omega
      · simp only [aE.j0,c2]
        rw [decide_eq_false (by simp),if_neg (by simp),a]
        simp;omega
  · unfold aV.f
    exact at_rounds (g:=fun k=>aV.l0 k s (s.size:Int) 0) (fun k=>aV.mono_l k s (s.size:Int) 0) (by omega) e
def gG:Nat→ByteArray→Int→Int→Int
  | 0,_,_,i=>i
  | n+1,t,f,i=>if i < (t.size:Int)∧dK.f (bt t i) (i == f)=some true then gG n t f (i+1) else i
def nameAt (t:ByteArray) (f:Int):Int×Bool:=
  if gG 20 t f f < (t.size:Int)∧bt t (gG 20 t f f)=59∧gG 20 t f f≠f then (gG 20 t f f+1,true) else (gG 20 t f f,false)
def fO (t:ByteArray) (a:Int):Int×Bool:=
  if a < (t.size:Int)∧bt t a=73 then (a+1,true) else if a < (t.size:Int)∧bt t a=76 then nameAt t (a+1) else (a,false)
def gQ (t:ByteArray) (a:Int):Int×Bool:=if a < (t.size:Int)∧bt t a=91 then fO t (a+1) else fO t a
theorem nB (t:ByteArray) (f:Int):∀ (n:Nat) (i:Int),i≤(t.size:Int)→i≤gG n t f i∧gG n t f i≤(t.size:Int)
  | 0,i,h=>⟨Int.le_refl _,h⟩
  | n + 1, i, h => by
    unfold gG
    by_cases c:i < (t.size:Int)∧dK.f (bt t i) (i == f)=some true
    · rw [if_pos c]
      have:=nB t f n (i+1) (by omega)
      omega
    · rw [if_neg c]
      omega
theorem sH (t:ByteArray) (f:Int) (h:f≤(t.size:Int)):f≤(nameAt t f).1∧(nameAt t f).1≤(t.size:Int):=by
  have:=nB t f 20 f h
  unfold nameAt
  split
  · dsimp only;omega
  · dsimp only;omega
theorem pT (t:ByteArray) (a:Int) (h:a≤(t.size:Int)):a≤(fO t a).1∧(fO t a).1≤(t.size:Int)∧((fO t a).2=true→a < (fO t a).1):=by
  unfold fO
  split
  · dsimp only;omega
  · split
    · have:=sH t (a+1) (by omega)
      exact⟨by omega,this.2,fun _=>by omega⟩
    · simpa using h
theorem nG (t:ByteArray) (a:Int) (h:a≤(t.size:Int)):a≤(gQ t a).1∧(gQ t a).1≤(t.size:Int)∧((gQ t a).2=true→a < (gQ t a).1):=by
  unfold gQ
  split
  · have:=pT t (a+1) (by omega)
    exact⟨by omega,this.2.1,fun _=>by omega⟩
  · exact pT t a h
theorem oC (t:ByteArray) (a:t.size≤140737488351232) (f:Int) (d:0≤f):∀ (n k:Nat) (i:Int),f≤i→i - f=20 - (n:Int)→i≤(t.size:Int)→n < k→
    bG.l0 k t f i=some (if gG n t f i < (t.size:Int)∧bt t (gG n t f i)=59∧gG n t f i≠f then (gG n t f i+1,true) else (gG n t f i,false)):=by
  intro n
  induction n with
  | zero =>
    intro k i h0 h1 h2 c
    obtain⟨k,rfl⟩:∃ m,k=m+1:=⟨k - 1,by omega⟩
    have w1:wrap64 (i - f)=i - f:=by unfold wrap64;omega
    rw [show gG 0 t f i=i from rfl]
    simp only [bG.l0,w1]
    by_cases c1:i < (t.size:Int)
    · rw [if_pos c1,if_neg (by omega),if_neg (by omega),if_pos (by omega),jO (by omega) c1 a]
      by_cases c2:bt t i=59
      · by_cases c3:i=f
        · rw [if_pos c2,if_pos c3,if_neg (by omega)]
        · rw [if_pos c2,if_neg c3,if_pos ⟨c1,c2,c3⟩]
      · rw [if_neg c2,if_neg (by omega)]
    · rw [if_neg c1,if_pos (by omega),if_neg (by omega)]
  | succ n ih =>
    intro k i h0 h1 h2 c
    obtain⟨k,rfl⟩:∃ m,k=m+1:=⟨k - 1,by omega⟩
    have w1:wrap64 (i - f)=i - f:=by unfold wrap64;omega
    obtain⟨b,hb⟩:=jW (bt t i) (i == f)
    by_cases c1:i < (t.size:Int)
    · simp only [bG.l0,w1]
      rw [if_pos c1,if_pos (by omega),if_pos (by omega),hb,jO (by omega) c1 a]
      cases b with
      | true =>
        have e:gG (n+1) t f i=gG n t f (i+1):=by
          rw [gG,if_pos ⟨c1,hb⟩]
        rw [e]
        simpa using ih k (i+1) (by omega) (by omega) (by omega) (by omega)
      | false =>
        have e:gG (n+1) t f i=i:=by
          rw [gG,hb];simp
        rw [e]
        simp only [Option.bind_some]
        rw [if_neg (by simp),if_neg (by omega)]
        by_cases c2:bt t i=59
        · by_cases c3:i=f
          · rw [if_pos c2,if_pos c3,if_neg (by omega)]
          · rw [if_pos c2,if_neg c3,if_pos ⟨c1,c2,c3⟩]
        · rw [if_neg c2,if_neg (by omega)]
    · have e:gG (n+1) t f i=i:=by
        rw [gG,if_neg (by omega)]
      rw [e]
      simp only [bG.l0]
      rw [if_neg c1,if_pos (by omega),if_neg (by omega)]
theorem pY (t:ByteArray) (i:Int) (b:Int):bZ.f t i true b=some (t,i,true):=by
  simp [bZ.f,bD.f,fE.f]
theorem tR (t:ByteArray) (i:Int) (b:Int):bD.f t i true b=some (false,t,i,true):=by
  simp [bD.f,fE.f]
theorem lK (t:ByteArray) (a:t.size≤140737488351232) (i b:Int) (h0:0≤i):
    bD.f t i false b=some (if i < (t.size:Int)∧bt t i=b then (true,t,i+1,false) else (false,t,i,false)):=by
  unfold bD.f fE.f
  simp only [bW.f,Option.bind_some]
  rw [if_neg (by simp)]
  by_cases c:i < (t.size:Int)
  · rw [if_pos c,if_pos h0,if_pos c]
    simp only [Option.bind_some]
    by_cases c2:bt t i=b
    · rw [if_pos (by simpa using c2),if_pos ⟨c,c2⟩,jO h0 c a]
    · rw [if_neg (by simpa using c2),if_neg (fun h=>c2 h.2)]
  · rw [if_neg c,if_neg (by omega)]
    rfl
theorem mF (t:ByteArray) (a:t.size≤140737488351232) (i b:Int) (h0:0≤i):
    bZ.f t i false b=some (if i < (t.size:Int)∧bt t i=b then (t,i+1,false) else (t,i,true)):=by
  unfold bZ.f
  rw [lK t a i b h0]
  by_cases c:i < (t.size:Int)∧bt t i=b
  · rw [if_pos c,if_pos c];rfl
  · rw [if_neg c,if_neg c];rfl
theorem tM (t:ByteArray) (a:t.size≤140737488351232) (f:Int) (r:0≤f):∀ (n k:Nat) (i:Int),f≤i→i - f=20 - (n:Int)→i≤(t.size:Int)→n < k→
    bN.l0 k f t i false=some (if gG n t f i < (t.size:Int)∧bt t (gG n t f i)=59∧gG n t f i≠f then (t,gG n t f i+1,false) else (t,gG n t f i,true)):=by
  have j:f≤(t.size:Int)→wrap64 (f+20)=f+20:=fun _=>by unfold wrap64;omega
  intro n
  induction n with
  | zero =>
    intro k i h0 h1 h2 p
    obtain⟨k,rfl⟩:∃ m,k=m+1:=⟨k - 1,by omega⟩
    rw [show gG 0 t f i=i from rfl]
    simp only [bN.l0,bW.f,Option.bind_some,j (by omega)]
    rw [if_neg (by simp)]
    by_cases c1:i < (t.size:Int)
    · rw [if_pos c1,if_neg (by omega),if_neg (by omega),mF t a i 59 (by omega)]
      by_cases c2:bt t i=59
      · rw [if_pos ⟨c1,c2⟩,if_pos ⟨c1,c2,by omega⟩];rfl
      · rw [if_neg (fun h=>c2 h.2),if_neg (fun h=>c2 h.2.1)];rfl
    · rw [if_neg c1,if_neg (by omega),mF t a i 59 (by omega),if_neg (by omega),if_neg (by omega)];rfl
  | succ n ih =>
    intro k i h0 h1 h2 p
    obtain⟨k,rfl⟩:∃ m,k=m+1:=⟨k - 1,by omega⟩
    have w1:wrap64 (i - f)=i - f:=by unfold wrap64;omega
    obtain⟨b,hb⟩:=jW (bt t i) (i == f)
    have o:=bt_range t i
    have d:=oL (bt t i) (i - f) o.1 o.2 (by omega)
    have q:(i - f == 0)=(i == f):=by
      by_cases c:i=f
      · subst c;simp
      · rw [beq_eq_false_iff_ne.mpr c,beq_eq_false_iff_ne.mpr (by omega)]
    rw [q,hb] at d
    by_cases c1:i < (t.size:Int)
    · simp only [bN.l0,bW.f,Option.bind_some,j (by omega),w1]
      rw [if_neg (by simp),if_pos c1,if_pos (by omega),if_pos (by omega),if_pos c1,d,jO (by omega) c1 a]
      cases b with
      | true =>
        have e:gG (n+1) t f i=gG n t f (i+1):=by
          rw [gG,if_pos ⟨c1,hb⟩]
        rw [e]
        simpa using ih k (i+1) (by omega) (by omega) (by omega) (by omega)
      | false =>
        have e:gG (n+1) t f i=i:=by
          rw [gG,hb];simp
        rw [e]
        simp only [Option.bind_some]
        rw [if_neg (by simp)]
        by_cases c3:i=f
        · rw [if_pos c3,pY,if_neg (by omega)];rfl
        · rw [if_neg c3,mF t a i 59 (by omega)]
          by_cases c2:bt t i=59
          · rw [if_pos ⟨c1,c2⟩,if_pos ⟨c1,c2,c3⟩];rfl
          · rw [if_neg (fun h=>c2 h.2),if_neg (fun h=>c2 h.2.1)];rfl
    · have e:gG (n+1) t f i=i:=by
        rw [gG,if_neg (by omega)]
      rw [e]
      simp only [bN.l0,bW.f,Option.bind_some]
      rw [if_neg (by simp),if_neg c1]
      by_cases c3:i=f
      · rw [if_pos c3,pY,if_neg (by omega)];rfl
      · rw [if_neg c3,mF t a i 59 (by omega),if_neg (by omega),if_neg (by omega)];rfl
theorem lP (t:ByteArray) (b:t.size≤140737488351232) (k:Nat) (d:21 < k) (a:Int) (h0:0≤a) (h1:a < (t.size:Int)) (h2:bt t a≠73):
    bG.j0 k t a false=some (fO t a):=by
  obtain⟨k,rfl⟩:∃ m,k=m+1:=⟨k - 1,by omega⟩
  simp only [bG.j0]
  rw [if_neg (by simp),if_pos h0,if_pos h1,jO h0 h1 b]
  have e:fO t a=if a < (t.size:Int)∧bt t a=76 then nameAt t (a+1) else (a,false):=by
    unfold fO
    exact if_neg (fun h=>h2 h.2)
  rw [e]
  by_cases c:bt t a=76
  · rw [if_pos c,if_pos ⟨h1,c⟩]
    exact oC t b (a+1) (by omega) 20 k (a+1) (by omega) (by omega) (by omega) (by omega)
  · rw [if_neg c,if_neg (fun h=>c h.2)]
theorem nV (t:ByteArray) (b:t.size≤140737488351232) (k:Nat) (d:22 < k) (a:Int) (h0:0≤a) (h1:a≤(t.size:Int)):
    bG.f k t a true=some (fO t a):=by
  obtain⟨k,rfl⟩:∃ m,k=m+1:=⟨k - 1,by omega⟩
  simp only [bG.f]
  by_cases c:a < (t.size:Int)
  · rw [if_neg (by omega),if_pos h0,if_pos c,jO h0 c b]
    by_cases c2:bt t a=73
    · rw [if_pos c2];unfold fO;rw [if_pos ⟨c,c2⟩]
    · rw [if_neg c2]
      have e:=lP t b k (by omega) a h0 c c2
      by_cases c3:bt t a=91
      · rw [if_pos c3];exact e
      · rw [if_neg c3];exact e
  · rw [if_pos (by omega)];unfold fO;rw [if_neg (by omega),if_neg (by omega)]
theorem mO (t:ByteArray) (b:t.size≤140737488351232) (k:Nat) (d:24 < k) (a:Int) (h0:0≤a) (h1:a≤(t.size:Int)):
    bG.f k t a false=some (gQ t a):=by
  obtain⟨k,rfl⟩:∃ m,k=m+1:=⟨k - 1,by omega⟩
  simp only [bG.f]
  unfold gQ
  by_cases c:a < (t.size:Int)
  · rw [if_neg (by omega),if_pos h0,if_pos c,jO h0 c b]
    by_cases c2:bt t a=73
    · rw [if_pos c2,if_neg (by omega)];unfold fO;rw [if_pos ⟨c,c2⟩]
    · rw [if_neg c2]
      by_cases c3:bt t a=91
      · rw [if_pos c3,if_pos ⟨c,c3⟩]
        obtain⟨k,rfl⟩:∃ m,k=m+1:=⟨k - 1,by omega⟩
        simp only [bG.j0]
        rw [if_pos (by simp),jO h0 c b,nV t b k (by omega) (a+1) (by omega) (by omega)]
        rfl
      · rw [if_neg c3,if_neg (fun h=>c3 h.2)]
        exact lP t b k (by omega) a h0 c c2
  · rw [if_pos (by omega),if_neg (by omega)];unfold fO;rw [if_neg (by omega),if_neg (by omega)]
theorem oJ (t:ByteArray) (b:t.size≤140737488351232) (k:Nat) (d:21 < k) (s a:Int) (hs:0≤s) (c:s≤a) (h1:a≤(t.size:Int)):
    ((bD.f t a false 73).bind fun (x:Bool×ByteArray×Int×Bool)=>(if x.1=true then (if x.2.2.2=true then (some ((⟨#[]⟩:ByteArray),x.2.1,x.2.2.1,x.2.2.2)) else (if 0≤s then (if s≤x.2.2.1 then (if x.2.2.1≤(x.2.1.size:Int) then (some (x.2.1.extract (s:Int).toNat (x.2.2.1:Int).toNat,x.2.1,x.2.2.1,x.2.2.2)) else (none)) else (none)) else (none))) else ((bD.f x.2.1 x.2.2.1 x.2.2.2 76).bind fun y=>(if y.1=true then ((bN.f k y.2.1 y.2.2.1 y.2.2.2).bind fun z=>(if z.2.2=true then (some ((⟨#[]⟩:ByteArray),z.1,z.2.1,z.2.2)) else (if 0≤s then (if s≤z.2.1 then (if z.2.1≤(z.1.size:Int) then (some (z.1.extract (s:Int).toNat (z.2.1:Int).toNat,z.1,z.2.1,z.2.2)) else (none)) else (none)) else (none)))) else (some ((⟨#[]⟩:ByteArray),y.2.1,y.2.2.1,true))))))
      = some ((if (fO t a).2=true then t.extract s.toNat (fO t a).1.toNat else ⟨#[]⟩),t,(fO t a).1,!(fO t a).2):=by
  have h0:0≤a:=by omega
  rw [lK t b a 73 h0]
  by_cases c1:a < (t.size:Int)∧bt t a=73
  · have e:fO t a=(a+1,true):=by unfold fO;rw [if_pos c1]
    rw [if_pos c1,e]
    simp only [Option.bind_some]
    rw [if_pos trivial,if_neg (by simp),if_pos hs,if_pos (by omega),if_pos (by omega)]
    rfl
  · rw [if_neg c1]
    simp only [Option.bind_some]
    rw [if_neg (by simp),lK t b a 76 h0]
    by_cases c2:a < (t.size:Int)∧bt t a=76
    · have e:fO t a=nameAt t (a+1):=by unfold fO;rw [if_neg c1,if_pos c2]
      rw [if_pos c2,e]
      simp only [Option.bind_some]
      have i:=nB t (a+1) 20 (a+1) (by omega)
      rw [if_pos trivial,bN.f,tM t b (a+1) (by omega) 20 k (a+1) (by omega) (by omega) (by omega) (by omega)]
      unfold nameAt
      by_cases c3:gG 20 t (a+1) (a+1) < (t.size:Int)∧bt t (gG 20 t (a+1) (a+1))=59∧gG 20 t (a+1) (a+1)≠a+1
      · rw [if_pos c3,if_pos c3]
        simp only [Option.bind_some]
        rw [if_neg (by simp),if_pos hs,if_pos (by omega),if_pos (by omega)]
        rfl
      · rw [if_neg c3,if_neg c3]
        rfl
    · have e:fO t a=(a,false):=by unfold fO;rw [if_neg c1,if_neg c2]
      rw [if_neg c2,e]
      rfl
theorem lI (t:ByteArray) (b:t.size≤140737488351232) (k:Nat) (d:21 < k) (a:Int) (h0:0≤a) (h1:a≤(t.size:Int)):
    cE.f k t a false=some ((if (gQ t a).2=true then t.extract a.toNat (gQ t a).1.toNat else ⟨#[]⟩),t,(gQ t a).1,!(gQ t a).2):=by
  unfold cE.f
  rw [lK t b a 91 h0]
  unfold gQ
  by_cases c:a < (t.size:Int)∧bt t a=91
  · rw [if_pos c,if_pos c]
    exact oJ t b k d a (a+1) h0 (by omega) (by omega)
  · rw [if_neg c,if_neg c]
    exact oJ t b k d a a h0 (by omega) (by omega)
theorem nK (s t:ByteArray) (h:s.size=t.size) (c:∀ i:Nat,i < s.size→bt s i=bt t i):s=t:=by
  apply ByteArray.ext
  apply Array.ext
  · exact h
  · intro i h1 h2
    have e:=c i h1
    have a:=bt_at s i (by simpa using h1)
    have b:=bt_at t i (by simpa using h2)
    rw [← a,← b] at e
    exact UInt8.toNat_inj.mp (by exact_mod_cast e)
theorem pF (s:ByteArray) (c:UInt8):s.toList=[c]↔s.size=1∧bt s 0=(c.toNat:Int):=by
  constructor
  · intro h
    have e:s=⟨#[c]⟩:=WideShapes.bytes_inj (by rw [← Lib.toList_data];exact h)
    subst e
    exact⟨rfl,rfl⟩
  · intro h
    have e:s=⟨#[c]⟩:=by
      refine nK _ _ h.1 (fun i a=>?_)
      obtain rfl:i=0:=by omega
      exact h.2
    subst e
    rw [Lib.toList_data]
theorem uV (s:ByteArray):s.toList=[]↔s.size=0:=by
  constructor
  · intro h
    have e:s=⟨#[]⟩:=WideShapes.bytes_inj (by rw [← Lib.toList_data];exact h)
    subst e
    rfl
  · intro h
    have e:s=⟨#[]⟩:=nK _ _ h (fun i a=>by omega)
    subst e
    rw [Lib.toList_data]
theorem sV (s:ByteArray) (a b:Nat) (i:Int) (h0:0≤i) (h:a+i.toNat < b) (c:b≤s.size):bt (s.extract a b) i=bt s (a+i):=by
  have h1:i.toNat < (s.extract a b).size:=by rw [ByteArray.size_extract];omega
  have h2:((a:Int)+i).toNat < s.size:=by omega
  have e:((a:Int)+i).toNat=a+i.toNat:=by omega
  unfold bt
  rw [dif_pos h1,dif_pos h2]
  congr 2
  rw [ByteArray.getElem_extract]
  congr 1
  exact e.symm
theorem oM (s:ByteArray) (a:Int) (h:fO s a=((s.size:Int),true)):
    (a+1=(s.size:Int)∧bt s a=73)∨(a+3≤(s.size:Int)∧bt s a=76):=by
  unfold fO at h
  split at h
  · rename_i c
    have:=(Prod.mk.inj h).1
    exact .inl ⟨this,c.2⟩
  · split at h
    · rename_i c
      have b:=nB s (a+1) 20 (a+1) (by omega)
      unfold nameAt at h
      split at h
      · rename_i c2
        have:=(Prod.mk.inj h).1
        exact .inr ⟨by omega,c.2⟩
      · exact absurd (Prod.mk.inj h).2 (by simp)
    · exact absurd (Prod.mk.inj h).2 (by simp)
theorem pU (s:ByteArray) (h:gQ s 0=((s.size:Int),true)):
    (s.size=1∧bt s 0=73)∨(3≤s.size∧bt s 0=76)∨(s.size=2∧bt s 0=91∧bt s 1=73)∨(4≤s.size∧bt s 0=91∧bt s 1=76):=by
  unfold gQ at h
  split at h
  · rename_i c
    rcases oM s _ h with h|h
    · exact .inr (.inr (.inl ⟨by omega,c.2,h.2⟩))
    · exact .inr (.inr (.inr ⟨by omega,c.2,h.2⟩))
  · rcases oM s _ h with h|h
    · exact .inl ⟨by omega,h.2⟩
    · exact .inr (.inl ⟨by omega,h.2⟩)
def gJ (s:ByteArray):Bool:=(gQ s 0).2 && (gQ s 0).1 == (s.size:Int)
theorem oN (s:ByteArray) (h:gJ s=true):gQ s 0=((s.size:Int),true):=by
  unfold gJ at h
  rw [Bool.and_eq_true,beq_iff_eq] at h
  exact Prod.ext h.2 h.1
theorem qS (s:ByteArray) (b:s.size≤20000) (k:Nat) (a:24 < k):cT.f k s=some (gJ s):=by
  unfold cT.f gJ
  rw [if_neg (by omega),mO s (by omega) k a 0 (by omega) (by omega)]
  simp only [Option.bind_some]
  cases (gQ s 0).2 <;> simp
theorem qJ (s:ByteArray) (a:s.size≤140737488351232) (k:Nat) (b:24 < k):dD.f k s=some (gJ s):=by
  unfold dD.f gJ
  rw [lI s a k (by omega) 0 (by omega) (by omega)]
  simp only [Option.bind_some,bW.f]
  cases (gQ s 0).2 <;> simp
theorem rE (t:ByteArray) (f:Int):∀ (n:Nat) (i:Int),gG n t f i≤i+n
  | 0,i=>by unfold gG;omega
  | n + 1, i => by
    unfold gG
    split
    · have:=rE t f n (i+1)
      omega
    · omega
theorem tO (t:ByteArray) (a:Int):(fO t a).1≤a+22:=by
  have:=rE t (a+1) 20 (a+1)
  unfold fO nameAt
  repeat' split
  all_goals (dsimp only;omega)
theorem sO (s:ByteArray) (h:gJ s=true):s.size≤23:=by
  have e:=oN s h
  unfold gQ at e
  split at e
  · have:=tO s (0+1)
    rw [e] at this
    dsimp only at this
    omega
  · have:=tO s 0
    rw [e] at this
    dsimp only at this
    omega
theorem jZ (s:ByteArray) (k:Nat) (a:24 < k):cT.f k s=some (gJ s):=by
  by_cases c:s.size≤20000
  · exact qS s c k a
  · have e:gJ s=false:=by
      cases h:gJ s with
      | false=>rfl
      | true=>have:=sO s h;omega
    rw [e]
    unfold cT.f
    rw [if_pos (by omega)]
theorem qT (s:ByteArray) (h:s.size=1∧bt s 0=73):gJ s=true:=by
  have a:fO s 0=(1,true):=by unfold fO;rw [if_pos ⟨by omega,h.2⟩];rfl
  unfold gJ gQ
  rw [if_neg (by omega),a,h.1]
  rfl
theorem rA (s:ByteArray):cB.f 2 [s]=some (decide (s.size≤20000)):=by
  by_cases h:s.size≤20000
  · simp [cB.f,cB.l0,rdOf,wrap64,h]
    omega
  · simp [cB.f,cB.l0,rdOf,wrap64,h]
    omega
theorem qM (s:ByteArray) (k:Nat) (a:2≤k):cB.f k [s]=some (decide (s.size≤20000)):=by
  obtain⟨d,rfl⟩:∃ d,k=2+d:=⟨k - 2,by omega⟩
  induction d with
  | zero=>exact rA s
  | succ d ih=>exact cB.mono [s] (2+d) _ (ih (by omega))
abbrev pI:=List ByteArray×ByteArray×Int×Int
def jV (a:Int):pI:=(([]:List ByteArray),(⟨#[]⟩:ByteArray),a,3)
def kN (s:ByteArray) (a:Int) (ps:List ByteArray):pI:=
  if a < (s.size:Int)∧bt s a=86 then (if a+1 < (s.size:Int) then jV (a+1) else (ps,(⟨#[86]⟩:ByteArray),0,0))
  else if (gQ s a).2=true then (if (gQ s a).1 < (s.size:Int) then jV (gQ s a).1 else (ps,s.extract a.toNat (gQ s a).1.toNat,0,0)) else jV (gQ s a).1
def iV:Nat→ByteArray→Int→List ByteArray→pI
  | 0,_,a,_=>jV a
  | n + 1, s, a, ps => if a < (s.size : Int) then
      (if bt s a=41 then kN s (a+1) ps else if ps.length=8 then jV a else
        if (gQ s a).2=true then iV n s (gQ s a).1 (ps++[s.extract a.toNat (gQ s a).1.toNat]) else jV (gQ s a).1)
    else jV a
def descOf (s:ByteArray):pI:=if 0 < (s.size:Int)∧bt s 0=40 then iV 9 s 1 [] else jV 0
theorem mQ:∀ (n:Nat) (s:ByteArray) (a:Int) (ps:List ByteArray),ps.length≤8→(iV n s a ps).1.length≤8
  | 0,s,a,ps,h=>by simp [iV,jV]
  | n + 1, s, a, ps, h => by
    unfold iV
    split
    · split
      · unfold kN
        repeat' split
        all_goals first|exact h|exact Nat.zero_le _
      · split
        · exact Nat.zero_le _
        · split
          · exact mQ n s _ _ (by simp;omega)
          · exact Nat.zero_le _
    · exact Nat.zero_le _
theorem rS (s:ByteArray):(descOf s).1.length≤8:=by
  unfold descOf
  split
  · exact mQ _ _ _ _ (by simp)
  · exact Nat.zero_le _
theorem lF (s:ByteArray) (d:s.size≤140737488351232) (k:Nat) (j:25 < k) (a:Int) (h0:0≤a) (h1:a≤(s.size:Int)) (ps:List ByteArray) (b:Bool) (e:b=decide (a < (s.size:Int)∧bt s a=86)):
    aT.j3 k s a b ps ⟨#[]⟩=some (kN s a ps):=by
  obtain⟨k,rfl⟩:∃ m,k=m+1:=⟨k - 1,by omega⟩
  have i:=nG s a h1
  simp only [aT.j3,dA.f,Option.bind_some]
  unfold kN
  by_cases c:a < (s.size:Int)∧bt s a=86
  · rw [e,decide_eq_true c,if_pos c,if_pos rfl,jO h0 c.1 d]
    by_cases c2:a+1 < (s.size:Int)
    · rw [if_pos c2,if_pos c2];rfl
    · rw [if_neg c2,if_neg c2]
  · rw [e,decide_eq_false c,if_neg c,if_neg (by simp),mO s d k (by omega) a h0 h1]
    simp only [Option.bind_some]
    by_cases c2:(gQ s a).2=true
    · rw [if_pos c2,if_pos c2,if_pos h0,if_pos i.1,if_pos i.2.1]
      by_cases c3:(gQ s a).1 < (s.size:Int)
      · rw [if_pos c3,if_pos c3];rfl
      · rw [if_neg c3,if_neg c3]
    · rw [if_neg c2,if_neg c2];rfl
theorem lE (s:ByteArray) (b:s.size≤140737488351232):∀ (n k:Nat) (a:Int) (ps:List ByteArray),0≤a→a≤(s.size:Int)→ps.length+n=9→1≤n→30+2*n≤k→
    aT.l0 k s a ps ⟨#[]⟩=some (iV n s a ps)
  | 0,k,a,ps,h0,h1,hp,h2,hk=>by omega
  | n + 1, k, a, ps, h0, h1, hp, h2, hk => by
    obtain⟨k,rfl⟩:∃ m,k=m+2:=⟨k - 2,by omega⟩
    have d:=nG s a h1
    unfold iV
    simp only [aT.l0]
    by_cases c:a < (s.size:Int)
    · rw [if_pos c,if_pos c,if_pos h0]
      simp only [aT.j2,dA.f,Option.bind_some]
      by_cases c2:bt s a=41
      · have e:(bt s a != 41)=false:=bne_eq_false_iff_eq.mpr c2
        rw [if_pos c2,e,if_neg (by simp),if_neg (by omega),jO h0 c b]
        by_cases c3:a+1 < (s.size:Int)
        · rw [if_pos c3,if_pos (by omega)]
          exact lF s b k (by omega) (a+1) (by omega) (by omega) ps _ (by
            by_cases c4:bt s (a+1)=86
            · rw [decide_eq_true ⟨c3,c4⟩];simpa using c4
            · rw [decide_eq_false (fun h=>c4 h.2)];simpa using c4)
        · rw [if_neg c3]
          exact lF s b k (by omega) (a+1) (by omega) (by omega) ps _ (by rw [decide_eq_false (fun h=>c3 h.1)])
      · have e:(bt s a != 41)=true:=bne_iff_ne.mpr c2
        rw [if_neg c2,e,if_pos rfl]
        by_cases c3:ps.length=8
        · rw [if_pos (by omega),if_pos c3];rfl
        · rw [if_neg (by omega),if_neg c3,mO s b k (by omega) a h0 h1]
          simp only [Option.bind_some]
          by_cases c4:(gQ s a).2=true
          · rw [if_pos c4,if_pos c4,if_pos h0,if_pos d.1,if_pos d.2.1,if_pos (by omega)]
            exact lE s b n k _ _ (by omega) d.2.1 (by simp;omega) (by omega) (by omega)
          · rw [if_neg c4,if_neg c4];rfl
    · rw [if_neg c,if_neg c]
      simp only [aT.j2,dA.f,Option.bind_some]
      rw [if_neg (by simp),if_pos (by omega)];rfl
theorem jJ (s:ByteArray) (k:Nat) (b:0 < k) (a:Int) (ps:List ByteArray):aM.j2 k s s a true ps ⟨#[]⟩=some (jV a):=by
  obtain⟨k,rfl⟩:∃ m,k=m+1:=⟨k - 1,by omega⟩
  simp only [aM.j2,tR,Option.bind_some]
  rfl
theorem nQ (s:ByteArray) (b:s.size≤140737488351232) (k:Nat) (e:25 < k) (a:Int) (h0:0≤a) (h1:a≤(s.size:Int)) (ps:List ByteArray):
    aM.j2 k s s a false ps ⟨#[]⟩=some (kN s a ps):=by
  obtain⟨k,rfl⟩:∃ m,k=m+1:=⟨k - 1,by omega⟩
  have i:=nG s a h1
  simp only [aM.j2,lK s b a 86 h0,Option.bind_some,bW.f]
  unfold kN
  by_cases c:a < (s.size:Int)∧bt s a=86
  · rw [if_pos c,if_pos c]
    simp only [if_pos trivial]
    by_cases c2:a+1 < (s.size:Int)
    · rw [if_pos c2,if_pos c2,if_neg (by simp)];rfl
    · rw [if_neg c2,if_neg c2,if_neg (by simp)]
  · rw [if_neg c,if_neg c]
    rw [if_neg (by simp),if_neg (by simp)]
    dsimp only
    rw [lI s b k (by omega) a h0 h1]
    simp only [Option.bind_some]
    by_cases c2:(gQ s a).2=true
    · rw [if_pos c2,c2]
      simp only [if_pos trivial]
      rw [if_neg (by simp)]
      by_cases c3:(gQ s a).1 < (s.size:Int)
      · rw [if_pos c3,if_pos c3];rfl
      · rw [if_neg c3,if_neg c3]
    · have d:(gQ s a).2=false:=by simpa using c2
      rw [if_neg c2,d]
      rfl
theorem kZ (s:ByteArray) (b:s.size≤140737488351232):∀ (n k:Nat) (a:Int) (ps:List ByteArray),0≤a→a≤(s.size:Int)→ps.length+n=9→1≤n→30+2*n≤k→
    aM.l0 k s s a false ps ⟨#[]⟩=some (iV n s a ps)
  | 0,k,a,ps,h0,h1,hp,h2,hk=>by omega
  | n + 1, k, a, ps, h0, h1, hp, h2, hk => by
    obtain⟨k,rfl⟩:∃ m,k=m+2:=⟨k - 2,by omega⟩
    have p:=nG s a h1
    have j:∀ (i:Int) (d:List ByteArray),aM.l0 k s s i true d ⟨#[]⟩=some (jV i):=fun i d=>by
      obtain⟨k,rfl⟩:∃ m,k=m+2:=⟨k - 2,by omega⟩
      simp only [aM.l0]
      rw [if_pos trivial]
      simp only [aM.j1]
      rw [if_neg (by simp)]
      exact jJ s k (by omega) i d
    unfold iV
    simp only [aM.l0]
    rw [if_neg (by simp),lK s b a 41 h0]
    simp only [Option.bind_some]
    by_cases c:a < (s.size:Int)
    · rw [if_pos c]
      by_cases c2:bt s a=41
      · rw [if_pos ⟨c,c2⟩,if_pos c2]
        simp only [aM.j1]
        rw [if_neg (by simp)]
        exact nQ s b k (by omega) (a+1) (by omega) (by omega) ps
      · rw [if_neg (fun h=>c2 h.2),if_neg c2]
        simp only [aM.j1]
        rw [if_pos (by simp)]
        by_cases c3:ps.length=8
        · rw [if_pos (by omega),if_pos c3]
          exact jJ s k (by omega) a ps
        · rw [if_neg (by omega),if_neg c3,lI s b k (by omega) a h0 h1]
          simp only [Option.bind_some]
          rw [if_pos (by omega)]
          by_cases c4:(gQ s a).2=true
          · rw [if_pos c4,if_pos c4,c4]
            exact kZ s b n k _ _ (by omega) p.2.1 (by simp;omega) (by omega) (by omega)
          · have o:(gQ s a).2=false:=by simpa using c4
            rw [if_neg c4,if_neg c4,o]
            exact j _ _
    · rw [if_neg c,if_neg (fun h=>c h.1)]
      simp only [aM.j1]
      rw [if_pos (by simp)]
      by_cases c3:ps.length=8
      · rw [if_pos (by omega)]
        exact jJ s k (by omega) a ps
      · rw [if_neg (by omega),lI s b k (by omega) a h0 h1]
        simp only [Option.bind_some]
        rw [if_pos (by omega)]
        have e:gQ s a=(a,false):=by
          unfold gQ fO
          rw [if_neg (fun h=>c h.1),if_neg (fun h=>c h.1),if_neg (fun h=>c h.1)]
        rw [e]
        exact j _ _
theorem sN (s:ByteArray) (a:s.size≤20000) (k:Nat) (b:60≤k):aT.f k s=some (descOf s):=by
  obtain⟨k,rfl⟩:∃ m,k=m+1:=⟨k - 1,by omega⟩
  unfold aT.f descOf
  rw [if_neg (by omega)]
  by_cases c:(s.size:Int)=0
  · rw [if_pos c,if_neg (by omega)]
    simp only [aT.j0,dA.f,Option.bind_some]
    rw [if_pos trivial];rfl
  · rw [if_neg c,if_pos (by omega)]
    simp only [aT.j0,dA.f,Option.bind_some]
    by_cases c2:bt s 0=40
    · rw [bne_eq_false_iff_eq.mpr c2,if_neg (by simp),if_pos ⟨by omega,c2⟩]
      exact lE s (by omega) 9 k 1 [] (by omega) (by omega) (by simp) (by omega) (by omega)
    · rw [bne_iff_ne.mpr c2,if_pos rfl,if_neg (fun h=>c2 h.2)];rfl
theorem sA (s:ByteArray) (a:s.size≤140737488351232) (k:Nat) (b:60≤k):aM.f k s=some (descOf s):=by
  unfold aM.f descOf
  rw [mF s a 0 40 (by omega)]
  simp only [Option.bind_some]
  by_cases c:(0:Int) < (s.size:Int)∧bt s 0=40
  · rw [if_pos c,if_pos c]
    exact kZ s a 9 k 1 [] (by omega) (by omega) (by simp) (by omega) (by omega)
  · rw [if_neg c,if_neg c]
    obtain⟨k,rfl⟩:∃ m,k=m+2:=⟨k - 2,by omega⟩
    simp only [aM.l0]
    rw [if_pos trivial]
    simp only [aM.j1]
    rw [if_neg (by simp)]
    exact jJ s k (by omega) 0 []
def hO (s:ByteArray):pI:=if s.size≤20000 then descOf s else (([]:List ByteArray),(⟨#[]⟩:ByteArray),0,2)
theorem nN (s:ByteArray):(hO s).1.length≤8:=by
  unfold hO
  split
  · exact rS s
  · exact Nat.zero_le _
theorem mN (s:ByteArray) (k:Nat) (a:60≤k):aT.f k s=some (hO s):=by
  unfold hO
  by_cases c:s.size≤20000
  · rw [if_pos c];exact sN s c k a
  · rw [if_neg c]
    unfold aT.f
    rw [if_pos (by omega)]
def pK (c n d:ByteArray):Bool:=decide (c.toList=[]) && (decide (n.toList=[]) && decide (d.toList=[]))
theorem tD (k:Nat) (o a:Int) (c n d:ByteArray):bY.f k o a c n d=bY.j0 k (pK c n d) o a c n d:=by
  unfold bY.f pK
  by_cases h1:c.toList=[]
  · rw [if_pos h1,decide_eq_true h1]
    by_cases h2:n.toList=[]
    · rw [if_pos h2,decide_eq_true h2]
      have e:(d.toList == ([]:List UInt8))=decide (d.toList=[]):=by
        rw [Bool.eq_iff_iff,beq_iff_eq,decide_eq_true_eq]
      rw [e];rfl
    · rw [if_neg h2,decide_eq_false h2];rfl
  · rw [if_neg h1,decide_eq_false h1];rfl
theorem sM (o a:Int) (c n d:ByteArray):eC.f o a c n d=some (pK c n d):=by
  unfold eC.f pK
  by_cases h1:c.toList=[]
  · rw [if_pos h1,decide_eq_true h1]
    by_cases h2:n.toList=[]
    · rw [if_pos h2,decide_eq_true h2]
      have e:(d.toList == ([]:List UInt8))=decide (d.toList=[]):=by
        rw [Bool.eq_iff_iff,beq_iff_eq,decide_eq_true_eq]
      rw [e];rfl
    · rw [if_neg h2,decide_eq_false h2];rfl
  · rw [if_neg h1,decide_eq_false h1];rfl
theorem uJ (s:ByteArray) (k:Nat) (a:60≤k):dX.f k s=some ((hO s).2.2.2 == 0):=by
  unfold dX.f hO
  rw [qM s k (by omega)]
  by_cases c:s.size≤20000
  · rw [decide_eq_true c,if_pos c]
    simp only [Option.bind_some]
    rw [if_pos trivial,sA s (by omega) k a]
    rfl
  · rw [decide_eq_false c,if_neg c]
    rfl
theorem tG (o a:Int) (c n d:ByteArray) (I:c.size≤1048576) (J:n.size≤1048576) (K:d.size≤1048576):
    ∃ r,(∀ k,1048600≤k→dB.f k o a c n d=some r)∧(∀ k,1048600≤k→bY.f k o a c n d=some r):=by
  obtain⟨F,v,x⟩:=iP o
  obtain⟨t,z,A⟩:=jX c (by omega)
  obtain⟨u,D,i2⟩:=jX n (by omega)
  have y:∀ k,1048599≤k→∃ r,dB.f (k+1) o a c n d=some r∧bY.f (k+1) o a c n d=some r:=by
    intro k b
    rw [tD]
    unfold dB.f
    simp only [bY.j0,v,x (k+1) (by omega),Option.bind_some,sM,z (k+1) (by omega),D (k+1) (by omega),A k (by omega),i2 k (by omega),jZ d (k+1) (by omega),qJ d (by omega) k (by omega),mN d (k+1) (by omega),uJ d k (by omega),jF.f,cX.f,eQ.f,cP.f]
    generalize pK c n d=B
    by_cases i:F.toList=[]
    · rw [if_pos i,if_pos i]
      cases B <;> by_cases ha:a=0 <;> simp [ha]
    rw [if_neg i,if_neg i]
    by_cases f1:F.toList=[110]
    · rw [if_pos f1,if_pos f1]
      cases B <;> by_cases h1:a ≥ -2147483648 <;> by_cases h2:a≤2147483647 <;> simp [h1,h2]
    rw [if_neg f1,if_neg f1]
    by_cases f2:F.toList=[105]
    · rw [if_pos f2,if_pos f2]
      cases B <;> by_cases h1:a ≥ 0 <;> by_cases h2:a < 16 <;> simp [h1,h2] <;> omega
    rw [if_neg f2,if_neg f2]
    by_cases j:F.toList=[116]
    · rw [if_pos j,if_pos j]
      cases B <;> by_cases h1:a ≥ 0 <;> by_cases h2:a < 60 <;> simp [h1,h2] <;> omega
    rw [if_neg j,if_neg j]
    by_cases m:F.toList=[99]
    · rw [if_pos m,if_pos m]
      by_cases ha:a=0 <;> by_cases h2:n.toList=[] <;> cases t <;> simp [ha,h2]
    rw [if_neg m,if_neg m]
    by_cases p:F.toList=[121]
    · rw [if_pos p,if_pos p]
      by_cases ha:a=0
      · rw [if_pos ha,if_pos ha]
        by_cases h1:c.toList=[]
        · rw [if_pos h1,if_pos h1]
          by_cases h2:n.toList=[]
          · rw [if_pos h2,if_pos h2]
            by_cases ht:gJ d=true
            · have hs:=pU d (oN d ht)
              rw [ht,if_pos rfl,if_pos (by omega)]
              by_cases h3:d.toList=[73]
              · rw [if_pos h3]
                have:=(pF d 73).mp h3
                have e:bt d 0=73:=this.2
                exact⟨_,rfl,by rw [e];rfl⟩
              · rw [if_neg h3,if_pos rfl,if_pos (by omega)]
                refine⟨_,rfl,congrArg some ?_⟩
                have h4:¬ (d.size=1∧bt d 0=73):=fun h=>h3 ((pF d 73).mpr h)
                by_cases h5:bt d 0=76
                · rw [h5];rfl
                · have h6:bt d 0=91:=by omega
                  rw [h6];rfl
            · have h3:¬ d.toList=[73]:=fun h=>ht (qT d ((pF d 73).mp h))
              rw [if_neg ht,if_neg h3,if_neg ht]
              exact⟨_,rfl,rfl⟩
          · rw [if_neg h2,if_neg h2]
            exact⟨_,rfl,rfl⟩
        · rw [if_neg h1,if_neg h1]
          exact⟨_,rfl,rfl⟩
      · rw [if_neg ha,if_neg ha]
        exact⟨_,rfl,rfl⟩
    rw [if_neg p,if_neg p]
    by_cases q:F.toList=[102]
    · rw [if_pos q,if_pos q]
      by_cases ha:a=0 <;> cases t <;> cases u <;> simp [ha]
    rw [if_neg q,if_neg q]
    by_cases s:F.toList=[109]
    · rw [if_pos s,if_pos s]
      by_cases ha:a=0
      · rw [if_pos ha,if_pos ha]
        cases t
        · simp
        · cases u
          · by_cases h3:n.toList=[60,105,110,105,116,62] <;> simp [h3]
          · simp
      · rw [if_neg ha,if_neg ha]
        exact⟨_,rfl,rfl⟩
    rw [if_neg s,if_neg s]
    exact⟨_,rfl,rfl⟩
  obtain⟨r,E,G⟩:=y 1048599 (Nat.le_refl _)
  refine⟨r,fun k b=>?_,fun k b=>?_⟩
  · exact at_rounds (g:=fun k=>dB.f k o a c n d) (fun k=>dB.mono _ _ _ _ _ _) b E
  · exact at_rounds (g:=fun k=>bY.f k o a c n d) (fun k=>bY.mono _ _ _ _ _ _) b G
theorem rL {α:Type} (d:α) (l:List α) (i:Int) (h:i.toNat < l.length):rdOf d l i=l[i.toNat]:=by
  simp [rdOf,List.getD_eq_getElem?_getD,List.getElem?_eq_getElem h]
def bC (g:Nat→Option Bool) (P:Prop):Prop:=∃ r,Ev g r∧(r=true↔P)
theorem bC.iff {g:Nat→Option Bool} {P Q:Prop} (h:bC g P) (e:P↔Q):bC g Q:=by
  obtain⟨r,h1,h2⟩:=h
  exact⟨r,h1,h2.trans e⟩
theorem bC.congr {g f:Nat→Option Bool} {P:Prop} (e:∀ k,g k=f k) (h:bC f P):bC g P:=by
  obtain⟨r,h1,h2⟩:=h
  exact⟨r,Ev.congr e h1,h2⟩
theorem bC.step {g f:Nat→Option Bool} {P:Prop} (e:∀ k,g (k+1)=f k) (h:bC f P):bC g P:=by
  obtain⟨r,h1,h2⟩:=h
  exact⟨r,Ev.step e h1,h2⟩
theorem bC.yes:bC (fun _=>some true) True:=⟨true,Ev.now _,by simp⟩
theorem bC.no:bC (fun _=>some false) False:=⟨false,Ev.now _,by simp⟩
theorem bC.val (b:Bool):bC (fun _=>some b) (b=true):=⟨b,Ev.now _,Iff.rfl⟩
theorem bC.ite {c:Prop} [Decidable c] {g:Nat→Option Bool} {P:Prop} (h:bC g P):bC (fun k=>if c then g k else some false) (c∧P):=by
  by_cases hc:c
  · exact bC.iff (bC.congr (fun k=>if_pos hc) h) (by simp [hc])
  · exact bC.iff (bC.congr (f:=fun _=>some false) (fun k=>if_neg hc) bC.no) (by simp [hc])
theorem bC.iten {c:Prop} [Decidable c] {g:Nat→Option Bool} {P:Prop} (h:bC g P):bC (fun k=>if c then some false else g k) (¬ c∧P):=by
  by_cases hc:c
  · exact bC.iff (bC.congr (f:=fun _=>some false) (fun k=>if_pos hc) bC.no) (by simp [hc])
  · exact bC.iff (bC.congr (fun k=>if_neg hc) h) (by simp [hc])
theorem bC.bind {g h:Nat→Option Bool} {P Q:Prop} (a:bC h Q) (b:bC g P):bC (fun k=>(h k).bind fun t=>if t=true then g k else some false) (Q∧P):=by
  obtain⟨r,h1,h2⟩:=a
  obtain⟨s,c,d⟩:=b
  cases r with
  | true=>exact⟨s,Ev.bind (f:=fun k t=>if t=true then g k else some false) h1 (Ev.congr (fun k=>if_pos rfl) c),by rw [d,← h2];simp⟩
  | false=>exact⟨false,Ev.bind (f:=fun k t=>if t=true then g k else some false) h1 (Ev.congr (f:=fun _=>some false) (fun k=>if_neg (by simp)) (Ev.now _)),by rw [← h2];simp⟩
theorem bC.last {h:Nat→Option Bool} {Q:Prop} (a:bC h Q):bC (fun k=>(h k).bind fun t=>some t) Q:=by
  obtain⟨r,h1,h2⟩:=a
  exact⟨r,Ev.bind (f:=fun _ t=>some t) h1 (Ev.now _),h2⟩
theorem toList_eq (a b:ByteArray):a.toList=b.toList↔a=b:=⟨fun h=>WideShapes.bytes_inj (by rw [← Lib.toList_data,← Lib.toList_data];exact h),fun h=>by rw [h]⟩
theorem getD_at {α:Type} {a:List α} {z:α} {i:Nat} (h:i < a.length):a.getD (i:Int).toNat z=a[i]:=by
  simp [List.getD_eq_getElem?_getD,List.getElem?_eq_getElem h]
theorem qU {i n:Nat} (h:i < n) (a:n≤4611686018427387904):wrap64 ((i:Int)+1)=((i+1:Nat):Int):=by unfold wrap64;omega
theorem vY {m:Int} {n:Nat} (h0:0≤m) (h1:m≤1048576) (a:n≤9223372036854775807):wrap64 (m - (n:Int))=m - (n:Int):=by unfold wrap64;omega
def nX (g:Nat→Option Int) (m:Int) (B:Prop):Prop:=∃ v,Ev g v∧(v < 0∨(0≤v∧v≤m∧B))
theorem nX.size {m:Int} {n:Nat} {g:Int→Nat→Option Int} {B:Prop} (h0:0≤m) (h1:m≤1048576) (a:n≤9223372036854775807) (h:∀ v,0≤v→v≤m→v=m - (n:Int)→nX (g v) v B):
    nX (fun k=>if wrap64 (m - (n:Int)) < 0 then some (-1) else g (wrap64 (m - (n:Int))) k) m ((n:Int)≤1048576∧B):=by
  rw [vY h0 h1 a]
  by_cases c:m - (n:Int) < 0
  · exact⟨-1,Ev.congr (f:=fun _=>some (-1)) (fun k=>by rw [if_pos c]) (Ev.now _),.inl (by omega)⟩
  · obtain⟨v,h2,h3⟩:=h (m - (n:Int)) (by omega) (by omega) rfl
    refine⟨v,Ev.congr (fun k=>by rw [if_neg c]) h2,?_⟩
    rcases h3 with h3|⟨h3,h4,h5⟩
    · exact .inl h3
    · exact .inr ⟨h3,by omega,by omega,h5⟩
theorem nX.bind {m:Int} {f:Nat→Option Int} {g:Nat→Int→Option Int} {A B:Prop} (a:nX f m A) (h:∀ v,0≤v→v≤m→nX (fun k=>g k v) v B):
    nX (fun k=>(f k).bind fun t=>if t < 0 then some (-1) else g k t) m (A∧B):=by
  obtain⟨v,hv,hb⟩:=a
  rcases hb with hb|⟨b,c,d⟩
  · exact⟨-1,Ev.bind (f:=fun k t=>if t < 0 then (some (-1)) else g k t) hv (Ev.congr (f:=fun _=>some (-1)) (fun k=>by rw [if_pos hb]) (Ev.now _)),.inl (by omega)⟩
  · obtain⟨u,hu,hc⟩:=h v b c
    refine⟨u,Ev.bind (f:=fun k t=>if t < 0 then (some (-1)) else g k t) hv (Ev.congr (fun k=>by rw [if_neg (by omega)]) hu),?_⟩
    rcases hc with hc|⟨e,j,i⟩
    · exact .inl hc
    · exact .inr ⟨e,by omega,d,i⟩
theorem nX.mono {m:Int} {f g:Nat→Option Int} {A B:Prop} (h:nX f m A) (e:∀ k,g k=f k) (i:A→B):nX g m B:=by
  obtain⟨v,h1,h2⟩:=h
  refine⟨v,Ev.congr e h1,?_⟩
  rcases h2 with h2|⟨h2,h3,h4⟩
  · exact .inl h2
  · exact .inr ⟨h2,h3,i h4⟩
theorem bC.ite2 {c:Prop} [Decidable c] {g h:Nat→Option Bool} {P Q:Prop} (a:bC g P) (b:bC h Q):bC (fun k=>if c then g k else h k) ((c∧P)∨(¬ c∧Q)):=by
  by_cases hc:c
  · exact bC.iff (bC.congr (fun k=>if_pos hc) a) (by simp [hc])
  · exact bC.iff (bC.congr (fun k=>if_neg hc) b) (by simp [hc])
theorem bC.iteP {c:Prop} [Decidable c] {g h:Nat→Option Bool} {P:Prop} (a:c) (b:bC g P):bC (fun k=>if c then g k else h k) P:=bC.congr (fun k=>if_pos a) b
theorem bC.iteN {c:Prop} [Decidable c] {g h:Nat→Option Bool} {P:Prop} (a:¬ c) (b:bC h P):bC (fun k=>if c then g k else h k) P:=bC.congr (fun k=>if_neg a) b
theorem bC.bind2 {g f h:Nat→Option Bool} {P Q R:Prop} (a:bC h Q) (b:bC g P) (c:bC f R):bC (fun k=>(h k).bind fun t=>if t=true then g k else f k) ((Q∧P)∨(¬ Q∧R)):=by
  obtain⟨r,h1,h2⟩:=a
  obtain⟨s,d,e⟩:=b
  obtain⟨u,f1,f2⟩:=c
  cases r with
  | true=>exact⟨s,Ev.bind (f:=fun k t=>if t=true then g k else f k) h1 (Ev.congr (fun k=>if_pos rfl) d),by rw [e,← h2];simp⟩
  | false=>exact⟨u,Ev.bind (f:=fun k t=>if t=true then g k else f k) h1 (Ev.congr (fun k=>if_neg (by simp)) f1),by rw [f2,← h2];simp⟩
theorem Ev.one {α:Type} {g:Nat→Option α} {a b:α} (h1:Ev g a) (h2:Ev g b):a=b:=by
  obtain⟨c,h1⟩:=h1
  obtain⟨d,h2⟩:=h2
  have i:=h1 (max c d) (by omega)
  have e:=h2 (max c d) (by omega)
  rw [i] at e
  exact Option.some.inj e
theorem bC.self {g:Nat→Option Bool} {r:Bool} (h:Ev g r):bC g (Ev g true):=
  ⟨r,h,⟨fun e=>by rw [e] at h;exact h,fun h2=>Ev.one h h2⟩⟩
theorem bC.through {β:Type} {h:Nat→Option β} {v:β} {g:Nat→β→Option Bool} {P:Prop} (a:Ev h v) (b:bC (fun k=>g k v) P):bC (fun k=>(h k).bind fun t=>g k t) P:=by
  obtain⟨r,c,d⟩:=b
  exact⟨r,Ev.bind (f:=g) a c,d⟩
theorem pJ {α:Type} {z:α} {L:Nat→Int→Option Bool} {R:Nat→Option Bool} {G:Nat→Int→α→Option Bool} {C:α→Prop} {P:Prop} (a:List α)
    (c:∀ k i,L (k+1) i=if i < (a.length:Int) then (if 0≤i then G k i (a.getD i.toNat z) else none) else R k)
    (j:∀ (i:Int) (x:α),x∈a→∀ Q:Prop,bC (fun k=>L k (wrap64 (i+1))) Q→bC (fun k=>G k i x) (C x∧Q)) (m:bC R P) (n:a.length≤4611686018427387904):bC (fun k=>L k 0) ((∀ x∈a,C x)∧P):=by
  have e:∀ (d i:Nat),i+d=a.length→bC (fun k=>L k (i:Int)) ((∀ x∈a.drop i,C x)∧P):=by
    intro d
    induction d with
    | zero =>
      intro i o
      refine bC.iff (P:=P) (bC.step (f:=R) (fun k=>by rw [c,if_neg (by omega)]) m) ?_
      rw [List.drop_eq_nil_of_le (by omega)];simp
    | succ d ih =>
      intro i o
      have b:i < a.length:=by omega
      have h2:=ih (i+1) (by omega)
      rw [← qU b n] at h2
      refine bC.iff (bC.step (f:=fun k=>G k (i:Int) a[i]) (fun k=>?_) (j i _ (List.getElem_mem b) _ h2)) (by rw [List.drop_eq_getElem_cons b,List.forall_mem_cons,and_assoc])
      rw [c,if_pos (by omega),if_pos (by omega),getD_at b]
  exact e a.length 0 (by omega)
def jA (s:ByteArray):Prop:=Ev (fun k=>aE.f k s) true
theorem kO (s:ByteArray) (h:s.size≤1048576):bC (fun k=>aE.f k s) (jA s):=by
  obtain⟨b,a,c⟩:=jX s (by omega)
  exact bC.self (r:=b) ⟨_,a⟩
def mV (x:cR):Prop:=Ev (fun k=>dB.f k x.f0 x.f1 x.f2 x.f3 x.f4) true
def wR (x:cR):Prop:=x.f2.size≤1048576∧x.f3.size≤1048576∧x.f4.size≤1048576
theorem tH (x:cR) (h:wR x):bC (fun k=>dB.f k x.f0 x.f1 x.f2 x.f3 x.f4) (mV x):=by
  obtain⟨b,a,c⟩:=tG x.f0 x.f1 x.f2 x.f3 x.f4 h.1 h.2.1 h.2.2
  exact bC.self (r:=b) ⟨_,a⟩
def nI (o:Int):Prop:=∃ F,cO.f o=some F∧F.toList=([116]:List UInt8)
theorem rY {h:Nat→Option ByteArray} {L:Nat→Option Bool} {Q:Prop} (o a m:Int) (i:∀ F,cO.f o=some F→Ev h F) (d:bC L Q):
    bC (fun k=>(h k).bind fun F=>(if F.toList=([116]:List UInt8) then (if a ≥ m then (some false) else L k) else L k)) ((nI o→a < m)∧Q):=by
  obtain⟨F,b,n⟩:=iP o
  refine bC.through (g:=fun k F=>(if F.toList=([116]:List UInt8) then (if a ≥ m then (some false) else L k) else L k)) (i F b) ?_
  by_cases c:F.toList=([116]:List UInt8)
  · have j:nI o:=⟨F,b,c⟩
    refine bC.iff (bC.iteP c (bC.iten d)) ?_
    simp [j]
  · have j:¬ nI o:=fun ⟨p,e,h⟩=>by rw [b] at e;cases e;exact c h
    refine bC.iff (bC.iteN c d) ?_
    simp [j]
def rQ (m:Int) (x:dG):Prop:=x.f0 ≥ 0∧x.f0 < x.f1∧x.f1≤m∧x.f2 ≥ 0∧x.f2 < m∧jA x.f3
theorem tC (m:Int) (x:dG) (h:x.f3.size≤1048576):bC (fun k=>fL.f k x.f0 x.f1 x.f2 x.f3 m) (rQ m x):=
  bC.congr (fun k=>rfl) (bC.ite (bC.ite (bC.ite (bC.ite (bC.ite (bC.last (kO x.f3 h)))))))
def oG (cs:List cR) (hs:List dG):Prop:=1≤cs.length∧cs.length≤60∧hs.length≤6∧(∀ x∈cs,mV x∧(nI x.f0→x.f1 < (cs.length:Int)))∧∀ x∈hs,rQ cs.length x
def iR (n:ByteArray):Prop:=n.toList=([60,105,110,105,116,62]:List UInt8)
def sR (n d:ByteArray) (t l:Int):Prop:=(jA n∨iR n)∧(hO d).2.2.2=0∧0≤t∧t≤16∧0≤l∧l≤16
def vH (d:ByteArray) (s:Bool):Int:=if s=true then ((hO d).1.length:Int) else ((hO d).1.length:Int)+1
def oD (n d:ByteArray) (s a f:Bool) (t l:Int) (cs:List cR) (hs:List dG):Prop:=
  if a=true then t=0∧l=0∧cs.length=0∧hs.length=0∧s=false∧f=false∧¬ iR n
  else oG cs hs∧vH d s≤l∧(iR n→s=false∧f=false∧(hO d).2.1.toList=[86])
theorem uN (d:ByteArray):wrap64 (((hO d).1.length:Int)+1)=((hO d).1.length:Int)+1:=by
  have:=nN d
  unfold wrap64;omega
theorem uC (n:ByteArray) (s f:Bool) (t l:Int) (c h:Nat):
    bC (fun _=>if t=0 then (if l=0 then (if (c:Int)=0 then (if (h:Int)=0 then (if s=true then (some false) else (if f=true then (some false) else (some (n.toList != ([60,105,110,105,116,62]:List UInt8))))) else (some false)) else (some false)) else (some false)) else (some false))
      (t=0∧l=0∧c=0∧h=0∧s=false∧f=false∧¬ iR n):=by
  refine bC.iff (bC.ite (bC.ite (bC.ite (bC.ite (bC.iten (bC.iten (bC.val _))))))) ?_
  unfold iR
  simp
theorem uG {G:Nat→Option Bool} {r:ByteArray} (n:ByteArray) (s f:Bool) (a:Ev (fun k=>G k) (r.toList == ([86]:List UInt8))):
    bC (fun k=>if n.toList=([60,105,110,105,116,62]:List UInt8) then (if s=true then (some false) else (if f=true then (some false) else G k)) else (some true)) (iR n→s=false∧f=false∧r.toList=[86]):=by
  have b:bC G (r.toList=[86]):=⟨_,a,by simp⟩
  refine bC.iff (bC.ite2 (bC.iten (bC.iten b)) bC.yes) ?_
  unfold iR
  by_cases c:n.toList=([60,105,110,105,116,62]:List UInt8)
  · simp [c]
  · simp [c]
theorem pR (n d:ByteArray) (s a f:Bool) (t l:Int) (cs:List cR) (hs:List dG) (M:n.size≤1048576) (X:d.size≤1048576) (O:∀ x∈cs,wR x) (P:∀ x∈hs,x.f3.size≤1048576) (Y:cs.length≤1048576) (Z:hs.length≤1048576):
    bC (fun k=>aI.f k n d s a f t l cs hs) (sR n d t l∧oD n d s a f t l cs hs):=by
  obtain⟨ps,r,q,c,hg⟩:∃ ps r q c,hO d=(ps,r,q,c):=⟨_,_,_,_,rfl⟩
  have A:=nN d
  have m:=uN d
  unfold sR oD vH
  rw [hg] at A m ⊢
  simp only at A m ⊢
  have yes:bC (fun k=>aI.j0 k true n d s a f t l cs hs ps r q c) False:=bC.step (f:=fun _=>some false) (fun k=>by simp only [aI.j0,↓reduceIte]) bC.no
  have j:bC (fun k=>aI.j2 k (cs.length:Int) true n d s a f t l cs hs ps r q c) False:=bC.step (f:=fun _=>some false) (fun k=>by simp only [aI.j2,↓reduceIte]) bC.no
  have E:bC (fun k=>aI.l0 k (cs.length:Int) 0 n d s a f t l cs hs ps r q c) ((∀ x∈cs,mV x∧(nI x.f0→x.f1 < (cs.length:Int)))∧(∀ x∈hs,rQ cs.length x)∧(iR n→s=false∧f=false∧r.toList=[86])):=by
    refine pJ (z:=wP) (C:=fun x=>mV x∧(nI x.f0→x.f1 < (cs.length:Int))) (L:=fun k i=>aI.l0 k (cs.length:Int) i n d s a f t l cs hs ps r q c)
      (G:=fun k i x=>(dB.f k x.f0 x.f1 x.f2 x.f3 x.f4).bind fun I=>(if I=true then ((bU.f k x.f0).bind fun F=>(if F.toList=([116]:List UInt8) then (if x.f1 ≥ (cs.length:Int) then (some false) else (aI.l0 k (cs.length:Int) (wrap64 (i+1)) n d s a f t l cs hs ps r q c)) else (aI.l0 k (cs.length:Int) (wrap64 (i+1)) n d s a f t l cs hs ps r q c))) else (some false)))
      (R:=fun k=>aI.l1 k (cs.length:Int) 0 n d s a f t l cs hs ps r q c) cs (fun k i=>rfl) (fun i x o Q p=>?_) ?_ (by omega)
    · exact bC.iff (bC.bind (tH x (O x o)) (rY (h:=fun k=>bU.f k x.f0) x.f0 x.f1 (cs.length:Int) (fun F e=>by
        obtain⟨F',D,T⟩:=iP x.f0
        rw [e] at D;cases D
        exact⟨16,T⟩) p)) (by rw [and_assoc])
    · refine pJ (z:=wQ) (C:=fun x=>rQ cs.length x) (L:=fun k i=>aI.l1 k (cs.length:Int) i n d s a f t l cs hs ps r q c)
        (G:=fun k i x=>(fL.f k x.f0 x.f1 x.f2 x.f3 (cs.length:Int)).bind fun J=>(if J=true then (aI.l1 k (cs.length:Int) (wrap64 (i+1)) n d s a f t l cs hs ps r q c) else (some false)))
        (R:=fun k=>if n.toList=([60,105,110,105,116,62]:List UInt8) then (if s=true then (some false) else (if f=true then (some false) else (some (r.toList == ([86]:List UInt8))))) else (some true)) hs (fun k i=>rfl) (fun i x o Q p=>bC.bind (tC _ x (P x o)) p) (uG (r:=r) n s f (Ev.now _)) (by omega)
  have u:∀ v:Int,bC (fun k=>aI.j1 k (cs.length:Int) v n d s a f t l cs hs ps r q c) (oG cs hs∧v≤l∧(iR n→s=false∧f=false∧r.toList=[86])):=by
    intro v
    have h6:bC (fun k=>aI.j2 k (cs.length:Int) (decide ((hs.length:Int) > 6)) n d s a f t l cs hs ps r q c) (¬ (hs.length:Int) > 6∧((∀ x∈cs,mV x∧(nI x.f0→x.f1 < (cs.length:Int)))∧(∀ x∈hs,rQ cs.length x)∧(iR n→s=false∧f=false∧r.toList=[86]))):=by
      by_cases b:(hs.length:Int) > 6
      · rw [decide_eq_true b];exact bC.iff j (by simp [b])
      · rw [decide_eq_false b]
        exact bC.iff (bC.step (f:=fun k=>aI.l0 k (cs.length:Int) 0 n d s a f t l cs hs ps r q c) (fun k=>by simp only [aI.j2];rw [if_neg (by simp)]) E) (by simp [b])
    refine bC.iff (bC.step (fun k=>rfl) (bC.ite2 j (bC.ite2 j (bC.ite2 j h6)))) ?_
    unfold oG
    constructor
    · rintro (h|⟨h1,h|⟨h2,h|⟨h3,h4,h5,h7,h8⟩⟩⟩)
      · exact h.2.elim
      · exact h.2.elim
      · exact h.2.elim
      · exact⟨⟨by omega,by omega,by omega,h5,h7⟩,by omega,h8⟩
    · rintro ⟨⟨h1,h2,h3,h5,h7⟩,h4,h8⟩
      exact .inr ⟨by omega,.inr ⟨by omega,.inr ⟨by omega,by omega,h5,h7,h8⟩⟩⟩
  have y:bC (fun k=>aI.j0 k false n d s a f t l cs hs ps r q c) (if a=true then t=0∧l=0∧cs.length=0∧hs.length=0∧s=false∧f=false∧¬ iR n
      else oG cs hs∧(if s=true then (ps.length:Int) else (ps.length:Int)+1)≤l∧(iR n→s=false∧f=false∧r.toList=[86])):=by
    cases a with
    | true =>
      rw [if_pos rfl]
      refine bC.step (fun k=>?_) (uC n s f t l cs.length hs.length)
      simp only [aI.j0]
      rw [if_neg (by simp),if_pos trivial]
    | false =>
      rw [if_neg (by simp)]
      cases s with
      | true =>
        rw [if_pos rfl]
        refine bC.step (fun k=>?_) (u (ps.length:Int))
        simp only [aI.j0]
        rw [if_neg (by simp),if_neg (by simp),if_pos trivial]
      | false =>
        rw [if_neg (by simp)]
        refine bC.step (fun k=>?_) (u ((ps.length:Int)+1))
        simp only [aI.j0]
        rw [if_neg (by simp),if_neg (by simp),if_neg (by simp),m]
  have inner:bC (fun k=>if c=0 then (if t < 0 then (aI.j0 k true n d s a f t l cs hs ps r q c) else (if t > 16 then (aI.j0 k true n d s a f t l cs hs ps r q c) else (if l < 0 then (aI.j0 k true n d s a f t l cs hs ps r q c) else (aI.j0 k (decide (l > 16)) n d s a f t l cs hs ps r q c)))) else (aI.j0 k true n d s a f t l cs hs ps r q c))
      ((c=0∧0≤t∧t≤16∧0≤l∧l≤16)∧(if a=true then t=0∧l=0∧cs.length=0∧hs.length=0∧s=false∧f=false∧¬ iR n
      else oG cs hs∧(if s=true then (ps.length:Int) else (ps.length:Int)+1)≤l∧(iR n→s=false∧f=false∧r.toList=[86]))):=by
    generalize hB:(if a=true then t=0∧l=0∧cs.length=0∧hs.length=0∧s=false∧f=false∧¬ iR n
      else oG cs hs∧(if s=true then (ps.length:Int) else (ps.length:Int)+1)≤l∧(iR n→s=false∧f=false∧r.toList=[86]))=B at y ⊢
    have h16:bC (fun k=>aI.j0 k (decide (l > 16)) n d s a f t l cs hs ps r q c) (¬ l > 16∧B):=by
      by_cases b:l > 16
      · rw [decide_eq_true b];exact bC.iff yes (by simp [b])
      · rw [decide_eq_false b];exact bC.iff y (by simp [b])
    refine bC.iff (bC.ite2 (bC.ite2 yes (bC.ite2 yes (bC.ite2 yes h16))) yes) ?_
    constructor
    · rintro (⟨h0,h|⟨h1,h|⟨h2,h|⟨h3,h4,h5⟩⟩⟩⟩|h)
      · exact h.2.elim
      · exact h.2.elim
      · exact h.2.elim
      · exact⟨⟨h0,by omega,by omega,by omega,by omega⟩,h5⟩
      · exact h.2.elim
    · rintro ⟨⟨h0,h1,h2,h3,h4⟩,h5⟩
      exact .inl ⟨h0,.inr ⟨by omega,.inr ⟨by omega,.inr ⟨by omega,by omega,h5⟩⟩⟩⟩
  have K:Ev (fun k=>aT.f k d) (ps,r,q,c):=⟨60,fun k U=>(mN d k U).trans (congrArg some hg)⟩
  refine bC.iff (bC.through (h:=fun k=>aT.f k d) K (bC.congr (fun k=>rfl) (bC.bind2 (kO n M) inner (bC.ite2 (c:=n.toList=([60,105,110,105,116,62]:List UInt8)) inner yes)))) ?_
  unfold iR
  by_cases c1:jA n
  · simp [c1,and_assoc]
  · by_cases c2:n.toList=([60,105,110,105,116,62]:List UInt8)
    · simp [c1,c2,and_assoc]
    · simp [c1,c2]
theorem mE {L:Nat→Int→Option Bool} {C:Nat→Prop} {P:Prop} (n:Nat)
    (c:∀ j,j < n→∀ Q:Prop,bC (fun k=>L k ((j+1:Nat):Int)) Q→bC (fun k=>L k (j:Int)) (C j∧Q)) (m:bC (fun k=>L k (n:Int)) P):bC (fun k=>L k 0) ((∀ j,j < n→C j)∧P):=by
  have b:∀ (d i:Nat),i+d=n→bC (fun k=>L k (i:Int)) ((∀ j,i≤j→j < n→C j)∧P):=by
    intro d
    induction d with
    | zero =>
      intro i o
      have e:i=n:=by omega
      subst e
      exact bC.iff m ⟨fun h=>⟨fun j h1 h2=>by omega,h⟩,fun h=>h.2⟩
    | succ d ih =>
      intro i o
      refine bC.iff (c i (by omega) _ (ih (i+1) (by omega))) ?_
      constructor
      · rintro ⟨h1,h2,h3⟩
        refine⟨fun j h4 h5=>?_,h3⟩
        by_cases e:j=i
        · subst e;exact h1
        · exact h2 j (by omega) h5
      · rintro ⟨h1,h2⟩
        exact⟨h1 i (Nat.le_refl _) (by omega),fun j h4 h5=>h1 j (by omega) h5,h2⟩
  exact bC.iff (b n 0 (by omega)) ⟨fun h=>⟨fun j a=>h.1 j (Nat.zero_le _) a,h.2⟩,fun h=>⟨fun j _ a=>h.1 j a,h.2⟩⟩
theorem getD_in {α:Type} {a:List α} {z:α} {i:Nat} (h:i < a.length):a.getD i z∈a:=by
  have e:a.getD i z=a[i]:=by simp [List.getD_eq_getElem?_getD,List.getElem?_eq_getElem h]
  rw [e];exact List.getElem_mem h
def qC (a:List eO) (i:Nat):Prop:=jA (a.getD i pG).f0∧gJ (a.getD i pG).f1=true∧∀ j,j < i→¬ (a.getD j pG).f0.toList=(a.getD i pG).f0.toList
def mP (x:eH):Prop:=sR x.f0 x.f1 x.f5 x.f6∧oD x.f0 x.f1 x.f2 x.f3 x.f4 x.f5 x.f6 x.f7 x.f8
def sS (b:Bool) (a:List eH) (i:Nat):Prop:=mP (a.getD i pH)∧((a.getD i pH).f3=true→b=true)∧∀ j,j < i→¬ ((a.getD j pH).f0.toList=(a.getD i pH).f0.toList∧(a.getD j pH).f1.toList=(a.getD i pH).f1.toList)
def xU (x:eO):Prop:=x.f0.size≤1048576∧x.f1.size≤1048576
def uA (x:eH):Prop:=x.f0.size≤1048576∧x.f1.size≤1048576∧(∀ i∈x.f7,wR i)∧(∀ h∈x.f8,h.f3.size≤1048576)∧x.f7.length≤1048576∧x.f8.length≤1048576
theorem type_spec (d:ByteArray):bC (fun k=>cT.f k d) (gJ d=true):=⟨_,⟨40,fun k a=>jZ d k (by omega)⟩,Iff.rfl⟩
theorem oK (x:eH) (h:uA x):bC (fun k=>aI.f k x.f0 x.f1 x.f2 x.f3 x.f4 x.f5 x.f6 x.f7 x.f8) (mP x):=
  pR _ _ _ _ _ _ _ _ _ h.1 h.2.1 h.2.2.1 h.2.2.2.1 h.2.2.2.2.1 h.2.2.2.2.2
theorem vW {α:Type} {A B:Prop} [Decidable A] [Decidable B] (x y:α):(if A then (if B then x else y) else y)=if A∧B then x else y:=by
  by_cases a:A
  · by_cases b:B
    · rw [if_pos a,if_pos b,if_pos ⟨a,b⟩]
    · rw [if_pos a,if_neg b,if_neg (fun h=>b h.2)]
  · rw [if_neg a,if_neg (fun h=>a h.1)]
def vA (b:Bool) (a:List eO) (c:List eH):Prop:=(∀ i,i < a.length→qC a i)∧(∀ i,i < c.length→sS b c i)
theorem mG (n s:ByteArray) (f b:Bool) (a:List eO) (d:List eH) (E:a.length≤1048576) (G:d.length≤1048576) (u:∀ x∈d,uA x) (v:∀ x∈a,xU x):
    bC (fun k=>aG.l0 k 0 n s f b a d) (vA b a d):=by
  have e:∀ i:Nat,i < 1048576→wrap64 ((i:Int)+1)=((i+1:Nat):Int):=fun i h=>qU h (by omega)
  refine mE (L:=fun k i=>aG.l0 k i n s f b a d) a.length (fun i q Q t=>?_) (bC.step (f:=fun k=>aG.l2 k 0 n s f b a d) (fun k=>by simp only [aG.l0];rw [if_neg (by omega)]) ?_)
  · have yes:bC (fun k=>aG.j2 k (i:Int) true n s f b a d) False:=bC.step (f:=fun _=>some false) (fun k=>by simp only [aG.j2,↓reduceIte]) bC.no
    have inner:bC (fun k=>aG.l1 k (i:Int) 0 n s f b a d) ((∀ j,j < i→¬ (a.getD j pG).f0.toList=(a.getD i pG).f0.toList)∧Q):=by
      refine mE (L:=fun k j=>aG.l1 k (i:Int) j n s f b a d) i (fun j y z p=>?_) (bC.step (f:=fun k=>aG.l0 k ((i+1:Nat):Int) n s f b a d) (fun k=>by simp only [aG.l1];rw [if_neg (by omega),e i (by omega)]) t)
      refine bC.step (f:=fun k=>if (a.getD j pG).f0.toList=(a.getD i pG).f0.toList then (some false) else (aG.l1 k (i:Int) ((j+1:Nat):Int) n s f b a d)) (fun k=>?_) (bC.iten p)
      simp only [aG.l1]
      rw [if_pos (by omega),if_pos (by omega),if_pos (by omega),if_pos (by omega),if_pos (by omega),e j (by omega)];rfl
    have m:bC (fun k=>aG.j2 k (i:Int) false n s f b a d) ((∀ j,j < i→¬ (a.getD j pG).f0.toList=(a.getD i pG).f0.toList)∧Q):=bC.step (f:=fun k=>aG.l1 k (i:Int) 0 n s f b a d) (fun k=>by simp only [aG.j2];rw [if_neg (by simp)]) inner
    have A:bC (fun k=>(cT.f k (a.getD i pG).f1).bind fun o=>(aG.j2 k (i:Int) (!o) n s f b a d)) (gJ (a.getD i pG).f1=true∧((∀ j,j < i→¬ (a.getD j pG).f0.toList=(a.getD i pG).f0.toList)∧Q)):=by
      obtain⟨r,r1,B⟩:=type_spec (a.getD i pG).f1
      refine bC.through (g:=fun k o=>(aG.j2 k (i:Int) (!o) n s f b a d)) r1 ?_
      rw [← B]
      cases r with
      | true=>exact bC.iff m (by simp)
      | false=>exact bC.iff yes (by simp)
    refine bC.iff (bC.step (fun k=>?_) (bC.bind2 (kO (a.getD i pG).f0 (v _ (getD_in q)).1) A yes)) ?_
    · simp only [aG.l0]
      rw [if_pos (by omega),if_pos (by omega)];rfl
    · unfold qC
      constructor
      · rintro (⟨h1,h2,h3,h4⟩|h)
        · exact⟨⟨h1,h2,h3⟩,h4⟩
        · exact h.2.elim
      · rintro ⟨⟨h1,h2,h3⟩,h4⟩
        exact .inl ⟨h1,h2,h3,h4⟩
  · refine bC.iff (mE (L:=fun k i=>aG.l2 k i n s f b a d) (P:=True) (C:=sS b d) d.length (fun i q Q t=>?_) (bC.step (f:=fun _=>some true) (fun k=>by simp only [aG.l2];rw [if_neg (by omega)]) bC.yes)) (by simp)
    obtain⟨x,hx⟩:∃ x,x=d.getD i pH:=⟨_,rfl⟩
    have yes:bC (fun k=>aG.j5 k (i:Int) true n s f b a d x.f0 x.f1 x.f2 x.f3 x.f4 x.f5 x.f6 x.f7 x.f8) False:=bC.step (f:=fun _=>some false) (fun k=>by simp only [aG.j5,↓reduceIte]) bC.no
    have inner:bC (fun k=>aG.l3 k (i:Int) 0 n s f b a d x.f0 x.f1 x.f2 x.f3 x.f4 x.f5 x.f6 x.f7 x.f8) ((∀ j,j < i→¬ ((d.getD j pH).f0.toList=x.f0.toList∧(d.getD j pH).f1.toList=x.f1.toList))∧Q):=by
      refine mE (L:=fun k j=>aG.l3 k (i:Int) j n s f b a d x.f0 x.f1 x.f2 x.f3 x.f4 x.f5 x.f6 x.f7 x.f8) i (fun j y z p=>?_) (bC.step (f:=fun k=>aG.l2 k ((i+1:Nat):Int) n s f b a d) (fun k=>by simp only [aG.l3];rw [if_neg (by omega),e i (by omega)]) t)
      refine bC.step (f:=fun k=>if (d.getD j pH).f0.toList=x.f0.toList∧(d.getD j pH).f1.toList=x.f1.toList then (some false) else (aG.l3 k (i:Int) ((j+1:Nat):Int) n s f b a d x.f0 x.f1 x.f2 x.f3 x.f4 x.f5 x.f6 x.f7 x.f8)) (fun k=>?_) (bC.iten p)
      simp only [aG.l3]
      rw [if_pos (by omega),if_pos (by omega),if_pos (by omega),e j (by omega),← vW];rfl
    have m:bC (fun k=>aG.j5 k (i:Int) false n s f b a d x.f0 x.f1 x.f2 x.f3 x.f4 x.f5 x.f6 x.f7 x.f8) ((∀ j,j < i→¬ ((d.getD j pH).f0.toList=x.f0.toList∧(d.getD j pH).f1.toList=x.f1.toList))∧Q):=bC.step (f:=fun k=>aG.l3 k (i:Int) 0 n s f b a d x.f0 x.f1 x.f2 x.f3 x.f4 x.f5 x.f6 x.f7 x.f8) (fun k=>by simp only [aG.j5];rw [if_neg (by simp)]) inner
    have D:bC (fun k=>aG.j5 k (i:Int) (!b) n s f b a d x.f0 x.f1 x.f2 x.f3 x.f4 x.f5 x.f6 x.f7 x.f8) (b=true∧((∀ j,j < i→¬ ((d.getD j pH).f0.toList=x.f0.toList∧(d.getD j pH).f1.toList=x.f1.toList))∧Q)):=by
      cases b with
      | true=>exact bC.iff m (by simp)
      | false=>exact bC.iff yes (by simp)
    refine bC.iff (bC.step (fun k=>?_) (bC.bind2 (oK x (by rw [hx];exact u _ (getD_in q))) (bC.ite2 (c:=x.f3=true) D m) yes)) ?_
    · simp only [aG.l2]
      rw [if_pos (by omega),if_pos (by omega),hx];rfl
    · unfold sS
      rw [← hx]
      constructor
      · rintro (⟨h1,⟨h2,h3,h4⟩|⟨h2,h4⟩⟩|h)
        · exact⟨⟨h1,fun _=>h3,h4.1⟩,h4.2⟩
        · exact⟨⟨h1,fun h=>absurd h h2,h4.1⟩,h4.2⟩
        · exact h.2.elim
      · rintro ⟨⟨h1,h2,h3⟩,h4⟩
        by_cases c:x.f3=true
        · exact .inl ⟨h1,.inl ⟨c,h2 c,h3,h4⟩⟩
        · exact .inl ⟨h1,.inr ⟨c,h3,h4⟩⟩
theorem qG {N:Nat→ByteArray→Option Bool} {J:Nat→Bool→Option Bool} {P:Prop} (n s:ByteArray) (f b:Bool) (d a:Nat) (j:bC (fun k=>N k n) (jA n)) (hs:bC (fun k=>N k s) (jA s)) (yes:bC (fun k=>J k true) False) (m:bC (fun k=>J k false) P):
    bC (fun k=>(N k n).bind fun e=>(if e=true then ((N k s).bind fun i=>(if i=true then (if n.toList=s.toList then (J k true) else (if f=true then (if b=true then (J k true) else (if (d:Int) > 8 then (J k true) else (J k (decide ((a:Int) > 10))))) else (if (d:Int) > 8 then (J k true) else (J k (decide ((a:Int) > 10)))))) else (J k true))) else (J k true)))
      (jA n∧jA s∧¬ n.toList=s.toList∧¬ (f=true∧b=true)∧d≤8∧a≤10∧P):=by
  have h10:bC (fun k=>J k (decide ((a:Int) > 10))) (¬ (a:Int) > 10∧P):=by
    by_cases c:(a:Int) > 10
    · rw [decide_eq_true c];exact bC.iff yes (by simp [c])
    · rw [decide_eq_false c];exact bC.iff m (by simp [c])
  have h8:=bC.ite2 (c:=(d:Int) > 8) yes h10
  refine bC.iff (bC.bind2 j (bC.bind2 hs (bC.ite2 (c:=n.toList=s.toList) yes (bC.ite2 (c:=f=true) (bC.ite2 (c:=b=true) yes h8) h8)) yes) yes) ?_
  constructor
  · rintro (⟨h1,⟨h2,h|⟨h3,⟨h4,h|⟨h5,h|⟨h6,h7,h9⟩⟩⟩|⟨h4,h|⟨h6,h7,h9⟩⟩⟩⟩|h⟩|h)
    · exact h.2.elim
    · exact h.2.elim
    · exact h.2.elim
    · exact⟨h1,h2,h3,fun h=>h5 h.2,by omega,by omega,h9⟩
    · exact h.2.elim
    · exact⟨h1,h2,h3,fun h=>h4 h.1,by omega,by omega,h9⟩
    · exact h.2.elim
    · exact h.2.elim
  · rintro ⟨h1,h2,h3,h4,h5,h6,h7⟩
    refine .inl ⟨h1,.inl ⟨h2,.inr ⟨h3,?_⟩⟩⟩
    by_cases c:f=true
    · exact .inl ⟨c,.inr ⟨fun h=>h4 ⟨c,h⟩,.inr ⟨by omega,by omega,h7⟩⟩⟩
    · exact .inr ⟨c,.inr ⟨by omega,by omega,h7⟩⟩
abbrev St:=List ByteArray×List Int
def lN (N:Nat) (s:St):Prop:=s.1.length≤N∧s.2.length≤N
def nm (s:St) (n:Int):St:=(s.1,s.2++[n % 256])
def tx (s:St) (t:ByteArray):St:=match kK t s.1 0 with
  | some i=>(s.1,s.2++[i % 256])
  | none=>(s.1++[t],s.2++[(s.1.length:Int) % 256])
theorem lN.up {N M:Nat} {s:St} (h:lN N s) (a:N≤M):lN M s:=⟨Nat.le_trans h.1 a,Nat.le_trans h.2 a⟩
theorem jG {N:Nat} {s:St} (n:Int) (h:lN N s):lN (N+1) (nm s n):=⟨by have:=h.1;simp [nm];omega,by have:=h.2;simp [nm];omega⟩
theorem jQ {N:Nat} {s:St} (t:ByteArray) (h:lN N s):lN (N+1) (tx s t):=by
  unfold tx
  split
  · exact⟨by have:=h.1;simp;omega,by have:=h.2;simp;omega⟩
  · exact⟨by have:=h.1;simp;omega,by have:=h.2;simp;omega⟩
theorem mJ {α:Type} {P:St→α→St} {c:Nat} (a:List α) (b:∀ x∈a,∀ s N,lN N s→lN (N+c) (P s x)):∀ (s:St) (N:Nat),lN N s→lN (N+c*a.length) (a.foldl P s):=by
  induction a with
  | nil=>intro s N h;simpa using h
  | cons x l ih =>
    intro s N h
    have h1:=ih (fun y d=>b y (List.mem_cons_of_mem _ d)) (P s x) (N+c) (b x (List.mem_cons_self ..) s N h)
    rw [List.foldl_cons,List.length_cons]
    exact h1.up (by rw [Nat.mul_add];omega)
theorem nF {α R:Type} {L:Nat→Int→St→Option R} {Z:Nat→St→Option R} {P:St→α→St} {c M:Nat} (a:List α)
    (n:∀ x∈a,∀ s N,lN N s→lN (N+c) (P s x))
    (hs:∀ i (h:i < a.length) s r,lN M s→Ev (fun k=>L k ((i+1:Nat):Int) (P s a[i])) r→Ev (fun k=>L k (i:Int) s) r)
    (o:∀ s r,Ev (fun k=>Z k s) r→Ev (fun k=>L k (a.length:Int) s) r)
    (b:St) (N:Nat) (h0:lN N b) (p:N+c*a.length≤M) {r:R} (q:Ev (fun k=>Z k (a.foldl P b)) r):Ev (fun k=>L k 0 b) r:=by
  have m:∀ (d i:Nat) (s:St),i+d=a.length→lN (N+c*i) s→Ev (fun k=>Z k ((a.drop i).foldl P s)) r→Ev (fun k=>L k (i:Int) s) r:=by
    intro d
    induction d with
    | zero =>
      intro i s t j h
      obtain rfl:i=a.length:=by omega
      rw [List.drop_length] at h
      exact o s r h
    | succ d ih =>
      intro i s t j h
      have e:i < a.length:=by omega
      rw [List.drop_eq_getElem_cons e,List.foldl_cons] at h
      have u:N+c*i≤M:=Nat.le_trans (Nat.add_le_add_left (Nat.mul_le_mul_left c (Nat.le_of_lt e)) N) p
      exact hs i e s r (j.up u) (ih (i+1) _ (by omega) ((n _ (List.getElem_mem e) s _ j).up (by rw [Nat.mul_add];omega)) h)
  exact m a.length 0 b (by omega) (by simpa using h0) (by simpa using q)
theorem jU (s:St) (t:ByteArray) (h:lN 1099511627774 s):bE.f s.1 s.2 t=some (tx s t):=by
  have h1:=h.1;have h2:=h.2
  unfold bE.f tx
  rw [if_pos (by omega)]
  cases hf:kK t s.1 0 with
  | some i=>simp only [];unfold bA.f;rw [if_pos (by omega)]
  | none =>
    simp only []
    unfold bA.f
    rw [if_pos (by omega)]
    have e:wrap64 (((s.1++[t]).length:Int) - 1)=(s.1.length:Int):=by rw [List.length_append,List.length_singleton];unfold wrap64;omega
    rw [e]
theorem mA (s:St) (n:Int) (h:lN 1099511627774 s):bA.f s.1 s.2 n=some (nm s n):=by
  have h2:=h.2
  unfold bA.f nm
  rw [if_pos (by omega)]
def q4 (a:Int):ByteArray:=strOfNums [a / 256 / 256 / 256 % 256,a / 256 / 256 % 256,a / 256 % 256,a % 256]
theorem rJ (a:Int):(q4 a).size=4:=strOfNums_size _
def oW (F:ByteArray) (s:St) (x:cR):St:=
  if F.toList=([110]:List UInt8) then ((nm s x.f0).1,(nm s x.f0).2++bytesOf (q4 x.f1)) else if F.toList=([105]:List UInt8) then nm (nm s x.f0) x.f1 else if F.toList=([116]:List UInt8) then nm (nm s x.f0) x.f1 else if F.toList=([99]:List UInt8) then tx (nm s x.f0) x.f2 else if F.toList=([121]:List UInt8) then tx (nm s x.f0) x.f4 else if F.toList=([102]:List UInt8) then tx (tx (tx (nm s x.f0) x.f2) x.f3) x.f4 else if F.toList=([109]:List UInt8) then tx (tx (tx (nm s x.f0) x.f2) x.f3) x.f4 else nm s x.f0
def kX (s:St) (x:cR):St:=match cO.f x.f0 with
  | some F=>oW F s x
  | none=>s
def sT (x:cR):Prop:=∀ F,cO.f x.f0=some F→F.toList=([110]:List UInt8)→eQ.f x.f1=some true
theorem qL {N:Nat} {s:St} (x:cR) (h:lN N s):lN (N+5) (kX s x):=by
  unfold kX
  cases hF:cO.f x.f0 with
  | none=>exact h.up (by omega)
  | some F =>
    simp only []
    unfold oW
    have h1:=jG x.f0 h
    repeat' split
    · refine⟨Nat.le_trans h1.1 (by omega),?_⟩
      have e:(bytesOf (q4 x.f1)).length=4:=by rw [bytesOf_length,rJ]
      have:=h1.2
      simp only [List.length_append,e];omega
    · exact(jG _ h1).up (by omega)
    · exact(jG _ h1).up (by omega)
    · exact(jQ _ h1).up (by omega)
    · exact(jQ _ h1).up (by omega)
    · exact(jQ _ (jQ _ (jQ _ h1))).up (by omega)
    · exact(jQ _ (jQ _ (jQ _ h1))).up (by omega)
    · exact h1.up (by omega)
theorem sJ (a:Int) (h:eQ.f a=some true):jI.f a=some (q4 a):=by
  unfold jI.f q4
  rw [h,Option.bind_some,if_pos rfl]
  congr 2
  have b:a % 4294967296 / 16777216=a / 256 / 256 / 256 % 256:=by omega
  have c:a % 4294967296 / 65536 % 256=a / 256 / 256 % 256:=by omega
  have d:a % 4294967296 / 256 % 256=a / 256 % 256:=by omega
  have e:a % 4294967296 % 256=a % 256:=by omega
  rw [b,c,d,e]
theorem sD (s:St) (x:cR) (m:sT x) (N:Nat) (h:lN N s) (q:N≤1099511000000):Ev (fun k=>cY.f k s.1 s.2 x.f0 x.f1 x.f2 x.f3 x.f4) (kX s x):=by
  obtain⟨F,hF,hS⟩:=iP x.f0
  have h1:=jG x.f0 h
  have hs:=h.up (show N≤1099511627774 by omega)
  have d:=h1.up (show N+1≤1099511627774 by omega)
  have n:=m F hF
  unfold kX
  rw [hF]
  simp only []
  refine⟨16,fun k o=>?_⟩
  show cY.f k s.1 s.2 x.f0 x.f1 x.f2 x.f3 x.f4=_
  unfold cY.f
  rw [mA s x.f0 hs,Option.bind_some,hS k o,Option.bind_some]
  have j:∀ a b c,((bE.f (nm s x.f0).1 (nm s x.f0).2 a).bind fun p=>((bE.f p.1 p.2 b).bind fun p=>bE.f p.1 p.2 c))=some (tx (tx (tx (nm s x.f0) a) b) c):=by
    intro a b c
    rw [jU _ _ d,Option.bind_some,jU _ _ ((jQ a h1).up (by omega)),Option.bind_some,jU _ _ ((jQ b (jQ a h1)).up (by omega))]
  unfold oW
  by_cases c1:F.toList=([110]:List UInt8)
  · rw [if_pos c1,if_pos c1,sJ _ (n c1),Option.bind_some,if_pos (by rw [rJ];have:=h1.2;omega)]
  rw [if_neg c1,if_neg c1]
  by_cases c2:F.toList=([105]:List UInt8)
  · rw [if_pos c2,if_pos c2,mA _ _ d]
  rw [if_neg c2,if_neg c2]
  by_cases c3:F.toList=([116]:List UInt8)
  · rw [if_pos c3,if_pos c3,mA _ _ d]
  rw [if_neg c3,if_neg c3]
  by_cases c4:F.toList=([99]:List UInt8)
  · rw [if_pos c4,if_pos c4,jU _ _ d]
  rw [if_neg c4,if_neg c4]
  by_cases c5:F.toList=([121]:List UInt8)
  · rw [if_pos c5,if_pos c5,jU _ _ d]
  rw [if_neg c5,if_neg c5]
  by_cases e:F.toList=([102]:List UInt8)
  · rw [if_pos e,if_pos e,j]
  rw [if_neg e,if_neg e]
  by_cases i:F.toList=([109]:List UInt8)
  · rw [if_pos i,if_pos i,j]
  rw [if_neg i,if_neg i]
def mR (a b c:Bool):Int:=(if a=true then 1 else 0)+(if b=true then 2 else 0)+(if c=true then 4 else 0)
theorem lS (a b c:Bool):Ev (fun k=>cG.f k a b c) (mR a b c):=⟨5,fun k d=>at_rounds (cG.mono a b c) d (by cases a <;> cases b <;> cases c <;> decide +kernel)⟩
def kJ (s:St) (f:eO):St:=nm (tx (tx s f.f0) f.f1) (mR f.f2 false false)
def rZ (s:St) (h:dG):St:=tx (nm (nm (nm s h.f0) h.f1) h.f2) h.f3
def kD (s:St) (m:eH):St:=m.f8.foldl rZ (nm (m.f7.foldl kX (nm (nm (nm (nm (tx (tx s m.f0) m.f1) (mR m.f2 m.f3 m.f4)) m.f5) m.f6) (m.f7.length:Int))) (m.f8.length:Int))
def xR (m:eH):Prop:=m.f7.length≤60∧m.f8.length≤6∧∀ x∈m.f7,sT x
def kR (n u:ByteArray) (f b:Bool) (a:List eO) (c:List eH):St:=c.foldl kD (nm (a.foldl kJ (nm (nm (tx (tx (([],[]):St) n) u) (mR f b false)) (a.length:Int))) (c.length:Int))
theorem nO {N:Nat} {s:St} (f:eO) (h:lN N s):lN (N+3) (kJ s f):=jG _ (jQ _ (jQ _ h))
theorem tB {N:Nat} {s:St} (x:dG) (h:lN N s):lN (N+4) (rZ s x):=jQ _ (jG _ (jG _ (jG _ h)))
theorem rB {N:Nat} {s:St} (m:eH) (a:xR m) (h:lN N s):lN (N+400) (kD s m):=by
  have h1:=jG (m.f7.length:Int) (jG m.f6 (jG m.f5 (jG (mR m.f2 m.f3 m.f4) (jQ m.f1 (jQ m.f0 h)))))
  have h2:=mJ (P:=kX) (c:=5) m.f7 (fun x _ s N h=>qL x h) _ _ h1
  have h3:=mJ (P:=rZ) (c:=4) m.f8 (fun x _ s N h=>tB x h) _ _ (jG (m.f8.length:Int) h2)
  have l1:=a.1;have l2:=a.2.1
  exact h3.up (by omega)
theorem iQ (s:St) (n:Int) (N:Nat) (h:lN N s) (a:N≤1099511627774):Ev (fun _=>bA.f s.1 s.2 n) (nm s n):=Ev.congr (f:=fun _=>some (nm s n)) (fun _=>mA s n (h.up a)) (Ev.now _)
theorem kA (s:St) (t:ByteArray) (N:Nat) (h:lN N s) (a:N≤1099511627774):Ev (fun _=>bE.f s.1 s.2 t) (tx s t):=Ev.congr (f:=fun _=>some (tx s t)) (fun _=>jU s t (h.up a)) (Ev.now _)
theorem xQ:lN 0 (([],[]):St):=⟨Nat.le_refl _,Nat.le_refl _⟩
theorem qN (n u:ByteArray) (f b:Bool) (a:List eO) (d:List eH) (lf:a.length≤8) (lm:d.length≤10) (z:∀ m∈d,xR m):Ev (fun k=>gX.f k n u f b a d) (kR n u f b a d):=by
  have h2:=jQ u (jQ n xQ)
  have h3:=jG (mR f b false) h2
  have h4:=jG (a.length:Int) h3
  have h5:=mJ (P:=kJ) (c:=3) a (fun x _ s N h=>nO x h) _ _ h4
  have h6:=jG (d.length:Int) h5
  unfold gX.f aW.f
  refine Ev.bind (Ev.bind (kA (([],[]):St) n 0 xQ (by omega)) (Ev.bind (kA _ u _ (jQ n xQ) (by omega)) (Ev.bind (lS f b false) (Ev.bind (iQ _ (mR f b false) _ h2 (by omega)) (Ev.bind (iQ _ (a.length:Int) _ h3 (by omega)) ?_))))) (Ev.now _)
  refine nF (L:=fun k i s=>aW.l0 k i s.1 s.2 n u f b a d) (Z:=fun k s=>(bA.f s.1 s.2 (d.length:Int)).bind fun bt=>aW.l1 k 0 bt.1 bt.2 n u f b a d) (P:=kJ) (c:=3) (M:=100000) a (fun x _ s N h=>nO x h) (fun i p s r o e=>?_) (fun s r e=>Ev.step (fun k=>by rw [aW.l0,if_neg (by omega)]) e) _ _ h4 (by omega) ?_
  · have t:dM a (i:Int)=a[i]:=getD_at p
    have y:=jQ a[i].f0 o
    have T:=jQ a[i].f1 y
    exact Ev.step (fun k=>by rw [aW.l0,if_pos (by omega),if_pos (by omega),t,qU p (by omega)]) (Ev.bind (kA s a[i].f0 _ o (by omega)) (Ev.bind (kA _ a[i].f1 _ y (by omega)) (Ev.bind (lS a[i].f2 false false) (Ev.bind (iQ _ (mR a[i].f2 false false) _ T (by omega)) e))))
  refine Ev.bind (iQ _ (d.length:Int) _ h5 (by omega)) ?_
  refine nF (L:=fun k i s=>aW.l1 k i s.1 s.2 n u f b a d) (Z:=fun _ s=>some s) (P:=kD) (c:=400) (M:=100000) d (fun x U s N h=>rB x (z x U) h) (fun i p s r o e=>?_) (fun s r e=>Ev.step (fun k=>by rw [aW.l1,if_neg (by omega)]) e) _ _ h6 (by omega) (Ev.now _)
  have t:aA d (i:Int)=d[i]:=getD_at p
  obtain⟨X,Y,hn⟩:=z _ (List.getElem_mem p)
  generalize d[i]=m at t X Y hn e
  have A:=jQ m.f0 o
  have B:=jQ m.f1 A
  have D:=jG (mR m.f2 m.f3 m.f4) B
  have E:=jG m.f5 D
  have G:=jG m.f6 E
  have I:=jG (m.f7.length:Int) G
  have J:=mJ (P:=kX) (c:=5) m.f7 (fun x _ s N h=>qL x h) _ _ I
  have g8:=jG (m.f8.length:Int) J
  refine Ev.step (fun k=>by rw [aW.l1,if_pos (by omega),if_pos (by omega),t]) (Ev.bind (kA s m.f0 _ o (by omega)) (Ev.bind (kA _ m.f1 _ A (by omega)) (Ev.bind (lS m.f2 m.f3 m.f4) (Ev.bind (iQ _ (mR m.f2 m.f3 m.f4) _ B (by omega)) (Ev.bind (iQ _ m.f5 _ D (by omega)) (Ev.bind (iQ _ m.f6 _ E (by omega)) (Ev.bind (iQ _ (m.f7.length:Int) _ G (by omega)) ?_)))))))
  refine nF (L:=fun k j s=>aW.l2 k (i:Int) j s.1 s.2 n u f b a d m.f0 m.f1 m.f2 m.f3 m.f4 m.f5 m.f6 m.f7 m.f8) (Z:=fun k s=>(bA.f s.1 s.2 (m.f8.length:Int)).bind fun bt=>aW.l3 k (i:Int) 0 bt.1 bt.2 n u f b a d m.f0 m.f1 m.f2 m.f3 m.f4 m.f5 m.f6 m.f7 m.f8) (P:=kX) (c:=5) (M:=200000) m.f7 (fun x _ s N h=>qL x h) (fun j q s r o e=>?_) (fun s r e=>Ev.step (fun k=>by rw [aW.l2,if_neg (by omega)]) e) _ _ I (by omega) ?_
  · have v:bL m.f7 (j:Int)=m.f7[j]:=getD_at q
    exact Ev.step (fun k=>by rw [aW.l2,if_pos (by omega),if_pos (by omega),v,qU q (by omega)]) (Ev.bind (sD s m.f7[j] (hn _ (List.getElem_mem q)) _ o (by omega)) e)
  refine Ev.bind (iQ _ (m.f8.length:Int) _ J (by omega)) ?_
  refine nF (L:=fun k j s=>aW.l3 k (i:Int) j s.1 s.2 n u f b a d m.f0 m.f1 m.f2 m.f3 m.f4 m.f5 m.f6 m.f7 m.f8) (Z:=fun k s=>aW.l1 k ((i+1:Nat):Int) s.1 s.2 n u f b a d) (P:=rZ) (c:=4) (M:=200000) m.f8 (fun x _ s N h=>tB x h) (fun j q s r o e=>?_) (fun s r e=>Ev.step (fun k=>by rw [aW.l3,if_neg (by omega),qU p (by omega)]) e) _ _ g8 (by omega) e
  have v:cL m.f8 (j:Int)=m.f8[j]:=getD_at q
  have K:=jG m.f8[j].f0 o
  have O:=jG m.f8[j].f1 K
  have b3:=jG m.f8[j].f2 O
  exact Ev.step (fun k=>by rw [aW.l3,if_pos (by omega),if_pos (by omega),v,qU q (by omega)]) (Ev.bind (iQ s m.f8[j].f0 _ o (by omega)) (Ev.bind (iQ _ m.f8[j].f1 _ K (by omega)) (Ev.bind (iQ _ m.f8[j].f2 _ O (by omega)) (Ev.bind (kA _ m.f8[j].f3 _ b3 (by omega)) e))))
theorem qX {x:cR} (h:mV x):sT x:=by
  intro F hF c
  obtain⟨K,hK⟩:=h
  obtain⟨F',hF',hS⟩:=iP x.f0
  obtain rfl:F=F':=Option.some.inj (hF.symm.trans hF')
  have e:=hK (max K 16) (by omega)
  simp only [] at e
  unfold dB.f at e
  rw [hS _ (by omega),Option.bind_some,if_neg (by rw [c];decide),if_pos c] at e
  cases h1:eQ.f x.f1 with
  | none=>rw [h1] at e;cases e
  | some t =>
    rw [h1,Option.bind_some] at e
    cases t with
    | true=>rfl
    | false=>rw [if_neg (by decide)] at e;cases e
theorem rD {m:eH} (h:mP m):xR m:=by
  have h2:=h.2
  unfold oD at h2
  by_cases c:m.f3=true
  · rw [if_pos c] at h2
    refine⟨by omega,by omega,fun x a=>?_⟩
    rw [List.eq_nil_of_length_eq_zero h2.2.2.1] at a
    cases a
  · rw [if_neg c] at h2
    exact⟨h2.1.2.1,h2.1.2.2.1,fun x a=>qX (h2.1.2.2.2.1 x a).1⟩
theorem qP (s:ByteArray) (e:s.size≤140737488351232) (d:Nat):∀ (k k':Nat) (i:Int),0≤i→i≤s.size→(s.size:Int) - i=d→d < k→d < k'→
    ∃ b,cU.l0 k s i=some b∧cN.l0 k' s (s.size:Int) i=some b:=by
  induction d with
  | zero =>
    intro k k' i h0 h1 j n c
    obtain⟨k,rfl⟩:∃ m,k=m+1:=⟨k - 1,by omega⟩
    obtain⟨k',rfl⟩:∃ m,k'=m+1:=⟨k' - 1,by omega⟩
    refine⟨true,?_,?_⟩
    · simp only [cU.l0];rw [if_neg (by omega)]
    · simp only [cN.l0];rw [if_neg (by omega)]
  | succ d ih =>
    intro k k' i h0 h1 j n c
    obtain⟨k,rfl⟩:∃ m,k=m+1:=⟨k - 1,by omega⟩
    obtain⟨k',rfl⟩:∃ m,k'=m+1:=⟨k' - 1,by omega⟩
    have a:i < (s.size:Int):=by omega
    simp only [cU.l0,cN.l0]
    rw [if_pos a,if_pos h0,if_pos a,if_pos h0,if_pos a,jO h0 a e]
    by_cases c1:bt s i < 32
    · exact⟨false,by rw [if_pos c1],by rw [if_pos c1]⟩
    · by_cases c2:bt s i > 126
      · exact⟨false,by rw [if_neg c1,if_pos c2],by rw [if_neg c1,if_pos c2]⟩
      · obtain⟨b,o,p⟩:=ih k k' (i+1) (by omega) (by omega) (by omega) (by omega) (by omega)
        exact⟨b,by rw [if_neg c1,if_neg c2];exact o,by rw [if_neg c1,if_neg c2];exact p⟩
theorem qR (a b:List Int):strOfNums (a++b)=strOfNums a++strOfNums b:=by
  apply WideShapes.bytes_inj
  simp [strOfNums]
theorem sL (s:ByteArray):strOfNums (bytesOf s)=s:=by
  apply WideShapes.bytes_inj
  simp only [strOfNums,bytesOf,List.map_map]
  show List.map ((fun n:Int=>UInt8.ofNat n.toNat) ∘ fun b:UInt8=>(b.toNat:Int)) s.data.toList=s.data.toList
  rw [show ((fun n:Int=>UInt8.ofNat n.toNat) ∘ fun b:UInt8=>(b.toNat:Int))=id from funext fun b=>by simp,List.map_id]
def EvB {α:Type} (g:Nat→Option α) (B:α→Prop):Prop:=∃ q,Ev g q∧B q
theorem EvB.step {α:Type} {g f:Nat→Option α} {B:α→Prop} (e:∀ k,g (k+1)=f k) (h:EvB f B):EvB g B:=h.elim fun q h=>⟨q,Ev.step e h.1,h.2⟩
theorem EvB.congr {α:Type} {g f:Nat→Option α} {B:α→Prop} (e:∀ k,g k=f k) (h:EvB f B):EvB g B:=h.elim fun q h=>⟨q,Ev.congr e h.1,h.2⟩
theorem EvB.bind {α β:Type} {g:Nat→Option β} {v:β} {f:Nat→β→Option α} {B:α→Prop} (a:Ev g v) (h:EvB (fun k=>f k v) B):EvB (fun k=>(g k).bind (f k)) B:=h.elim fun q h=>⟨q,Ev.bind a h.1,h.2⟩
theorem EvB.then {α β:Type} {g:Nat→Option β} {f:Nat→β→Option α} {A:β→Prop} {B:α→Prop} (b:EvB g A) (h:∀ v,A v→EvB (fun k=>f k v) B):EvB (fun k=>(g k).bind (f k)) B:=b.elim fun v a=>EvB.bind a.1 (h v a.2)
theorem EvB.now {α:Type} {v:α} {B:α→Prop} (h:B v):EvB (fun _=>some v) B:=⟨v,Ev.now _,h⟩
theorem EvB.ite {α:Type} {c:Prop} [Decidable c] {f g:Nat→Option α} {B:α→Prop} (h1:c→EvB f B) (h2:¬ c→EvB g B):EvB (fun k=>if c then f k else g k) B:=by
  by_cases hc:c
  · exact EvB.congr (fun k=>if_pos hc) (h1 hc)
  · exact EvB.congr (fun k=>if_neg hc) (h2 hc)
theorem EvB.ifp {α:Type} {c:Prop} [Decidable c] {f g:Nat→Option α} {B:α→Prop} (a:c) (h:EvB f B):EvB (fun k=>if c then f k else g k) B:=EvB.congr (fun k=>if_pos a) h
theorem EvB.mono {α:Type} {g:Nat→Option α} {B C:α→Prop} (h:EvB g B) (i:∀ q,B q→C q):EvB g C:=h.elim fun q h=>⟨q,h.1,i q h.2⟩
abbrev Rs (α:Type):=Except (Int×Int) (α×Int)
abbrev Rd (α:Type):=Int→Rs α
abbrev RS:=ByteArray×Int×List ByteArray×Int×Int
def gZ {α:Type} (v:α):Rd α:=fun i=>.ok (v,i)
def rb {α β:Type} (m:Rd α) (f:α→Rd β):Rd β:=fun i=>match m i with
  | .ok r=>f r.1 r.2
  | .error x=>.error x
def bd {α:Type} (e:Except (Int×Int) Int) (m:Rd α):Rs α:=match e with
  | .ok i=>m i
  | .error x=>.error x
def pl {α:Type} (e:Rs α):Except (Int×Int) Int:=match e with
  | .ok r=>.ok r.2
  | .error x=>.error x
theorem eE {α β:Type} {e:Except (Int×Int) Int} {m:Rd α} {f:α→Rd β} {v:α} (a:∀ r,bd e m=.ok r→v=r.1):bd e (rb m f)=bd (pl (bd e m)) (f v):=by
  cases e with
  | error x=>rfl
  | ok i =>
    have a:∀ r,m i=.ok r→v=r.1:=a
    show rb m f i=bd (pl (m i)) (f v)
    unfold rb
    cases h:m i with
    | error x=>rfl
    | ok r=>rw [a r h];rfl
theorem lD {α:Type} {e:Except (Int×Int) Int} {v:α}:pl (bd e (gZ v))=e:=by
  cases e <;> rfl
theorem mD {α:Type} {e:Except (Int×Int) Int} {v:α}:∀ r,bd e (gZ v)=.ok r→v=r.1:=by
  intro r h
  cases e with
  | error x=>cases h
  | ok i=>cases h;rfl
theorem kP {α β:Type} {e:Except (Int×Int) Int} {m:Rd α} {f:α→Rd β} {x:Int×Int} (h:bd e m=.error x):bd e (rb m f)=.error x:=by
  cases e with
  | error y =>
    have h2:(Except.error y:Rs α)=Except.error x:=h
    cases h2;rfl
  | ok i =>
    have h:m i=.error x:=h
    have g:rb m f i=.error x:=by unfold rb;rw [h]
    exact g
theorem xM {α β γ:Type} (a:Rd α) (b:α→Rd β) (c:β→Rd γ) (i:Int):rb a (fun x=>rb (b x) c) i=rb (rb a b) c i:=by
  unfold rb
  cases a i with
  | error x=>rfl
  | ok r=>rfl
theorem wS {α:Type} {m a:Rd α} (h:∀ i,m i=a i) (e:Except (Int×Int) Int):bd e m=bd e a:=by
  cases e with
  | error x=>rfl
  | ok i=>exact h i
def rN {α:Type} (f:Rd α):Nat→Rd (List α)
  | 0=>gZ []
  | n+1=>rb f (fun x=>rb (rN f n) (fun l=>gZ (x :: l)))
theorem nA {α γ S:Type} {f:Rd α} {L:Nat→List α→S→Nat→Option γ} {Fin:List α→S→Nat→Option γ} {B:γ→Prop} {Q:Except (Int×Int) Int→S→Prop} {M:Nat}
    (s:∀ d a st i,Q (.ok i) st→a.length+(d+1)≤M→(∀ v c,Q (pl (f i)) c→(∀ r,f i=.ok r→v=r.1)→EvB (L d (a++[v]) c) B)→EvB (L (d+1) a st) B)
    (n:∀ d a st x,Q (.error x) st→EvB (Fin a st) B→EvB (L d a st) B)
    (t:∀ a st i,Q (.ok i) st→EvB (Fin a st) B→EvB (L 0 a st) B):∀ (d:Nat) (a:List α) (st:S) (e:Except (Int×Int) Int),Q e st→a.length+d≤M→
    (∀ l c,Q (pl (bd e (rN f d))) c→(∀ r,bd e (rN f d)=.ok r→l=a++r.1)→EvB (Fin l c) B)→EvB (L d a st) B:=by
  intro d
  induction d with
  | zero =>
    intro a st e h u k
    have b:∀ r,bd e (rN f 0)=.ok r→a=a++r.1:=fun r b=>by have:=mD r b;rw [← this,List.append_nil]
    cases e with
    | error x=>exact n 0 a st x h (k a st h b)
    | ok i=>exact t a st i h (k a st h b)
  | succ d ih =>
    intro a st e h u k
    cases e with
    | error x=>exact n (d+1) a st x h (k a st h (fun r b=>by cases b))
    | ok i =>
      refine s d a st i h (by omega) (fun v c y z=>?_)
      have o:bd (.ok i) (rN f (d+1))=bd (pl (f i)) (rb (rN f d) (fun l=>gZ (v :: l))):=eE (e:=.ok i) (m:=f) (f:=fun x=>rb (rN f d) (fun l=>gZ (x :: l))) z
      refine ih (a++[v]) c (pl (f i)) y (by simp;omega) (fun l q h2 A=>?_)
      refine k l q ?_ ?_
      · rw [o]
        cases hh:bd (pl (f i)) (rN f d) with
        | error x =>
          rw [hh] at h2
          rw [kP hh];exact h2
        | ok r =>
          rw [eE (v:=r.1) (fun D j=>by rw [hh] at j;cases j;rfl),lD];exact h2
      · intro r b
        rw [o] at b
        cases hh:bd (pl (f i)) (rN f d) with
        | error x =>
          rw [kP hh] at b;cases b
        | ok p =>
          rw [eE (v:=p.1) (fun D j=>by rw [hh] at j;cases j;rfl)] at b
          have h3:=mD r b
          rw [A p hh,← h3,List.append_assoc];rfl
section
variable (s:ByteArray) (p:List ByteArray)
def r1:Rd Int:=fun i=>if i < (s.size:Int) then .ok (bt s i,i+1) else .error (4,(s.size:Int))
def rT:Rd ByteArray:=fun i=>match r1 s i with
  | .ok r=>if r.1 < (p.length:Int) then .ok (rdOf ByteArray.empty p r.1,r.2) else .error (5,i)
  | .error x=>.error x
def rF (m c:Int):Rd Int:=fun i=>match r1 s i with
  | .ok r=>if r.1 > m then .error (c,i) else .ok r
  | .error x=>.error x
def r4:Rd Int:=fun i=>if i+4≤(s.size:Int) then .ok (wrap64 (wrap32 (((bt s i*256+bt s (i+1))*256+bt s (i+2))*256+bt s (i+3))),i+4) else .error (4,(s.size:Int))
def rO:Rd Int:=fun i=>match r1 s i with
  | .ok r=>if 1≤r.1∧r.1≤44 then .ok r else .error (3,i)
  | .error x=>.error x
def oY (F:ByteArray) (o:Int):Rd cR:=
  if F.toList=([110]:List UInt8) then rb (r4 s) (fun a=>gZ ⟨o,a,⟨#[]⟩,⟨#[]⟩,⟨#[]⟩⟩)
  else if F.toList=([105]:List UInt8)∨F.toList=([116]:List UInt8) then rb (r1 s) (fun a=>gZ ⟨o,a,⟨#[]⟩,⟨#[]⟩,⟨#[]⟩⟩)
  else if F.toList=([99]:List UInt8) then rb (rT s p) (fun c=>gZ ⟨o,0,c,⟨#[]⟩,⟨#[]⟩⟩)
  else if F.toList=([121]:List UInt8) then rb (rT s p) (fun d=>gZ ⟨o,0,⟨#[]⟩,⟨#[]⟩,d⟩)
  else if F.toList=([102]:List UInt8)∨F.toList=([109]:List UInt8) then rb (rT s p) (fun c=>rb (rT s p) (fun n=>rb (rT s p) (fun d=>gZ ⟨o,0,c,n,d⟩)))
  else gZ ⟨o,0,⟨#[]⟩,⟨#[]⟩,⟨#[]⟩⟩
def rI:Rd cR:=rb (rO s) (fun o=>match cO.f o with
  | some F=>oY s p F o
  | none=>gZ ⟨o,0,⟨#[]⟩,⟨#[]⟩,⟨#[]⟩⟩)
def rH:Rd dG:=rb (r1 s) (fun a=>rb (r1 s) (fun b=>rb (r1 s) (fun c=>rb (rT s p) (fun t=>gZ ⟨a,b,c,t⟩))))
def rM:Rd eH:=rb (rT s p) (fun n=>rb (rT s p) (fun d=>rb (rF s 7 3) (fun f=>rb (r1 s) (fun a=>rb (r1 s) (fun b=>rb (r1 s) (fun c=>rb (rN (rI s p) c.toNat) (fun e=>rb (r1 s) (fun h=>rb (rN (rH s p) h.toNat) (fun hs=>
  gZ ⟨n,d,(Go.bits .and .i64 f 1) != 0,(Go.bits .and .i64 f 2) != 0,(Go.bits .and .i64 f 4) != 0,a,b,e,hs⟩)))))))))
def rX:Rd eO:=rb (rT s p) (fun n=>rb (rT s p) (fun t=>rb (rF s 1 3) (fun f=>gZ ⟨n,t,f == 1⟩)))
def rC:Rd vB:=rb (rT s p) (fun n=>rb (rT s p) (fun u=>rb (rF s 3 3) (fun f=>rb (r1 s) (fun a=>rb (rN (rX s p) a.toNat) (fun c=>rb (r1 s) (fun b=>rb (rN (rM s p) b.toNat) (fun d=>
  gZ ⟨n,u,(Go.bits .and .i64 f 1) != 0,(Go.bits .and .i64 f 2) != 0,c,d⟩)))))))
end
section
variable (s:ByteArray)
def rW (c:Int):Rd Int:=fun i=>match r1 s i with
  | .ok r=>if r.1=c then .ok r else .error (3,i)
  | .error x=>.error x
def rK:Rd Unit:=rb (rW s 67) (fun _=>rb (rW s 70) (fun _=>rb (rW s 1) (fun _=>gZ ())))
def iE (t:ByteArray):Bool:=(cN.f 30000 t).getD false
def kL:Rd ByteArray:=fun i=>match r1 s i with
  | .ok r=>if (s.size:Int) < r.2+r.1 then .error (4,(s.size:Int)) else if iE (s.extract r.2.toNat (r.2+r.1).toNat)=true then .ok (s.extract r.2.toNat (r.2+r.1).toNat,r.2+r.1) else .error (3,i)
  | .error x=>.error x
def mW:Rd vB:=rb (rK s) (fun _=>rb (rF s 200 5) (fun m=>rb (rN (kL s) m.toNat) (fun p=>rC s p)))
end
theorem rG (t:ByteArray) (i:t.size≤20000):Ev (fun k=>cN.f k t) (iE t)∧Ev (fun k=>cU.f k t) (iE t):=by
  have h:∀ k,30000≤k→∃ b,cU.l0 k t 0=some b∧cN.l0 k t (t.size:Int) 0=some b:=fun k a=>qP t (by omega) t.size k k 0 (by omega) (by omega) (by omega) (by omega) (by omega)
  obtain⟨b,d,c⟩:=h 30000 (by omega)
  have e:iE t=b:=by unfold iE cN.f;rw [c];rfl
  rw [e]
  exact⟨⟨30000,fun k a=>at_rounds (g:=fun k=>cN.l0 k t (t.size:Int) 0) (fun k=>cN.mono_l k t (t.size:Int) 0) a c⟩,⟨30000,fun k a=>at_rounds (g:=fun k=>cU.l0 k t 0) (fun k=>cU.mono_l k t 0) a d⟩⟩
def xO (e:Rs (List ByteArray)):List ByteArray:=match e with
  | .ok r=>r.1
  | .error _=>[]
def tZ (s:ByteArray):Rd (List ByteArray):=rb (rF s 200 5) (fun m=>rN (kL s) m.toNat)
theorem vL (s:ByteArray):mW s 0=bd (pl (bd (pl (bd (.ok 0) (rK s))) (tZ s))) (rC s (xO (bd (pl (bd (.ok 0) (rK s))) (tZ s)))):=by
  have a:mW s 0=bd (pl (bd (.ok 0) (rK s))) (rb (tZ s) (fun p=>rC s p)):=by
    show bd (.ok 0) (mW s)=_
    unfold mW
    rw [eE (v:=()) (fun r _=>rfl)]
    exact wS (fun i=>xM _ _ _ i) _
  rw [a,eE (v:=xO (bd (pl (bd (.ok 0) (rK s))) (tZ s))) (fun r b=>by rw [b];rfl)]
abbrev CO:=ByteArray×ByteArray×Bool×Bool×List eO×List eH×Int×Int
def tY (a c:Int):CO:=(⟨#[]⟩,⟨#[]⟩,false,false,[],[],a,c)
def sW (s:ByteArray) (t:Bool) (o:ByteArray):CO:=match mW s 0 with
  | .error y=>tY y.2 y.1
  | .ok r=>if r.2 < (s.size:Int) then tY r.2 3 else if t=true then (if o=s then (r.1.f0,r.1.f1,r.1.f2,r.1.f3,r.1.f4,r.1.f5,0,0) else tY (s.size:Int) 5) else tY (s.size:Int) 1
def kE (s:ByteArray) (p:List ByteArray) (e:Except (Int×Int) Int) (x:RS):Prop:=match e with
  | .ok i=>0≤i∧i≤(s.size:Int)∧x=(s,i,p,0,0)
  | .error y=>y.1≠0∧∃ j a,x=(s,j,a,y.2,y.1)
def NI (s:ByteArray) (p:List ByteArray) (e:Rs Int) (q:Int×RS):Prop:=kE s p (pl e) q.2∧(∀ r,e=.ok r→q.1=r.1)∧0≤q.1∧q.1≤255
section
variable {s:ByteArray} (hs:s.size≤20000) {p:List ByteArray}
include hs
theorem jL {e:Except (Int×Int) Int} {x:RS} (h:kE s p e x):EvB (fun k=>aN.f k x.1 x.2.1 x.2.2.1 x.2.2.2.1 x.2.2.2.2) (NI s p (bd e (r1 s))):=by
  cases e with
  | error y =>
    obtain⟨hy,j,p',rfl⟩:=h
    refine EvB.congr (fun k=>if_neg hy) (EvB.step (fun k=>by rw [aN.j0,if_pos rfl]) ?_)
    refine EvB.bind (v:=(s.size:Int)) (Ev.now _) (EvB.bind (v:=(s,j,p',y.2,y.1)) ?_ (EvB.now ⟨⟨hy,j,p',rfl⟩,fun r a=>(by cases a),Int.le_refl 0,(by show (0:Int)≤255;decide)⟩))
    exact Ev.congr (f:=fun _=>some (s,j,p',y.2,y.1)) (fun k=>by unfold aX.f;rw [if_neg hy]) (Ev.now _)
  | ok i =>
    obtain⟨h0,h1,rfl⟩:=h
    refine EvB.congr (fun k=>if_pos rfl) (EvB.bind (v:=(s.size:Int)) (Ev.now _) (EvB.step (fun k=>by rw [aN.j0]) ?_))
    by_cases c:i < (s.size:Int)
    · have w:wrap64 (wrap64 (i+1) - 1)=i:=by unfold wrap64;omega
      have m:wrap64 (i+1)=i+1:=by unfold wrap64;omega
      have b:=bt_range s i
      have n:wrap64 (bt s i)=bt s i:=by unfold wrap64;omega
      have d:bd (.ok i) (r1 s)=.ok (bt s i,i+1):=if_pos c
      rw [d]
      refine EvB.congr (fun k=>by rw [if_neg (by simp;omega),w,m,if_pos h0,if_pos c,n]) (EvB.now ⟨⟨by omega,by omega,rfl⟩,fun r a=>by cases a;rfl,by show 0≤bt s i;omega,by show bt s i≤255;omega⟩)
    · have d:bd (.ok i) (r1 s)=.error (4,(s.size:Int)):=if_neg c
      rw [d]
      refine EvB.congr (fun k=>by rw [if_pos (by simp;omega)]) ?_
      refine EvB.bind (v:=(s.size:Int)) (Ev.now _) (EvB.bind (v:=(s,i,p,(s.size:Int),4)) (Ev.now _) (EvB.now ⟨⟨(by show (4:Int)≠0;decide),i,p,rfl⟩,fun r a=>(by cases a),Int.le_refl 0,(by show (0:Int)≤255;decide)⟩))
theorem jP {e:Except (Int×Int) Int} {x:RS} (h:kE s p e x):EvB (fun k=>bI.f k x.1 x.2.1 x.2.2.1 x.2.2.2.1 x.2.2.2.2) (fun q=>kE s p (pl (bd e (rT s p))) q.2∧∀ r,bd e (rT s p)=.ok r→q.1=r.1):=by
  unfold bI.f
  refine EvB.then (jL hs h) (fun t u=>?_)
  obtain⟨h2,d,o,A⟩:=u
  cases e with
  | error y =>
    obtain⟨hy,j,p',z⟩:=h2
    obtain⟨v,n⟩:=t
    obtain rfl:n=_:=z
    refine EvB.ite (fun _=>?_) (fun c=>EvB.ifp o (EvB.now ⟨⟨hy,j,p',rfl⟩,fun r a=>(by cases a)⟩))
    refine EvB.bind (v:=(s,j,p',y.2,y.1)) (Ev.congr (f:=fun _=>some (s,j,p',y.2,y.1)) (fun k=>by unfold aX.f;rw [if_neg hy]) (Ev.now _)) (EvB.now ⟨⟨hy,j,p',rfl⟩,fun r a=>(by cases a)⟩)
  | ok i =>
    obtain⟨B,D,rfl⟩:=h
    obtain⟨v,n⟩:=t
    cases b:r1 s i with
    | error y =>
      have m:bd (.ok i) (rT s p)=.error y:=by show rT s p i=_;unfold rT;rw [b]
      have h2:kE s p (.error y) n:=by have h3:=h2;rw [show bd (.ok i) (r1 s)=.error y from b] at h3;exact h3
      rw [m]
      obtain⟨hy,j,p',rfl⟩:=h2
      refine EvB.ite (fun _=>?_) (fun c=>EvB.ifp o (EvB.now ⟨⟨hy,j,p',rfl⟩,fun r a=>(by cases a)⟩))
      refine EvB.bind (v:=(s,j,p',y.2,y.1)) (Ev.congr (f:=fun _=>some (s,j,p',y.2,y.1)) (fun k=>by unfold aX.f;rw [if_neg hy]) (Ev.now _)) (EvB.now ⟨⟨hy,j,p',rfl⟩,fun r a=>(by cases a)⟩)
    | ok r =>
      have d:=d r b
      have h2:kE s p (.ok r.2) n:=by have h3:=h2;rw [show bd (.ok i) (r1 s)=.ok r from b] at h3;exact h3
      obtain⟨j0,j1,rfl⟩:=h2
      have d:v=r.1:=d
      subst d
      by_cases c:r.1 < (p.length:Int)
      · have m:bd (.ok i) (rT s p)=.ok (rdOf ByteArray.empty p r.1,r.2):=by show rT s p i=_;unfold rT;rw [b];exact if_pos c
        rw [m]
        exact EvB.congr (fun k=>(if_neg (by simp;omega)).trans (if_pos o)) (EvB.now ⟨⟨j0,j1,rfl⟩,fun r a=>by cases a;rfl⟩)
      · have m:bd (.ok i) (rT s p)=.error (5,i):=by show rT s p i=_;unfold rT;rw [b];exact if_neg c
        rw [m]
        refine EvB.congr (fun k=>if_pos (by simp;omega)) (EvB.bind (v:=(s,r.2,p,i,5)) (Ev.now _) (EvB.now ⟨⟨(by show (5:Int)≠0;decide),r.2,p,rfl⟩,fun r a=>(by cases a)⟩))
theorem pB {c:Int} (P:Int→Prop) [DecidablePred P] (m:Rd Int) (z:∀ i,m i=match r1 s i with
    | .ok r=>if P r.1 then .ok r else .error (c,i)
    | .error x=>.error x) (E:c≠0) (M:P 0∨True) {e:Except (Int×Int) Int} {x:RS} (h:kE s p e x) {α:Type} {A B:Nat→Int→RS→Option α} {C:α→Prop}
    (h1:∀ (t:Int×RS),NI s p (bd e m) t→P t.1→EvB (fun k=>A k t.1 t.2) C)
    (h2:∀ (t:Int×RS) (f:RS),NI s p (bd e m) (t.1,f)→0≤t.1→t.1≤255→¬ P t.1→(∀ _:Nat,aX.f t.2.1 t.2.2.1 t.2.2.2.1 t.2.2.2.2.1 t.2.2.2.2.2 c x.2.1=some f)→(∃ y,bd e m=.error y)→EvB (fun k=>B k t.1 t.2) C):
    EvB (fun k=>(aN.f k x.1 x.2.1 x.2.2.1 x.2.2.2.1 x.2.2.2.2).bind fun t=>if P t.1 then A k t.1 t.2 else B k t.1 t.2) C:=by
  refine EvB.then (jL hs h) (fun t G=>?_)
  obtain⟨v,D⟩:=t
  obtain⟨n,I,b,d⟩:=G
  cases e with
  | error y =>
    obtain⟨hy,j,p',J⟩:=n
    obtain rfl:D=(s,j,p',y.2,y.1):=J
    refine EvB.ite (fun q=>h1 (v,(s,j,p',y.2,y.1)) ⟨⟨hy,j,p',rfl⟩,fun r a=>(by cases a),b,d⟩ q) (fun q=>h2 (v,(s,j,p',y.2,y.1)) (s,j,p',y.2,y.1) ⟨⟨hy,j,p',rfl⟩,fun r a=>(by cases a),b,d⟩ b d q (fun k=>?_) ?_)
    · show aX.f s j p' y.2 y.1 c x.2.1=_
      unfold aX.f;rw [if_neg hy]
    · exact⟨y,rfl⟩
  | ok i =>
    obtain⟨O,T,rfl⟩:=h
    cases o:r1 s i with
    | error y =>
      have u:bd (.ok i) m=.error y:=by show m i=_;rw [z,o]
      have n:kE s p (.error y) D:=by have h3:=n;rw [show bd (.ok i) (r1 s)=.error y from o] at h3;exact h3
      rw [u] at h1 h2
      obtain⟨hy,j,p',rfl⟩:=n
      refine EvB.ite (fun q=>h1 (v,(s,j,p',y.2,y.1)) ⟨⟨hy,j,p',rfl⟩,fun r a=>(by cases a),b,d⟩ q) (fun q=>h2 (v,(s,j,p',y.2,y.1)) (s,j,p',y.2,y.1) ⟨⟨hy,j,p',rfl⟩,fun r a=>(by cases a),b,d⟩ b d q (fun k=>?_) ⟨y,rfl⟩)
      show aX.f s j p' y.2 y.1 c i=_
      unfold aX.f;rw [if_neg hy]
    | ok r =>
      have K:v=r.1:=I r o
      have n:kE s p (.ok r.2) D:=by have h3:=n;rw [show bd (.ok i) (r1 s)=.ok r from o] at h3;exact h3
      obtain⟨j0,j1,rfl⟩:=n
      subst K
      refine EvB.ite (fun q=>?_) (fun q=>?_)
      · have u:bd (.ok i) m=.ok r:=by show m i=_;rw [z,o];exact if_pos q
        exact h1 (r.1,(s,r.2,p,0,0)) (by rw [u];exact⟨⟨j0,j1,rfl⟩,fun L a=>(by cases a;rfl),b,d⟩) q
      · have u:bd (.ok i) m=.error (c,i):=by show m i=_;rw [z,o];exact if_neg q
        exact h2 (r.1,(s,r.2,p,0,0)) (s,r.2,p,i,c) (by rw [u];exact⟨⟨E,r.2,p,rfl⟩,fun L a=>(by cases a),b,d⟩) b d q (fun k=>by show aX.f s r.2 p 0 0 c i=_;unfold aX.f;rw [if_pos rfl]) ⟨_,u⟩
theorem oS (b m:Int) (j:0≤b) (d:shl .i64 1 b=m+1) {e:Except (Int×Int) Int} {x:RS} (h:kE s p e x):EvB (fun k=>dE.f k x.1 x.2.1 x.2.2.1 x.2.2.2.1 x.2.2.2.2 b) (NI s p (bd e (rF s m 3))):=by
  unfold dE.f
  refine EvB.congr (f:=fun k=>(aN.f k x.1 x.2.1 x.2.2.1 x.2.2.2.1 x.2.2.2.2).bind fun t=>if t.1≤m then some t else ((aX.f t.2.1 t.2.2.1 t.2.2.2.1 t.2.2.2.2.1 t.2.2.2.2.2 3 x.2.1).bind fun u=>some (t.1,u))) (fun k=>?_) ?_
  · congr 1;funext t
    rw [if_pos j,d]
    by_cases c:t.1≤m
    · rw [if_neg (by omega),if_pos c]
    · rw [if_pos (by omega),if_neg c]
  · refine pB hs (P:=fun v=>v≤m) (c:=3) (rF s m 3) (fun i=>?_) (by decide) (.inr trivial) h (A:=fun k v t=>some (v,t)) (B:=fun k v t=>((aX.f t.1 t.2.1 t.2.2.1 t.2.2.2.1 t.2.2.2.2 3 x.2.1).bind fun u=>some (v,u))) (fun t a q=>EvB.now a) (fun t f a _ _ q n _=>?_)
    · unfold rF
      cases r1 s i with
      | error y=>rfl
      | ok r =>
        simp only []
        by_cases c:r.1 > m
        · rw [if_pos c,if_neg (by omega)]
        · rw [if_neg c,if_pos (by omega)]
    · exact EvB.bind (v:=f) (Ev.congr (f:=fun _=>some f) n (Ev.now _)) (EvB.now a)
omit hs in
theorem xK (i:Int):r4 s i=rb (r1 s) (fun a=>rb (r1 s) (fun b=>rb (r1 s) (fun c=>rb (r1 s) (fun d=>gZ (wrap64 (wrap32 (((a*256+b)*256+c)*256+d))))))) i:=by
  unfold r4 rb r1 gZ
  by_cases c0:i < (s.size:Int)
  · simp only [if_pos c0]
    by_cases c1:i+1 < (s.size:Int)
    · simp only [if_pos c1]
      by_cases c2:i+1+1 < (s.size:Int)
      · simp only [if_pos c2]
        by_cases c3:i+1+1+1 < (s.size:Int)
        · simp only [if_pos c3]
          rw [if_pos (by omega),show i+1+1=i+2 by omega,show i+2+1=i+3 by omega,show i+3+1=i+4 by omega]
        · simp only [if_neg c3]
          rw [if_neg (by omega)]
      · simp only [if_neg c2]
        rw [if_neg (by omega)]
    · simp only [if_neg c1]
      rw [if_neg (by omega)]
  · simp only [if_neg c0]
    rw [if_neg (by omega)]
omit hs in
theorem sU {α:Type} {m a:Rd α} (h:∀ i,m i=a i) (e:Except (Int×Int) Int):bd e m=bd e a:=by
  cases e with
  | error x=>rfl
  | ok i=>exact h i
def II (s:ByteArray) (p:List ByteArray) (e:Rs cR) (q:Int×Int×ByteArray×ByteArray×ByteArray×RS):Prop:=kE s p (pl e) q.2.2.2.2.2∧∀ r,e=.ok r→(⟨q.1,q.2.1,q.2.2.1,q.2.2.2.1,q.2.2.2.2.1⟩:cR)=r.1
omit hs in
theorem mK {e:Except (Int×Int) Int} {x:RS} (h:kE s p e x) {o a:Int} {c n d:ByteArray} {v:cR} (j:e.isOk=true→(⟨o,a,c,n,d⟩:cR)=v):II s p (bd e (gZ v)) (o,a,c,n,d,x):=by
  refine⟨by rw [lD];exact h,fun r b=>?_⟩
  cases e with
  | error x=>cases b
  | ok i=>cases b;exact j rfl
theorem vX {e:Except (Int×Int) Int} {x:RS} (h:kE s p e x) (o:Int) (c n d:ByteArray):
    EvB (fun k=>aU.l0 k 0 x.1 x.2.1 x.2.2.1 x.2.2.2.1 x.2.2.2.2 o 0 c n d) (II s p (bd e (rb (r4 s) (fun a=>gZ ⟨o,a,c,n,d⟩)))):=by
  refine EvB.step (fun k=>by rw [aU.l0,if_pos (by decide)]) (EvB.then (jL hs h) (fun b h1=>?_))
  refine EvB.step (fun k=>by rw [aU.l0,if_pos (by unfold wrap64;omega)]) (EvB.then (jL hs h1.1) (fun i h2=>?_))
  refine EvB.step (fun k=>by rw [aU.l0,if_pos (by unfold wrap64;omega)]) (EvB.then (jL hs h2.1) (fun j h3=>?_))
  refine EvB.step (fun k=>by rw [aU.l0,if_pos (by unfold wrap64;omega)]) (EvB.then (jL hs h3.1) (fun m h4=>?_))
  refine EvB.step (f:=fun _=>_) (fun k=>by rw [aU.l0,if_neg (by unfold wrap64;omega)]) (EvB.now ?_)
  obtain⟨a1,u,G,a4⟩:=h1
  obtain⟨I,y,b3,b4⟩:=h2
  obtain⟨c1,c2,c3,c4⟩:=h3
  obtain⟨d1,z,J,K⟩:=h4
  have q:bd e (r4 s)=bd (pl (bd (pl (bd (pl (bd (pl (bd e (r1 s))) (r1 s))) (r1 s))) (r1 s))) (gZ (wrap64 (wrap32 (((b.1*256+i.1)*256+j.1)*256+m.1)))):=by
    rw [sU (xK (s:=s)),eE u,eE y,eE c2,eE z]
  have w:wrap64 (wrap32 (wrap64 (wrap64 (wrap64 (wrap64 (wrap64 (wrap64 (wrap64 (wrap64 (0*256)+b.1)*256)+i.1)*256)+j.1)*256)+m.1) % 4294967296))=wrap64 (wrap32 (((b.1*256+i.1)*256+j.1)*256+m.1)):=by
    have A:wrap64 (wrap64 (0*256)+b.1)=b.1:=by unfold wrap64;omega
    have B:wrap64 (wrap64 (b.1*256)+i.1)=b.1*256+i.1:=by unfold wrap64;omega
    have D:wrap64 (wrap64 ((b.1*256+i.1)*256)+j.1)=(b.1*256+i.1)*256+j.1:=by unfold wrap64;omega
    have E:wrap64 (wrap64 (((b.1*256+i.1)*256+j.1)*256)+m.1)=((b.1*256+i.1)*256+j.1)*256+m.1:=by unfold wrap64;omega
    rw [A,B,D,E]
    congr 2
    omega
  rw [eE (v:=wrap64 (wrap32 (((b.1*256+i.1)*256+j.1)*256+m.1))) (fun r t=>by rw [q] at t;exact mD r t),q,lD]
  refine mK d1 (fun _=>?_)
  rw [w]
theorem qZ {e:Except (Int×Int) Int} {x:RS} (h:kE s p e x) (o:Int) (b:Bool):EvB (fun k=>aU.j2 k b x.1 x.2.1 x.2.2.1 x.2.2.2.1 x.2.2.2.2 o 0 (⟨#[]⟩:ByteArray) (⟨#[]⟩:ByteArray) (⟨#[]⟩:ByteArray))
    (II s p (bd e (if b=true then rb (rT s p) (fun c=>rb (rT s p) (fun n=>rb (rT s p) (fun d=>gZ ⟨o,0,c,n,d⟩))) else gZ ⟨o,0,⟨#[]⟩,⟨#[]⟩,⟨#[]⟩⟩))):=by
  refine EvB.step (fun k=>by rw [aU.j2]) ?_
  cases b with
  | false=>exact EvB.congr (f:=fun _=>_) (fun k=>if_neg (by simp)) (EvB.now (by rw [if_neg (by simp)];exact mK h (fun _=>rfl)))
  | true =>
    refine EvB.congr (fun k=>if_pos rfl) (EvB.then (jP hs h) (fun a h1=>EvB.then (jP hs h1.1) (fun i h2=>EvB.then (jP hs h2.1) (fun j h3=>EvB.now ?_))))
    rw [if_pos rfl,eE h1.2,eE h2.2,eE h3.2]
    exact mK h3.1 (fun _=>rfl)
theorem qY {e:Except (Int×Int) Int} {x:RS} (h:kE s p e x) (o:Int) (F:ByteArray) (b:Bool) (m:¬ F.toList=([110]:List UInt8)) (i:b=true↔(F.toList=([105]:List UInt8)∨F.toList=([116]:List UInt8))):
    EvB (fun k=>aU.j1 k F b x.1 x.2.1 x.2.2.1 x.2.2.2.1 x.2.2.2.2 o 0 (⟨#[]⟩:ByteArray) (⟨#[]⟩:ByteArray) (⟨#[]⟩:ByteArray)) (II s p (bd e (oY s p F o))):=by
  refine EvB.step (fun k=>by rw [aU.j1]) ?_
  unfold oY
  rw [if_neg m]
  cases b with
  | true =>
    rw [if_pos (i.mp rfl)]
    refine EvB.congr (fun k=>if_pos rfl) (EvB.then (jL hs h) (fun j h1=>EvB.now ?_))
    rw [eE h1.2.1]
    exact mK h1.1 (fun _=>rfl)
  | false =>
    rw [if_neg (fun c=>by have:=i.mpr c;simp at this)]
    refine EvB.congr (fun k=>if_neg (by simp)) (EvB.ite (fun c=>?_) (fun c=>EvB.ite (fun a=>?_) (fun a=>EvB.ite (fun d=>?_) (fun d=>?_))))
    · rw [if_pos c]
      refine EvB.then (jP hs h) (fun j h1=>EvB.now ?_)
      rw [eE h1.2]
      exact mK h1.1 (fun _=>rfl)
    · rw [if_neg c,if_pos a]
      refine EvB.then (jP hs h) (fun j h1=>EvB.now ?_)
      rw [eE h1.2]
      exact mK h1.1 (fun _=>rfl)
    · rw [if_neg c,if_neg a]
      have g:=qZ hs h o (F.toList == ([102]:List UInt8))
      rw [if_pos (by simpa using d)] at g
      rw [if_pos (.inl d)];exact g
    · rw [if_neg c,if_neg a]
      have g:=qZ hs h o (F.toList == ([109]:List UInt8))
      by_cases c4:F.toList=([109]:List UInt8)
      · rw [if_pos (by simpa using c4)] at g
        rw [if_pos (.inr c4)];exact g
      · rw [if_neg (by simpa using c4)] at g
        rw [if_neg (fun q=>q.elim d c4)];exact g
theorem xI {e:Except (Int×Int) Int} {x:RS} (h:kE s p e x):EvB (fun k=>aU.f k x.1 x.2.1 x.2.2.1 x.2.2.2.1 x.2.2.2.2) (II s p (bd e (rI s p))):=by
  unfold aU.f
  refine EvB.congr (f:=fun k=>(aN.f k x.1 x.2.1 x.2.2.1 x.2.2.2.1 x.2.2.2.2).bind fun t=>if 1≤t.1∧t.1≤44 then ((cO.f t.1).bind fun F=>(if F.toList=([110]:List UInt8) then (aU.l0 k 0 t.2.1 t.2.2.1 t.2.2.2.1 t.2.2.2.2.1 t.2.2.2.2.2 t.1 0 (⟨#[]⟩:ByteArray) (⟨#[]⟩:ByteArray) (⟨#[]⟩:ByteArray)) else (if F.toList=([105]:List UInt8) then (aU.j1 k F (F.toList == ([105]:List UInt8)) t.2.1 t.2.2.1 t.2.2.2.1 t.2.2.2.2.1 t.2.2.2.2.2 t.1 0 (⟨#[]⟩:ByteArray) (⟨#[]⟩:ByteArray) (⟨#[]⟩:ByteArray)) else (aU.j1 k F (F.toList == ([116]:List UInt8)) t.2.1 t.2.2.1 t.2.2.2.1 t.2.2.2.2.1 t.2.2.2.2.2 t.1 0 (⟨#[]⟩:ByteArray) (⟨#[]⟩:ByteArray) (⟨#[]⟩:ByteArray))))) else ((aX.f t.2.1 t.2.2.1 t.2.2.2.1 t.2.2.2.2.1 t.2.2.2.2.2 3 x.2.1).bind fun u=>some (t.1,0,(⟨#[]⟩:ByteArray),(⟨#[]⟩:ByteArray),(⟨#[]⟩:ByteArray),u))) (fun k=>?_) ?_
  · congr 1;funext t
    have e:gC.f t.1=some (decide (1≤t.1∧t.1≤44)):=by
      unfold gC.f cX.f
      by_cases c:t.1 ≥ 1
      · rw [if_pos c]
        show some _=some _
        congr 1;simp;omega
      · rw [if_neg c]
        show some _=some _
        congr 1;simp;omega
    rw [e,Option.bind_some]
    by_cases c:1≤t.1∧t.1≤44
    · rw [if_pos c,if_pos (by simpa using c)]
    · rw [if_neg c,if_neg (by simpa using c)]
  · refine pB hs (P:=fun v=>1≤v∧v≤44) (c:=3) (rO s) (fun i=>rfl) (by decide) (.inr trivial) h (A:=fun k v t=>((cO.f v).bind fun F=>(if F.toList=([110]:List UInt8) then (aU.l0 k 0 t.1 t.2.1 t.2.2.1 t.2.2.2.1 t.2.2.2.2 v 0 (⟨#[]⟩:ByteArray) (⟨#[]⟩:ByteArray) (⟨#[]⟩:ByteArray)) else (if F.toList=([105]:List UInt8) then (aU.j1 k F (F.toList == ([105]:List UInt8)) t.1 t.2.1 t.2.2.1 t.2.2.2.1 t.2.2.2.2 v 0 (⟨#[]⟩:ByteArray) (⟨#[]⟩:ByteArray) (⟨#[]⟩:ByteArray)) else (aU.j1 k F (F.toList == ([116]:List UInt8)) t.1 t.2.1 t.2.2.1 t.2.2.2.1 t.2.2.2.2 v 0 (⟨#[]⟩:ByteArray) (⟨#[]⟩:ByteArray) (⟨#[]⟩:ByteArray))))))
      (B:=fun k v t=>((aX.f t.1 t.2.1 t.2.2.1 t.2.2.2.1 t.2.2.2.2 3 x.2.1).bind fun u=>some (v,0,(⟨#[]⟩:ByteArray),(⟨#[]⟩:ByteArray),(⟨#[]⟩:ByteArray),u))) (fun t a q=>?_) (fun t f a n o q m b=>?_)
    · obtain⟨F,f1,_⟩:=iP t.1
      refine EvB.bind (v:=F) (Ev.congr (f:=fun _=>some F) (fun _=>f1) (Ev.now _)) ?_
      unfold rI
      rw [eE a.2.1]
      simp only [f1]
      refine EvB.ite (fun c=>?_) (fun c=>EvB.ite (fun d=>?_) (fun d=>?_))
      · unfold oY;rw [if_pos c];exact vX hs a.1 _ _ _ _
      · exact qY hs a.1 _ _ _ c (by simp [d])
      · exact qY hs a.1 _ _ _ c (by simp [d])
    · refine EvB.bind (v:=f) (Ev.congr (f:=fun _=>some f) m (Ev.now _)) (EvB.now ?_)
      obtain⟨y,b⟩:=b
      refine⟨?_,fun r j=>?_⟩
      · have h3:=a.1;rw [b] at h3
        unfold rI;rw [kP b];exact h3
      · unfold rI at j;rw [kP b] at j;cases j
theorem vU (n e:ByteArray) (a b c:Bool) (y z:Int) (o:List cR) {B:_→Prop} (d:Nat) (m:List dG) (x:RS) (t:Except (Int×Int) Int) (h:kE s p t x) (E:m.length+d≤255)
    (K:∀ l u,kE s p (pl (bd t (rN (rH s p) d))) u→(∀ r,bd t (rN (rH s p) d)=.ok r→l=m++r.1)→B (n,e,a,b,c,y,z,o,l,u)):
    EvB (fun k=>aH.l1 k (d:Int) x.1 x.2.1 x.2.2.1 x.2.2.2.1 x.2.2.2.2 n e a b c y z o m) B:=by
  refine nA (L:=fun d m x k=>aH.l1 k (d:Int) x.1 x.2.1 x.2.2.1 x.2.2.2.1 x.2.2.2.2 n e a b c y z o m) (Fin:=fun m x _=>some (n,e,a,b,c,y,z,o,m,x)) (Q:=kE s p) (M:=255) (f:=rH s p)
    (fun d m x i h E O=>?_) (fun d m x Y h A=>?_) (fun m x i h A=>?_) d m x t h E (fun l u h1 h2=>EvB.now (K l u h1 h2))
  · have v:x.2.2.2.2=0:=by obtain⟨_,_,rfl⟩:=h;rfl
    refine EvB.step (fun k=>by rw [aH.l1,if_pos (by omega),v]) (EvB.step (fun k=>by rw [aH.j3,if_pos (by decide),← v]) ?_)
    refine EvB.then (jL hs h) (fun P h1=>EvB.then (jL hs h1.1) (fun T h2=>EvB.then (jL hs h2.1) (fun U h3=>EvB.then (jP hs h3.1) (fun X h4=>EvB.ifp (by omega) ?_))))
    have w:wrap64 (((d+1:Nat):Int) - 1)=(d:Int):=by unfold wrap64;omega
    rw [w]
    have G:rH s p i=bd (pl (bd (pl (bd (pl (bd (pl (bd (.ok i) (r1 s))) (r1 s))) (r1 s))) (rT s p))) (gZ (⟨P.1,T.1,U.1,X.1⟩:dG)):=by
      show bd (.ok i) (rH s p)=_
      unfold rH
      rw [eE h1.2.1,eE h2.2.1,eE h3.2.1,eE h4.2]
    exact O _ _ (by rw [G,lD];exact h4.1) (fun r I=>by rw [G] at I;exact mD r I)
  · obtain⟨q,D,J⟩:=A
    have v:(x.2.2.2.2 == 0)=false:=by obtain⟨hy,j,p',rfl⟩:=h;exact beq_eq_false_iff_ne.mpr hy
    refine⟨q,?_,J⟩
    by_cases c0:(d:Int) > 0
    · exact Ev.step (fun k=>by rw [aH.l1,if_pos c0,v]) (Ev.step (fun k=>by rw [aH.j3,if_neg (by simp)]) D)
    · exact Ev.step (fun k=>by rw [aH.l1,if_neg c0]) (Ev.step (fun k=>by rw [aH.j3,if_neg (by simp)]) D)
  · exact EvB.step (fun k=>by rw [aH.l1,if_neg (by omega)]) (EvB.step (fun k=>by rw [aH.j3,if_neg (by simp)]) A)
def MI (s:ByteArray) (p:List ByteArray) (e:Rs eH) (q:ByteArray×ByteArray×Bool×Bool×Bool×Int×Int×List cR×List dG×RS):Prop:=kE s p (pl e) q.2.2.2.2.2.2.2.2.2∧∀ r,e=.ok r→(⟨q.1,q.2.1,q.2.2.1,q.2.2.2.1,q.2.2.2.2.1,q.2.2.2.2.2.1,q.2.2.2.2.2.2.1,q.2.2.2.2.2.2.2.1,q.2.2.2.2.2.2.2.2.1⟩:eH)=r.1
omit hs in
theorem wB {e:Except (Int×Int) Int} {x:RS} (h:kE s p e x) {n u:ByteArray} {a b c:Bool} {y z:Int} {d:List cR} {j:List dG} {v:eH} (m:(⟨n,u,a,b,c,y,z,d,j⟩:eH)=v):MI s p (bd e (gZ v)) (n,u,a,b,c,y,z,d,j,x):=by
  refine⟨by rw [lD];exact h,fun r k=>?_⟩
  cases e with
  | error x=>cases k
  | ok i=>cases k;exact m
theorem vP (n e:ByteArray) (a b c:Bool) (y z:Int) {B:_→Prop} (d:Nat) (o:List cR) (x:RS) (q:Except (Int×Int) Int) (h:kE s p q x) (v:o.length+d≤255)
    (A:∀ l m,kE s p (pl (bd q (rN (rI s p) d))) m→(∀ r,bd q (rN (rI s p) d)=.ok r→l=o++r.1)→EvB (fun k=>aH.j1 k m.1 m.2.1 m.2.2.1 m.2.2.2.1 m.2.2.2.2 n e a b c y z l) B):
    EvB (fun k=>aH.l0 k (d:Int) x.1 x.2.1 x.2.2.1 x.2.2.2.1 x.2.2.2.2 n e a b c y z o) B:=by
  refine nA (L:=fun d o x k=>aH.l0 k (d:Int) x.1 x.2.1 x.2.2.1 x.2.2.2.1 x.2.2.2.2 n e a b c y z o) (Fin:=fun l m k=>aH.j1 k m.1 m.2.1 m.2.2.1 m.2.2.2.1 m.2.2.2.2 n e a b c y z l) (Q:=kE s p) (M:=255) (f:=rI s p)
    (fun d o x i h v D=>?_) (fun d o x E h t=>?_) (fun o x i h t=>?_) d o x q h v A
  · have u:x.2.2.2.2=0:=by obtain⟨_,_,rfl⟩:=h;rfl
    refine EvB.step (fun k=>by rw [aH.l0,if_pos (by omega),if_pos u]) ?_
    refine EvB.then (xI hs h) (fun G h1=>EvB.ifp (by omega) ?_)
    have w:wrap64 (((d+1:Nat):Int) - 1)=(d:Int):=by unfold wrap64;omega
    rw [w]
    exact D _ _ h1.1 h1.2
  · have u:¬ x.2.2.2.2=0:=by obtain⟨hy,j,p',rfl⟩:=h;exact hy
    by_cases c0:(d:Int) > 0
    · exact EvB.step (fun k=>by rw [aH.l0,if_pos c0,if_neg u]) t
    · exact EvB.step (fun k=>by rw [aH.l0,if_neg c0]) t
  · exact EvB.step (fun k=>by rw [aH.l0,if_neg (by omega)]) t
theorem wA {e:Except (Int×Int) Int} {x:RS} (h:kE s p e x):EvB (fun k=>aH.f k x.1 x.2.1 x.2.2.1 x.2.2.2.1 x.2.2.2.2) (MI s p (bd e (rM s p))):=by
  unfold aH.f
  refine EvB.then (jP hs h) (fun z h1=>EvB.then (jP hs h1.1) (fun A h2=>EvB.then (oS hs 3 7 (by decide) (by decide +kernel) h2.1) (fun B h3=>EvB.then (jL hs h3.1) (fun D h4=>EvB.then (jL hs h4.1) (fun E h5=>EvB.then (jL hs h5.1) (fun b h6=>?_))))))
  obtain⟨i,j,G,I⟩:=h6
  have m:b.1=((b.1.toNat:Nat):Int):=by omega
  rw [m]
  refine vP hs _ _ _ _ _ _ _ _ _ _ _ i (by simp;omega) (fun d J h7 n=>EvB.step (fun k=>by rw [aH.j1]) (EvB.then (jL hs h7) (fun c h8=>?_)))
  obtain⟨o,q,K,L⟩:=h8
  have t:c.1=((c.1.toNat:Nat):Int):=by omega
  rw [t]
  refine vU hs _ _ _ _ _ _ _ _ _ _ _ _ o (by simp;omega) (fun u M h9 y=>?_)
  unfold rM
  rw [eE h1.2,eE h2.2,eE h3.2.1,eE h4.2.1,eE h5.2.1,eE j,eE (v:=d) (fun r a=>by rw [n r a,List.nil_append]),eE q,eE (v:=u) (fun r a=>by rw [y r a,List.nil_append])]
  exact wB h9 rfl
def CI (s:ByteArray) (p:List ByteArray) (e:Rs vB) (q:ByteArray×ByteArray×Bool×Bool×List eO×List eH×RS):Prop:=kE s p (pl e) q.2.2.2.2.2.2∧∀ r,e=.ok r→(⟨q.1,q.2.1,q.2.2.1,q.2.2.2.1,q.2.2.2.2.1,q.2.2.2.2.2.1⟩:vB)=r.1
omit hs in
theorem vO {e:Except (Int×Int) Int} {x:RS} (h:kE s p e x) {n u:ByteArray} {a b:Bool} {c:List eO} {d:List eH} {v:vB} (k:(⟨n,u,a,b,c,d⟩:vB)=v):CI s p (bd e (gZ v)) (n,u,a,b,c,d,x):=by
  refine⟨by rw [lD];exact h,fun r j=>?_⟩
  cases e with
  | error x=>cases j
  | ok i=>cases j;exact k
theorem uL (n u:ByteArray) (a b:Bool) (e:List eO) {B:_→Prop} (d:Nat) (c:List eH) (x:RS) (m:Except (Int×Int) Int) (h:kE s p m x) (z:c.length+d≤255)
    (D:∀ l o,kE s p (pl (bd m (rN (rM s p) d))) o→(∀ r,bd m (rN (rM s p) d)=.ok r→l=c++r.1)→B (n,u,a,b,e,l,o)):
    EvB (fun k=>aK.l1 k (d:Int) x.1 x.2.1 x.2.2.1 x.2.2.2.1 x.2.2.2.2 n u a b e c) B:=by
  refine nA (L:=fun d c x k=>aK.l1 k (d:Int) x.1 x.2.1 x.2.2.1 x.2.2.2.1 x.2.2.2.2 n u a b e c) (Fin:=fun c x _=>some (n,u,a,b,e,c,x)) (Q:=kE s p) (M:=255) (f:=rM s p)
    (fun d c x i h z E=>?_) (fun d c x G h t=>?_) (fun c x i h t=>?_) d c x m h z (fun l o h1 h2=>EvB.now (D l o h1 h2))
  · have v:x.2.2.2.2=0:=by obtain⟨_,_,rfl⟩:=h;rfl
    refine EvB.step (fun k=>by rw [aK.l1,if_pos (by omega),if_pos v]) ?_
    refine EvB.then (wA hs h) (fun I h1=>EvB.ifp (by omega) ?_)
    have w:wrap64 (((d+1:Nat):Int) - 1)=(d:Int):=by unfold wrap64;omega
    rw [w]
    exact E _ _ h1.1 h1.2
  · obtain⟨q,y,A⟩:=t
    have v:¬ x.2.2.2.2=0:=by obtain⟨hy,j,p',rfl⟩:=h;exact hy
    refine⟨q,?_,A⟩
    by_cases c0:(d:Int) > 0
    · exact Ev.step (fun k=>by rw [aK.l1,if_pos c0,if_neg v]) y
    · exact Ev.step (fun k=>by rw [aK.l1,if_neg c0]) y
  · exact EvB.step (fun k=>by rw [aK.l1,if_neg (by omega)]) t
theorem sZ (n u:ByteArray) (a b:Bool) {B:_→Prop} (d:Nat) (e:List eO) (x:RS) (m:Except (Int×Int) Int) (h:kE s p m x) (v:e.length+d≤255)
    (A:∀ l c,kE s p (pl (bd m (rN (rX s p) d))) c→(∀ r,bd m (rN (rX s p) d)=.ok r→l=e++r.1)→EvB (fun k=>(aN.f k c.1 c.2.1 c.2.2.1 c.2.2.2.1 c.2.2.2.2).bind fun t=>aK.l1 k t.1 t.2.1 t.2.2.1 t.2.2.2.1 t.2.2.2.2.1 t.2.2.2.2.2 n u a b l ([]:List eH)) B):
    EvB (fun k=>aK.l0 k (d:Int) x.1 x.2.1 x.2.2.1 x.2.2.2.1 x.2.2.2.2 n u a b e) B:=by
  refine nA (L:=fun d e x k=>aK.l0 k (d:Int) x.1 x.2.1 x.2.2.1 x.2.2.2.1 x.2.2.2.2 n u a b e) (Fin:=fun l c k=>(aN.f k c.1 c.2.1 c.2.2.1 c.2.2.2.1 c.2.2.2.2).bind fun t=>aK.l1 k t.1 t.2.1 t.2.2.1 t.2.2.2.1 t.2.2.2.2.1 t.2.2.2.2.2 n u a b l ([]:List eH)) (Q:=kE s p) (M:=255) (f:=rX s p)
    (fun d e x i h v D=>?_) (fun d e x J h o=>?_) (fun e x i h o=>?_) d e x m h v A
  · have q:x.2.2.2.2=0:=by obtain⟨_,_,rfl⟩:=h;rfl
    refine EvB.step (fun k=>by rw [aK.l0,if_pos (by omega),q]) (EvB.step (fun k=>by rw [aK.j1,if_pos (by decide),← q]) ?_)
    refine EvB.then (jP hs h) (fun E h1=>EvB.then (jP hs h1.1) (fun G h2=>EvB.then (oS hs 1 1 (by decide) (by decide +kernel) h2.1) (fun I h3=>EvB.ifp (by omega) ?_)))
    have w:wrap64 (((d+1:Nat):Int) - 1)=(d:Int):=by unfold wrap64;omega
    rw [w]
    have y:rX s p i=bd (pl (bd (pl (bd (pl (bd (.ok i) (rT s p))) (rT s p))) (rF s 1 3))) (gZ (⟨E.1,G.1,I.1 == 1⟩:eO)):=by
      show bd (.ok i) (rX s p)=_
      unfold rX
      rw [eE h1.2,eE h2.2,eE h3.2.1]
    exact D _ _ (by rw [y,lD];exact h3.1) (fun r z=>by rw [y] at z;exact mD r z)
  · have q:(x.2.2.2.2 == 0)=false:=by obtain⟨hy,j,p',rfl⟩:=h;exact beq_eq_false_iff_ne.mpr hy
    by_cases c0:(d:Int) > 0
    · exact EvB.step (fun k=>by rw [aK.l0,if_pos c0,q]) (EvB.step (fun k=>by rw [aK.j1,if_neg (by simp)]) o)
    · exact EvB.step (fun k=>by rw [aK.l0,if_neg c0]) (EvB.step (fun k=>by rw [aK.j1,if_neg (by simp)]) o)
  · exact EvB.step (fun k=>by rw [aK.l0,if_neg (by omega)]) (EvB.step (fun k=>by rw [aK.j1,if_neg (by simp)]) o)
theorem uD {e:Except (Int×Int) Int} {x:RS} (h:kE s p e x):EvB (fun k=>aK.f k x.1 x.2.1 x.2.2.1 x.2.2.2.1 x.2.2.2.2) (CI s p (bd e (rC s p))):=by
  unfold aK.f
  refine EvB.then (jP hs h) (fun y h1=>EvB.then (jP hs h1.1) (fun z h2=>EvB.then (oS hs 2 3 (by decide) (by decide +kernel) h2.1) (fun A h3=>EvB.then (jL hs h3.1) (fun b h4=>?_))))
  obtain⟨d,i,a4,b4⟩:=h4
  have q4:b.1=((b.1.toNat:Nat):Int):=by omega
  rw [q4]
  refine sZ hs _ _ _ _ _ _ _ _ d (by simp;omega) (fun j B h7 m=>EvB.then (jL hs h7) (fun c h8=>?_))
  obtain⟨n,o,D,E⟩:=h8
  have q:c.1=((c.1.toNat:Nat):Int):=by omega
  rw [q]
  refine uL hs _ _ _ _ _ _ _ _ _ n (by simp;omega) (fun t G h9 u=>?_)
  unfold rC
  rw [eE h1.2,eE h2.2,eE h3.2.1,eE i,eE (v:=j) (fun r a=>by rw [m r a,List.nil_append]),eE o,eE (v:=t) (fun r a=>by rw [u r a,List.nil_append])]
  exact vO h9 rfl
end
def xN (s:ByteArray) (e:Rs (List ByteArray)) (x:RS):Prop:=match e with
  | .ok r=>0≤r.2∧r.2≤(s.size:Int)∧x=(s,r.2,r.1,0,0)
  | .error y=>y.1≠0∧∃ j a,x=(s,j,a,y.2,y.1)
section
variable {s:ByteArray} (hs:s.size≤20000)
include hs
theorem oU (c:Int) (y:List Int) (j:Nat) (p:j < 3) (r:y.length=3) (d:rd y (j:Int)=c) {e:Except (Int×Int) Int} {x:RS} (h:kE s [] e x) {B:RS→Prop}
    (m:∀ t,NI s [] (bd e (rW s c)) t→EvB (fun k=>cA.l0 k y 3 ((j+1:Nat):Int) t.2.1 t.2.2.1 t.2.2.2.1 t.2.2.2.2.1 t.2.2.2.2.2) B) (n:∀ f y,bd e (rW s c)=.error y→kE s [] (.error y) f→B f):
    EvB (fun k=>cA.l0 k y 3 (j:Int) x.1 x.2.1 x.2.2.1 x.2.2.2.1 x.2.2.2.2) B:=by
  have w:wrap64 ((j:Int)+1)=((j+1:Nat):Int):=by unfold wrap64;omega
  refine EvB.step (fun k=>by rw [cA.l0,if_pos (by omega),if_pos (by omega),if_pos (by omega),d,w]) ?_
  refine pB hs (P:=fun v=>v=c) (c:=3) (rW s c) (fun i=>rfl) (by decide) (.inr trivial) h (A:=fun k v t=>cA.l0 k y 3 ((j+1:Nat):Int) t.1 t.2.1 t.2.2.1 t.2.2.2.1 t.2.2.2.2)
    (B:=fun k v t=>((aX.f t.1 t.2.1 t.2.2.1 t.2.2.2.1 t.2.2.2.2 3 x.2.1).bind fun u=>some u)) (fun t b q=>m t b) (fun t f b _ _ q o a=>?_)
  obtain⟨z,a⟩:=a
  refine EvB.bind (v:=f) (Ev.congr (f:=fun _=>some f) o (Ev.now _)) (EvB.now (n f z a ?_))
  have h1:=b.1
  rw [a] at h1;exact h1
theorem vV:EvB (fun k=>cA.f k s 0 [] 0 0) (kE s [] (pl (bd (.ok 0) (rK s)))):=by
  unfold cA.f
  refine EvB.bind (v:=[67,70,1]) (Ev.now _) ?_
  have h0:kE s [] (.ok 0) (s,0,[],0,0):=⟨Int.le_refl _,by omega,rfl⟩
  refine oU hs 67 [67,70,1] 0 (by decide) rfl (by decide) h0 (fun d h1=>oU hs 70 [67,70,1] 1 (by decide) rfl (by decide) h1.1 (fun e h2=>oU hs 1 [67,70,1] 2 (by decide) rfl (by decide) h2.1 (fun c h3=>?_) (fun f y a b=>?_)) (fun f y a b=>?_)) (fun f y a b=>?_)
  · refine EvB.step (f:=fun _=>some c.2) (fun k=>by rw [cA.l0,if_neg (by omega)]) (EvB.now ?_)
    unfold rK
    rw [eE h1.2.1,eE h2.2.1,eE h3.2.1,lD];exact h3.1
  · unfold rK
    rw [eE h1.2.1,eE h2.2.1,kP a];exact b
  · unfold rK
    rw [eE h1.2.1,kP a];exact b
  · unfold rK
    rw [kP a];exact b
omit hs in
theorem pD (many:Int) {y:Int×Int} (b:y.1≠0) (j:Int) (a:List ByteArray):∀ d k,bM.l k d many s j a y.2 y.1=some (s,j,a,y.2,y.1)
  | 0,k=>rfl
  | d+1,k=>by rw [bM.l,if_neg b]
theorem uQ (many:Int) (d:Nat):∀ (a:List ByteArray) (i:Int),0≤i→i≤(s.size:Int)→a.length+d≤255→EvB (fun k=>bM.l k d many s i a 0 0) (xN s (match rN (kL s) d i with
    | .ok r=>.ok (a++r.1,r.2)
    | .error y=>.error y)):=by
  induction d with
  | zero =>
    intro a i h0 h1 D
    refine EvB.congr (f:=fun _=>some (s,i,a,0,0)) (fun k=>rfl) (EvB.now ?_)
    show xN s (.ok (a++[],i)) _
    rw [List.append_nil];exact⟨h0,h1,rfl⟩
  | succ d ih =>
    intro a i h0 h1 D
    have E:kE s a (.ok i) (s,i,a,0,0):=⟨h0,h1,rfl⟩
    refine EvB.congr (fun k=>by rw [bM.l,if_pos rfl]) (EvB.then (jL hs E) (fun t G=>?_))
    obtain⟨n,x⟩:=t
    obtain⟨o,I,J,K⟩:=G
    cases hr:r1 s i with
    | error y =>
      have p:rN (kL s) (d+1) i=.error y:=kP (e:=.ok i) (show bd (.ok i) (kL s)=.error y by show kL s i=_;unfold kL;rw [hr])
      rw [p]
      have o:kE s a (.error y) x:=by have h3:=o;rw [show bd (.ok i) (r1 s)=.error y from hr] at h3;exact h3
      obtain⟨hy,j,p',rfl⟩:=o
      exact EvB.congr (f:=fun _=>_) (fun k=>if_neg hy) (EvB.now ⟨hy,j,p',rfl⟩)
    | ok r =>
      have L:n=r.1:=I r hr
      have o:kE s a (.ok r.2) x:=by have h3:=o;rw [show bd (.ok i) (r1 s)=.ok r from hr] at h3;exact h3
      obtain⟨j0,j1,rfl⟩:=o
      subst L
      simp only [] at J K
      have w:wrap64 (r.2+r.1)=r.2+r.1:=by unfold wrap64;omega
      refine EvB.congr (fun k=>if_pos rfl) ?_
      simp only [w]
      refine EvB.ite (fun c=>?_) (fun c=>EvB.ifp j0 (EvB.ifp (by omega) ?_))
      · have p:rN (kL s) (d+1) i=.error (4,(s.size:Int)):=kP (e:=.ok i) (show bd (.ok i) (kL s)=.error (4,(s.size:Int)) by show kL s i=_;unfold kL;rw [hr];exact if_pos c)
        rw [p]
        exact EvB.congr (f:=fun _=>some (s,r.2,a,(s.size:Int),4)) (fun k=>by unfold aX.f;rw [if_pos rfl]) (EvB.now ⟨by show (4:Int)≠0;decide,r.2,a,rfl⟩)
      · have M:(s.extract r.2.toNat (r.2+r.1).toNat).size≤20000:=by rw [ByteArray.size_extract];omega
        refine EvB.bind (rG _ M).1 (EvB.ifp (by omega) ?_)
        cases hp:iE (s.extract r.2.toNat (r.2+r.1).toNat) with
        | true =>
          have B:kL s i=.ok (s.extract r.2.toNat (r.2+r.1).toNat,r.2+r.1):=by unfold kL;rw [hr];exact(if_neg c).trans (if_pos hp)
          have h:=ih (a++[s.extract r.2.toNat (r.2+r.1).toNat]) (r.2+r.1) (by omega) (by omega) (by simp;omega)
          refine EvB.congr (fun k=>if_pos rfl) (h.mono (fun q u=>?_))
          have z:rN (kL s) (d+1) i=bd (pl (bd (.ok i) (kL s))) (rb (rN (kL s) d) (fun l=>gZ (s.extract r.2.toNat (r.2+r.1).toNat :: l))):=eE (e:=.ok i) (m:=kL s) (f:=fun x=>rb (rN (kL s) d) (fun l=>gZ (x :: l))) (fun U h2=>by rw [show bd (.ok i) (kL s)=kL s i from rfl,B] at h2;cases h2;rfl)
          have O:pl (bd (.ok i) (kL s))=.ok (r.2+r.1):=by rw [show bd (.ok i) (kL s)=kL s i from rfl,B];rfl
          rw [O] at z
          cases hh:rN (kL s) d (r.2+r.1) with
          | error y =>
            rw [hh] at u
            rw [z,kP (e:=.ok (r.2+r.1)) (show bd (.ok (r.2+r.1)) (rN (kL s) d)=.error y from hh)];exact u
          | ok b =>
            rw [hh] at u
            have P:rN (kL s) (d+1) i=.ok (s.extract r.2.toNat (r.2+r.1).toNat :: b.1,b.2):=by
              rw [z,eE (v:=b.1) (fun X A=>by rw [show bd (.ok (r.2+r.1)) (rN (kL s) d)=rN (kL s) d (r.2+r.1) from rfl,hh] at A;cases A;rfl),show bd (.ok (r.2+r.1)) (rN (kL s) d)=rN (kL s) d (r.2+r.1) from rfl,hh];rfl
            rw [P]
            have T:a++(s.extract r.2.toNat (r.2+r.1).toNat :: b.1)=a++[s.extract r.2.toNat (r.2+r.1).toNat]++b.1:=by simp
            show xN s (.ok (a++(s.extract r.2.toNat (r.2+r.1).toNat :: b.1),b.2)) q
            rw [T];exact u
        | false =>
          have p:rN (kL s) (d+1) i=.error (3,i):=kP (e:=.ok i) (show bd (.ok i) (kL s)=.error (3,i) by show kL s i=_;unfold kL;rw [hr];exact(if_neg c).trans (if_neg (by rw [hp];simp)))
          rw [p]
          refine EvB.congr (fun k=>if_neg (by simp)) (EvB.bind (v:=(s,r.2+r.1,a,i,3)) (Ev.congr (f:=fun _=>some (s,r.2+r.1,a,i,3)) (fun k=>by unfold aX.f;rw [if_pos rfl]) (Ev.now _)) ?_)
          exact EvB.congr (f:=fun _=>some (s,r.2+r.1,a++[s.extract r.2.toNat (r.2+r.1).toNat],i,3)) (fun k=>pD many (y:=(3,i)) (by show (3:Int)≠0;decide) _ _ d k) (EvB.now ⟨by show (3:Int)≠0;decide,_,_,rfl⟩)
theorem tP {e:Except (Int×Int) Int} {x:RS} (h:kE s [] e x):EvB (fun k=>bM.f k x.1 x.2.1 x.2.2.1 x.2.2.2.1 x.2.2.2.2) (xN s (bd e (tZ s))):=by
  unfold bM.f
  refine EvB.congr (f:=fun k=>(aN.f k x.1 x.2.1 x.2.2.1 x.2.2.2.1 x.2.2.2.2).bind fun t=>if t.1≤200 then bM.l k t.1.toNat t.1 t.2.1 t.2.2.1 t.2.2.2.1 t.2.2.2.2.1 t.2.2.2.2.2 else ((aX.f t.2.1 t.2.2.1 t.2.2.2.1 t.2.2.2.2.1 t.2.2.2.2.2 5 x.2.1).bind fun u=>bM.l k t.1.toNat t.1 u.1 u.2.1 u.2.2.1 u.2.2.2.1 u.2.2.2.2)) (fun k=>?_) ?_
  · congr 1;funext t
    by_cases c:t.1≤200
    · rw [if_neg (by omega),if_pos c]
    · rw [if_pos (by omega),if_neg c]
  · refine pB hs (P:=fun v=>v≤200) (c:=5) (rF s 200 5) (fun i=>?_) (by decide) (.inr trivial) h (A:=fun k v t=>bM.l k v.toNat v t.1 t.2.1 t.2.2.1 t.2.2.2.1 t.2.2.2.2) (B:=fun k v t=>((aX.f t.1 t.2.1 t.2.2.1 t.2.2.2.1 t.2.2.2.2 5 x.2.1).bind fun u=>bM.l k v.toNat v u.1 u.2.1 u.2.2.1 u.2.2.2.1 u.2.2.2.2)) (fun t m q=>?_) (fun t f m J K q z a=>?_)
    · unfold rF
      cases r1 s i with
      | error y=>rfl
      | ok r =>
        simp only []
        by_cases c:r.1 > 200
        · rw [if_pos c,if_neg (by omega)]
        · rw [if_neg c,if_pos (by omega)]
    · obtain⟨v,L⟩:=t
      obtain⟨b,D,M,o⟩:=m
      cases a:bd e (rF s 200 5) with
      | error y =>
        rw [a] at b
        obtain⟨hy,j,p',rfl⟩:=b
        unfold tZ;rw [kP a]
        exact EvB.congr (f:=fun _=>_) (fun k=>pD _ hy j p' _ k) (EvB.now ⟨hy,j,p',rfl⟩)
      | ok r =>
        rw [a] at b
        obtain⟨j0,j1,rfl⟩:=b
        have E:v=r.1:=D r a
        have o:v≤255:=o
        have G:=uQ hs v v.toNat [] r.2 j0 j1 (by simp;omega)
        refine G.mono (fun q d=>?_)
        have I:bd e (tZ s)=rN (kL s) v.toNat r.2:=by
          unfold tZ
          rw [eE (v:=v) (fun O p=>by rw [a] at p;cases p;exact E),a];rfl
        rw [I]
        cases hN:rN (kL s) v.toNat r.2 with
        | error y=>rw [hN] at d;exact d
        | ok T=>rw [hN] at d;exact d
    · obtain⟨y,a⟩:=a
      have h1:=m.1
      rw [a] at h1
      obtain⟨hy,j,p',n⟩:=h1
      have n:f=(s,j,p',y.2,y.1):=n
      subst n
      refine EvB.bind (v:=(s,j,p',y.2,y.1)) (Ev.congr (f:=fun _=>some (s,j,p',y.2,y.1)) z (Ev.now _)) ?_
      unfold tZ;rw [kP a]
      exact EvB.congr (f:=fun _=>_) (fun k=>pD _ hy j p' _ k) (EvB.now ⟨hy,j,p',rfl⟩)
theorem pL (t:Bool) (o:ByteArray) (p:∀ c j,mW s 0=.ok (c,j)→Ev (fun k=>bQ.f k c.f0 c.f1 c.f2 c.f3 c.f4 c.f5) t∧(t=true→Ev (fun k=>dZ.f k c.f0 c.f1 c.f2 c.f3 c.f4 c.f5) o)):Ev (fun k=>fC.f k s) (sW s t o):=by
  unfold fC.f
  obtain⟨M,a1,u⟩:=vV hs
  obtain⟨v,x,d⟩:=tP hs u
  have m:=vL s
  refine Ev.bind a1 (Ev.bind x ?_)
  generalize bd (pl (bd (.ok 0) (rK s))) (tZ s)=E at d m
  have z:kE s (xO E) (pl E) v:=by
    cases E with
    | error y=>exact d
    | ok r=>exact d
  obtain⟨q,c1,c2⟩:=uD hs z
  rw [← m] at c2
  refine Ev.bind c1 ?_
  obtain⟨d1,A⟩:=c2
  obtain⟨B,D,G,I,q4,J,n⟩:=q
  unfold sW
  cases hA:mW s 0 with
  | error y =>
    rw [hA] at d1
    obtain⟨hy,j,p',b⟩:=d1
    have b:n=(s,j,p',y.2,y.1):=b
    subst b
    exact Ev.congr (f:=fun _=>some (tY y.2 y.1)) (fun k=>if_neg hy) (Ev.now _)
  | ok r =>
    obtain⟨c,j⟩:=r
    rw [hA] at d1
    obtain⟨j0,j1,b⟩:=d1
    have b:n=(s,j,xO E,0,0):=b
    subst b
    have i:=A (c,j) hA
    have i:(⟨B,D,G,I,q4,J⟩:vB)=c:=i
    obtain⟨K,L⟩:=p c j hA
    subst i
    refine Ev.congr (fun k=>if_pos rfl) (Ev.bind (a:=(s.size:Int)) (Ev.now _) ?_)
    by_cases c3:j < (s.size:Int)
    · exact Ev.congr (f:=fun _=>some (tY j 3)) (fun k=>if_pos c3) (Ev.congr (fun k=>by simp only [];rw [if_pos c3]) (Ev.now _))
    · refine Ev.congr (fun k=>if_neg c3) (Ev.bind K ?_)
      simp only []
      rw [if_neg c3]
      cases t with
      | false =>
        exact Ev.congr (fun k=>if_neg (by simp)) (Ev.bind (a:=(s.size:Int)) (Ev.now _) (Ev.congr (f:=fun _=>some (tY (s.size:Int) 1)) (fun k=>rfl) (Ev.now _)))
      | true =>
        rw [if_pos rfl]
        refine Ev.congr (fun k=>if_pos rfl) (Ev.bind (L rfl) ?_)
        by_cases c4:o=s
        · rw [if_pos c4]
          exact Ev.congr (f:=fun _=>some _) (fun k=>if_pos (by rw [c4])) (Ev.now _)
        · rw [if_neg c4]
          exact Ev.congr (fun k=>if_neg (fun e=>c4 ((toList_eq _ _).mp e))) (Ev.bind (a:=(s.size:Int)) (Ev.now _) (Ev.congr (f:=fun _=>some (tY (s.size:Int) 5)) (fun k=>rfl) (Ev.now _)))
end
def fX {α:Type} (k:Nat) (m a:Rd α):Prop:=∀ i r,0≤i→m i=.ok r→i≤r.2∧(i≤(k:Int)→(r.2≤(k:Int)→a i=.ok r)∧((k:Int) < r.2→a i=.error (4,(k:Int))))
theorem fX.ret {α:Type} {k:Nat} {v:α}:fX k (gZ v) (gZ v):=by
  intro i r _ h
  cases h
  exact⟨Int.le_refl _,fun a=>⟨fun _=>rfl,fun h=>absurd h (by show ¬ (k:Int) < i;omega)⟩⟩
theorem fX.bnd {α β:Type} {k:Nat} {a a':Rd α} {f j:α→Rd β} (h:fX k a a') (g:∀ v,fX k (f v) (j v)):fX k (rb a f) (rb a' j):=by
  intro i r m b
  unfold rb at b ⊢
  cases ha:a i with
  | error x=>rw [ha] at b;cases b
  | ok q =>
    rw [ha] at b
    obtain⟨l1,c1⟩:=h i q m ha
    obtain⟨l2,c2⟩:=g q.1 q.2 r (by omega) b
    refine⟨by omega,fun e=>⟨fun d=>?_,fun d=>?_⟩⟩
    · rw [(c1 e).1 (by omega)]
      exact(c2 (by omega)).1 d
    · by_cases c:q.2≤(k:Int)
      · rw [(c1 e).1 c]
        exact(c2 c).2 d
      · rw [(c1 e).2 (by omega)]
theorem fX.many {α:Type} {k:Nat} {f a:Rd α} (h:fX k f a):∀ n,fX k (rN f n) (rN a n)
  | 0=>fX.ret
  | n+1=>fX.bnd h (fun _=>fX.bnd (fX.many h n) (fun _=>fX.ret))
section
variable {s:ByteArray} {k:Nat} (hk:k≤s.size)
include hk
theorem nM:(s.extract 0 k).size=k:=by rw [ByteArray.size_extract];omega
theorem nL {i:Int} (h0:0≤i) (h:i < (k:Int)):bt (s.extract 0 k) i=bt s i:=by
  rw [sV s 0 k i h0 (by omega) hk];congr 1;omega
theorem kS:fX k (r1 s) (r1 (s.extract 0 k)):=by
  intro i r b a
  unfold r1 at a ⊢
  rw [nM hk]
  by_cases c:i < (s.size:Int)
  · rw [if_pos c] at a;cases a
    refine⟨by show i≤i+1;omega,fun d=>⟨fun h=>?_,fun h=>?_⟩⟩
    · have h:i+1≤(k:Int):=h
      rw [if_pos (by omega),nL hk b (by omega)]
    · have h:(k:Int) < i+1:=h
      rw [if_neg (by omega)]
  · rw [if_neg c] at a;cases a
theorem lU {α:Type} {m a:Rd α} (B:Int→Prop) (g:Int→α) (h:∀ i,m i=match r1 s i with|.ok r=>m i|.error x=>.error x)
    (h1:∀ i r q,r1 s i=.ok r→m i=.ok q→q=(g r.1,r.2)∧B r.1) (h2:∀ i r,r1 (s.extract 0 k) i=.ok r→B r.1→a i=.ok (g r.1,r.2)) (h3:∀ i x,r1 (s.extract 0 k) i=.error x→a i=.error x):fX k m a:=by
  intro i r d b
  cases hq:r1 s i with
  | error x=>rw [h i,hq] at b;cases b
  | ok q =>
    obtain⟨e,hb⟩:=h1 i q r hq b
    subst e
    obtain⟨l1,c1⟩:=kS hk i q d hq
    exact⟨l1,fun c=>⟨fun h=>h2 i q ((c1 c).1 h) hb,fun h=>h3 i _ ((c1 c).2 h)⟩⟩
theorem qW (m c:Int):fX k (rF s m c) (rF (s.extract 0 k) m c):=by
  refine lU hk (fun v=>¬ v > m) id (fun i=>by unfold rF;cases r1 s i <;> rfl) (fun i r q h e=>?_) (fun i r h a=>?_) (fun i x h=>?_)
  · unfold rF at e;rw [h] at e;simp only [] at e
    by_cases d:r.1 > m
    · rw [if_pos d] at e;cases e
    · rw [if_neg d] at e;cases e;exact⟨rfl,d⟩
  · unfold rF;rw [h];exact if_neg a
  · unfold rF;rw [h]
theorem sX (c:Int):fX k (rW s c) (rW (s.extract 0 k) c):=by
  refine lU hk (fun v=>v=c) id (fun i=>by unfold rW;cases r1 s i <;> rfl) (fun i r q h e=>?_) (fun i r h a=>?_) (fun i x h=>?_)
  · unfold rW at e;rw [h] at e;simp only [] at e
    by_cases d:r.1=c
    · rw [if_pos d] at e;cases e;exact⟨rfl,d⟩
    · rw [if_neg d] at e;cases e
  · unfold rW;rw [h];exact if_pos a
  · unfold rW;rw [h]
theorem wY:fX k (rO s) (rO (s.extract 0 k)):=by
  refine lU hk (fun v=>1≤v∧v≤44) id (fun i=>by unfold rO;cases r1 s i <;> rfl) (fun i r q h e=>?_) (fun i r h a=>?_) (fun i x h=>?_)
  · unfold rO at e;rw [h] at e;simp only [] at e
    by_cases d:1≤r.1∧r.1≤44
    · rw [if_pos d] at e;cases e;exact⟨rfl,d⟩
    · rw [if_neg d] at e;cases e
  · unfold rO;rw [h];exact if_pos a
  · unfold rO;rw [h]
theorem kT (p:List ByteArray):fX k (rT s p) (rT (s.extract 0 k) p):=by
  refine lU hk (fun v=>v < (p.length:Int)) (rdOf ByteArray.empty p) (fun i=>by unfold rT;cases r1 s i <;> rfl) (fun i r q h e=>?_) (fun i r h a=>?_) (fun i x h=>?_)
  · unfold rT at e;rw [h] at e;simp only [] at e
    by_cases d:r.1 < (p.length:Int)
    · rw [if_pos d] at e;cases e;exact⟨rfl,d⟩
    · rw [if_neg d] at e;cases e
  · unfold rT;rw [h];exact if_pos a
  · unfold rT;rw [h]
theorem wT:fX k (r4 s) (r4 (s.extract 0 k)):=by
  intro i r b a
  unfold r4 at a ⊢
  rw [nM hk]
  by_cases c:i+4≤(s.size:Int)
  · rw [if_pos c] at a;cases a
    refine⟨by show i≤i+4;omega,fun d=>⟨fun h=>?_,fun h=>?_⟩⟩
    · have h:i+4≤(k:Int):=h
      rw [if_pos h,nL hk b (by omega),nL hk (by omega) (by omega),nL hk (by omega) (by omega),nL hk (by omega) (by omega)]
    · have h:(k:Int) < i+4:=h
      rw [if_neg (by omega)]
  · rw [if_neg c] at a;cases a
theorem vR:fX k (kL s) (kL (s.extract 0 k)):=by
  intro i r m a
  unfold kL at a ⊢
  rw [nM hk]
  cases hq:r1 s i with
  | error x=>rw [hq] at a;cases a
  | ok q =>
    rw [hq] at a;simp only [] at a
    obtain⟨l1,c1⟩:=kS hk i q m hq
    have n:0≤q.1∧q.1≤255:=by
      unfold r1 at hq
      by_cases c:i < (s.size:Int)
      · rw [if_pos c] at hq;cases hq;exact bt_range s i
      · rw [if_neg c] at hq;cases hq
    by_cases d:(s.size:Int) < q.2+q.1
    · rw [if_pos d] at a;cases a
    · rw [if_neg d] at a
      by_cases j:iE (s.extract q.2.toNat (q.2+q.1).toNat)=true
      · rw [if_pos j] at a;cases a
        refine⟨by show i≤q.2+q.1;omega,fun b=>⟨fun h=>?_,fun h=>?_⟩⟩
        · have h:q.2+q.1≤(k:Int):=h
          have e:(s.extract 0 k).extract q.2.toNat (q.2+q.1).toNat=s.extract q.2.toNat (q.2+q.1).toNat:=by
            rw [ByteArray.extract_extract];congr 1 <;> omega
          rw [(c1 b).1 (by omega)];simp only []
          rw [if_neg (by omega),e,if_pos j]
        · have h:(k:Int) < q.2+q.1:=h
          by_cases c:q.2≤(k:Int)
          · rw [(c1 b).1 c];simp only []
            rw [if_pos h]
          · rw [(c1 b).2 (by omega)]
      · rw [if_neg j] at a;cases a
theorem uF (p:List ByteArray) (F:ByteArray) (o:Int):fX k (oY s p F o) (oY (s.extract 0 k) p F o):=by
  unfold oY
  repeat' split
  · exact fX.bnd (wT hk) (fun _=>fX.ret)
  · exact fX.bnd (kS hk) (fun _=>fX.ret)
  · exact fX.bnd (kT hk p) (fun _=>fX.ret)
  · exact fX.bnd (kT hk p) (fun _=>fX.ret)
  · exact fX.bnd (kT hk p) (fun _=>fX.bnd (kT hk p) (fun _=>fX.bnd (kT hk p) (fun _=>fX.ret)))
  · exact fX.ret
theorem wW (p:List ByteArray):fX k (rI s p) (rI (s.extract 0 k) p):=by
  refine fX.bnd (wY hk) (fun o=>?_)
  cases cO.f o with
  | none=>exact fX.ret
  | some F=>exact uF hk p F o
theorem wV (p:List ByteArray):fX k (rH s p) (rH (s.extract 0 k) p):=
  fX.bnd (kS hk) (fun _=>fX.bnd (kS hk) (fun _=>fX.bnd (kS hk) (fun _=>fX.bnd (kT hk p) (fun _=>fX.ret))))
theorem wX (p:List ByteArray):fX k (rM s p) (rM (s.extract 0 k) p):=
  fX.bnd (kT hk p) (fun _=>fX.bnd (kT hk p) (fun _=>fX.bnd (qW hk 7 3) (fun _=>fX.bnd (kS hk) (fun _=>fX.bnd (kS hk) (fun _=>fX.bnd (kS hk) (fun c=>fX.bnd (fX.many (wW hk p) c.toNat) (fun _=>fX.bnd (kS hk) (fun h=>fX.bnd (fX.many (wV hk p) h.toNat) (fun _=>fX.ret)))))))))
theorem wZ (p:List ByteArray):fX k (rX s p) (rX (s.extract 0 k) p):=
  fX.bnd (kT hk p) (fun _=>fX.bnd (kT hk p) (fun _=>fX.bnd (qW hk 1 3) (fun _=>fX.ret)))
theorem wU (p:List ByteArray):fX k (rC s p) (rC (s.extract 0 k) p):=
  fX.bnd (kT hk p) (fun _=>fX.bnd (kT hk p) (fun _=>fX.bnd (qW hk 3 3) (fun _=>fX.bnd (kS hk) (fun a=>fX.bnd (fX.many (wZ hk p) a.toNat) (fun _=>fX.bnd (kS hk) (fun b=>fX.bnd (fX.many (wX hk p) b.toNat) (fun _=>fX.ret)))))))
theorem vQ:fX k (rK s) (rK (s.extract 0 k)):=fX.bnd (sX hk 67) (fun _=>fX.bnd (sX hk 70) (fun _=>fX.bnd (sX hk 1) (fun _=>fX.ret)))
theorem uE:fX k (mW s) (mW (s.extract 0 k)):=fX.bnd (vQ hk) (fun _=>fX.bnd (qW hk 200 5) (fun m=>fX.bnd (fX.many (vR hk) m.toNat) (fun p=>wU hk p)))
end
theorem vM (xs:List Int) (i:Int) (a:∀ x∈xs,0≤x∧x < 256) (h:i.toNat < xs.length):bt (strOfNums xs) i=xs[i.toNat]:=by
  have h2:i.toNat < (strOfNums xs).size:=by rw [strOfNums_size];exact h
  unfold bt
  rw [dif_pos h2]
  have e:(strOfNums xs)[i.toNat]=UInt8.ofNat (xs[i.toNat]).toNat:=by
    show (strOfNums xs).data[i.toNat]=_
    simp [strOfNums]
  rw [e]
  have:=a _ (List.getElem_mem h)
  simp
  omega
def Has (s:ByteArray) (i:Int) (l:List Int):Prop:=0≤i∧i+(l.length:Int)≤(s.size:Int)∧∀ j (h:j < l.length),bt s (i+(j:Int))=l[j]
theorem Has.left {s:ByteArray} {i:Int} {a b:List Int} (h:Has s i (a++b)):Has s i a:=by
  obtain⟨h0,h1,h2⟩:=h
  rw [List.length_append] at h1
  refine⟨h0,by omega,fun j c=>?_⟩
  rw [h2 j (by rw [List.length_append];omega),List.getElem_append_left c]
theorem Has.right {s:ByteArray} {i:Int} {a b:List Int} (h:Has s i (a++b)):Has s (i+(a.length:Int)) b:=by
  obtain⟨h0,h1,h2⟩:=h
  rw [List.length_append] at h1
  refine⟨by omega,by omega,fun j c=>?_⟩
  have e:i+(a.length:Int)+(j:Int)=i+((a.length+j:Nat):Int):=by omega
  rw [e,h2 (a.length+j) (by rw [List.length_append];omega),List.getElem_append_right (by omega)]
  congr 1;omega
theorem uI (X:List Int) (a:∀ x∈X,0≤x∧x < 256):Has (strOfNums X) 0 X:=by
  refine⟨by decide,by rw [strOfNums_size];omega,fun j b=>?_⟩
  rw [Int.zero_add,vM X (j:Int) a (by simpa using b)]
  congr 1
def Reads {α:Type} (s:ByteArray) (m:Rd α) (l:List Int) (v:α):Prop:=∀ i,Has s i l→m i=.ok (v,i+(l.length:Int))
theorem Reads.ret {α:Type} {s:ByteArray} {v:α}:Reads s (gZ v) [] v:=by
  intro i _
  show Except.ok (v,i)=_
  simp
theorem Reads.bnd {α β:Type} {s:ByteArray} {a:Rd α} {f:α→Rd β} {l1 l2:List Int} {v1:α} {v:β} (h1:Reads s a l1 v1) (h2:Reads s (f v1) l2 v):Reads s (rb a f) (l1++l2) v:=by
  intro i h
  unfold rb
  rw [h1 i h.left]
  simp only []
  rw [h2 _ h.right,List.length_append]
  congr 2;omega
section
variable {s:ByteArray} {p:List ByteArray}
theorem lJ (n:Int):Reads s (r1 s) [n] n:=by
  intro i h
  obtain⟨h0,h1,h2⟩:=h
  have h1:i+1≤(s.size:Int):=h1
  have e:=h2 0 (by simp)
  have e:bt s i=n:=by simpa using e
  unfold r1
  rw [if_pos (by omega),e];rfl
theorem nD {n m:Int} (c:Int) (h:n≤m):Reads s (rF s m c) [n] n:=by
  intro i a
  unfold rF
  rw [lJ n i a]
  exact if_neg (by show ¬ n > m;omega)
theorem pE (c:Int):Reads s (rW s c) [c] c:=by
  intro i a
  unfold rW
  rw [lJ c i a]
  exact if_pos rfl
theorem uU {n:Int} (h:1≤n∧n≤44):Reads s (rO s) [n] n:=by
  intro i a
  unfold rO
  rw [lJ n i a]
  exact if_pos h
theorem rP {j:Nat} (a:j < p.length):Reads s (rT s p) [(j:Int)] p[j]:=by
  intro i b
  unfold rT
  rw [lJ (j:Int) i b]
  have e:rdOf ByteArray.empty p (j:Int)=p[j]:=by rw [rL _ _ _ (by simpa using a)];rfl
  refine(if_pos (by show (j:Int) < (p.length:Int);omega)).trans ?_
  simp only []
  rw [e]
theorem oH (l:List Int) (h:∀ x∈l,0≤x∧x < 256):bytesOf (strOfNums l)=l:=by
  simp only [strOfNums,bytesOf,List.map_map]
  have e:∀ x∈l,((fun b:UInt8=>(b.toNat:Int)) ∘ fun n:Int=>UInt8.ofNat n.toNat) x=x:=by
    intro x a
    have:=h x a
    simp only [Function.comp]
    rw [UInt8.toNat_ofNat'];omega
  exact(List.map_congr_left e).trans (List.map_id _)
theorem uT (a:Int) (h:-2147483648≤a∧a≤2147483647):Reads s (r4 s) (bytesOf (q4 a)) a:=by
  have e:bytesOf (q4 a)=[a / 256 / 256 / 256 % 256,a / 256 / 256 % 256,a / 256 % 256,a % 256]:=oH _ (by intro x b;simp only [List.mem_cons,List.not_mem_nil,or_false] at b;rcases b with rfl|rfl|rfl|rfl <;> omega)
  rw [e]
  intro i c
  obtain⟨h0,h1,h2⟩:=c
  have h1:i+4≤(s.size:Int):=h1
  have d:bt s i=a / 256 / 256 / 256 % 256:=by have:=h2 0 (by simp);simpa using this
  have j:bt s (i+1)=a / 256 / 256 % 256:=by have:=h2 1 (by simp);simpa using this
  have k:bt s (i+2)=a / 256 % 256:=by have:=h2 2 (by simp);simpa using this
  have m:bt s (i+3)=a % 256:=by have:=h2 3 (by simp);simpa using this
  unfold r4
  rw [if_pos h1,d,j,k,m]
  have n:wrap64 (wrap32 (((a / 256 / 256 / 256 % 256*256+a / 256 / 256 % 256)*256+a / 256 % 256)*256+a % 256))=a:=by
    unfold wrap64 wrap32;omega
  rw [n];rfl
end
def W {α:Type} (s:ByteArray) (p:List ByteArray) (st a:St) (m:Rd α) (v:α):Prop:=st.1 <+: a.1∧(a.1 <+: p→∃ l,a.2=st.2++l∧Reads s m l v)
def WE {α:Type} (s:ByteArray) (p:List ByteArray) (st a:St) (m:Rd α):Prop:=∃ v,W s p st a m v
section
variable {s:ByteArray} {p:List ByteArray}
theorem W.bnd {α β:Type} {st st1 b:St} {a:Rd α} {f:α→Rd β} {v1:α} {v:β} (h1:W s p st st1 a v1) (h2:W s p st1 b (f v1) v):W s p st b (rb a f) v:=by
  refine⟨h1.1.trans h2.1,fun c=>?_⟩
  obtain⟨l1,d,r1⟩:=h1.2 (h2.1.trans c)
  obtain⟨l2,e,i⟩:=h2.2 c
  exact⟨l1++l2,by rw [e,d,List.append_assoc],r1.bnd i⟩
theorem W.ret {α:Type} {st:St} {v:α}:W s p st st (gZ v) v:=⟨List.prefix_refl _,fun _=>⟨[],by simp,Reads.ret⟩⟩
theorem WE.ret {α:Type} {st:St} {v:α}:WE s p st st (gZ v):=⟨v,W.ret⟩
theorem WE.bnd {α β:Type} {st st1 b:St} {a:Rd α} {f:α→Rd β} {v1:α} (h1:W s p st st1 a v1) (h2:WE s p st1 b (f v1)):WE s p st b (rb a f):=by
  obtain⟨v,h⟩:=h2
  exact⟨v,h1.bnd h⟩
theorem WE.any {α β:Type} {st st1 b:St} {a:Rd α} {f:α→Rd β} (h1:WE s p st st1 a) (h2:∀ v,WE s p st1 b (f v)):WE s p st b (rb a f):=by
  obtain⟨v,h⟩:=h1
  exact WE.bnd h (h2 v)
theorem WE.fold {α β:Type} {m:Rd β} {G:St→α→St}:∀ (a:List α) (st:St),(∀ x∈a,∀ st,WE s p st (G st x) m)→WE s p st (a.foldl G st) (rN m a.length)
  | [],st,_=>WE.ret
  | x :: a,st,h=>WE.any (h x List.mem_cons_self st) (fun _=>WE.any (WE.fold a (G st x) (fun y b=>h y (List.mem_cons_of_mem _ b))) (fun _=>WE.ret))
theorem pX {α:Type} {st:St} {m:Rd α} {v:α} (n:Int) (h:0≤n∧n≤255) (a:Reads s m [n] v):W s p st (nm st n) m v:=
  ⟨List.prefix_refl _,fun _=>⟨[n],by unfold nm;rw [show n % 256=n by omega],a⟩⟩
theorem tV {st:St} (n:Int) (h:0≤n∧n≤255):W s p st (nm st n) (r1 s) n:=pX n h (lJ n)
theorem vT (t:ByteArray):∀ (l:List ByteArray) (i:Nat) (j:Int),i+l.length≤4611686018427387904→kK t l (i:Int)=some j→∃ n,j=((i+n:Nat):Int)∧∃ h:n < l.length,l[n]=t:=by
  intro l
  induction l with
  | nil=>intro i j a h;simp [kK] at h
  | cons x l ih =>
    intro i j a h
    rw [kK] at h
    rw [List.length_cons] at a
    by_cases e:x.toList=t.toList
    · rw [if_pos e] at h;injection h with h
      exact⟨0,by omega,by simp,(toList_eq _ _).mp e⟩
    · rw [if_neg e,qU (n:=i+l.length+1) (by omega) (by omega)] at h
      obtain⟨n,c,h1,b⟩:=ih (i+1) j (by omega) h
      exact⟨n+1,by omega,by simp;omega,by simpa using b⟩
theorem vK (a:p.length≤255) {st:St} (t:ByteArray):W s p st (tx st t) (rT s p) t:=by
  unfold tx
  cases hf:kK t st.1 0 with
  | some j =>
    refine⟨List.prefix_refl _,fun b=>?_⟩
    obtain⟨q,rfl⟩:=b
    have a:(st.1++q).length≤255:=a
    rw [List.length_append] at a
    obtain⟨n,e,hn,ht⟩:=vT t st.1 0 j (by omega) hf
    refine⟨[(n:Int)],?_,?_⟩
    · show st.2++[j % 256]=_
      rw [show j % 256=(n:Int) by omega]
    · have h:=rP (s:=s) (p:=st.1++q) (j:=n) (by rw [List.length_append];omega)
      rw [List.getElem_append_left hn,ht] at h
      exact h
  | none =>
    refine⟨List.prefix_append _ _,fun b=>?_⟩
    obtain⟨q,rfl⟩:=b
    have a:((st.1++[t])++q).length≤255:=a
    simp only [List.length_append,List.length_cons,List.length_nil] at a
    refine⟨[(st.1.length:Int)],?_,?_⟩
    · show st.2++[(st.1.length:Int) % 256]=_
      rw [show (st.1.length:Int) % 256=(st.1.length:Int) by omega]
    · have h:=rP (s:=s) (p:=(st.1++[t])++q) (j:=st.1.length) (by simp only [List.length_append,List.length_cons,List.length_nil];omega)
      have e:((st.1++[t])++q)[st.1.length]'(by simp only [List.length_append,List.length_cons,List.length_nil];omega)=t:=by
        rw [List.getElem_append_left (by simp),List.getElem_append_right (by omega)];simp
      rw [e] at h
      exact h
theorem wG {o:Int} (h:¬ (1≤o∧o≤44)):cO.f o=some ⟨#[33]⟩:=by
  unfold cO.f gC.f cX.f
  by_cases c:o ≥ 1
  · rw [if_pos c]
    simp only [Option.bind_some]
    rw [if_neg (by simp;omega)]
  · rw [if_neg c]
    simp only [Option.bind_some]
    rw [if_neg (by simp)]
theorem sC {x:cR} (h:mV x):(1≤x.f0∧x.f0≤44)∧∀ F,cO.f x.f0=some F→(F.toList=([110]:List UInt8)→-2147483648≤x.f1∧x.f1≤2147483647)∧(F.toList=([105]:List UInt8)∨F.toList=([116]:List UInt8)→0≤x.f1∧x.f1≤255):=by
  have b:=qX h
  obtain⟨K,hK⟩:=h
  obtain⟨F',hF',hS⟩:=iP x.f0
  have e:=hK (max K 16) (by omega)
  simp only [] at e
  unfold dB.f at e
  rw [hS _ (by omega),Option.bind_some] at e
  constructor
  · by_cases c:1≤x.f0∧x.f0≤44
    · exact c
    · have h3:=wG c
      rw [hF'] at h3
      cases h3
      have i:(⟨#[33]⟩:ByteArray).toList=[33]:=by rw [Lib.toList_data]
      rw [i] at e
      simp at e
  · intro F hF
    obtain rfl:F=F':=Option.some.inj (hF.symm.trans hF')
    refine⟨fun c=>?_,fun c=>?_⟩
    · have h1:=b F hF c
      unfold eQ.f at h1
      by_cases d:x.f1 ≥ -2147483648
      · rw [if_pos d] at h1
        exact⟨by omega,by simpa using h1⟩
      · rw [if_neg d] at h1;simp at h1
    · rcases c with c|c
      · rw [c] at e
        by_cases d:x.f1 ≥ 0
        · by_cases a:x.f1 < 16
          · omega
          · simp [d,a] at e
        · simp [d] at e
      · rw [c] at e
        by_cases d:x.f1 ≥ 0
        · by_cases a:x.f1 < 60
          · omega
          · simp [d,a] at e
        · simp [d] at e
theorem wO (k:p.length≤255) {st:St} {x:cR} (h:mV x):WE s p st (kX st x) (rI s p):=by
  obtain⟨h0,hF⟩:=sC h
  obtain⟨F,f1,_⟩:=iP x.f0
  obtain⟨hn,hi⟩:=hF F f1
  have a:∀ (st:St) (t:ByteArray),W s p st (tx st t) (rT s p) t:=fun st t=>vK k t
  have j:∀ i,WE s p (nm st x.f0) i (oY s p F x.f0)→WE s p st i (rI s p):=by
    intro i h1
    unfold rI
    refine WE.bnd (pX x.f0 (by omega) (uU h0)) ?_
    simp only [f1]
    exact h1
  unfold kX
  rw [f1]
  show WE s p st (oW F st x) (rI s p)
  refine j _ ?_
  unfold oW oY
  by_cases c1:F.toList=([110]:List UInt8)
  · rw [if_pos c1,if_pos c1]
    refine WE.bnd (st1:=((nm st x.f0).1,(nm st x.f0).2++bytesOf (q4 x.f1))) (v1:=x.f1) ⟨List.prefix_refl _,fun _=>⟨_,rfl,uT x.f1 (hn c1)⟩⟩ WE.ret
  rw [if_neg c1,if_neg c1]
  by_cases c2:F.toList=([105]:List UInt8)
  · rw [if_pos c2,if_pos (.inl c2)]
    exact WE.bnd (tV x.f1 (hi (.inl c2))) WE.ret
  rw [if_neg c2]
  by_cases c3:F.toList=([116]:List UInt8)
  · rw [if_pos c3,if_pos (.inr c3)]
    exact WE.bnd (tV x.f1 (hi (.inr c3))) WE.ret
  rw [if_neg c3,if_neg (show ¬ (F.toList=([105]:List UInt8)∨F.toList=([116]:List UInt8)) from fun h=>h.elim c2 c3)]
  by_cases c4:F.toList=([99]:List UInt8)
  · rw [if_pos c4,if_pos c4]
    exact WE.bnd (a _ _) WE.ret
  rw [if_neg c4,if_neg c4]
  by_cases c5:F.toList=([121]:List UInt8)
  · rw [if_pos c5,if_pos c5]
    exact WE.bnd (a _ _) WE.ret
  rw [if_neg c5,if_neg c5]
  have h3:WE s p (nm st x.f0) (tx (tx (tx (nm st x.f0) x.f2) x.f3) x.f4) (rb (rT s p) (fun c=>rb (rT s p) (fun n=>rb (rT s p) (fun d=>gZ (⟨x.f0,0,c,n,d⟩:cR))))):=WE.bnd (a _ _) (WE.bnd (a _ _) (WE.bnd (a _ _) WE.ret))
  by_cases b:F.toList=([102]:List UInt8)
  · rw [if_pos b,if_pos (.inl b)];exact h3
  rw [if_neg b]
  by_cases e:F.toList=([109]:List UInt8)
  · rw [if_pos e,if_pos (.inr e)];exact h3
  rw [if_neg e,if_neg (show ¬ (F.toList=([102]:List UInt8)∨F.toList=([109]:List UInt8)) from fun h=>h.elim b e)]
  exact WE.ret
theorem wN (a:p.length≤255) {st:St} {x:dG} (h:(0≤x.f0∧x.f0≤255)∧(0≤x.f1∧x.f1≤255)∧(0≤x.f2∧x.f2≤255)):WE s p st (rZ st x) (rH s p):=
  WE.bnd (tV _ h.1) (WE.bnd (tV _ h.2.1) (WE.bnd (tV _ h.2.2) (WE.bnd (vK a _) WE.ret)))
theorem nH {α β:Type} {st:St} {m:Rd β} {G:St→α→St} (a:List α) (n:Int) (b:n=(a.length:Int)) (h:∀ x∈a,∀ st,WE s p st (G st x) m):WE s p st (a.foldl G st) (rN m n.toNat):=by
  subst b
  rw [show ((a.length:Nat):Int).toNat=a.length by omega]
  exact WE.fold a st h
theorem vS (a b c:Bool):0≤mR a b c∧mR a b c≤7:=by cases a <;> cases b <;> cases c <;> decide
theorem xH (a b:Bool):0≤mR a b false∧mR a b false≤3:=by cases a <;> cases b <;> decide
theorem xG (a:Bool):0≤mR a false false∧mR a false false≤1:=by cases a <;> decide
theorem uY (b:p.length≤255) {st:St} {m:eH} (h:mP m):WE s p st (kD st m) (rM s p):=by
  obtain⟨⟨_,_,j,k,l0,l1⟩,hb⟩:=h
  have d:m.f7.length≤60∧m.f8.length≤6∧(∀ x∈m.f7,mV x)∧∀ x∈m.f8,rQ m.f7.length x:=by
    unfold oD at hb
    by_cases c:m.f3=true
    · rw [if_pos c] at hb
      have e:=List.eq_nil_of_length_eq_zero hb.2.2.1
      have i:=List.eq_nil_of_length_eq_zero hb.2.2.2.1
      rw [e,i]
      exact⟨by simp,by simp,fun x a=>absurd a (by simp),fun x a=>absurd a (by simp)⟩
    · rw [if_neg c] at hb
      exact⟨hb.1.2.1,hb.1.2.2.1,fun x a=>(hb.1.2.2.2.1 x a).1,hb.1.2.2.2.2⟩
  obtain⟨n,o,hI,hH⟩:=d
  have q:=vS m.f2 m.f3 m.f4
  unfold kD rM
  refine WE.bnd (vK b m.f0) (WE.bnd (vK b m.f1) (WE.bnd (pX (mR m.f2 m.f3 m.f4) (by omega) (nD 3 (by omega))) (WE.bnd (tV m.f5 (by omega)) (WE.bnd (tV m.f6 (by omega)) (WE.bnd (tV (m.f7.length:Int) (by omega)) ?_)))))
  refine WE.any (nH m.f7 _ rfl (fun x a st=>wO b (hI x a))) (fun _=>WE.bnd (tV (m.f8.length:Int) (by omega)) (WE.any (nH m.f8 _ rfl (fun x a st=>?_)) (fun _=>WE.ret)))
  obtain⟨a1,r,t,a4,u,_⟩:=hH x a
  exact wN b ⟨by omega,by omega,by omega⟩
theorem tX (a:p.length≤255) {st:St} (x:eO):WE s p st (kJ st x) (rX s p):=by
  have b:=xG x.f2
  exact WE.bnd (vK a x.f0) (WE.bnd (vK a x.f1) (WE.bnd (pX (mR x.f2 false false) (by omega) (nD 3 (by omega))) WE.ret))
theorem tW (c:p.length≤255) (n u:ByteArray) (f b:Bool) (d:List eO) (a:List eH) (j:d.length≤8) (k:a.length≤10) (e:∀ m∈a,mP m):WE s p ([],[]) (kR n u f b d a) (rC s p):=by
  have o:=xH f b
  unfold kR rC
  refine WE.bnd (vK c n) (WE.bnd (vK c u) (WE.bnd (pX (mR f b false) (by omega) (nD 3 (by omega))) (WE.bnd (tV (d.length:Int) (by omega)) ?_)))
  exact WE.any (nH d _ rfl (fun x _ st=>tX c x)) (fun _=>WE.bnd (tV (a.length:Int) (by omega)) (WE.any (nH a _ rfl (fun x i st=>uY c (e x i))) (fun _=>WE.ret)))
end
def LW:List ByteArray:=[⟨#[]⟩,⟨#[49,97]⟩,⟨#[97,32,98]⟩,⟨#[97,98,99,100,101,102,103,104,105,106,107,108,109,110,111,112,113,114,115,116]⟩,⟨#[97,98,99,100,101,102,103,104,105,106,107,108,109,110,111,112,113,114,115,116,117]⟩,⟨#[10]⟩,⟨#[255]⟩,⟨#[65]⟩,⟨#[66]⟩,⟨#[79,98,106,101,99,116]⟩,⟨#[120,36,49]⟩,⟨#[114,117,110]⟩,⟨#[102]⟩,⟨#[109,97,105,110]⟩,
  ⟨#[86]⟩,⟨#[76,59]⟩,⟨#[76,65]⟩,⟨#[91,91,73]⟩,⟨#[73,59]⟩,⟨#[76,49,59]⟩,⟨#[76,97,98,99,100,101,102,103,104,105,106,107,108,109,110,111,112,113,114,115,116,59]⟩,⟨#[76,97,98,99,100,101,102,103,104,105,106,107,108,109,110,111,112,113,114,115,116,117,59]⟩,⟨#[73]⟩,⟨#[76,65,59]⟩,⟨#[76,66,59]⟩,⟨#[76,79,98,106,101,99,116,59]⟩,⟨#[91,73]⟩,⟨#[91,76,65,59]⟩,
  ⟨#[120]⟩,⟨#[121]⟩,⟨#[60,105,110,105,116,62]⟩,⟨#[40,41,86]⟩,⟨#[40,73,41,73]⟩]
theorem vJ (n:Int):IntKind.u64.wrap n=n % 18446744073709551616:=IntKind.wrap_u64 n
theorem kH (b:List Int) (i m z:Int) (a:Int) (h0:0≤i) (q:b.length≤140737488355328) (s:a≤9223372036854775807):
    ∃ r d j,bB.f b i m z a=some (r,d,j,z)∧0≤d∧0≤r∧(1≤a→r < a):=by
  unfold bB.f
  by_cases c1:a≤1
  · rw [if_pos c1]
    exact⟨_,_,_,rfl,h0,by omega,fun h=>by omega⟩
  · rw [if_neg c1]
    have k:IntKind.u64.wrap a=a:=by rw [vJ];omega
    have c:∀ X:Int,0≤wrap64 (Int.tmod (IntKind.u64.wrap X) a)∧wrap64 (Int.tmod (IntKind.u64.wrap X) a) < a:=by
      intro X
      have n:0≤IntKind.u64.wrap X:=by rw [vJ];omega
      rw [Int.tmod_eq_emod_of_nonneg n]
      have o:=Int.emod_nonneg (IntKind.u64.wrap X) (b:=a) (by omega)
      have p:=Int.emod_lt_of_pos (IntKind.u64.wrap X) (b:=a) (by omega)
      have e:wrap64 (IntKind.u64.wrap X % a)=IntKind.u64.wrap X % a:=by unfold wrap64;omega
      rw [e]
      exact⟨o,p⟩
    rw [k]
    by_cases c2:i < (b.length:Int)
    · rw [if_pos c2,if_pos h0,if_neg (by omega)]
      refine⟨_,_,_,rfl,?_,(c _).1,fun _=>(c _).2⟩
      unfold wrap64;omega
    · rw [if_neg c2,if_neg (by omega)]
      exact⟨_,_,_,rfl,h0,(c _).1,fun _=>(c _).2⟩
theorem rV (l0:List Int) (j:l0.length≤140737488355328) (d:Nat):∀ (k:Nat) (i m:Int),0≤i→i+d=64→d < k→∃ b z,cC.l0 k l0 i l0 0 m 0=some (l0,0,b,z):=by
  have a:∀ m:Int,∃ b z,(if (wrap64 ((l0.length:Int) / 20)) > 12 then (some (l0,(0:Int),m,(12:Int))) else (some (l0,0,m,wrap64 ((l0.length:Int) / 20))))=some (l0,0,b,z):=by
    intro m
    split
    · exact⟨_,_,rfl⟩
    · exact⟨_,_,rfl⟩
  induction d with
  | zero =>
    intro k i m h0 h1 c
    obtain⟨k,rfl⟩:∃ m,k=m+1:=⟨k - 1,by omega⟩
    simp only [cC.l0]
    by_cases c1:i < (l0.length:Int)
    · rw [if_pos c1,if_neg (by omega)];exact a m
    · rw [if_neg c1];exact a m
  | succ d ih =>
    intro k i m h0 h1 c
    obtain⟨k,rfl⟩:∃ m,k=m+1:=⟨k - 1,by omega⟩
    simp only [cC.l0]
    by_cases c1:i < (l0.length:Int)
    · rw [if_pos c1,if_pos (by omega),if_pos h0]
      have e:wrap64 (i+1)=i+1:=by unfold wrap64;omega
      rw [e]
      exact ih k _ _ (by omega) (by omega) (by omega)
    · rw [if_neg c1];exact a m
theorem pN (l0:List Int) (a:l0.length≤140737488355328):∃ m z,cC.f 65 l0=some (l0,0,m,z):=rV l0 a 64 65 0 _ (by omega) (by omega) (by omega)
theorem lV (b:List Int) (i m z c:Int) (h0:0≤i) (j:b.length≤140737488355328) (k:c≤9223372036854775807):∃ r a d,bH.f b i m z c=some (r,a,d,z)∧0≤a:=by
  obtain⟨r,a,d,e,h1,_⟩:=kH b i m z c h0 j k
  exact⟨r == 0,a,d,by unfold bH.f;rw [e];rfl,h1⟩
theorem hD (b:List Int) (i m z:Int) (l:List ByteArray) (h0:0≤i) (d:b.length≤140737488355328) (k:0 < l.length) (j:l.length≤1000):∃ s a c,aY.f b i m z l=some (s,a,c,z)∧0≤a∧s∈l:=by
  obtain⟨r,a,c,e,h1,h2,h3⟩:=kH b i m z (l.length:Int) h0 d (by omega)
  have h4:=h3 (by omega)
  refine⟨rdOf ByteArray.empty l r,a,c,by unfold aY.f;rw [e];simp only [Option.bind_some];rw [if_pos h2,if_pos h4],h1,?_⟩
  rw [rL _ _ _ (by omega)]
  exact List.getElem_mem _
theorem mI (b:List Int) (i m z:Int) (h0:0≤i) (a:b.length≤140737488355328):∃ s d j,cZ.f b i m z=some (s,d,j,z)∧0≤d∧s∈LW:=by
  obtain⟨r,e,m1,k,h1⟩:=lV b i m z 30 h0 a (by omega)
  unfold cZ.f
  rw [k]
  simp only [Option.bind_some]
  split
  · obtain⟨s,i2,m2,c,h2,h3⟩:=hD b e m1 z [(⟨#[]⟩:ByteArray),(⟨#[49,97]⟩:ByteArray),(⟨#[97,32,98]⟩:ByteArray),(⟨#[97,98,99,100,101,102,103,104,105,106,107,108,109,110,111,112,113,114,115,116]⟩:ByteArray),(⟨#[97,98,99,100,101,102,103,104,105,106,107,108,109,110,111,112,113,114,115,116,117]⟩:ByteArray),(⟨#[10]⟩:ByteArray),(⟨#[255]⟩:ByteArray)] h1 a (by decide) (by decide)
    rw [c]
    refine⟨s,i2,m2,rfl,h2,?_⟩
    simp only [List.mem_cons,List.not_mem_nil,or_false] at h3
    rcases h3 with rfl|rfl|rfl|rfl|rfl|rfl|rfl <;> simp [LW]
  · obtain⟨s,i2,m2,c,h2,h3⟩:=hD b e m1 z [(⟨#[65]⟩:ByteArray),(⟨#[66]⟩:ByteArray),(⟨#[79,98,106,101,99,116]⟩:ByteArray),(⟨#[120,36,49]⟩:ByteArray),(⟨#[114,117,110]⟩:ByteArray),(⟨#[102]⟩:ByteArray),(⟨#[109,97,105,110]⟩:ByteArray)] h1 a (by decide) (by decide)
    rw [c]
    refine⟨s,i2,m2,rfl,h2,?_⟩
    simp only [List.mem_cons,List.not_mem_nil,or_false] at h3
    rcases h3 with rfl|rfl|rfl|rfl|rfl|rfl|rfl <;> simp [LW]
theorem oI (b:List Int) (i m z:Int) (h0:0≤i) (a:b.length≤140737488355328):∃ s d j,dN.f b i m z=some (s,d,j,z)∧0≤d∧s∈LW:=by
  obtain⟨r,e,m1,k,h1⟩:=lV b i m z 30 h0 a (by omega)
  unfold dN.f
  rw [k]
  simp only [Option.bind_some]
  split
  · obtain⟨s,i2,m2,c,h2,h3⟩:=hD b e m1 z [(⟨#[]⟩:ByteArray),(⟨#[86]⟩:ByteArray),(⟨#[76,59]⟩:ByteArray),(⟨#[76,65]⟩:ByteArray),(⟨#[91,91,73]⟩:ByteArray),(⟨#[73,59]⟩:ByteArray),(⟨#[76,49,59]⟩:ByteArray),(⟨#[76,97,98,99,100,101,102,103,104,105,106,107,108,109,110,111,112,113,114,115,116,59]⟩:ByteArray),(⟨#[76,97,98,99,100,101,102,103,104,105,106,107,108,109,110,111,112,113,114,115,116,117,59]⟩:ByteArray)] h1 a (by decide) (by decide)
    rw [c]
    refine⟨s,i2,m2,rfl,h2,?_⟩
    simp only [List.mem_cons,List.not_mem_nil,or_false] at h3
    rcases h3 with rfl|rfl|rfl|rfl|rfl|rfl|rfl|rfl|rfl <;> simp [LW]
  · obtain⟨s,i2,m2,c,h2,h3⟩:=hD b e m1 z [(⟨#[73]⟩:ByteArray),(⟨#[73]⟩:ByteArray),(⟨#[76,65,59]⟩:ByteArray),(⟨#[76,66,59]⟩:ByteArray),(⟨#[76,79,98,106,101,99,116,59]⟩:ByteArray),(⟨#[91,73]⟩:ByteArray),(⟨#[91,76,65,59]⟩:ByteArray)] h1 a (by decide) (by decide)
    rw [c]
    refine⟨s,i2,m2,rfl,h2,?_⟩
    simp only [List.mem_cons,List.not_mem_nil,or_false] at h3
    rcases h3 with rfl|rfl|rfl|rfl|rfl|rfl|rfl <;> simp [LW]
theorem rU (b:List Int) (i m z:Int) (h0:0≤i) (d:b.length≤140737488355328):∃ v a e,eR.f b i m z=some (v,a,e,z)∧0≤a∧-9223372036854775808≤v∧v≤9223372036854775807:=by
  obtain⟨r,j,m1,k,h1,h2,h3⟩:=kH b i m z 14 h0 d (by omega)
  have h4:=h3 (by omega)
  unfold eR.f
  rw [k]
  simp only [Option.bind_some]
  rw [if_pos h2,if_pos (show r < (([0,1,(-1),2,1000,1001,2147483648,2147483647,(-2147483648),4611686018427387904,9223372036854775807,(-9223372036854775808),1000000,1000001]:List Int).length:Int) from h4)]
  refine⟨_,j,m1,rfl,h1,?_⟩
  have c:∀ n:Nat,n < 14→-9223372036854775808≤rd ([0,1,(-1),2,1000,1001,2147483648,2147483647,(-2147483648),4611686018427387904,9223372036854775807,(-9223372036854775808),1000000,1000001]:List Int) (n:Int)∧rd ([0,1,(-1),2,1000,1001,2147483648,2147483647,(-2147483648),4611686018427387904,9223372036854775807,(-9223372036854775808),1000000,1000001]:List Int) (n:Int)≤9223372036854775807:=by decide
  have h5:=c r.toNat (by omega)
  rwa [show ((r.toNat:Nat):Int)=r by omega] at h5
def sQ (o a:Int) (c n d:ByteArray):Prop:=(-1≤o∧o≤46)∧(-9223372036854775808≤a∧a≤9223372036854775807)∧c∈LW∧n∈LW∧d∈LW
theorem sB (k:Nat) (b:List Int) (i m z o a:Int) (c n d:ByteArray):aZ.j0 (k+1) b i m z o a c n d=(bH.f b i m z 12).bind fun t=>(if t.1=true then ((bB.f b t.2.1 t.2.2.1 t.2.2.2 5).bind fun u=>(if u.1=0 then ((bB.f b u.2.1 u.2.2.1 u.2.2.2 47).bind fun v=>(some (wrap64 (v.1 - 1),a,c,n,d,v.2.1,v.2.2.1,v.2.2.2))) else (if u.1=1 then ((eR.f b u.2.1 u.2.2.1 u.2.2.2).bind fun v=>(some (o,v.1,c,n,d,v.2.1,v.2.2.1,v.2.2.2))) else (if u.1=2 then ((cZ.f b u.2.1 u.2.2.1 u.2.2.2).bind fun v=>(some (o,a,v.1,n,d,v.2.1,v.2.2.1,v.2.2.2))) else (if u.1=3 then ((cZ.f b u.2.1 u.2.2.1 u.2.2.2).bind fun v=>(some (o,a,c,v.1,d,v.2.1,v.2.2.1,v.2.2.2))) else ((dN.f b u.2.1 u.2.2.1 u.2.2.2).bind fun v=>(some (o,a,c,n,v.1,v.2.1,v.2.2.1,v.2.2.2)))))))) else (some (o,a,c,n,d,t.2.1,t.2.2.1,t.2.2.2))):=rfl
theorem kC (k:Nat) (b:List Int) (i m z o a:Int) (c n d:ByteArray) (h0:0≤i) (j:b.length≤140737488355328) (h:sQ o a c n d):
    ∃ q a' t u x y A,aZ.j0 (k+1) b i m z o a c n d=some (q,a',t,u,x,y,A,z)∧0≤y∧sQ q a' t u x:=by
  obtain⟨ho,ha,hc,hn,hd⟩:=h
  obtain⟨r,B,m1,D,h1⟩:=lV b i m z 12 h0 j (by omega)
  rw [sB,D]
  simp only [Option.bind_some]
  split
  · obtain⟨G,i2,m2,E,h2,_⟩:=kH b B m1 z 5 h1 j (by omega)
    rw [E]
    simp only [Option.bind_some]
    split
    · obtain⟨I,p,m3,e,h3,h4,h5⟩:=kH b i2 m2 z 47 h2 j (by omega)
      have h6:=h5 (by omega)
      rw [e]
      exact⟨_,_,_,_,_,_,_,rfl,h3,⟨by unfold wrap64;omega,by unfold wrap64;omega⟩,ha,hc,hn,hd⟩
    · split
      · obtain⟨v,p,m3,e,h3,h4⟩:=rU b i2 m2 z h2 j
        rw [e]
        exact⟨_,_,_,_,_,_,_,rfl,h3,ho,h4,hc,hn,hd⟩
      · split
        · obtain⟨s,p,m3,e,h3,h4⟩:=mI b i2 m2 z h2 j
          rw [e]
          exact⟨_,_,_,_,_,_,_,rfl,h3,ho,ha,h4,hn,hd⟩
        · split
          · obtain⟨s,p,m3,e,h3,h4⟩:=mI b i2 m2 z h2 j
            rw [e]
            exact⟨_,_,_,_,_,_,_,rfl,h3,ho,ha,hc,h4,hd⟩
          · obtain⟨s,p,m3,e,h3,h4⟩:=oI b i2 m2 z h2 j
            rw [e]
            exact⟨_,_,_,_,_,_,_,rfl,h3,ho,ha,hc,hn,h4⟩
  · exact⟨_,_,_,_,_,_,_,rfl,h1,ho,ha,hc,hn,hd⟩
theorem qA:(⟨#[]⟩:ByteArray)∈LW:=by simp [LW]
theorem sY (b:List Int) (i m z:Int) (h0:0≤i) (e:b.length≤140737488355328):
    ∃ o a c n d p u,Ev (fun k=>aZ.f k b i m z) (o,a,c,n,d,p,u,z)∧0≤p∧sQ o a c n d:=by
  suffices ∃ o a c n d p u,aZ.f 20 b i m z=some (o,a,c,n,d,p,u,z)∧0≤p∧sQ o a c n d by
    obtain⟨o,a,c,n,d,p,u,h1,h2,h3⟩:=this
    exact⟨o,a,c,n,d,p,u,⟨20,fun k A=>at_rounds (g:=fun k=>aZ.f k b i m z) (fun k=>aZ.mono _ _ _ _ _) A h1⟩,h2,h3⟩
  obtain⟨r,q,m1,B,h1,h2,h3⟩:=kH b i m z 44 h0 e (by omega)
  have h4:=h3 (by omega)
  have w1:wrap64 (1+r)=1+r:=by unfold wrap64;omega
  obtain⟨F,_,f2⟩:=iP (1+r)
  unfold aZ.f
  rw [B,Option.bind_some]
  show ∃ o a c n d p u,((bU.f 20 (wrap64 (1+r))).bind _)=_∧_
  rw [w1,f2 20 (by omega),Option.bind_some]
  have t:-1≤1+r∧1+r≤46:=by omega
  have v:(-9223372036854775808:Int)≤0∧(0:Int)≤9223372036854775807:=by omega
  by_cases c0:F.toList=([110]:List UInt8)
  · rw [if_pos c0]
    obtain⟨x,i2,m2,j,h5,h6,h7⟩:=kH b q m1 z 20 h1 e (by omega)
    have h8:=h7 (by omega)
    rw [j]
    exact kC 19 b i2 m2 z _ _ _ _ _ h5 e ⟨t,⟨by unfold wrap64;omega,by unfold wrap64;omega⟩,qA,qA,qA⟩
  rw [if_neg c0]
  by_cases c1:F.toList=([105]:List UInt8)
  · rw [if_pos c1]
    obtain⟨x,i2,m2,j,h5,h6,h7⟩:=kH b q m1 z 4 h1 e (by omega)
    have h8:=h7 (by omega)
    rw [j]
    exact kC 19 b i2 m2 z _ _ _ _ _ h5 e ⟨t,⟨by omega,by omega⟩,qA,qA,qA⟩
  rw [if_neg c1]
  by_cases c2:F.toList=([116]:List UInt8)
  · rw [if_pos c2]
    obtain⟨x,i2,m2,j,h5,h6,h7⟩:=kH b q m1 z 6 h1 e (by omega)
    have h8:=h7 (by omega)
    rw [j]
    exact kC 19 b i2 m2 z _ _ _ _ _ h5 e ⟨t,⟨by omega,by omega⟩,qA,qA,qA⟩
  rw [if_neg c2]
  by_cases c3:F.toList=([99]:List UInt8)
  · rw [if_pos c3]
    obtain⟨s,i2,m2,j,h5,h6⟩:=hD b q m1 z [(⟨#[65]⟩:ByteArray),(⟨#[66]⟩:ByteArray),(⟨#[79,98,106,101,99,116]⟩:ByteArray)] h1 e (by decide) (by decide)
    rw [j]
    refine kC 19 b i2 m2 z _ _ _ _ _ h5 e ⟨t,v,?_,qA,qA⟩
    simp only [List.mem_cons,List.not_mem_nil,or_false] at h6
    rcases h6 with rfl|rfl|rfl <;> simp [LW]
  rw [if_neg c3]
  by_cases c4:F.toList=([121]:List UInt8)
  · rw [if_pos c4]
    obtain⟨s,i2,m2,j,h5,h6⟩:=hD b q m1 z [(⟨#[73]⟩:ByteArray),(⟨#[76,65,59]⟩:ByteArray)] h1 e (by decide) (by decide)
    rw [j]
    refine kC 19 b i2 m2 z _ _ _ _ _ h5 e ⟨t,v,qA,qA,?_⟩
    simp only [List.mem_cons,List.not_mem_nil,or_false] at h6
    rcases h6 with rfl|rfl <;> simp [LW]
  rw [if_neg c4]
  by_cases c5:F.toList=([102]:List UInt8)
  · rw [if_pos c5]
    obtain⟨s,i2,m2,j,h5,h6⟩:=hD b q m1 z [(⟨#[120]⟩:ByteArray),(⟨#[121]⟩:ByteArray)] h1 e (by decide) (by decide)
    rw [j]
    refine kC 19 b i2 m2 z _ _ _ _ _ h5 e ⟨t,v,by simp [LW],?_,by simp [LW]⟩
    simp only [List.mem_cons,List.not_mem_nil,or_false] at h6
    rcases h6 with rfl|rfl <;> simp [LW]
  rw [if_neg c5]
  by_cases y:F.toList=([109]:List UInt8)
  · rw [if_pos y]
    obtain⟨s,i2,m2,j,h5,h6⟩:=hD b q m1 z [(⟨#[102]⟩:ByteArray),(⟨#[60,105,110,105,116,62]⟩:ByteArray)] h1 e (by decide) (by decide)
    obtain⟨G,D,m3,E,h7,h8⟩:=hD b i2 m2 z [(⟨#[40,41,86]⟩:ByteArray),(⟨#[40,73,41,73]⟩:ByteArray)] h5 e (by decide) (by decide)
    rw [j,Option.bind_some,E]
    refine kC 19 b D m3 z _ _ _ _ _ h7 e ⟨t,v,by simp [LW],?_,?_⟩
    · simp only [List.mem_cons,List.not_mem_nil,or_false] at h6
      rcases h6 with rfl|rfl <;> simp [LW]
    · simp only [List.mem_cons,List.not_mem_nil,or_false] at h8
      rcases h8 with rfl|rfl <;> simp [LW]
  rw [if_neg y]
  exact kC 19 b q m1 z _ _ _ _ _ h1 e ⟨t,v,qA,qA,qA⟩
def LX:List ByteArray:=LW++[⟨#[103]⟩,⟨#[40,73,76,65,59,41,76,65,59]⟩,⟨#[40,73,41,86]⟩,⟨#[69,114,114,111,114]⟩,⟨#[122]⟩]
theorem mL {s:ByteArray} (h:s∈LW):s∈LX:=List.mem_append_left _ h
theorem jS:∀ s∈LX,s.size≤23:=by decide +kernel
def IX (i:cR):Prop:=i.f2∈LX∧i.f3∈LX∧i.f4∈LX
def MX (m:eH):Prop:=m.f0∈LX∧m.f1∈LX∧(m.f7.length≤100∧∀ i∈m.f7,IX i)∧(m.f8.length≤100∧∀ h∈m.f8,h.f3∈LX)
def FX (f:eO):Prop:=f.f0∈LX∧f.f1∈LX
section
variable (b:List Int) (hb:b.length≤140737488355328)
include hb
theorem dn (i m z a:Int) (h0:0≤i) (c:a≤9223372036854775807):EvB (fun _=>bB.f b i m z a) (fun r=>0≤r.2.1∧0≤r.1∧(1≤a→r.1 < a)):=by
  obtain⟨r,i',m',e,h1,h2,h3⟩:=kH b i m z a h0 hb c
  exact⟨_,Ev.congr (fun _=>e) (Ev.now _),h1,h2,h3⟩
theorem d1 (i m z a:Int) (h0:0≤i) (c:a≤9223372036854775807):EvB (fun _=>bH.f b i m z a) (fun r=>0≤r.2.1):=by
  obtain⟨r,i',m',e,h1⟩:=lV b i m z a h0 hb c
  exact⟨_,Ev.congr (fun _=>e) (Ev.now _),h1⟩
theorem dp (i m z:Int) (l:List ByteArray) (h0:0≤i) (h1:0 < l.length) (h2:l.length≤1000):EvB (fun _=>aY.f b i m z l) (fun r=>0≤r.2.1∧r.1∈l):=by
  obtain⟨s,i',m',e,h3,h4⟩:=hD b i m z l h0 hb h1 h2
  exact⟨_,Ev.congr (fun _=>e) (Ev.now _),h3,h4⟩
theorem dw (i m z:Int) (h0:0≤i):EvB (fun _=>cZ.f b i m z) (fun r=>0≤r.2.1∧r.1∈LW):=by
  obtain⟨s,i',m',e,h3,h4⟩:=mI b i m z h0 hb
  exact⟨_,Ev.congr (fun _=>e) (Ev.now _),h3,h4⟩
theorem dt (i m z:Int) (h0:0≤i):EvB (fun _=>dN.f b i m z) (fun r=>0≤r.2.1∧r.1∈LW):=by
  obtain⟨s,i',m',e,h3,h4⟩:=oI b i m z h0 hb
  exact⟨_,Ev.congr (fun _=>e) (Ev.now _),h3,h4⟩
theorem di (i m z:Int) (h0:0≤i):EvB (fun k=>aZ.f k b i m z) (fun r=>0≤r.2.2.2.2.2.1∧sQ r.1 r.2.1 r.2.2.1 r.2.2.2.1 r.2.2.2.2.1):=by
  obtain⟨o,a,c,n,d,i',m',e,h3,h4⟩:=sY b i m z h0 hb
  exact⟨_,e,h3,h4⟩
def MR (r:ByteArray×ByteArray×Bool×Bool×Bool×Int×Int×List cR×List dG×Int×Int×Int):Prop:=MX ⟨r.1,r.2.1,r.2.2.1,r.2.2.2.1,r.2.2.2.2.1,r.2.2.2.2.2.1,r.2.2.2.2.2.2.1,r.2.2.2.2.2.2.2.1,r.2.2.2.2.2.2.2.2.1⟩∧0≤r.2.2.2.2.2.2.2.2.2.1
omit hb in
theorem mr {n e:ByteArray} {s a f:Bool} {x y:Int} {c:List cR} {h:List dG} {i m z:Int} (b:n∈LX) (d:e∈LX) (j:c.length≤100) (k:∀ i∈c,IX i) (o:h.length≤100) (p:∀ q∈h,q.f3∈LX) (h0:0≤i):MR (n,e,s,a,f,x,y,c,h,i,m,z):=⟨⟨b,d,⟨j,k⟩,o,p⟩,h0⟩
omit hb in
theorem mZ {l:List cR} {x:cR} (h:∀ i∈l,IX i) (b:IX x):∀ i∈l++[x],IX i:=by
  intro i a
  rcases List.mem_append.mp a with a|a
  · exact h i a
  · rw [List.mem_singleton.mp a];exact b
theorem xE (d:Nat):∀ (i m z:Int) (n e:ByteArray) (s a f:Bool) (x y:Int) (c:List cR) (h:List dG),0≤i→n∈LX→e∈LX→c.length≤70→c.length+d ≥ 61→(∀ i∈c,IX i)→h.length≤90→(∀ q∈h,q.f3∈LX)→EvB (fun k=>aC.l1 k b i m z n e s a f x y c h) MR:=by
  induction d with
  | zero =>
    intro i m z n e s a f x y c h h0 o p B D r u t
    refine EvB.step (fun k=>by rw [aC.l1]) (EvB.then (dn b hb i m z 3 h0 (by omega)) (fun v j=>?_))
    have h3:=j.2.2 (by omega)
    have w:wrap64 (59+v.1)=59+v.1:=by have:=j.2.1;unfold wrap64;omega
    refine EvB.ite (fun h=>absurd h (by rw [w];omega)) (fun _=>EvB.now (mr o p (by omega) r (by omega) t j.1))
  | succ d ih =>
    intro i m z n e s a f x y c h h0 o p B D r u t
    refine EvB.step (fun k=>by rw [aC.l1]) (EvB.then (dn b hb i m z 3 h0 (by omega)) (fun v j=>?_))
    have h3:=j.2.2 (by omega)
    have w:wrap64 (59+v.1)=59+v.1:=by have:=j.2.1;unfold wrap64;omega
    refine EvB.ite (fun A=>?_) (fun _=>EvB.now (mr o p (by omega) r (by omega) t j.1))
    rw [w] at A
    exact EvB.ifp (by omega) (ih _ _ _ _ _ _ _ _ _ _ _ _ j.1 o p (by simp;omega) (by simp;omega) (mZ r ⟨by simp [LX,LW],by simp [LX,LW],by simp [LX,LW]⟩) u t)
theorem vD (i m z:Int) (n e:ByteArray) (s a f:Bool) (x y:Int) (c:List cR) (h:List dG) (h0:0≤i) (o:n∈LX) (D:e∈LX) (P:c.length≤8) (E:∀ i∈c,IX i) (T:h.length≤8) (j:∀ q∈h,q.f3∈LX):EvB (fun k=>aC.j4 k b i m z n e s a f x y c h) MR:=by
  refine EvB.step (fun k=>by rw [aC.j4]) (EvB.then (d1 b hb i m z 20 h0 (by omega)) (fun v G=>?_))
  have ok:∀ (A K:ByteArray) (s a f:Bool) (x y:Int) (t:List dG) (i m z:Int),0≤i→A∈LX→t.length≤90→(∀ q∈t,q.f3∈LX)→MR (A,e,s,a,f,x,y,c,t,i,m,z):=fun A K s a f x y t i m z L M U O=>mr M D (by omega) E (by omega) O L
  refine EvB.ite (fun _=>EvB.then (dn b hb _ _ _ 6 G (by omega)) (fun u p=>?_)) (fun _=>EvB.now (ok n e _ _ _ _ _ _ _ _ _ G o (by omega) j))
  refine EvB.ite (fun _=>?_) (fun _=>EvB.ite (fun _=>?_) (fun _=>EvB.ite (fun _=>?_) (fun _=>EvB.ite (fun _=>?_) (fun _=>EvB.ite (fun _=>?_) (fun _=>?_)))))
  · refine EvB.bind (Ev.now _) (EvB.then (dn b hb _ _ _ 3 p.1 (by omega)) (fun w d=>EvB.ifp d.2.1 (EvB.ifp (d.2.2 (by omega)) (EvB.now (ok n e _ _ _ _ _ _ _ _ _ d.1 o (by omega) j)))))
  · refine EvB.bind (Ev.now _) (EvB.then (dn b hb _ _ _ 3 p.1 (by omega)) (fun w d=>EvB.ifp d.2.1 (EvB.ifp (d.2.2 (by omega)) (EvB.now (ok n e _ _ _ _ _ _ _ _ _ d.1 o (by omega) j)))))
  · refine EvB.then (dn b hb _ _ _ 3 p.1 (by omega)) (fun w d=>EvB.then (dn b hb _ _ _ 3 d.1 (by omega)) (fun X I=>EvB.then (dn b hb _ _ _ 9 I.1 (by omega)) (fun Y J=>EvB.then (dw b hb _ _ _ J.1) (fun Z B=>EvB.ifp (by omega) (EvB.now (ok n e _ _ _ _ _ _ _ _ _ B.1 o (by simp;omega) ?_))))))
    intro q r
    rcases List.mem_append.mp r with r|r
    · exact j q r
    · rw [List.mem_singleton.mp r];exact mL B.2
  · exact xE b hb 61 _ _ _ _ _ _ _ _ _ _ _ _ p.1 o D (by omega) (by omega) E (by omega) j
  · exact EvB.now (ok n e _ _ _ _ _ _ _ _ _ p.1 o (by omega) j)
  · exact EvB.then (dw b hb _ _ _ p.1) (fun w d=>EvB.now (ok _ e _ _ _ _ _ _ _ _ _ d.1 (mL d.2) (by omega) j))
theorem vC (i m z:Int) (n e:ByteArray) (s a f:Bool) (x y:Int) (c:List cR) (h:List dG) (h0:0≤i) (d:n∈LX) (j:e∈LX) (p:c.length≤8) (r:∀ i∈c,IX i) (u:h.length≤8) (A:∀ q∈h,q.f3∈LX):EvB (fun k=>aC.j2 k b i m z n e s a f x y c h) MR:=by
  have j3:∀ (t:Bool) (i m z:Int),0≤i→EvB (fun k=>aC.j3 k t b i m z n e s a f x y c h) MR:=fun t i m z h0=>
    EvB.step (fun k=>by rw [aC.j3]) (EvB.ite (fun _=>vD b hb i m z n e _ _ _ _ _ [] [] h0 d j (by simp) (by simp) (by simp) (by simp)) (fun _=>vD b hb i m z n e _ _ _ _ _ c h h0 d j p r u A))
  exact EvB.step (fun k=>by rw [aC.j2]) (EvB.then (d1 b hb i m z 8 h0 (by omega)) (fun v o=>EvB.ite (fun _=>j3 _ _ _ _ o) (fun _=>j3 _ _ _ _ o)))
omit hb in
theorem uH (o:Int):EvB (fun k=>bU.f k o) (fun _=>True):=by
  obtain⟨F,_,f2⟩:=iP o
  exact⟨F,⟨20,fun k a=>f2 k (by omega)⟩,trivial⟩
theorem xC (d:Nat):∀ (i m z:Int) (n e:ByteArray) (s a f:Bool) (x y:Int) (c:List cR),0≤i→n∈LX→e∈LX→c.length+d≤8→(∀ i∈c,IX i)→EvB (fun k=>aC.l0 k (d:Int) b i m z n e s a f x y c) MR:=by
  induction d with
  | zero =>
    intro i m z n e s a f x y c h0 j o I p
    refine EvB.step (fun k=>by rw [aC.l0,if_neg (by omega)]) (EvB.then (d1 b hb i m z 4 h0 (by omega)) (fun v r=>?_))
    refine EvB.ite (fun _=>EvB.ifp (by simp) (vC b hb _ _ _ _ _ _ _ _ _ _ _ _ r j o (by omega) p (by simp) ?_)) (fun _=>vC b hb _ _ _ _ _ _ _ _ _ _ _ _ r j o (by omega) p (by simp) (by simp))
    intro q D
    simp only [List.nil_append,List.mem_singleton] at D
    rw [D]
    simp [LX]
  | succ d ih =>
    intro i m z n e s a f x y c h0 j o I p
    have w:wrap64 (((d+1:Nat):Int) - 1)=(d:Int):=by unfold wrap64;omega
    refine EvB.step (fun k=>by rw [aC.l0,if_pos (by omega),w]) (EvB.then (di b hb i m z h0) (fun v r=>?_))
    obtain⟨E,_,_,t,A,B⟩:=r
    refine EvB.then (uH _) (fun F _=>EvB.ite (fun _=>?_) (fun _=>EvB.ifp (by omega) (ih _ _ _ _ _ _ _ _ _ _ _ E j o (by simp;omega) (mZ p ⟨mL t,mL A,mL B⟩))))
    refine EvB.then (d1 b hb _ _ _ 20 E (by omega)) (fun u G=>EvB.ite (fun _=>?_) (fun _=>?_))
    · exact EvB.ifp (by omega) (ih _ _ _ _ _ _ _ _ _ _ _ G j o (by simp;omega) (mZ p ⟨mL t,mL A,mL B⟩))
    · exact EvB.ifp (by omega) (ih _ _ _ _ _ _ _ _ _ _ _ G j o (by simp;omega) (mZ p ⟨mL t,mL A,mL B⟩))
theorem pM (i m z:Int) (h0:0≤i):EvB (fun k=>aC.f k b i m z) MR:=by
  have j0:∀ (i m z:Int) (n e:ByteArray) (s a f:Bool) (x y:Int),0≤i→n∈LX→e∈LX→EvB (fun k=>aC.j0 k b i m z n e s a f x y) MR:=fun i m z n e s a f x y h0 o p=>
    EvB.step (fun k=>by rw [aC.j0]) (EvB.then (dn b hb i m z 6 h0 (by omega)) (fun v c=>by
      have h3:=c.2.2 (by omega)
      have h4:=c.2.1
      have w:wrap64 (1+v.1)=((1+v.1.toNat:Nat):Int):=by unfold wrap64;omega
      rw [w]
      exact xC b hb _ _ _ _ _ _ _ _ _ _ _ _ c.1 o p (by simp;omega) (by simp)))
  unfold aC.f
  refine EvB.then (dp b hb _ _ _ _ h0 (by decide) (by decide)) (fun v1 h1=>EvB.then (dp b hb _ _ _ _ h1.1 (by decide) (by decide)) (fun q h2=>EvB.then (dn b hb _ _ _ 6 h2.1 (by omega)) (fun u h3=>EvB.then (dn b hb _ _ _ 3 h3.1 (by omega)) (fun A h4=>?_))))
  have d:v1.1∈LX:=by
    have h:=h1.2
    simp only [List.mem_cons,List.not_mem_nil,or_false] at h
    rcases h with h|h|h|h <;> rw [h] <;> simp [LX,LW]
  have r:q.1∈LX:=by
    have h:=h2.2
    simp only [List.mem_cons,List.not_mem_nil,or_false] at h
    rcases h with h|h|h <;> rw [h] <;> simp [LX,LW]
  refine EvB.ite (fun _=>EvB.then (dp b hb _ _ _ _ h4.1 (by decide) (by decide)) (fun j h5=>?_)) (fun _=>EvB.then (d1 b hb _ _ _ 2 h4.1 (by omega)) (fun j h5=>EvB.then (d1 b hb _ _ _ 6 h5 (by omega)) (fun B h6=>j0 _ _ _ _ _ _ _ _ _ _ h6 d r)))
  have t:j.1∈LX:=by
    have h:=h5.2
    simp only [List.mem_cons,List.not_mem_nil,or_false] at h
    rcases h with h|h <;> rw [h] <;> simp [LX,LW]
  exact j0 _ _ _ _ _ _ _ _ _ _ h5.1 d t
omit hb in
theorem tL {m:eH} (h:MX m):uA m:=by
  obtain⟨h0,h1,⟨h2,h3⟩,h4,h5⟩:=h
  have z:∀ {s:ByteArray},s∈LX→s.size≤1048576:=fun hs=>by have:=jS _ hs;omega
  exact⟨z h0,z h1,fun i a=>⟨z (h3 i a).1,z (h3 i a).2.1,z (h3 i a).2.2⟩,fun q b=>z (h5 q b),by omega,by omega⟩
def CR (r:ByteArray×ByteArray×Bool×Bool×List eO×List eH×Int×Int×Int):Prop:=(r.1∈LX∧r.2.1∈LX)∧(r.2.2.2.2.1.length≤100∧∀ f∈r.2.2.2.2.1,FX f)∧(r.2.2.2.2.2.1.length≤100∧∀ m∈r.2.2.2.2.2.1,MX m)∧0≤r.2.2.2.2.2.2.1
omit hb in
theorem cr {n u:ByteArray} {f a:Bool} {b:List eO} {c:List eH} {i m z:Int} (d:n∈LX) (e:u∈LX) (j:b.length≤100) (k:∀ f∈b,FX f) (o:c.length≤100) (p:∀ m∈c,MX m) (h0:0≤i):CR (n,u,f,a,b,c,i,m,z):=⟨⟨d,e⟩,⟨j,k⟩,⟨o,p⟩,h0⟩
omit hb in
theorem nJ {α:Type} {P:α→Prop} {l:List α} {x:α} (h:∀ i∈l,P i) (b:P x):∀ i∈l++[x],P i:=by
  intro i a
  rcases List.mem_append.mp a with a|a
  · exact h i a
  · rw [List.mem_singleton.mp a];exact b
theorem xB (d:Nat):∀ (i m z:Int) (n u:ByteArray) (f a:Bool) (c:List eO) (p:List eH),0≤i→n∈LX→u∈LX→c.length≤10→(∀ f∈c,FX f)→p.length+d≤10→(∀ m∈p,MX m)→EvB (fun k=>aJ.l1 k (d:Int) b i m z n u f a c p) CR:=by
  induction d with
  | zero =>
    intro i m z n u f a c p h0 e r A j G o
    refine EvB.step (fun k=>by rw [aJ.l1,if_neg (by omega)]) (EvB.then (d1 b hb i m z 15 h0 (by omega)) (fun v B=>?_))
    refine EvB.ite (fun _=>EvB.then (dn b hb _ _ _ 4 B (by omega)) (fun w D=>?_)) (fun _=>EvB.now (cr e r (by omega) j (by omega) o B))
    refine EvB.ite (fun _=>EvB.then (dw b hb _ _ _ D.1) (fun s hs=>EvB.now (cr (mL hs.2) r (by omega) j (by omega) o hs.1))) (fun _=>EvB.ite (fun _=>EvB.now (cr e r (by omega) j (by omega) o D.1)) (fun _=>EvB.ite (fun _=>?_) (fun _=>EvB.now (cr e e (by omega) j (by omega) o D.1))))
    exact EvB.then (dt b hb _ _ _ D.1) (fun s hs=>EvB.ifp (by omega) (EvB.now (cr e r (by simp;omega) (nJ j ⟨by simp [LX,LW],mL hs.2⟩) (by omega) o hs.1)))
  | succ d ih =>
    intro i m z n u f a c p h0 e r A j G o
    have w:wrap64 (((d+1:Nat):Int) - 1)=(d:Int):=by unfold wrap64;omega
    refine EvB.step (fun k=>by rw [aJ.l1,if_pos (by omega),w]) (EvB.then (pM b hb i m z h0) (fun v B=>?_))
    obtain⟨hM,E⟩:=B
    obtain⟨t,ht,_⟩:=oK _ (tL hM)
    have y:∀ (i m z:Int),0≤i→EvB (fun k=>aJ.l1 k (d:Int) b i m z n u f a c (p++[(⟨v.1,v.2.1,v.2.2.1,v.2.2.2.1,v.2.2.2.2.1,v.2.2.2.2.2.1,v.2.2.2.2.2.2.1,v.2.2.2.2.2.2.2.1,v.2.2.2.2.2.2.2.2.1⟩:eH)])) CR:=fun i m z h0=>ih i m z n u f a c _ h0 e r A j (by simp;omega) (nJ o hM)
    refine EvB.bind ht (EvB.ite (fun _=>EvB.ite (fun _=>EvB.ifp (by omega) (y _ _ _ E)) (fun _=>EvB.ite (fun _=>?_) (fun _=>EvB.ifp (by omega) (y _ _ _ E)))) (fun _=>?_))
    · exact EvB.then (d1 b hb _ _ _ 30 E (by omega)) (fun q x=>EvB.ite (fun _=>EvB.ifp (by omega) (y _ _ _ x)) (fun _=>ih _ _ _ n u f a c p x e r A j (by omega) o))
    · exact EvB.then (d1 b hb _ _ _ 30 E (by omega)) (fun q x=>EvB.ite (fun _=>EvB.ifp (by omega) (y _ _ _ x)) (fun _=>ih _ _ _ n u f a c p x e r A j (by omega) o))
theorem xA (d:Nat):∀ (i m z:Int) (n u:ByteArray) (f a:Bool) (c:List eO),0≤i→n∈LX→u∈LX→c.length+d≤3→(∀ f∈c,FX f)→EvB (fun k=>aJ.l0 k (d:Int) b i m z n u f a c) CR:=by
  induction d with
  | zero =>
    intro i m z n u f a c h0 o p s r
    refine EvB.step (fun k=>by rw [aJ.l0,if_neg (by omega)]) (EvB.then (dn b hb i m z 3 h0 (by omega)) (fun v j=>?_))
    have h3:=j.2.2 (by omega)
    rw [show v.1=((v.1.toNat:Nat):Int) by have:=j.2.1;omega]
    exact xB b hb _ _ _ _ _ _ _ _ _ [] j.1 o p (by omega) r (by simp;omega) (by simp)
  | succ d ih =>
    intro i m z n u f a c h0 o p s r
    have w:wrap64 (((d+1:Nat):Int) - 1)=(d:Int):=by unfold wrap64;omega
    refine EvB.step (fun k=>by rw [aJ.l0,if_pos (by omega),w]) ?_
    refine EvB.bind (Ev.now _) ?_
    refine EvB.ifp (by omega) (EvB.ifp (by simp;omega) ?_)
    refine EvB.then (dp b hb i m z _ h0 (by decide) (by decide)) (fun v j=>?_)
    refine EvB.then (d1 b hb _ _ _ 3 j.1 (by omega)) (fun q t=>?_)
    refine EvB.ifp (by omega) (ih _ _ _ n u f a _ t o p (by simp;omega) (nJ r ⟨?_,?_⟩))
    · obtain⟨e,he⟩:∃ e,c.length=e:=⟨_,rfl⟩
      rw [he]
      have h3:e < 3:=by omega
      rcases (by omega:e=0∨e=1∨e=2) with rfl|rfl|rfl
      · exact(by simp [LX,LW]:(⟨#[120]⟩:ByteArray)∈LX)
      · exact(by simp [LX,LW]:(⟨#[121]⟩:ByteArray)∈LX)
      · exact(by simp [LX,LW]:(⟨#[122]⟩:ByteArray)∈LX)
    · have h:=j.2
      simp only [List.mem_cons,List.not_mem_nil,or_false] at h
      rcases h with h|h|h <;> rw [h] <;> simp [LX,LW]
theorem qH (i m z:Int) (n u:ByteArray) (h0:0≤i) (c:n∈LX) (d:u∈LX):EvB (fun k=>aJ.f k b i m z n u) CR:=by
  unfold aJ.f
  refine EvB.then (d1 b hb i m z 4 h0 (by omega)) (fun v e=>EvB.then (dn b hb _ _ _ 3 e (by omega)) (fun w a=>?_))
  have h3:=a.2.2 (by omega)
  rw [show w.1=((w.1.toNat:Nat):Int) by have:=a.2.1;omega]
  exact xA b hb _ _ _ _ _ _ _ _ [] a.1 c d (by simp;omega) (by simp)
end
def PR (s a:St):Prop:=s.1 <+: a.1∧(s.1.Nodup→a.1.Nodup)∧((∀ x∈s.1,x∈LX)→∀ x∈a.1,x∈LX)
theorem PR.refl (s:St):PR s s:=⟨List.prefix_refl _,id,id⟩
theorem PR.trans {a b c:St} (h:PR a b) (k:PR b c):PR a c:=⟨h.1.trans k.1,fun x=>k.2.1 (h.2.1 x),fun x=>k.2.2 (h.2.2 x)⟩
theorem iK (s:St) (n:Int):PR s (nm s n):=⟨List.prefix_refl _,id,id⟩
theorem pO (t:ByteArray):∀ (l:List ByteArray) (i:Int),kK t l i=none→t ∉ l
  | [],_,_=>by simp
  | x :: l, i, h => by
    rw [kK] at h
    by_cases e:x.toList=t.toList
    · rw [if_pos e] at h;cases h
    · rw [if_neg e] at h
      have:=pO t l _ h
      simp only [List.mem_cons,not_or]
      exact⟨fun a=>e (by rw [a]),this⟩
theorem pP (t:ByteArray):∀ (l:List ByteArray) (i j:Int),kK t l i=some j→t∈l
  | [],_,_,h=>by cases h
  | x :: l, i, j, h => by
    rw [kK] at h
    by_cases e:x.toList=t.toList
    · rw [(toList_eq _ _).mp e];exact List.mem_cons_self
    · rw [if_neg e] at h
      exact List.mem_cons_of_mem _ (pP t l _ _ h)
theorem lO (s:St) {t:ByteArray} (d:t∈LX):PR s (tx s t):=by
  unfold tx
  cases hf:kK t s.1 0 with
  | some i=>exact⟨List.prefix_refl _,id,id⟩
  | none =>
    have j:=pO t s.1 0 hf
    refine⟨List.prefix_append _ _,fun h=>?_,fun h x c=>?_⟩
    · exact List.nodup_append.mpr ⟨h,by simp,fun a k b m=>by rw [List.mem_singleton.mp m];intro e;exact j (e ▸ k)⟩
    · rcases List.mem_append.mp c with c|c
      · exact h x c
      · rw [List.mem_singleton.mp c];exact d
theorem wM (s:St) (t:ByteArray):t∈(tx s t).1:=by
  unfold tx
  cases hf:kK t s.1 0 with
  | some i=>exact pP t s.1 0 i hf
  | none=>exact List.mem_append_right _ (List.mem_singleton.mpr rfl)
theorem mC {α:Type} {P:St→α→St}:∀ (a:List α),(∀ x∈a,∀ s,PR s (P s x))→∀ s,PR s (a.foldl P s)
  | [],_,s=>PR.refl s
  | x :: a, h, s => by
    rw [List.foldl_cons]
    exact(h x List.mem_cons_self s).trans (mC a (fun y b=>h y (List.mem_cons_of_mem _ b)) _)
theorem wJ (s:St) {x:cR} (h:IX x):PR s (kX s x):=by
  obtain⟨h1,h2,h3⟩:=h
  unfold kX
  cases cO.f x.f0 with
  | none=>exact PR.refl s
  | some F =>
    simp only []
    unfold oW
    have a:∀ s t,t∈LX→PR s (tx s t):=fun s t b=>lO s b
    have c:PR (nm s x.f0) (tx (tx (tx (nm s x.f0) x.f2) x.f3) x.f4):=((a _ _ h1).trans (a _ _ h2)).trans (a _ _ h3)
    repeat' split
    all_goals first|exact iK _ _|exact(iK _ _).trans (iK _ _)|exact(iK _ _).trans (a _ _ h1)|exact(iK _ _).trans (a _ _ h3)|exact(iK _ _).trans c|exact⟨List.prefix_refl _,id,id⟩
theorem uS (s:St) {m:eH} (h:MX m):PR s (kD s m)∧m.f0∈(kD s m).1:=by
  obtain⟨h0,h1,⟨_,h2⟩,_,h3⟩:=h
  unfold kD
  have b:PR (tx s m.f0) (m.f8.foldl rZ (nm (m.f7.foldl kX (nm (nm (nm (nm (tx (tx s m.f0) m.f1) (mR m.f2 m.f3 m.f4)) m.f5) m.f6) (m.f7.length:Int))) (m.f8.length:Int))):=by
    refine(lO _ h1).trans (((iK _ _).trans ((iK _ _).trans ((iK _ _).trans (iK _ _)))).trans ((mC m.f7 (fun x a s=>wJ s (h2 x a)) _).trans ((iK _ _).trans (mC m.f8 (fun x a s=>?_) _))))
    exact((iK _ _).trans ((iK _ _).trans (iK _ _))).trans (lO _ (h3 x a))
  exact⟨(lO _ h0).trans b,b.1.subset (wM _ _)⟩
theorem nT:∀ (b:List eH),(∀ m∈b,MX m)→∀ s,PR s (b.foldl kD s)∧∀ m∈b,m.f0∈(b.foldl kD s).1
  | [],_,s=>⟨PR.refl s,fun m a=>absurd a (by simp)⟩
  | x :: b, h, s => by
    rw [List.foldl_cons]
    obtain⟨a1,d⟩:=uS s (h x List.mem_cons_self)
    obtain⟨c,e⟩:=nT b (fun m a=>h m (List.mem_cons_of_mem _ a)) (kD s x)
    refine⟨a1.trans c,fun m a=>?_⟩
    rcases List.mem_cons.mp a with rfl|a
    · exact c.1.subset d
    · exact e m a
theorem tK:∀ (l m:List ByteArray),l.Nodup→(∀ x∈l,x∈m)→l.length≤m.length
  | [],_,_,_=>by simp
  | x :: l, m, hn, h => by
    have d:=h x List.mem_cons_self
    rw [List.nodup_cons] at hn
    obtain⟨a,b,rfl⟩:=List.append_of_mem d
    have:=tK l (a++b) hn.2 (fun y c=>by
      have h1:=h y (List.mem_cons_of_mem _ c)
      rcases List.mem_append.mp h1 with h1|h1
      · exact List.mem_append_left _ h1
      · rcases List.mem_cons.mp h1 with h1|h1
        · exact absurd (h1 ▸ c) hn.1
        · exact List.mem_append_right _ h1)
    simp only [List.length_append,List.length_cons] at this ⊢;omega
theorem vZ:LX.length≤100:=by decide +kernel
theorem qQ (n u:ByteArray) (f b:Bool) (a:List eO) (c:List eH) (r:n∈LX) (t:u∈LX) (j:n≠u) (k:∀ x∈a,FX x) (o:∀ m∈c,MX m):
    (kR n u f b a c).1.Nodup∧(kR n u f b a c).1.length≤100∧[n,u] <+: (kR n u f b a c).1∧∀ m∈c,m.f0∈(kR n u f b a c).1:=by
  unfold kR
  have e:(tx (tx (([],[]):St) n) u).1=[n,u]:=by
    have p:tx (([],[]):St) n=([n],[0]):=rfl
    rw [p]
    unfold tx
    have q:kK u [n] 0=none:=by rw [kK,if_neg (fun h=>j ((toList_eq _ _).mp h))];rfl
    simp only [q];rfl
  have h0:PR (tx (tx (([],[]):St) n) u) (nm (a.foldl kJ (nm (nm (tx (tx (([],[]):St) n) u) (mR f b false)) (a.length:Int))) (c.length:Int)):=
    ((iK _ _).trans (iK _ _)).trans ((mC a (fun x i s=>((lO s (k x i).1).trans (lO _ (k x i).2)).trans (iK _ _)) _).trans (iK _ _))
  obtain⟨h1,h2⟩:=nT c o (nm (a.foldl kJ (nm (nm (tx (tx (([],[]):St) n) u) (mR f b false)) (a.length:Int))) (c.length:Int))
  have h3:=h0.trans h1
  have d:=h3.2.1 (by rw [e];simp [j])
  have l:=h3.2.2 (by rw [e];intro x i;simp only [List.mem_cons,List.not_mem_nil,or_false] at i;rcases i with rfl|rfl <;> assumption)
  exact⟨d,Nat.le_trans (tK _ LX d l) vZ,e ▸ h3.1,h2⟩
theorem uP (n u:ByteArray) (f b:Bool) (a:List eO) (c:List eH) (i:n∈LX) (j:u∈LX) (o:n≠u) (e:∀ x∈a,FX x) (k:∀ m∈c,MX m):(kR n u f b a c).1.length≤100∧∀ x∈(kR n u f b a c).1,x∈LX:=by
  refine⟨(qQ n u f b a c i j o e k).2.1,?_⟩
  have h0:PR (([],[]):St) (kR n u f b a c):=
    ((lO _ i).trans (lO _ j)).trans ((((iK _ _).trans (iK _ _)).trans ((mC a (fun x d s=>((lO s (e x d).1).trans (lO _ (e x d).2)).trans (iK _ _)) _).trans (iK _ _))).trans (nT c k _).1)
  exact h0.2.2 (fun x d=>absurd d (by simp))
theorem mH (n s:ByteArray) (f b:Bool) (a:List eO) (c:List eH) (j:n.size≤1048576) (hs:s.size≤1048576) (o:a.length≤1048576) (p:c.length≤1048576) (q:∀ x∈c,uA x) (u:∀ x∈a,xU x):
    ∃ r,Ev (fun k=>aG.f k n s f b a c) r∧(r=true→(n≠s∧jA n∧jA s∧∀ x∈a,jA x.f0∧gJ x.f1=true)∧a.length≤8∧c.length≤10∧∀ m∈c,mP m):=by
  have v:bC (fun k=>aG.j0 k true n s f b a c) False:=bC.step (f:=fun _=>some false) (fun k=>by simp only [aG.j0,↓reduceIte]) bC.no
  have y:bC (fun k=>aG.j0 k false n s f b a c) (vA b a c):=bC.step (f:=fun k=>aG.l0 k 0 n s f b a c) (fun k=>by simp only [aG.j0];rw [if_neg (by simp)]) (mG n s f b a c o p q u)
  obtain⟨r1,z,A⟩:bC (fun k=>aG.f k n s f b a c) _:=bC.congr (fun k=>rfl) (qG (N:=fun k t=>aE.f k t) (J:=fun k t=>aG.j0 k t n s f b a c) n s f b a.length c.length (kO n j) (kO s hs) v y)
  refine⟨r1,z,fun B=>?_⟩
  obtain⟨a1,D,E,_,a4,G,hL⟩:=A.mp B
  refine⟨⟨fun e=>E (by rw [e]),a1,D,fun x I=>?_⟩,a4,G,fun m d=>?_⟩
  · obtain⟨i,hi,rfl⟩:=List.mem_iff_getElem.mp I
    have e:a.getD i pG=a[i]:=by simp [List.getD_eq_getElem?_getD,hi]
    have h:=hL.1 i hi
    unfold qC at h
    rw [e] at h
    exact⟨h.1,h.2.1⟩
  obtain⟨i,hi,rfl⟩:=List.mem_iff_getElem.mp d
  have e:c.getD i pH=c[i]:=by simp [List.getD_eq_getElem?_getD,hi]
  exact e ▸ (hL.2 i hi).1
def RT (t:ByteArray):Prop:=jA t∨iR t∨gJ t=true∨(hO t).2.2.2=0
theorem pS {t:ByteArray} (h:aE.f 9 t=some false):¬ jA t:=by
  intro ⟨K,a⟩
  have h1:=a (max K 9) (by omega)
  have h2:=at_rounds (g:=fun k=>aE.f k t) (fun k=>aE.mono t k) (show 9≤max K 9 by omega) h
  have h1:aE.f (max K 9) t=some true:=h1
  rw [h1] at h2
  cases h2
theorem uK:∀ s∈LX,iE s=true∨s.size=1∧(bt s 0=10∨bt s 0=255):=by decide +kernel
theorem hC {t:ByteArray} (h:t∈LX) (r:RT t):iE t=true:=by
  rcases uK t h with c|⟨c,d⟩
  · exact c
  · exfalso
    have e:t=⟨#[10]⟩∨t=⟨#[255]⟩:=by
      rcases d with d|d
      · exact .inl (nK _ _ c (fun i b=>by have a:i=0:=(by omega);subst a;exact d))
      · exact .inr (nK _ _ c (fun i b=>by have a:i=0:=(by omega);subst a;exact d))
    rcases e with rfl|rfl
    · rcases r with r|r|r|r
      · exact pS (by decide +kernel) r
      · unfold iR at r;rw [Lib.toList_data] at r;simp at r
      · revert r;decide +kernel
      · revert r;decide +kernel
    · rcases r with r|r|r|r
      · exact pS (by decide +kernel) r
      · unfold iR at r;rw [Lib.toList_data] at r;simp at r
      · revert r;decide +kernel
      · revert r;decide +kernel
theorem sE {x:cR} (b:wR x) (h:mV x) (F:ByteArray) (hF:cO.f x.f0=some F):(F.toList=([99]:List UInt8)→RT x.f2)∧(F.toList=([121]:List UInt8)→RT x.f4)∧(F.toList=([102]:List UInt8)∨F.toList=([109]:List UInt8)→RT x.f2∧RT x.f3∧RT x.f4):=by
  obtain⟨K,hK⟩:=h
  obtain⟨F',hF',hS⟩:=iP x.f0
  obtain rfl:F=F':=Option.some.inj (hF.symm.trans hF')
  obtain⟨i,o,_⟩:=jX x.f2 (by have:=b.1;omega)
  obtain⟨m,p,_⟩:=jX x.f3 (by have:=b.2.1;omega)
  have j:i=true→RT x.f2:=fun e=>.inl ⟨_,fun k n=>(o k n).trans (by rw [e])⟩
  have q:m=true→RT x.f3:=fun e=>.inl ⟨_,fun k n=>(p k n).trans (by rw [e])⟩
  have e:=hK (max K 1048700) (by omega)
  simp only [] at e
  unfold dB.f at e
  have s:=b.1
  have t:=b.2.1
  rw [hS _ (by omega),Option.bind_some,o _ (by omega),p _ (by omega),jZ x.f4 _ (by omega),mN x.f4 _ (by omega)] at e
  simp only [Option.bind_some] at e
  refine⟨fun c=>?_,fun c=>?_,fun c=>?_⟩
  · rw [c] at e
    by_cases a:x.f1=0
    · cases i with
      | true=>exact j rfl
      | false=>simp [a] at e
    · simp [a] at e
  · rw [c] at e
    by_cases a:x.f1=0
    · by_cases d:x.f2.toList=[]
      · by_cases r:x.f3.toList=[]
        · by_cases g:gJ x.f4=true
          · exact .inr (.inr (.inl g))
          · simp [a,d,r,g] at e
        · simp [a,d,r] at e
      · simp [a,d] at e
    · simp [a] at e
  · rcases c with c|c
    · rw [c] at e
      by_cases a:x.f1=0
      · cases i with
        | true =>
          cases m with
          | true =>
            refine⟨j rfl,q rfl,.inr (.inr (.inl ?_))⟩
            simpa [a] using e
          | false=>simp [a] at e
        | false=>simp [a] at e
      · simp [a] at e
    · rw [c] at e
      by_cases a:x.f1=0
      · cases i with
        | true =>
          cases m with
          | true =>
            refine⟨j rfl,q rfl,.inr (.inr (.inr ?_))⟩
            simpa [a] using e
          | false =>
            by_cases d:x.f3.toList=([60,105,110,105,116,62]:List UInt8)
            · refine⟨j rfl,.inr (.inl d),.inr (.inr (.inr ?_))⟩
              simpa [a,d] using e
            · simp [a,d] at e
        | false=>simp [a] at e
      · simp [a] at e
def PP (st:St):Prop:=∀ x∈st.1,iE x=true
theorem kV {st:St} {t:ByteArray} (h:PP st) (b:iE t=true):PP (tx st t):=by
  unfold tx
  split
  · exact h
  · intro x a
    rcases List.mem_append.mp a with a|a
    · exact h x a
    · rw [List.mem_singleton.mp a];exact b
theorem mB {α:Type} {P:St→α→St}:∀ (a:List α),(∀ x∈a,∀ st,PP st→PP (P st x))→∀ st,PP st→PP (a.foldl P st)
  | [],_,_,h=>h
  | x :: a,g,st,h=>mB a (fun y b=>g y (List.mem_cons_of_mem _ b)) _ (g x List.mem_cons_self st h)
theorem xJ {x:cR} (h:IX x):wR x:=by
  have a:=jS _ h.1
  have b:=jS _ h.2.1
  have c:=jS _ h.2.2
  exact⟨by omega,by omega,by omega⟩
theorem wI {st:St} {x:cR} (h:PP st) (j:IX x) (n:mV x):PP (kX st x):=by
  obtain⟨F,f1,_⟩:=iP x.f0
  obtain⟨o,p,q⟩:=sE (xJ j) n F f1
  obtain⟨k,r,m⟩:=j
  unfold kX
  rw [f1]
  show PP (oW F st x)
  unfold oW
  have e:PP (nm st x.f0):=h
  have i:F.toList=([102]:List UInt8)∨F.toList=([109]:List UInt8)→PP (tx (tx (tx (nm st x.f0) x.f2) x.f3) x.f4):=fun c=>by
    obtain⟨a,b,d⟩:=q c
    exact kV (kV (kV e (hC k a)) (hC r b)) (hC m d)
  split
  · exact h
  split
  · exact h
  split
  · exact h
  split
  · exact kV e (hC k (o (by assumption)))
  split
  · exact kV e (hC m (p (by assumption)))
  split
  · exact i (.inl (by assumption))
  split
  · exact i (.inr (by assumption))
  · exact h
theorem uR {st:St} {m:eH} (h:PP st) (a:MX m) (b:mP m):PP (kD st m):=by
  obtain⟨m0,m1,⟨_,m7⟩,_,m8⟩:=a
  obtain⟨⟨e,i,_⟩,b⟩:=b
  have d:(∀ x∈m.f7,mV x)∧∀ x∈m.f8,jA x.f3:=by
    unfold oD at b
    by_cases c:m.f3=true
    · rw [if_pos c] at b
      have j:=List.eq_nil_of_length_eq_zero b.2.2.1
      have k:=List.eq_nil_of_length_eq_zero b.2.2.2.1
      rw [j,k]
      exact⟨fun x a=>absurd a (by simp),fun x a=>absurd a (by simp)⟩
    · rw [if_neg c] at b
      exact⟨fun x a=>(b.1.2.2.2.1 x a).1,fun x a=>(b.1.2.2.2.2 x a).2.2.2.2.2⟩
  have h1:PP (tx (tx st m.f0) m.f1):=kV (kV h (hC m0 (e.elim .inl (fun h=>.inr (.inl h))))) (hC m1 (.inr (.inr (.inr i))))
  have h2:PP (m.f7.foldl kX (nm (nm (nm (nm (tx (tx st m.f0) m.f1) (mR m.f2 m.f3 m.f4)) m.f5) m.f6) (m.f7.length:Int))):=mB m.f7 (fun x a st h=>wI h (m7 x a) (d.1 x a)) _ h1
  exact mB m.f8 (fun x a st (h:PP st)=>kV (st:=nm (nm (nm st x.f0) x.f1) x.f2) h (hC (m8 x a) (.inl (d.2 x a)))) _ h2
theorem wH (n u:ByteArray) (f b:Bool) (c:List eO) (d:List eH) (j:n∈LX) (k:u∈LX) (o:jA n) (p:jA u) (e:∀ x∈c,FX x) (i:∀ x∈c,jA x.f0∧gJ x.f1=true) (q:∀ m∈d,MX m) (r:∀ m∈d,mP m):PP (kR n u f b c d):=by
  have h0:PP (tx (tx (([],[]):St) n) u):=kV (kV (fun x a=>absurd a (by simp)) (hC j (.inl o))) (hC k (.inl p))
  have h1:PP (c.foldl kJ (nm (nm (tx (tx (([],[]):St) n) u) (mR f b false)) (c.length:Int))):=mB (P:=kJ) c (fun x a st (h:PP st)=>show PP (tx (tx st x.f0) x.f1) from kV (kV h (hC (e x a).1 (.inl (i x a).1))) (hC (e x a).2 (.inr (.inr (.inl (i x a).2))))) (nm (nm (tx (tx (([],[]):St) n) u) (mR f b false)) (c.length:Int)) h0
  exact mB d (fun x a st h=>uR h (q x a) (r x a)) _ h1
def oO (l:List ByteArray):List Int:=l.flatMap (fun t=>(t.size:Int) :: bytesOf t)
theorem wK {t:ByteArray} (h:t∈LX) (a:iE t=true):Ev (fun k=>iH.f k t) (strOfNums [(t.size:Int)]++t):=by
  have z:=jS t h
  have b:=(rG t (by omega)).2
  rw [a] at b
  have e:(t.size:Int) % 256=t.size:=by omega
  have a:jH.f (t.size:Int)=some (strOfNums [(t.size:Int)]):=by simp [jH.f,show ¬ ((t.size:Int) < 0) by omega,show ¬ (t.size > 255) by omega,show ¬ ((t.size:Int) > 255) by omega,e]
  have c:(strOfNums [(t.size:Int)]).size=1:=strOfNums_size _
  exact Ev.congr (fun k=>if_neg (by omega)) (Ev.bind b (Ev.congr (f:=fun _=>some (strOfNums [(t.size:Int)]++t)) (fun k=>(if_pos rfl).trans (by rw [a,Option.bind_some,if_pos (by omega)])) (Ev.now _)))
theorem rR {t:ByteArray} (h:t.size≤255):bytesOf (strOfNums [(t.size:Int)]++t)=(t.size:Int) :: bytesOf t:=by
  have e:strOfNums [(t.size:Int)]++t=strOfNums ([(t.size:Int)]++bytesOf t):=by rw [qR,sL]
  rw [e,oH]
  · rfl
  · intro x a
    rcases List.mem_append.mp a with a|a
    · rw [List.mem_singleton.mp a];omega
    · unfold bytesOf at a
      obtain⟨b,_,rfl⟩:=List.mem_map.mp a
      have:=b.toNat_lt;omega
theorem pW:∀ (l:List ByteArray) (b:List Int),(∀ t∈l,t∈LX)→(∀ t∈l,iE t=true)→b.length+256*l.length≤1000000000→Ev (fun k=>dI.g k b l) (b++oO l)
  | [], b, _, _, _ => by
    have e:b++oO []=b:=by unfold oO;simp
    rw [e];exact Ev.now _
  | t :: l, b, hl, hpl, hb => by
    rw [List.length_cons] at hb
    have c:=hl t List.mem_cons_self
    have z:=jS t c
    have h1:=wK c (hpl t List.mem_cons_self)
    have d:=rR (t:=t) (by omega)
    have j:(strOfNums [(t.size:Int)]++t).size=t.size+1:=by
      have h:=congrArg List.length d
      rw [bytesOf_length,List.length_cons,bytesOf_length] at h
      exact h
    have n:(b++bytesOf (strOfNums [(t.size:Int)]++t)).length=b.length+(t.size+1):=by rw [List.length_append,bytesOf_length,j]
    have i:=pW l (b++bytesOf (strOfNums [(t.size:Int)]++t)) (fun x a=>hl x (List.mem_cons_of_mem _ a)) (fun x a=>hpl x (List.mem_cons_of_mem _ a)) (by omega)
    have m:(b++bytesOf (strOfNums [(t.size:Int)]++t))++oO l=b++oO (t :: l):=by
      rw [d];unfold oO;rw [List.flatMap_cons,List.append_assoc]
    rw [m] at i
    exact Ev.bind h1 (Ev.congr (fun k=>if_pos (by omega)) i)
theorem tQ {s t:ByteArray} (m:iE t=true):Reads s (kL s) ((t.size:Int) :: bytesOf t) t:=by
  intro i n
  have c:Has s i ([(t.size:Int)]++bytesOf t):=n
  have h1:=lJ (t.size:Int) i c.left
  obtain⟨d,a,o⟩:=c.right
  rw [bytesOf_length] at a
  have d:0≤i+1:=d
  have a:i+1+(t.size:Int)≤(s.size:Int):=a
  unfold kL
  rw [h1]
  have e:s.extract (i+1).toNat (i+1+(t.size:Int)).toNat=t:=by
    have k:(s.extract (i+1).toNat (i+1+(t.size:Int)).toNat).size=t.size:=by rw [ByteArray.size_extract];omega
    refine nK _ _ k (fun j b=>?_)
    rw [k] at b
    rw [sV s _ _ (j:Int) (by omega) (by omega) (by omega)]
    have h:=o j (by rw [bytesOf_length];exact b)
    have p:(((i+1).toNat:Nat):Int)+(j:Int)=i+(([(t.size:Int)]:List Int).length:Int)+(j:Int):=by simp;omega
    rw [p,h]
    simp only [bytesOf,List.getElem_map]
    rw [← bt_at t (j:Int) (by simpa using b)]
    rfl
  show (if (s.size:Int) < i+1+(t.size:Int) then (.error (4,(s.size:Int)):Rs ByteArray) else if iE (s.extract (i+1).toNat (i+1+(t.size:Int)).toNat)=true then .ok (s.extract (i+1).toNat (i+1+(t.size:Int)).toNat,i+1+(t.size:Int)) else .error (3,i))=_
  rw [if_neg (by omega),e,if_pos m]
  congr 2
  rw [List.length_cons,bytesOf_length];omega
theorem nU {s:ByteArray}:∀ (l:List ByteArray),(∀ t∈l,iE t=true)→Reads s (rN (kL s) l.length) (oO l) l
  | [],_=>Reads.ret
  | t :: l, h => by
    have h1:=(tQ (s:=s) (h t List.mem_cons_self)).bnd (f:=fun x=>rb (rN (kL s) l.length) (fun l=>gZ (x :: l))) ((nU l (fun x a=>h x (List.mem_cons_of_mem _ a))).bnd (Reads.ret (s:=s) (v:=t :: l)))
    rw [List.append_nil] at h1
    exact h1
theorem nC {α:Type} {P:St→α→St} (a:List α) (h:∀ x∈a,∀ st:St,(∀ n∈st.2,0≤n∧n < 256)→∀ n∈(P st x).2,0≤n∧n < 256):∀ st:St,(∀ n∈st.2,0≤n∧n < 256)→∀ n∈(a.foldl P st).2,0≤n∧n < 256:=by
  induction a with
  | nil=>exact fun st h=>h
  | cons x a ih=>exact fun st hs=>ih (fun y b=>h y (List.mem_cons_of_mem _ b)) _ (h x List.mem_cons_self st hs)
def NB (st:St):Prop:=∀ n∈st.2,0≤n∧n < 256
theorem iJ {st:St} (n:Int) (h:NB st):NB (nm st n):=by
  intro x a
  rcases List.mem_append.mp a with a|a
  · exact h x a
  · rw [List.mem_singleton.mp a];omega
theorem jY {st:St} (t:ByteArray) (h:NB st):NB (tx st t):=by
  unfold tx
  split
  · intro x a
    rcases List.mem_append.mp a with a|a
    · exact h x a
    · rw [List.mem_singleton.mp a];omega
  · intro x a
    rcases List.mem_append.mp a with a|a
    · exact h x a
    · rw [List.mem_singleton.mp a];omega
theorem wE {st:St} (x:cR) (h:NB st):NB (kX st x):=by
  unfold kX
  cases cO.f x.f0 with
  | none=>exact h
  | some F =>
    simp only []
    unfold oW
    repeat' split
    · intro y a
      rcases List.mem_append.mp a with a|a
      · exact iJ _ h y a
      · unfold bytesOf at a
        obtain⟨b,_,rfl⟩:=List.mem_map.mp a
        have:=b.toNat_lt;omega
    · exact iJ _ (iJ _ h)
    · exact iJ _ (iJ _ h)
    · exact jY _ (iJ _ h)
    · exact jY _ (iJ _ h)
    · exact jY _ (jY _ (jY _ (iJ _ h)))
    · exact jY _ (jY _ (jY _ (iJ _ h)))
    · exact iJ _ h
theorem uM {st:St} (m:eH) (h:NB st):NB (kD st m):=
  nC m.f8 (fun x _ st h=>jY _ (iJ _ (iJ _ (iJ _ h)))) _ (iJ _ (nC m.f7 (fun x _ st h=>wE x h) _ (iJ _ (iJ _ (iJ _ (iJ _ (jY _ (jY _ h))))))))
theorem wC (n u:ByteArray) (f b:Bool) (a:List eO) (c:List eH):NB (kR n u f b a c):=
  nC c (fun x _ st h=>uM x h) _ (iJ _ (nC a (fun x _ st h=>iJ _ (jY _ (jY _ h))) _ (iJ _ (iJ _ (jY _ (jY _ (fun x d=>absurd d (by simp))))))))
theorem wL:∀ (l:List ByteArray),(∀ t∈l,t∈LX)→∀ n∈oO l,0≤n∧n < 256:=by
  intro l h n a
  unfold oO at a
  obtain⟨t,ht,hx⟩:=List.mem_flatMap.mp a
  have z:=jS t (h t ht)
  rcases List.mem_cons.mp hx with rfl|hx
  · omega
  · unfold bytesOf at hx
    obtain⟨b,_,rfl⟩:=List.mem_map.mp hx
    have:=b.toNat_lt;omega
theorem sK {p:List ByteArray} {l:List Int} (m:p.length≤200) (d:∀ t∈p,t∈LX) (i:∀ t∈p,iE t=true) (j:∀ n∈l,0≤n∧n < 256) {s:ByteArray} (hs:s=strOfNums (([67,70,1,(p.length:Int)]++oO p)++l)) {c:vB} (k:Reads s (rC s p) l c):mW s 0=.ok (c,(s.size:Int)):=by
  have b:Has s 0 (([67,70,1,(p.length:Int)]++oO p)++l):=by
    rw [hs]
    refine uI _ (fun x a=>?_)
    rcases List.mem_append.mp a with a|a
    · rcases List.mem_append.mp a with a|a
      · simp only [List.mem_cons,List.not_mem_nil,or_false] at a
        rcases a with rfl|rfl|rfl|rfl <;> omega
      · exact wL p d x a
    · exact j x a
  have h1:Reads s (rK s) ([67]++([70]++([1]++[]))) ():=(pE 67).bnd ((pE 70).bnd ((pE 1).bnd Reads.ret))
  have h2:Reads s (mW s) (([67]++([70]++([1]++[])))++([(p.length:Int)]++(oO p++l))) c:=by
    refine h1.bnd ((nD 5 (by omega)).bnd (Reads.bnd (v1:=p) ?_ k))
    rw [show ((p.length:Nat):Int).toNat=p.length by omega]
    exact nU p i
  have e:([67,70,1,(p.length:Int)]++oO p)++l=([67]++([70]++([1]++[])))++([(p.length:Int)]++(oO p++l)):=by simp
  rw [e] at b
  rw [h2 0 b]
  congr 2
  rw [← e,hs,strOfNums_size];omega
theorem vG (l:List Int) (b:∀ x∈l,(Lit.int .u8 x).wf=true) (n:l.length≤140737488355328) (i:Int) (h0:0≤i) (h1:i≤1):∃ v,iF.f l i 256=some v∧0≤v∧v < 256:=by
  unfold iF.f
  rw [if_neg (by omega)]
  by_cases c:(l.length:Int)=0
  · exact⟨0,if_pos c,by omega,by omega⟩
  rw [if_neg c]
  have m0:0≤Int.tmod i (l.length:Int):=Int.tmod_nonneg _ h0
  have m1:Int.tmod i (l.length:Int) < (l.length:Int):=Int.tmod_lt_of_pos _ (by omega)
  rw [if_pos m0,if_pos m1,if_neg (by omega)]
  generalize Int.tmod i (l.length:Int)=j at m0 m1
  have a:j.toNat < l.length:=by omega
  have e:rd l j=l[j.toNat]:=by unfold rd;simp [List.getD_eq_getElem?_getD,a]
  have d:=b _ (List.getElem_mem a)
  have o:0≤l[j.toNat]∧l[j.toNat] < 256:=by
    have k:IntKind.u8.min=0:=by decide
    have m:IntKind.u8.max=255:=by decide
    simp only [Lit.wf,k,m,Bool.and_eq_true,decide_eq_true_eq] at d
    omega
  refine⟨_,rfl,?_,?_⟩
  · rw [e];unfold wrap64;rw [Int.tmod_eq_emod_of_nonneg (by omega)];omega
  · rw [e];unfold wrap64;rw [Int.tmod_eq_emod_of_nonneg (by omega)];omega
theorem FnClassCut:laws_FnClassCut.Pure:=by
  intro l0 l1 _ b0 _ _ b1 w1
  refine Ev.rounds ?_
  have D:∀ a b,Ev (fun k=>laws_FnClassCut.j0 k a b true) true:=fun a b=>Ev.step (f:=fun _=>some true) (fun k=>by simp only [laws_FnClassCut.j0,↓reduceIte]) (Ev.now _)
  have E:∀ a b,Ev (fun k=>laws_FnClassCut.j1 k a b true) true:=fun a b=>Ev.step (f:=fun _=>some true) (fun k=>by simp only [laws_FnClassCut.j1,↓reduceIte]) (Ev.now _)
  by_cases c:(l0.length:Int) > 1048576
  · exact Ev.congr (fun k=>if_pos c) (D _ _)
  refine Ev.congr (fun k=>if_neg c) ?_
  by_cases c1:(l1.length:Int) > 1048576
  · rw [decide_eq_true c1];exact D _ _
  rw [decide_eq_false c1]
  refine Ev.step (f:=fun k=>(eJ.f k l0).bind fun t=>((dI.f k t.1 t.2.1 t.2.2.1 t.2.2.2.1 t.2.2.2.2.1 t.2.2.2.2.2).bind fun u=>(if u.toList=([]:List UInt8) then (laws_FnClassCut.j1 k l1 u true) else (laws_FnClassCut.j1 k l1 u (decide ((u.size:Int) > 20000)))))) (fun k=>by rw [laws_FnClassCut.j0,if_neg (by simp)]) ?_
  have K:l0.length≤140737488355328:=by omega
  obtain⟨m,z,es⟩:=pN l0 K
  have e1:Ev (fun k=>cC.f k l0) (l0,0,m,z):=⟨65,fun k y=>at_rounds (g:=fun k=>cC.f k l0) (fun k=>cC.mono l0 k) y es⟩
  obtain⟨⟨n,u,f,b,fs,ms,i',m',z'⟩,e2,⟨hn,hu⟩,⟨l4,hf⟩,⟨l5,hm⟩,_⟩:=qH l0 K 0 m z (⟨#[65]⟩:ByteArray) (⟨#[79,98,106,101,99,116]⟩:ByteArray) (by omega) (by simp [LX,LW]) (by simp [LX,LW])
  simp only [] at hn hu l4 hf l5 hm
  have ed:Ev (fun k=>eJ.f k l0) (n,u,f,b,fs,ms):=Ev.congr (fun k=>rfl) (Ev.bind e1 (Ev.bind e2 (Ev.now _)))
  refine Ev.bind ed ?_
  have o:∀ {s:ByteArray},s∈LX→s.size≤1048576:=fun hs=>by have:=jS _ hs;omega
  obtain⟨t,L,t3⟩:=mH n u f b fs ms (o hn) (o hu) (by omega) (by omega) (fun x d=>tL (hm x d)) (fun x d=>⟨o (hf x d).1,o (hf x d).2⟩)
  have U:Ev (fun k=>if (⟨#[]⟩:ByteArray).toList=([]:List UInt8) then (laws_FnClassCut.j1 k l1 (⟨#[]⟩:ByteArray) true) else (laws_FnClassCut.j1 k l1 (⟨#[]⟩:ByteArray) (decide (((⟨#[]⟩:ByteArray).size:Int) > 20000)))) true:=Ev.congr (fun k=>if_pos (by simp)) (E _ _)
  cases t with
  | false =>
    have A:Ev (fun k=>dI.f k n u f b fs ms) (⟨#[]⟩:ByteArray):=by
      unfold dI.f
      exact Ev.bind L (Ev.congr (f:=fun _=>some (⟨#[]⟩:ByteArray)) (fun k=>if_neg (by simp)) (Ev.now _))
    exact Ev.bind A U
  | true =>
    obtain⟨⟨ne,rn,ru,rf⟩,lf,lm,hB⟩:=t3 rfl
    have r:=wH n u f b fs ms hn hu rn ru hf rf hm hB
    obtain⟨hL,hX⟩:=uP n u f b fs ms hn hu ne hf hm
    have B:=qN n u f b fs ms lf lm (fun m h=>rD (hB m h))
    have I:=wC n u f b fs ms
    have i:∀ s,∃ v,Reads s (rC s (kR n u f b fs ms).1) (kR n u f b fs ms).2 v:=by
      intro s
      obtain⟨v,_,h⟩:=tW (s:=s) (p:=(kR n u f b fs ms).1) (by omega) n u f b fs ms lf lm hB
      obtain⟨l,e,hr⟩:=h (List.prefix_refl _)
      have e:(kR n u f b fs ms).2=l:=by simpa using e
      exact⟨v,e ▸ hr⟩
    have h2:=jQ u (jQ n xQ)
    have h5:=mJ (P:=kJ) (c:=3) fs (fun x _ s N h=>nO x h) _ _ (jG (fs.length:Int) (jG (mR f b false) h2))
    have hS:=mJ (P:=kD) (c:=400) ms (fun x d s N h=>rB x (rD (hB x d)) h) _ _ (jG (ms.length:Int) h5)
    have J:lN 100000 (kR n u f b fs ms):=lN.up hS (by omega)
    generalize kR n u f b fs ms=st at hL hX B I i J r
    have M:=pW st.1 [67,70,1,(st.1.length:Int)] hX r (by simp;omega)
    have tz:([67,70,1,(st.1.length:Int)]++oO st.1).length≤100000:=by
      have:(oO st.1).length≤24*st.1.length:=by
        clear M i B hL r
        generalize st.1=l at hX
        induction l with
        | nil=>simp [oO]
        | cons t l ih =>
          have h1:=ih (fun x d=>hX x (List.mem_cons_of_mem _ d))
          have z:=jS t (hX t List.mem_cons_self)
          unfold oO at h1 ⊢
          rw [List.flatMap_cons,List.length_append,List.length_cons,bytesOf_length,List.length_cons];omega
      rw [List.length_append];simp only [List.length_cons,List.length_nil];omega
    have Y:(st.1.length:Int) % 256=(st.1.length:Int):=by omega
    obtain⟨T,hT⟩:∃ T,T=strOfNums (([67,70,1,(st.1.length:Int)]++oO st.1)++st.2):=⟨_,rfl⟩
    have A:Ev (fun k=>dI.f k n u f b fs ms) T:=by
      unfold dI.f
      have ac:=J.2
      refine Ev.bind L (Ev.congr (fun k=>if_pos rfl) (Ev.bind B (Ev.congr (fun k=>if_neg (by omega)) (Ev.bind (a:=[67,70,1,(st.1.length:Int)]++oO st.1) ?_ (Ev.congr (f:=fun _=>some T) (fun k=>by rw [hT];exact if_pos (by omega)) (Ev.now _))))))
      rw [Y];exact M
    refine Ev.bind A ?_
    obtain⟨cl,i⟩:=i T
    have Z:=sK (by omega) hX r I hT i
    have aa:¬ T.toList=([]:List UInt8):=by
      rw [uV,hT,strOfNums_size]
      simp
    refine Ev.congr (fun k=>if_neg aa) ?_
    by_cases cz:(T.size:Int) > 20000
    · rw [decide_eq_true cz];exact E _ _
    rw [decide_eq_false cz]
    obtain⟨v0,a0,a1,a2⟩:=vG l1 w1 (by omega) 0 (by omega) (by omega)
    obtain⟨v1,d0,d1,d2⟩:=vG l1 w1 (by omega) 1 (by omega) (by omega)
    have ab:0 < T.size:=by rw [hT,strOfNums_size];simp
    obtain⟨q,hq⟩:∃ q,q=Int.tmod (wrap64 ((wrap64 (v0*256))+v1)) (T.size:Int):=⟨_,rfl⟩
    have q0:0≤q:=by rw [hq];exact Int.tmod_nonneg _ (by unfold wrap64;omega)
    have q1:q < (T.size:Int):=by rw [hq];exact Int.tmod_lt_of_pos _ (by omega)
    have hcut:=(uE (s:=T) (k:=q.toNat) (by omega) 0 _ (by omega) Z).2 (by omega)
    have G:mW (T.extract 0 q.toNat) 0=.error (4,q):=by
      have h:=hcut.2 (by show ((q.toNat:Nat):Int) < (T.size:Int);omega)
      rw [h,show ((q.toNat:Nat):Int)=q by omega]
    have O:(T.extract 0 q.toNat).size≤20000:=by rw [ByteArray.size_extract];omega
    have X:Ev (fun k=>eZ.f k (T.extract 0 q.toNat)) (tY q 4):=by
      unfold eZ.f
      refine Ev.bind (a:=true) ?_ (Ev.congr (fun k=>if_pos rfl) (Ev.bind (a:=tY q 4) ?_ (Ev.now _)))
      · have h:=rA (T.extract 0 q.toNat)
        rw [decide_eq_true O] at h
        exact⟨_,fun k y=>at_rounds (cB.mono [T.extract 0 q.toNat]) y h⟩
      · have h:=pL O false (⟨#[]⟩:ByteArray) (fun c j h=>by rw [G] at h;cases h)
        unfold sW at h
        rw [G] at h
        exact h
    refine Ev.step (fun k=>by rw [laws_FnClassCut.j1,if_neg (by simp),a0,Option.bind_some,d0,Option.bind_some,if_neg (by omega),← hq,if_pos q0,if_pos (by omega)]) ?_
    refine Ev.bind X (Ev.congr (f:=fun _=>some true) (fun k=>?_) (Ev.now _))
    refine(if_pos rfl).trans ((if_pos rfl).trans ?_)
    show some ((⟨#[]⟩:ByteArray).toList == ([]:List UInt8))=some true
    rw [Lib.toList_data];rfl
end Go.Proofs.YtkbebmifpccofaaGreat.Pure
