-- PRINTED BY print.sh 35421559b90ae4d0a3588c463048766b98c2df88dd9212a6774a882060cdf62d: not written by this session
import Derived.Test.YtkbebmifpccofaaGreatVFnExactClassReadWords
import Derived.Test.YtkbebmifpccofaaGreatVFnExactClassReadLast
namespace Go.Proofs.YtkbebmifpccofaaGreatW.PrintWords
open Go.RowKit
namespace Kd
def tag {α:Type} (f:Nat→Nat) (d:Kd α):Kd (α×Nat) where
  sz:=d.sz
  E:=d.E
  K:=fun w x cs=>d.K w x.1 cs
  M:=fun w base ok x cs=>d.M w base (fun k=>ok k∧f k=x.2) x.1 cs
  K_len:=fun h=>d.K_len h
  K_one:=fun h=>d.K_one h
  K_below:=fun hb h=>d.K_below hb h
  K_of_M:=fun h=>d.K_of_M h
  M_mono:=fun hok h=>d.M_mono (fun k hk=>⟨hok k hk.1,hk.2⟩) h
  M_bound:=fun h=>d.M_mono (fun _ hk=>⟨⟨hk.1.1,hk.2⟩,hk.1.2⟩) (d.M_bound h)
  M_move:=fun hm h=>d.M_move (fun k hk=>hm k hk.1) h
  M_lower:=fun hb h=>d.M_lower hb h
def raw (sz:Nat):Kd (List Value) where
  sz:=sz
  E:=[]
  K:=fun _ x cs=>cs=x∧cs.length=sz∧∀ u∈cs,u.oneCell'=true
  M:=fun _ _ _ x cs=>cs=x∧cs.length=sz∧∀ u∈cs,u.oneCell'=true
  K_len:=fun h=>h.2.1
  K_one:=fun h=>h.2.2
  K_below:=fun _ h=>h
  K_of_M:=fun h=>h
  M_mono:=fun _ h=>h
  M_bound:=fun h=>h
  M_move:=fun _ h=>h
  M_lower:=fun _ h=>h
def S {α:Type} (d:Kd α) (e:Nat) (w:World) (base:Nat) (ok:Nat→Prop) (v:Value) (xs:List α):Prop:=∃ f,(tag f d).R e w base ok v xs.zipIdx
section
variable {α β:Type} {d:Kd α} {d':Kd β} {e e':Nat} {w w1 W:World} {base b:Nat} {ok ok' okv oku:Nat→Prop} {u v:Value} {xs:List α} {ys:List β}
theorem zip_at {xs:List α} {j:Nat} {p:α} (h:xs[j]?=some p):xs.zipIdx[j]?=some (p,j):=by rw [List.getElem?_zipIdx,h,Nat.zero_add];rfl
theorem S_R (h:S d e w base ok v xs):d.R e w base ok v xs:=by
  obtain⟨f,h0,inner,ho,hr⟩:=h
  rw [List.length_zipIdx] at ho
  exact⟨h0,inner,ho,by have:=hr.1;rw [List.length_zipIdx] at this;exact this,fun j p k=>d.M_mono (fun _ m=>m.1) (hr.2 j (p,j) (zip_at k))⟩
theorem R_tight (m:d.E=[]) (h:d.R e w base ok v xs):d.R e w base (fun k=>some k=v.ownBlock) v xs:=by
  obtain⟨h0,inner,ho,hr⟩:=h
  refine⟨fun k j=>j.symm,inner,ho,hr.imp_ (fun p c r=>d.M_mono (fun k j=>?_) (d.M_bound r))⟩
  obtain⟨_,_,_,q,hq,_⟩:=j
  rw [m] at hq
  cases hq
theorem S_nil (d:Kd α) (e:Nat) (w:World) (base:Nat) (ok:Nat→Prop):S d e w base ok (.slice none 0 0) []:=⟨fun _=>0,R_nil _ _ _ _ _⟩
theorem S_mono (h:S d e w base ok v xs) (j:∀ k,ok k→ok' k):S d e w base ok' v xs:=by
  obtain⟨f,h⟩:=h
  exact⟨f,R_mono h j⟩
theorem S_bound (h:S d e w base ok v xs):S d e w base (fun k=>ok k∧base≤k∧k < w.heap.size∧∃ q,q∈e :: d.E∧∃ cells,w.heap[k]?=some (.cells cells q (0,0))) v xs:=by
  obtain⟨f,h⟩:=h
  exact⟨f,R_bound h⟩
theorem S_move (h:S d e w base ok v xs) (j:∀ k,ok k→w1.heap[k]?=w.heap[k]?):S d e w1 base ok v xs:=by
  obtain⟨f,h⟩:=h
  exact⟨f,R_move h j⟩
theorem S_lower {j:Nat} (h:S d e w base ok v xs) (k:j≤base):S d e w j ok v xs:=by
  obtain⟨f,h⟩:=h
  exact⟨f,R_lower h k⟩
theorem S_step (h:S d e w base ok v xs) (m:∀ k,ok k→k < w.heap.size→w1.heap[k]?=w.heap[k]?):S d e w1 base ok v xs:=
  S_mono (S_move (S_bound h) (fun k j=>m k j.1 j.2.2.1)) (fun _ j=>j.1)
theorem S_below (h:S d e w base ok v xs) (j:Below w.heap.size w w1):S d e w1 base ok v xs:=S_step h (fun k _ m=>j.block k m)
theorem S_alloc (h:S d e w base ok v xs) (o:Obj):S d e (w.alloc o) base ok v xs:=S_below h (below_alloc (Below.refl _ _) o)
theorem S_drew (h:S d e w base ok v xs):S d e w.drew base ok v xs:=S_below h (below_drew (Below.refl _ _))
theorem S_drewN (h:S d e w base ok v xs) (m:Nat):S d e (w.drewN m) base ok v xs:=S_below h (pw_below_drewN (Below.refl _ _) m)
theorem S_far (h:S d e w base ok v xs) {p:Addr} (j:∀ k,ok k→k≠p.block) (u:Value):S d e (w.setCell p u) base ok v xs:=S_step h (fun k m _=>Below.heap_setCell w p u k (j k m))
theorem S_types (h:S d e w base ok v xs) {g t:Nat} {cells:Array Value} (j:w.heap[g]?=some (.cells cells t (0,0))) (m:∀ q,q∈e :: d.E→q≠t):S d e w base (fun k=>ok k∧k≠g) v xs:=by
  obtain⟨f,h⟩:=h
  exact⟨f,R_types h j m⟩
theorem S_set (h:S d e w base ok v xs) {g t:Nat} {cells:Array Value} (m:w.heap[g]?=some (.cells cells t (0,0))) (r:∀ q,q∈e :: d.E→q≠t) (j:Nat) (u:Value):S d e (w.setCell ⟨g,j,none⟩ u) base ok v xs:=
  S_mono (S_far (p:=⟨g,j,none⟩) (S_types h m r) (fun _ k=>k.2) u) (fun _ k=>k.1)
theorem S_typed (h:S d e w base ok v xs):∀ k,v.ownBlock=some k→∃ cells,w.heap[k]?=some (.cells cells e (0,0)):=R_typed (S_R h)
theorem S_lt (h:S d e w base ok v xs):∀ k,v.ownBlock=some k→k < w.heap.size:=R_lt (S_R h)
theorem S_base (h:S d e w base ok v xs):∀ k,v.ownBlock=some k→base≤k:=R_base (S_R h)
theorem S_apart' (h:S d e W base ok u xs) (j:∀ k,v.ownBlock=some k→∃ cells,W.heap[k]?=some (.cells cells e' (0,0))) (m:∀ q,q∈e :: d.E→q≠e'):S d e W base (fun k=>ok k∧some k≠v.ownBlock) u xs:=by
  obtain⟨f,h⟩:=h
  exact⟨f,R_apart' h j m⟩
theorem S_elder' (h:S d e W base ok u xs) (j:∀ k,v.ownBlock=some k→W.heap.size≤k) (m:Below W.heap.size W w1):S d e w1 base (fun k=>ok k∧some k≠v.ownBlock) u xs:=by
  obtain⟨f,h⟩:=h
  exact⟨f,R_elder' h j m⟩
theorem S_new' (h:S d e w1 W.heap.size ok v xs) (j:∀ k,u.ownBlock=some k→k < W.heap.size):S d e w1 W.heap.size (fun k=>ok k∧some k≠u.ownBlock) v xs:=by
  obtain⟨f,h⟩:=h
  exact⟨f,R_new' h j⟩
theorem R_tag {f q:Nat→Nat} {r:List (α×Nat)} (h:(tag f d).R e w base ok v r) (s:∀ k,ok k→k < w.heap.size→q k=f k):(tag q d).R e w base ok v r:=by
  obtain⟨h0,inner,ho,hr⟩:=R_bound h
  exact⟨fun k m=>(h0 k m).1,inner,ho,hr.1,fun j p t=>d.M_mono (fun k m=>⟨⟨m.1.1.1,m.1.2⟩,(s k m.1.1.1 m.1.1.2.2.1).trans m.2⟩) (hr.2 j p t)⟩
end
section
variable {α β:Type} {d:Kd α} {d':Kd β} {e e' g:Nat} {w w1 W:World} {base b:Nat} {ok ok' okv oku:Nat→Prop} {u v:Value} {xs:List α} {ys:List β}
theorem S_ne (h:S d e w base ok v xs) {t:Nat} {cells:Array Value} (j:w.heap[g]?=some (.cells cells t (0,0))) (k:e≠t):some g≠v.ownBlock:=R_ne (S_R h) j k
theorem S_form (h:S d e w base ok v xs) (j:0 < xs.length):∃ g cap,v=.slice (some ⟨g,0,none⟩) xs.length cap∧base≤g∧g < w.heap.size∧∃ cells,w.heap[g]?=some (.cells cells e (0,0)):=R_form (S_R h) j
theorem S_base2 (h:S d e w base ok v xs):v.ownBlock=none∨∃ k,v.ownBlock=some k∧base≤k:=R_base2 (S_R h)
theorem S_slice (h:S d e w base ok v xs):∃ A c,v=.slice A xs.length c:=R_slice (S_R h)
theorem S_reads' {A:Option Addr} {n c:Nat} (h:S d e w base ok (.slice A n c) xs):n=xs.length∧n≤c∧d.C w A xs.length xs:=R_reads' (S_R h)
theorem S_told {N:Nat} (h:S d e w1 base (fun k=>ok k∧k < N) u xs) (m:∀ k,v.ownBlock=some k→N≤k):S d e w1 base (fun k=>(ok k∧some k≠v.ownBlock)∧k < N) u xs:=
  S_mono h (fun k j=>⟨⟨j.1,fun e=>Nat.lt_irrefl _ (Nat.lt_of_lt_of_le j.2 (m k e.symm))⟩,j.2⟩)
theorem zip_snoc (xs:List α) (p:α):(xs++[p]).zipIdx=xs.zipIdx++[(p,xs.length)]:=by rw [List.zipIdx_append];simp
end
section
open Classical in
theorem S_tag {α:Type} {d:Kd α} {e base:Nat} {okv:Nat→Prop} {w:World} {v:Value} {xs:List α} (h:S d e w base okv v xs) (m:Nat) (okp:Nat→Prop) (p:∀ k,okp k→¬ okv k):∃ f,(∀ k,okp k→f k=m)∧(tag f d).R e w base okv v xs.zipIdx:=by
  obtain⟨f,h⟩:=h
  exact⟨fun k=>if okp k then m else f k,fun k j=>if_pos j,R_tag h (fun k j _=>if_neg (fun h2=>p k h2 j))⟩
variable {P:Program} {ops:Array Oper} {rest:List Oper} {o:Oper} {a:Act} {Q:Exit→Act→World→Prop} {Kc:Act→World→Prop} {α:Type}
theorem S_append_step (d:Kd α) {w0 W:World} (base:Nat) (G:Region.wanted o (yielded ops a.tmps)=true) (s x:Operand) (t e:TypeId) (z:Value) (bytes:Nat)
    (I:o.op=.call { callee:=.builtin .append,args:=#[s,x],argTypes:=#[t,t] })
    (J:P.underlying t=some (.slice e)) (y:(P.info? e).map (fun i=>(i.zero,i.size,i.bytes))=some (some z,d.sz,bytes)) (K:z.cells.size=d.sz) (D:0 < d.sz) (E:0 < bytes)
    (v:Value) (xs:List α) (p:α) (cs:List Value) (ok okp:Nat→Prop) (hs:a.eval s=v) (L:a.eval x=.slice (some ⟨W.heap.size,0,none⟩) 1 1) (O:d.M W base okp p cs) (B:∀ k,okp k→ok k∧some k≠v.ownBlock) (r:∀ k,W.heap.size≤k→ok k)
    (T:S d e W base (fun k=>ok k∧¬ okp k) v xs) (U:Below base w0 W) (A:base≤W.heap.size) (X:(xs.length+1)*bytes≤140737488355328)
    (h:∀ j w1,S d e w1 base ok j (xs++[p])→Below base w0 w1→W.grownBy w1 v.ownBlock→(j.ownBlock=v.ownBlock∨∃ b,j.ownBlock=some b∧W.heap.size≤b)→Kc (a.put o.dst j) w1):
    if Region.wanted o (yielded ops a.tmps)=true then Oper.wp P o a (W.alloc (.cells cs.toArray e)) Kc Q else Kc (a.put o.dst undef) (W.alloc (.cells cs.toArray e)):=by
  obtain⟨f,hf,hR⟩:=S_tag T xs.length okp (fun _ m h2=>h2.2 m)
  refine R_append_step (tag f d) base G s x t e z bytes I J y K D E v xs.zipIdx (p,xs.length) cs ok okp hs L (d.M_mono (fun k m=>⟨m,hf k m⟩) O) B r (R_mono hR (fun _ m=>m.1)) U A (by rw [List.length_zipIdx];exact X) ?_
  intro j w1 q
  rw [← zip_snoc] at q
  exact h j w1 ⟨f,q⟩
end
def gap {α:Type} (f:Nat→Nat) (d:Kd α) (i:Nat) (c:List Value):Kd (α×Nat) where
  sz:=d.sz
  E:=d.E
  K:=fun w x cs=>(x.2=i→cs=c∧cs.length=d.sz∧∀ u∈cs,u.oneCell'=true)∧(x.2≠i→d.K w x.1 cs)
  M:=fun w base ok x cs=>(x.2=i→cs=c∧cs.length=d.sz∧∀ u∈cs,u.oneCell'=true)∧(x.2≠i→d.M w base (fun k=>ok k∧f k=x.2) x.1 cs)
  K_len:=fun {w x cs} h=>by
    by_cases hx:x.2=i
    · exact(h.1 hx).2.1
    · exact d.K_len (h.2 hx)
  K_one:=fun {w x cs} h=>by
    by_cases hx:x.2=i
    · exact(h.1 hx).2.2
    · exact d.K_one (h.2 hx)
  K_below:=fun hb h=>⟨h.1,fun hx=>d.K_below hb (h.2 hx)⟩
  K_of_M:=fun h=>⟨h.1,fun hx=>d.K_of_M (h.2 hx)⟩
  M_mono:=fun hok h=>⟨h.1,fun hx=>d.M_mono (fun k hk=>⟨hok k hk.1,hk.2⟩) (h.2 hx)⟩
  M_bound:=fun h=>⟨h.1,fun hx=>d.M_mono (fun _ hk=>⟨⟨hk.1.1,hk.2⟩,hk.1.2⟩) (d.M_bound (h.2 hx))⟩
  M_move:=fun hm h=>⟨h.1,fun hx=>d.M_move (fun k hk=>hm k hk.1) (h.2 hx)⟩
  M_lower:=fun hb h=>⟨h.1,fun hx=>d.M_lower hb (h.2 hx)⟩
def H {α:Type} (d:Kd α) (e:Nat) (w:World) (base:Nat) (ok:Nat→Prop) (v:Value) (xs:List α) (i:Int) (oki:Nat→Prop) (c:List Value):Prop:=
  (∀ k,oki k→ok k)∧∃ f,(gap f d i.toNat c).R e w base (fun k=>ok k∧¬ oki k) v xs.zipIdx
section
variable {α β:Type} {d:Kd α} {e e' g n cap:Nat} {w w1 W:World} {base:Nat} {ok ok' oki okp:Nat→Prop} {u v:Value} {xs:List α} {i:Int} {c:List Value}
theorem S_lend (h:S d e W base ok (.slice (some ⟨g,0,none⟩) n cap) xs) (z:α) (i:Int) (h0:0≤i) (h1:i < n):
    ∃ (oki:Nat→Prop) (c:List Value),c.length=d.sz∧d.M W base oki (xs.getD i.toNat z) c∧(∀ j u,c[j]?=some u→W.cell? ⟨g,i.toNat*d.sz+j,none⟩=some u)∧(∀ k,oki k→ok k∧k≠g)∧H d e W base ok (.slice (some ⟨g,0,none⟩) n cap) xs i oki c:=by
  obtain⟨f,hR⟩:=h
  have J:=(R_reads' hR).1
  rw [List.length_zipIdx] at J
  have t:some g=(Value.slice (some ⟨g,0,none⟩) n cap).ownBlock:=by simp [Value.ownBlock]
  obtain⟨hok0,inner,ho,hr⟩:=hR
  have x:i.toNat < xs.length:=by omega
  have D:inner.length=xs.length*d.sz:=by have:=hr.1;rw [List.length_zipIdx] at this;exact this
  have L:i.toNat*d.sz+d.sz≤inner.length:=by rw [D,← Nat.succ_mul];exact Nat.mul_le_mul_right _ x
  have y:=hr.2 i.toNat _ (zip_at (List.getElem?_eq_getElem x))
  have G:∀ k,some k≠(Value.slice (some ⟨g,0,none⟩) n cap).ownBlock→k≠g:=fun k r K=>r (by rw [K];exact t)
  refine⟨fun k=>(ok k∧k≠g)∧f k=i.toNat,(inner.drop (i.toNat*d.sz)).take d.sz,by rw [List.length_take,List.length_drop];omega,?_,fun j u s=>?_,fun k r=>r.1,fun k r=>r.1.1,f,fun k r=>⟨hok0 k r,fun h2=>h2.1.2 ?_⟩,inner,ho,hr.1,fun m p A=>?_⟩
  · rw [List.getD_eq_getElem?_getD,List.getElem?_eq_getElem x]
    exact d.M_mono (fun k r=>⟨⟨r.1.1,G k r.1.2⟩,r.2⟩) y
  · rw [List.getElem?_take] at s
    split at s
    · rw [List.getElem?_drop] at s
      have:=ho.cells (g:=g) t.symm _ u s
      rwa [add_plain] at this
    · cases s
  · rw [← t] at r;injection r with r;exact r.symm
  · have E:=hr.2 m p A
    have O:p.2=m:=by
      rw [List.getElem?_zipIdx,Nat.zero_add] at A
      obtain⟨q,_,rfl⟩:=Option.map_eq_some_iff.1 A
      rfl
    refine⟨fun B=>?_,fun B=>d.M_mono (fun k r=>⟨⟨⟨r.1.1,fun h2=>B ?_⟩,r.1.2⟩,r.2⟩) E⟩
    · have I:m=i.toNat:=by omega
      subst I
      exact⟨rfl,d.K_len (d.K_of_M y),d.K_one (d.K_of_M y)⟩
    · rw [← r.2];exact h2.2
open Classical in
theorem H_back (h:H d e w base ok v xs i oki c) {x':α} (x:d.M w base okp x' c) (r:∀ k,okp k→oki k):S d e w base ok v (xs.set i.toNat x'):=by
  obtain⟨ho,f,h0,inner,hown,hr⟩:=h
  refine⟨fun k=>if oki k then i.toNat else f k,fun k j=>(h0 k j).1,inner,by rw [List.length_zipIdx,List.length_set];rw [List.length_zipIdx] at hown;exact hown,by have:=hr.1;rw [List.length_zipIdx] at this;rw [List.length_zipIdx,List.length_set];exact this,fun m p t=>?_⟩
  rw [List.getElem?_zipIdx,Nat.zero_add] at t
  obtain⟨q,hq,rfl⟩:=Option.map_eq_some_iff.1 t
  have s:m < xs.length:=by
    have:=(List.getElem?_eq_some_iff.1 hq).1
    rwa [List.length_set] at this
  by_cases hmi:m=i.toNat
  · subst hmi
    rw [List.getElem?_set_self s] at hq
    injection hq with hq
    subst hq
    have y:=((hr.2 i.toNat _ (zip_at (List.getElem?_eq_getElem s))).1 rfl).1
    show d.M w base _ x' ((inner.drop (i.toNat*d.sz)).take d.sz)
    rw [show (inner.drop (i.toNat*d.sz)).take d.sz=c from y]
    exact d.M_mono (fun k j=>⟨⟨ho k (r k j),fun z=>(h0 k z.symm).2 (r k j)⟩,if_pos (r k j)⟩) x
  · rw [List.getElem?_set_ne (Ne.symm hmi)] at hq
    exact d.M_mono (fun k j=>⟨⟨j.1.1.1,j.1.2⟩,(if_neg j.1.1.2).trans j.2⟩) ((hr.2 m (q,m) (zip_at hq)).2 hmi)
theorem H_widen (h:H d e w base ok v xs i oki c):H d e w base ok v xs i (fun k=>oki k∨ok k∧w.heap.size≤k) c:=by
  obtain⟨ho,f,h⟩:=h
  exact⟨fun k j=>j.elim (ho k) (fun h2=>h2.1),f,R_mono (R_bound h) (fun k j=>⟨j.1.1,fun h2=>h2.elim j.1.2 (fun h3=>by have:=j.2.2.1;omega)⟩)⟩
theorem H_step (h:H d e w base ok v xs i oki c) (p:∀ k,ok k→¬ oki k→k < w.heap.size→w1.heap[k]?=w.heap[k]?):H d e w1 base ok v xs i oki c:=by
  obtain⟨ho,f,h⟩:=h
  exact⟨ho,f,R_step h (fun k j m=>p k j.1 j.2 m)⟩
theorem H_mono (h:H d e w base ok v xs i oki c) (m:∀ k,ok k→ok' k):H d e w base ok' v xs i oki c:=by
  obtain⟨ho,f,h⟩:=h
  exact⟨fun k j=>m k (ho k j),f,R_mono h (fun k j=>⟨m k j.1,j.2⟩)⟩
theorem H_more {m:Nat→Prop} (h:H d e w base (fun k=>ok k∧¬ m k) v xs i oki c) (p:∀ k,m k→ok k):H d e w base ok v xs i (fun k=>oki k∨m k) c:=by
  obtain⟨ho,f,h⟩:=h
  exact⟨fun k j=>j.elim (fun h2=>(ho k h2).1) (p k),f,R_mono h (fun k j=>⟨j.1.1,fun h2=>h2.elim j.2 j.1.2⟩)⟩
theorem S_elem (h:S d e W base ok (.slice (some ⟨g,0,none⟩) n cap) xs) (z:α) (i:Int) (h0:0≤i) (h1:i < n):
    ∃ (oki:Nat→Prop) (c:List Value),c.length=d.sz∧d.M W base oki (xs.getD i.toNat z) c∧(∀ j u,c[j]?=some u→W.cell? ⟨g,i.toNat*d.sz+j,none⟩=some u)∧(∀ j,W.frozen? ⟨g,i.toNat*d.sz+j,none⟩=false)∧(∀ k,oki k→ok k∧k≠g)∧H d e W base ok (.slice (some ⟨g,0,none⟩) n cap) xs i oki c:=by
  obtain⟨_,_,_,_,hfr⟩:=R_elem (S_R h) z i h0 h1
  obtain⟨oki,c,hcl,hM,hcc,hoki,hH⟩:=S_lend h z i h0 h1
  exact⟨oki,c,hcl,hM,hcc,hfr,hoki,hH⟩
theorem H_raw (h:H d e W base ok (.slice (some ⟨g,0,none⟩) n cap) xs i oki c) (h0:0≤i) (h1:i < n):
    ∃ B : List (List Value), B.length = xs.length ∧ (raw d.sz).R e W base (fun _ => True) (.slice (some ⟨g, 0, none⟩) n cap) B ∧ c.length = d.sz ∧ (∀ u ∈ c, u.oneCell' = true) ∧ (∀ j u, c[j]? = some u → W.cell? ⟨g, i.toNat * d.sz + j, none⟩ = some u) ∧
      ∀ w1 z,W.grownBy w1 (some g)→(raw d.sz).R e w1 base (fun _=>True) (.slice (some ⟨g,0,none⟩) n cap) (B.set i.toNat z)→H d e w1 base ok (.slice (some ⟨g,0,none⟩) n cap) xs i oki z:=by
  obtain⟨hoo,f,hR⟩:=h
  have Y:=(R_reads' hR).1
  rw [List.length_zipIdx] at Y
  have E:some g=(Value.slice (some ⟨g,0,none⟩) n cap).ownBlock:=by simp [Value.ownBlock]
  obtain⟨hok0,inner,ho,hr⟩:=hR
  have G:i.toNat < xs.length:=by omega
  have K:inner.length=xs.length*d.sz:=by have:=hr.1;rw [List.length_zipIdx] at this;exact this
  have T:∀ k,some k≠(Value.slice (some ⟨g,0,none⟩) n cap).ownBlock→k≠g:=fun k r s=>r (by rw [s];exact E)
  have y:=(hr.2 i.toNat _ (zip_at (List.getElem?_eq_getElem G))).1 rfl
  rw [y.1] at y
  have Z:=((hr.2 i.toNat _ (zip_at (List.getElem?_eq_getElem G))).1 rfl).1
  refine⟨(List.range xs.length).map fun j=>(inner.drop (j*d.sz)).take d.sz,by rw [List.length_map,List.length_range],⟨fun _ _=>trivial,inner,?_,?_,fun j p J=>?_⟩,y.2.1,y.2.2,fun j u t=>?_,fun w1 z hg L=>?_⟩
  · rw [List.length_map,List.length_range];rw [List.length_zipIdx] at ho;exact ho
  · rw [List.length_map,List.length_range];exact K
  · rw [List.getElem?_map] at J
    obtain⟨j',hj',rfl⟩:=Option.map_eq_some_iff.1 J
    obtain⟨hl,s⟩:=List.getElem?_eq_some_iff.1 hj'
    rw [List.getElem_range] at s
    subst s
    rw [List.length_range] at hl
    have x:=(gap f d i.toNat c).K_of_M (hr.2 j _ (zip_at (List.getElem?_eq_getElem hl)))
    exact⟨rfl,(gap f d i.toNat c).K_len x,(gap f d i.toNat c).K_one x⟩
  · rw [← Z,List.getElem?_take] at t
    split at t
    · rw [List.getElem?_drop] at t
      have:=ho.cells (g:=g) E.symm _ u t
      rwa [add_plain] at this
    · cases t
  · obtain⟨_,inner',ho',hr'⟩:=L
    have U:inner'.length=xs.length*d.sz:=by have:=hr'.1;rw [List.length_set,List.length_map,List.length_range] at this;exact this
    rw [List.length_set,List.length_map,List.length_range] at ho'
    refine⟨hoo,f,hok0,inner',by rw [List.length_zipIdx];exact ho',by rw [List.length_zipIdx];exact U,fun m p x=>?_⟩
    rw [List.getElem?_zipIdx,Nat.zero_add] at x
    obtain⟨q,hq,rfl⟩:=Option.map_eq_some_iff.1 x
    have I:m < xs.length:=(List.getElem?_eq_some_iff.1 hq).1
    have O:=hr.2 m (q,m) (zip_at hq)
    refine⟨fun A=>?_,fun A=>?_⟩
    · have D:m=i.toNat:=A
      subst D
      exact hr'.2 i.toNat z (List.getElem?_set_self (by rw [List.length_map,List.length_range];exact I))
    · have D:m≠i.toNat:=A
      have X:=(hr'.2 m ((inner.drop (m*d.sz)).take d.sz) (by
        rw [List.getElem?_set_ne (Ne.symm D),List.getElem?_map,List.getElem?_eq_getElem (by rw [List.length_range];exact I),List.getElem_range]
        rfl)).1
      show d.M w1 base _ q ((inner'.drop (m*d.sz)).take d.sz)
      rw [show (inner'.drop (m*d.sz)).take d.sz=_ from X]
      exact d.M_mono (fun k r=>r.1) (d.M_move (w1:=w1) (fun k r=>hg.block k r.2.2.1 (fun s=>T k r.1.1.2 (by injection s))) (d.M_bound (O.2 A)))
theorem H_seg (h:H d e W base ok (.slice (some ⟨g,0,none⟩) n cap) xs i oki c) (h0:0≤i) (h1:i < n) {seg:List Value} {j:Nat} (p:j+seg.length≤d.sz) (m:∀ q∈seg,q.oneCell'=true):
    H d e (W.setCells g (i.toNat*d.sz+j) seg) base ok (.slice (some ⟨g,0,none⟩) n cap) xs i oki (c.take j++seg++c.drop (j+seg.length))∧W.grownBy (W.setCells g (i.toNat*d.sz+j) seg) (some g):=by
  obtain⟨rows,_,hraw,hcl,hco,hcc,hback⟩:=H_raw h h0 h1
  obtain⟨h2,h3⟩:=R_seg hraw i h0 h1 (c:=c) (seg:=seg) (j:=j) (x':=c.take j++seg++c.drop (j+seg.length)) (okp:=fun _=>False) hcl hcc p
    ⟨rfl,by
      show (c.take j++seg++c.drop (j+seg.length)).length=d.sz
      simp only [List.length_append,List.length_take,List.length_drop];omega,fun u k=>by
      rcases List.mem_append.1 k with k|k
      · rcases List.mem_append.1 k with k|k
        · exact hco u (List.mem_of_mem_take k)
        · exact m u k
      · exact hco u (List.mem_of_mem_drop k)⟩ (fun _ r=>r.elim)
  exact⟨hback _ _ h3 h2,h3⟩
theorem S_seg {p:Nat→Prop} (t:H d e W base (fun k=>ok k∧¬ p k) (.slice (some ⟨g,0,none⟩) n cap) xs i oki c) (h0:0≤i) (h1:i < n) {seg:List Value} {j:Nat} (B:j+seg.length≤d.sz)
    {x':α} (x:d.M W base okp x' (c.take j++seg++c.drop (j+seg.length))) (s:∀ k,okp k→oki k∨p k) (y:∀ k,p k→ok k∧k≠g):
    S d e (W.setCells g (i.toNat*d.sz+j) seg) base ok (.slice (some ⟨g,0,none⟩) n cap) (xs.set i.toNat x')∧W.grownBy (W.setCells g (i.toNat*d.sz+j) seg) (some g):=by
  have z:∀ k,oki k∨p k→k≠g:=by
    intro k m r
    subst r
    rcases m with m|m
    · obtain⟨_,f,hR⟩:=t
      exact(hR.1 k (by simp [Value.ownBlock])).2 m
    · exact(y k m).2 rfl
  obtain⟨h2,h3⟩:=H_seg (H_more t (fun k m=>(y k m).1)) h0 h1 B (fun q D=>d.K_one (d.K_of_M x) q (List.mem_append_left _ (List.mem_append_right _ D)))
  exact⟨H_back h2 (M_step x (fun k m A=>h3.block k A (fun r=>z k (s k m) (by injection r)))) s,h3⟩
end
section
variable {P:Program} {ops:Array Oper} {rest:List Oper} {o:Oper} {a:Act} {Q:Exit→Act→World→Prop} {α:Type}
end
end Kd
end Go.Proofs.YtkbebmifpccofaaGreatW.PrintWords
