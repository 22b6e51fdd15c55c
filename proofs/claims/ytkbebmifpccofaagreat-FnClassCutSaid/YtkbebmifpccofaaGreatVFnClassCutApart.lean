-- PRINTED BY print.sh 35421559b90ae4d0a3588c463048766b98c2df88dd9212a6774a882060cdf62d: not written by this session
import Derived.Test.YtkbebmifpccofaaGreatVFnClassCutWords
import Derived.Test.YtkbebmifpccofaaGreatVFnClassCutLast
namespace Go.Proofs.YtkbebmifpccofaaGreatW.PrintWords
open Go.RowKit
namespace Kd
def tag {α:Type} (f:Nat→Nat) (d:Kd α):Kd (α×Nat) where
  sz:=d.sz
  E:=d.E
  K:=fun w x cs=>d.K w x.1 cs
  M:=fun w base ok x cs=>d.M w base (fun k=>ok k∧f k=x.2) x.1 cs
  K_len:=fun h=>d.K_len h
  K_one:=fun h=>d.K_one h
  K_below:=fun hb h=>d.K_below hb h
  K_of_M:=fun h=>d.K_of_M h
  M_mono:=fun hok h=>d.M_mono (fun k hk=>⟨hok k hk.1,hk.2⟩) h
  M_bound:=fun h=>d.M_mono (fun _ hk=>⟨⟨hk.1.1,hk.2⟩,hk.1.2⟩) (d.M_bound h)
  M_move:=fun hm h=>d.M_move (fun k hk=>hm k hk.1) h
  M_lower:=fun hb h=>d.M_lower hb h
def raw (sz:Nat):Kd (List Value) where
  sz:=sz
  E:=[]
  K:=fun _ x cs=>cs=x∧cs.length=sz∧∀ u∈cs,u.oneCell'=true
  M:=fun _ _ _ x cs=>cs=x∧cs.length=sz∧∀ u∈cs,u.oneCell'=true
  K_len:=fun h=>h.2.1
  K_one:=fun h=>h.2.2
  K_below:=fun _ h=>h
  K_of_M:=fun h=>h
  M_mono:=fun _ h=>h
  M_bound:=fun h=>h
  M_move:=fun _ h=>h
  M_lower:=fun _ h=>h
def S {α:Type} (d:Kd α) (e:Nat) (w:World) (base:Nat) (ok:Nat→Prop) (v:Value) (xs:List α):Prop:=∃ f,(tag f d).R e w base ok v xs.zipIdx
section
variable {α β:Type} {d:Kd α} {d':Kd β} {e e':Nat} {w w1 W:World} {base b:Nat} {ok ok' okv oku:Nat→Prop} {u v:Value} {xs:List α} {ys:List β}
theorem zip_at {xs:List α} {j:Nat} {p:α} (h:xs[j]?=some p):xs.zipIdx[j]?=some (p,j):=by rw [List.getElem?_zipIdx,h,Nat.zero_add];rfl
theorem S_R (h:S d e w base ok v xs):d.R e w base ok v xs:=by
  obtain⟨f,h0,inner,ho,hr⟩:=h
  rw [List.length_zipIdx] at ho
  exact⟨h0,inner,ho,by have:=hr.1;rw [List.length_zipIdx] at this;exact this,fun j p k=>d.M_mono (fun _ m=>m.1) (hr.2 j (p,j) (zip_at k))⟩
theorem R_tight (m:d.E=[]) (h:d.R e w base ok v xs):d.R e w base (fun k=>some k=v.ownBlock) v xs:=by
  obtain⟨h0,inner,ho,hr⟩:=h
  refine⟨fun k j=>j.symm,inner,ho,hr.imp_ (fun p c r=>d.M_mono (fun k j=>?_) (d.M_bound r))⟩
  obtain⟨_,_,_,q,hq,_⟩:=j
  rw [m] at hq
  cases hq
theorem S_nil (d:Kd α) (e:Nat) (w:World) (base:Nat) (ok:Nat→Prop):S d e w base ok (.slice none 0 0) []:=⟨fun _=>0,R_nil _ _ _ _ _⟩
theorem S_mono (h:S d e w base ok v xs) (j:∀ k,ok k→ok' k):S d e w base ok' v xs:=by
  obtain⟨f,h⟩:=h
  exact⟨f,R_mono h j⟩
theorem S_bound (h:S d e w base ok v xs):S d e w base (fun k=>ok k∧base≤k∧k < w.heap.size∧∃ q,q∈e :: d.E∧∃ cells,w.heap[k]?=some (.cells cells q (0,0))) v xs:=by
  obtain⟨f,h⟩:=h
  exact⟨f,R_bound h⟩
theorem S_move (h:S d e w base ok v xs) (j:∀ k,ok k→w1.heap[k]?=w.heap[k]?):S d e w1 base ok v xs:=by
  obtain⟨f,h⟩:=h
  exact⟨f,R_move h j⟩
theorem S_lower {j:Nat} (h:S d e w base ok v xs) (k:j≤base):S d e w j ok v xs:=by
  obtain⟨f,h⟩:=h
  exact⟨f,R_lower h k⟩
theorem S_step (h:S d e w base ok v xs) (m:∀ k,ok k→k < w.heap.size→w1.heap[k]?=w.heap[k]?):S d e w1 base ok v xs:=
  S_mono (S_move (S_bound h) (fun k j=>m k j.1 j.2.2.1)) (fun _ j=>j.1)
theorem S_below (h:S d e w base ok v xs) (j:Below w.heap.size w w1):S d e w1 base ok v xs:=S_step h (fun k _ m=>j.block k m)
theorem S_alloc (h:S d e w base ok v xs) (o:Obj):S d e (w.alloc o) base ok v xs:=S_below h (below_alloc (Below.refl _ _) o)
theorem S_drew (h:S d e w base ok v xs):S d e w.drew base ok v xs:=S_below h (below_drew (Below.refl _ _))
theorem S_drewN (h:S d e w base ok v xs) (m:Nat):S d e (w.drewN m) base ok v xs:=S_below h (pw_below_drewN (Below.refl _ _) m)
theorem S_far (h:S d e w base ok v xs) {p:Addr} (j:∀ k,ok k→k≠p.block) (u:Value):S d e (w.setCell p u) base ok v xs:=S_step h (fun k m _=>Below.heap_setCell w p u k (j k m))
theorem S_keep (h:S d e w base ok v xs) {g:Nat} (p:KeepBut w w1 g none) (j:∀ k,ok k→k≠g):S d e w1 base ok v xs:=S_step h (fun k q m=>p.2 k m (j k q) (by simp))
theorem S_types (h:S d e w base ok v xs) {g t:Nat} {cells:Array Value} (j:w.heap[g]?=some (.cells cells t (0,0))) (m:∀ q,q∈e :: d.E→q≠t):S d e w base (fun k=>ok k∧k≠g) v xs:=by
  obtain⟨f,h⟩:=h
  exact⟨f,R_types h j m⟩
theorem S_typed (h:S d e w base ok v xs):∀ k,v.ownBlock=some k→∃ cells,w.heap[k]?=some (.cells cells e (0,0)):=R_typed (S_R h)
theorem S_over' (h:S d e W base ok u xs) (j:∀ k,v.ownBlock=some k→∃ cells,W.heap[k]?=some (.cells cells e' (0,0))) (m:∀ q,q∈e :: d.E→q≠e') (p:W.grownBy w1 v.ownBlock):S d e w1 base ok u xs:=by
  obtain⟨f,h⟩:=h
  exact⟨f,R_over' h j m p⟩
theorem R_tag {f q:Nat→Nat} {r:List (α×Nat)} (h:(tag f d).R e w base ok v r) (s:∀ k,ok k→k < w.heap.size→q k=f k):(tag q d).R e w base ok v r:=by
  obtain⟨h0,inner,ho,hr⟩:=R_bound h
  exact⟨fun k m=>(h0 k m).1,inner,ho,hr.1,fun j p t=>d.M_mono (fun k m=>⟨⟨m.1.1.1,m.1.2⟩,(s k m.1.1.1 m.1.1.2.2.1).trans m.2⟩) (hr.2 j p t)⟩
end
section
variable {α β:Type} {d:Kd α} {d':Kd β} {e e' g:Nat} {w w1 W:World} {base b:Nat} {ok ok' okv oku:Nat→Prop} {u v:Value} {xs:List α} {ys:List β}
theorem S_ne (h:S d e w base ok v xs) {t:Nat} {cells:Array Value} (j:w.heap[g]?=some (.cells cells t (0,0))) (k:e≠t):some g≠v.ownBlock:=R_ne (S_R h) j k
theorem S_away (h:S d e w base ok v xs) (j:∀ k,ok k→k≠g):some g≠v.ownBlock:=R_away (S_R h) j
theorem S_base2 (h:S d e w base ok v xs):v.ownBlock=none∨∃ k,v.ownBlock=some k∧base≤k:=R_base2 (S_R h)
theorem S_slice (h:S d e w base ok v xs):∃ A c,v=.slice A xs.length c:=R_slice (S_R h)
theorem S_reads' {A:Option Addr} {n c:Nat} (h:S d e w base ok (.slice A n c) xs):n=xs.length∧n≤c∧d.C w A xs.length xs:=R_reads' (S_R h)
theorem S_elderB (h:S d e w base ok v xs) (a:Nat) (m:w.heap.size≤a):S d e w base (fun k=>ok k∧k≠a) v xs:=S_mono (S_bound h) (fun k j=>⟨j.1,by have:=j.2.2.1;omega⟩)
theorem S_oldK (j:S d e W base (fun k=>ok k∧k≠g) u xs) (m:KeepBut W w1 g none):S d e w1 base (fun k=>ok k∧k < W.heap.size) u xs:=
  S_mono (S_keep (S_bound j) m (fun _ h=>h.1.2)) (fun _ h=>⟨h.1.1,h.2.2.1⟩)
theorem S_told {N:Nat} (h:S d e w1 base (fun k=>ok k∧k < N) u xs) (m:∀ k,v.ownBlock=some k→N≤k):S d e w1 base (fun k=>(ok k∧some k≠v.ownBlock)∧k < N) u xs:=
  S_mono h (fun k j=>⟨⟨j.1,fun e=>Nat.lt_irrefl _ (Nat.lt_of_lt_of_le j.2 (m k e.symm))⟩,j.2⟩)
theorem zip_snoc (xs:List α) (p:α):(xs++[p]).zipIdx=xs.zipIdx++[(p,xs.length)]:=by rw [List.zipIdx_append];simp
end
section
open Classical in
theorem S_tag {α:Type} {d:Kd α} {e base:Nat} {okv:Nat→Prop} {w:World} {v:Value} {xs:List α} (h:S d e w base okv v xs) (m:Nat) (okp:Nat→Prop) (p:∀ k,okp k→¬ okv k):∃ f,(∀ k,okp k→f k=m)∧(tag f d).R e w base okv v xs.zipIdx:=by
  obtain⟨f,h⟩:=h
  exact⟨fun k=>if okp k then m else f k,fun k j=>if_pos j,R_tag h (fun k j _=>if_neg (fun h2=>p k h2 j))⟩
variable {P:Program} {ops:Array Oper} {rest:List Oper} {o:Oper} {a:Act} {Q:Exit→Act→World→Prop} {Kc:Act→World→Prop} {α:Type}
theorem S_append (d:Kd α) {w0 W:World} (base:Nat) (B:o.guard=none) (s x:Operand) (t e:TypeId) (z:Value) (bytes:Nat)
    (G:o.op=.call { callee:=.builtin .append,args:=#[s,x],argTypes:=#[t,t] })
    (I:P.underlying t=some (.slice e)) (r:(P.info? e).map (fun i=>(i.zero,i.size,i.bytes))=some (some z,d.sz,bytes)) (J:z.cells.size=d.sz) (D:0 < d.sz) (E:0 < bytes)
    (v:Value) (xs:List α) (p:α) (cs:List Value) (ok okp:Nat→Prop) (hs:a.eval s=v) (K:a.eval x=.slice (some ⟨W.heap.size,0,none⟩) 1 1) (L:d.M W base okp p cs) (A:∀ k,okp k→ok k∧some k≠v.ownBlock) (q:∀ k,W.heap.size≤k→ok k)
    (O:S d e W base (fun k=>ok k∧¬ okp k) v xs) (T:Below base w0 W) (y:base≤W.heap.size) (U:(xs.length+1)*bytes≤140737488355328)
    (h:∀ v1 w1,S d e w1 base ok v1 (xs++[p])→Below base w0 w1→W.grownBy w1 v.ownBlock→(v1.ownBlock=v.ownBlock∨∃ b,v1.ownBlock=some b∧W.heap.size≤b)→wpList P ops Q rest (a.put o.dst v1) w1):
    wpList P ops Q (o :: rest) a (W.alloc (.cells cs.toArray e)):=by
  obtain⟨f,hf,hR⟩:=S_tag O xs.length okp (fun _ j h2=>h2.2 j)
  refine R_append (tag f d) base B s x t e z bytes G I r J D E v xs.zipIdx (p,xs.length) cs ok okp hs K (d.M_mono (fun k j=>⟨j,hf k j⟩) L) A q (R_mono hR (fun _ j=>j.1)) T y (by rw [List.length_zipIdx];exact U) ?_
  intro v1 w1 m
  rw [← zip_snoc] at m
  exact h v1 w1 ⟨f,m⟩
theorem S_append_step (d:Kd α) {w0 W:World} (base:Nat) (E:Region.wanted o (yielded ops a.tmps)=true) (s x:Operand) (t e:TypeId) (z:Value) (bytes:Nat)
    (G:o.op=.call { callee:=.builtin .append,args:=#[s,x],argTypes:=#[t,t] })
    (I:P.underlying t=some (.slice e)) (r:(P.info? e).map (fun i=>(i.zero,i.size,i.bytes))=some (some z,d.sz,bytes)) (J:z.cells.size=d.sz) (B:0 < d.sz) (D:0 < bytes)
    (v:Value) (xs:List α) (p:α) (cs:List Value) (ok okp:Nat→Prop) (hs:a.eval s=v) (K:a.eval x=.slice (some ⟨W.heap.size,0,none⟩) 1 1) (L:d.M W base okp p cs) (A:∀ k,okp k→ok k∧some k≠v.ownBlock) (q:∀ k,W.heap.size≤k→ok k)
    (O:S d e W base (fun k=>ok k∧¬ okp k) v xs) (T:Below base w0 W) (y:base≤W.heap.size) (U:(xs.length+1)*bytes≤140737488355328)
    (h:∀ v1 w1,S d e w1 base ok v1 (xs++[p])→Below base w0 w1→W.grownBy w1 v.ownBlock→(v1.ownBlock=v.ownBlock∨∃ b,v1.ownBlock=some b∧W.heap.size≤b)→Kc (a.put o.dst v1) w1):
    if Region.wanted o (yielded ops a.tmps)=true then Oper.wp P o a (W.alloc (.cells cs.toArray e)) Kc Q else Kc (a.put o.dst undef) (W.alloc (.cells cs.toArray e)):=by
  obtain⟨f,hf,hR⟩:=S_tag O xs.length okp (fun _ j h2=>h2.2 j)
  refine R_append_step (tag f d) base E s x t e z bytes G I r J B D v xs.zipIdx (p,xs.length) cs ok okp hs K (d.M_mono (fun k j=>⟨j,hf k j⟩) L) A q (R_mono hR (fun _ j=>j.1)) T y (by rw [List.length_zipIdx];exact U) ?_
  intro v1 w1 m
  rw [← zip_snoc] at m
  exact h v1 w1 ⟨f,m⟩
end
def gap {α:Type} (f:Nat→Nat) (d:Kd α) (i:Nat) (c:List Value):Kd (α×Nat) where
  sz:=d.sz
  E:=d.E
  K:=fun w x cs=>(x.2=i→cs=c∧cs.length=d.sz∧∀ u∈cs,u.oneCell'=true)∧(x.2≠i→d.K w x.1 cs)
  M:=fun w base ok x cs=>(x.2=i→cs=c∧cs.length=d.sz∧∀ u∈cs,u.oneCell'=true)∧(x.2≠i→d.M w base (fun k=>ok k∧f k=x.2) x.1 cs)
  K_len:=fun {w x cs} h=>by
    by_cases hx:x.2=i
    · exact(h.1 hx).2.1
    · exact d.K_len (h.2 hx)
  K_one:=fun {w x cs} h=>by
    by_cases hx:x.2=i
    · exact(h.1 hx).2.2
    · exact d.K_one (h.2 hx)
  K_below:=fun hb h=>⟨h.1,fun hx=>d.K_below hb (h.2 hx)⟩
  K_of_M:=fun h=>⟨h.1,fun hx=>d.K_of_M (h.2 hx)⟩
  M_mono:=fun hok h=>⟨h.1,fun hx=>d.M_mono (fun k hk=>⟨hok k hk.1,hk.2⟩) (h.2 hx)⟩
  M_bound:=fun h=>⟨h.1,fun hx=>d.M_mono (fun _ hk=>⟨⟨hk.1.1,hk.2⟩,hk.1.2⟩) (d.M_bound (h.2 hx))⟩
  M_move:=fun hm h=>⟨h.1,fun hx=>d.M_move (fun k hk=>hm k hk.1) (h.2 hx)⟩
  M_lower:=fun hb h=>⟨h.1,fun hx=>d.M_lower hb (h.2 hx)⟩
def H {α:Type} (d:Kd α) (e:Nat) (w:World) (base:Nat) (ok:Nat→Prop) (v:Value) (xs:List α) (i:Int) (oki:Nat→Prop) (c:List Value):Prop:=
  (∀ k,oki k→ok k)∧∃ f,(gap f d i.toNat c).R e w base (fun k=>ok k∧¬ oki k) v xs.zipIdx
section
variable {α β:Type} {d:Kd α} {e e' g n cap:Nat} {w w1 W:World} {base:Nat} {ok ok' oki okp:Nat→Prop} {u v:Value} {xs:List α} {i:Int} {c:List Value}
end
section
variable {P:Program} {ops:Array Oper} {rest:List Oper} {o:Oper} {a:Act} {Q:Exit→Act→World→Prop} {α:Type}
end
end Kd
end Go.Proofs.YtkbebmifpccofaaGreatW.PrintWords
