-- PRINTED BY print.sh 35421559b90ae4d0a3588c463048766b98c2df88dd9212a6774a882060cdf62d: not written by this session
/-
  PRINTED WORDS, second file: A REGION THAT DRAWS ITS ORDER, WALKED BY HAND, where its last store writes what its own loads read ('x.f = append(x.f, f(i))'). Plain theorems; no macro, no elab. A claim may hold it (turn the namespace's name).
  A load may be taken first in every world that meets S; behind the operations of ds nothing is shown; sound because each of ds waits for what is taken (Region.lastB). The kernel checks it.
  By an AI agent of Go's test side, Mon Nov 16 2026. No person has read it.
-/
import Derived.OrdersHeld
import Derived.Deep.RegionHeld3
import Derived.Laws.BitsLemmas
import Derived.RowKit
namespace Go.Proofs.YtkbebmifpccofaaGreatW.PrintLast
section
variable {P:Program} {ops:Array Oper} {Q:Exit→Act→World→Prop} {md:Region.Mode} {S:World→Prop} {ds:List Nat}
def Region.reachB (md:Region.Mode) (ops:Array Oper) (i:Nat):Nat→Nat→Bool
  | 0,_=>false
  | fuel + 1, d => match ops[d]? with
    | some o=>o.after.any fun e=>Region.binds md e && (e.on == i || Region.reachB md ops i fuel e.on)
    | none=>false
def Region.closedB (md:Region.Mode) (ops:Array Oper) (listed:Array Bool):Bool:=
  (List.range ops.size).all fun j=>!listed.getD j false || match ops[j]? with
    | some o=>o.after.all fun e=>!Region.binds md e || listed.getD e.on false
    | none=>true
def Region.lastB (md:Region.Mode) (ops:Array Oper) (listed:Array Bool) (ds:List Nat) (i:Nat):Bool:=
  ds.all fun d=>listed.getD d true || Region.reachB md ops i ops.size d
def ListedClosed (md:Region.Mode) (ops:Array Oper) (listed:Array Bool):Prop:=
  ∀ j oj,ops[j]?=some oj→listed.getD j false=true→∀ e∈oj.after,Region.binds md e=true→listed.getD e.on false=true
theorem Region.closedB_spec {a:Array Bool} (h:Region.closedB md ops a=true):ListedClosed md ops a:=by
  intro j m b d e i k
  have c:j < ops.size:=(Array.getElem?_eq_some_iff.1 b).1
  have h1:=List.all_eq_true.1 h j (List.mem_range.2 c)
  simp only [d,b,Bool.not_true,Bool.false_or] at h1
  have h2:=Array.all_eq_true_iff_forall_mem.1 h1 e i
  simpa [k] using h2
theorem ListedClosed.set {a:Array Bool} {i:Nat} (h:ListedClosed md ops a) (n:i∈Region.ready md ops a):ListedClosed md ops (a.setIfInBounds i true):=by
  obtain⟨_,oi,hoi,hall⟩:=mem_ready.1 n
  intro j b c d e k m
  by_cases hij:i=j
  · subst hij
    have:b=oi:=Option.some.inj (c.symm.trans hoi)
    subst this
    exact getD_set_true (hall e k m)
  · rw [getD_set_ne false hij] at d
    exact getD_set_true (h j b c d e k m)
theorem Region.reach_listed {a:Array Bool} {i:Nat} (j:ListedClosed md ops a):∀ (b d:Nat),Region.reachB md ops i b d=true→a.getD d false=true→a.getD i false=true
  | 0,_,h,_=>by simp [Region.reachB] at h
  | b + 1, d, h, hl => by
    unfold Region.reachB at h
    cases ho:ops[d]? with
    | none=>rw [ho] at h;simp at h
    | some o =>
      rw [ho] at h
      obtain⟨e,he,h1⟩:=Array.any_eq_true'.1 h
      simp only [Bool.and_eq_true,Bool.or_eq_true,beq_iff_eq] at h1
      have c:=j d o ho hl e he h1.1
      rcases h1.2 with h2|h2
      · rw [← h2];exact c
      · exact Region.reach_listed j b e.on h2 c
theorem Region.reach_not_ready {a:Array Bool} {i d k:Nat} (p:ListedClosed md ops a) (b:Region.reachB md ops i k d=true) (c:a.getD i true=false):d ∉ Region.ready md ops a:=by
  intro hd
  obtain⟨_,o,ho,hall⟩:=mem_ready.1 hd
  have j:a.getD i false=true:=by
    cases k with
    | zero=>simp [Region.reachB] at b
    | succ n =>
      unfold Region.reachB at b
      rw [ho] at b
      obtain⟨e,he,h1⟩:=Array.any_eq_true'.1 b
      simp only [Bool.and_eq_true,Bool.or_eq_true,beq_iff_eq] at h1
      have m:=hall e he h1.1
      rcases h1.2 with h2|h2
      · rw [← h2];exact m
      · exact Region.reach_listed p n e.on h2 m
  rcases Nat.lt_or_ge i a.size with h'|h'
  · simp [h'] at c j
    rw [c] at j
    cases j
  · simp [Array.getElem?_eq_none h'] at c
def wpAnyLast (P:Program) (md:Region.Mode) (ops:Array Oper) (Q:Exit→Act→World→Prop) (S:World→Prop) (ds:List Nat):Nat→Array Bool→Act→World→Prop
  | 0,listed,a,w=>Region.ready md ops listed=[]∧Q .normal a w
  | fuel + 1, listed, a, w =>
    (Region.ready md ops listed=[]→Q .normal a w)∧
    ∀ i∈Region.ready md ops listed,wpOp P ops Q i (fun a' w'=>(i ∉ ds→S w→S w')∧wpAnyLast P md ops Q S ds fuel (listed.setIfInBounds i true) a' w') a w
theorem wpAny_of_last:∀ (b:Nat) (c:Array Bool) (a:Act) (w:World),wpAnyLast P md ops Q S ds b c a w→wpAny P md ops Q b c a w
  | 0,_,_,_,h=>h
  | b+1,_,_,_,h=>⟨h.1,fun i d=>wpOp_mono (fun e w' j=>wpAny_of_last b _ e w' j.2) (h.2 i d)⟩
theorem wpAnyLast_first {i:Nat} {p:Oper} {v:Value} (A:ops[i]?=some p) (E:∀ (j:Nat) (o:Oper) cs b,ops[j]?=some o→o.op≠.select cs b)
    (U:∀ c a w,Q (.panic c) (a.put p.dst v) w→Q (.panic c) a w) (n:Nat):
    ∀ (t : Nat) (m : Array Bool) (a : Act) (w : World),
      (∀ j q,ops[j]?=some q→j≠i→m.getD j true=false→(∀ e∈q.after,Region.binds md e=true→e.on≠i)→p.apart ops q=true)→
      ListedClosed md ops m→(∀ d∈ds,m.getD d true=false→Region.reachB md ops i n d=true)→
      i∈Region.ready md ops m→YieldsIf P ops S p v a→S w→
      wpAnyLast P md ops Q S ds t (m.setIfInBounds i true) (a.put p.dst v) w→wpAnyLast P md ops Q S ds (t+1) m a w:=by
  intro t
  induction t with
  | zero =>
    intro m a w _ _ _ r x y H
    refine⟨fun h=>(by rw [h] at r;cases r),fun j s=>?_⟩
    by_cases hji:j=i
    · subst hji;exact x.wpOp A y ⟨fun _ h=>h,H⟩
    · have:=ready_mono s hji
      rw [H.1] at this
      cases this
  | succ t ih =>
    intro m a w D G hd r x y H
    refine⟨fun h=>(by rw [h] at r;cases r),fun j s=>?_⟩
    by_cases hji:j=i
    · subst hji;exact x.wpOp A y ⟨fun _ h=>h,H⟩
    · have h1:=H.2 j (ready_mono s hji)
      obtain⟨hjun,q,hoj,hall⟩:=mem_ready.1 s
      have z:=(mem_ready.1 r).1
      have J:∀ e∈q.after,Region.binds md e=true→e.on≠i:=fun e W X K=>by
        have h1:=hall e W X
        rw [K] at h1
        rcases Nat.lt_or_ge i m.size with h'|h'
        · simp [h'] at z h1;rw [z] at h1;cases h1
        · simp [Array.getElem?_eq_none h'] at h1
      have L:j ∉ ds:=fun B=>Region.reach_not_ready G (hd j B hjun) z s
      have h2:=wpOp_putIf hoj (D j q hoj hji hjun J) (fun cs b=>E i p cs b A) (fun cs b=>E j q cs b hoj) U x h1
      have I:∀ k ok,ops[k]?=some ok→k≠i→(m.setIfInBounds j true).getD k true=false→
          (∀ e∈ok.after,Region.binds md e=true→e.on≠i)→p.apart ops ok=true:=fun k ok Y M u O=>by
        refine D k ok Y M ?_ O
        by_cases hjk:j=k
        · subst hjk;exact hjun
        · rw [getD_set_ne true hjk] at u;exact u
      have T:∀ d∈ds,(m.setIfInBounds j true).getD d true=false→Region.reachB md ops i n d=true:=fun d B u=>by
        refine hd d B ?_
        by_cases hjk:j=d
        · subst hjk;exact hjun
        · rw [getD_set_ne true hjk] at u;exact u
      refine wpOp_mono (fun Z w' h3=>⟨h3.2.1,ih (m.setIfInBounds j true) Z w' I (G.set s) T (ready_mono r (Ne.symm hji)) h3.1 (h3.2.1 L y) ?_⟩) h2
      rw [Array.setIfInBounds_comm _ _ hji]
      exact h3.2.2
theorem wpAnyLast_any {i:Nat} {m:Oper} {v:Value} (t:ops[i]?=some m) (x:∀ (j:Nat) (o:Oper) cs b,ops[j]?=some o→o.op≠.select cs b)
    (I:∀ c a w,Q (.panic c) (a.put m.dst v) w→Q (.panic c) a w):
    ∀ (q : Nat) (d : Array Bool) (a : Act) (w : World),
      (∀ j n,ops[j]?=some n→j≠i→d.getD j true=false→(∀ e∈n.after,Region.binds md e=true→e.on≠i)→m.apart ops n=true)→
      i∈Region.ready md ops d→Yields P ops m v a→
      wpAnyLast P md ops Q S ds q (d.setIfInBounds i true) (a.put m.dst v) w→wpAnyLast P md ops Q S ds (q+1) d a w:=by
  intro q
  induction q with
  | zero =>
    intro d a w _ p r H
    refine⟨fun h=>(by rw [h] at p;cases p),fun j s=>?_⟩
    by_cases hji:j=i
    · subst hji;exact(r.yieldsIf (S:=fun _=>True)).wpOp t trivial ⟨fun _ h=>h,H⟩
    · have:=ready_mono s hji
      rw [H.1] at this
      cases this
  | succ q ih =>
    intro d a w u p r H
    refine⟨fun h=>(by rw [h] at p;cases p),fun j s=>?_⟩
    by_cases hji:j=i
    · subst hji;exact(r.yieldsIf (S:=fun _=>True)).wpOp t trivial ⟨fun _ h=>h,H⟩
    · have h1:=H.2 j (ready_mono s hji)
      obtain⟨hjun,n,hoj,hall⟩:=mem_ready.1 s
      have y:=(mem_ready.1 p).1
      have B:∀ e∈n.after,Region.binds md e=true→e.on≠i:=fun e J K D=>by
        have h1:=hall e J K
        rw [D] at h1
        rcases Nat.lt_or_ge i d.size with h'|h'
        · simp [h'] at y h1;rw [y] at h1;cases h1
        · simp [Array.getElem?_eq_none h'] at h1
      have h2:=wpOp_put hoj (u j n hoj hji hjun B) (fun cs b=>x i m cs b t) (fun cs b=>x j n cs b hoj) I r h1
      have A:∀ k ok,ops[k]?=some ok→k≠i→(d.setIfInBounds j true).getD k true=false→
          (∀ e∈ok.after,Region.binds md e=true→e.on≠i)→m.apart ops ok=true:=fun k ok L E z G=>by
        refine u k ok L E ?_ G
        by_cases hjk:j=k
        · subst hjk;exact hjun
        · rw [getD_set_ne true hjk] at z;exact z
      refine wpOp_mono (fun M w' h3=>⟨h3.2.1,ih (d.setIfInBounds j true) M w' A (ready_mono p (Ne.symm hji)) h3.1 ?_⟩) h2
      rw [Array.setIfInBounds_comm _ _ hji]
      exact h3.2.2
theorem wpAnyLast_take {i:Nat} {e:Oper} {v:Value} {j:Nat} {b:Array Bool} {a:Act} {w:World} (k:ops[i]?=some e)
    (hs:Region.noSelect ops=true) (n:Region.free md ops b i=true) (o:(Region.ready md ops b).contains i=true)
    (p:Region.closedB md ops b=true) (q:Region.lastB md ops b ds i=true)
    (r:∀ c a w,Q (.panic c) (a.put e.dst v) w→Q (.panic c) a w) (s:YieldsIf P ops S e v a) (t:S w)
    (h:wpAnyLast P md ops Q S ds j (b.setIfInBounds i true) (a.put e.dst v) w):wpAnyLast P md ops Q S ds (j+1) b a w:=
  wpAnyLast_first k (Region.noSelect_spec hs) r ops.size j b a w (Region.free_spec k n) (Region.closedB_spec p)
    (fun d u m=>by have:=List.all_eq_true.1 q d u;rw [m] at this;simpa using this) (by simpa using o) s t h
theorem wpAnyLast_all {c:List Nat} {d:Nat} {b:Array Bool} {a:Act} {w:World} (e:Region.ready md ops b=c) (j:c≠[])
    (h:∀ i∈c,wpOp P ops Q i (fun k w'=>(i ∉ ds→S w→S w')∧wpAnyLast P md ops Q S ds d (b.setIfInBounds i true) k w') a w):wpAnyLast P md ops Q S ds (d+1) b a w:=
  ⟨fun h0=>absurd (e ▸ h0) j,e ▸ h⟩
theorem wpAnyLast_done {b:Array Bool} {a:Act} {w:World} (c:Region.ready md ops b=[]) (h:Q .normal a w):
    ∀ d,wpAnyLast P md ops Q S ds d b a w
  | 0=>⟨c,h⟩
  | _+1=>⟨fun _=>h,by rw [c];simp⟩
theorem wp_region_last {b:Nat} {a:Act} {w:World} (c:P.follows .mixedOrders=true)
    (h:wpAnyLast P .any ops Q S ds ops.size (Array.replicate ops.size false) a { w with drawn:=w.drawn+1 }):(Code.region b ops true).wp P Q a w:=
  wp_region_any c (wpAny_of_last _ _ _ _ h)
end
section
variable {P:Program} {ops:Array Oper} {Q:Exit→Act→World→Prop} {md:Region.Mode} {S:World→Prop} {ds:List Nat}
def AllReadyL (P:Program) (md:Region.Mode) (ops:Array Oper) (Q:Exit→Act→World→Prop) (S:World→Prop) (ds:List Nat) (fuel:Nat) (listed:Array Bool) (a:Act) (w:World) (rs:List Nat):Prop:=
  ∀ i∈rs,wpOp P ops Q i (fun a' w'=>(i ∉ ds→S w→S w')∧wpAnyLast P md ops Q S ds fuel (listed.setIfInBounds i true) a' w') a w
theorem AllReadyL.nil {c:Nat} {b:Array Bool} {a:Act} {w:World}:AllReadyL P md ops Q S ds c b a w []:=fun _ h=>by cases h
theorem AllReadyL.cons {d:Nat} {c:Array Bool} {a:Act} {w:World} {i:Nat} {o:Oper} {k:List Nat} (n:ops[i]?=some o) (hd:i ∉ ds)
    (h:∀ b:Act→World→Prop,Shut (∀ a w,S w→(S w→wpAnyLast P md ops Q S ds d (c.setIfInBounds i true) a w)→b a w)→if Region.wanted o (yielded ops a.tmps)=true then Oper.wp P o a w b Q else b (a.put o.dst undef) w)
    (hs:AllReadyL P md ops Q S ds d c a w k):AllReadyL P md ops Q S ds d c a w (i :: k):=fun j e=>by
  rcases List.mem_cons.1 e with rfl|e
  · exact wpOp_step n (fun b p=>h b (fun a w m q=>p a w ⟨fun _ _=>m,q m⟩))
  · exact hs j e
theorem AllReadyL.cons_last {d:Nat} {c:Array Bool} {a:Act} {w:World} {i:Nat} {o:Oper} {k:List Nat} (m:ops[i]?=some o) (hd:i∈ds)
    (h:∀ b:Act→World→Prop,Shut (∀ a w,wpAnyLast P md ops Q S ds d (c.setIfInBounds i true) a w→b a w)→if Region.wanted o (yielded ops a.tmps)=true then Oper.wp P o a w b Q else b (a.put o.dst undef) w)
    (hs:AllReadyL P md ops Q S ds d c a w k):AllReadyL P md ops Q S ds d c a w (i :: k):=fun j e=>by
  rcases List.mem_cons.1 e with rfl|e
  · exact wpOp_step m (fun b n=>h b (fun a w p=>n a w ⟨fun q=>absurd hd q,p⟩))
  · exact hs j e
theorem wpAnyLast_ready {c:List Nat} {d:Nat} {b:Array Bool} {a:Act} {w:World} (i:Region.ready md ops b=c) (e:c≠[])
    (h:AllReadyL P md ops Q S ds d b a w c):wpAnyLast P md ops Q S ds (d+1) b a w:=wpAnyLast_all i e h
theorem start_ {b n:Nat} {a:Act} {w:World} (l:Array Bool) (c:P.follows .mixedOrders=true) (d:ops.size=n) (e:Array.replicate n false=l) (i:S w.drew)
    (h:S w.drew→wpAnyLast P .any ops Q S ds n l a w.drew):(Code.region b ops true).wp P Q a w:=by
  subst d
  subst e
  exact wp_region_last c (h i)
def takeB (md:Region.Mode) (ops:Array Oper) (ds:List Nat) (l l':Array Bool) (i:Nat):Bool:=
  Region.noSelect ops && Region.free md ops l i && (Region.ready md ops l).contains i && Region.closedB md ops l && Region.lastB md ops l ds i && (l.setIfInBounds i true == l')
theorem take_ {i:Nat} {N:Option Tmp} {b:Oper} {v:Value} {d:Nat} {l:Array Bool} {a:Act} {w:World} (e:Array Bool) (m:ops[i]?=some b) (n:b.dst=N) (j:takeB md ops ds l e i=true)
    (o:∀ c a w,Q (.panic c) (a.put b.dst v) w→Q (.panic c) a w) (p:YieldsIf P ops S b v a) (q:S w) {k:Act} (r:a.put N v=k)
    (h:wpAnyLast P md ops Q S ds d e k w):wpAnyLast P md ops Q S ds (d+1) l a w:=by
  subst r
  subst n
  simp only [takeB,Bool.and_eq_true,beq_iff_eq] at j
  obtain⟨⟨⟨⟨⟨h1,h2⟩,h3⟩,h4⟩,h5⟩,h6⟩:=j
  subst h6
  exact wpAnyLast_take m h1 h2 h3 h4 h5 o p q h
def anyB (md:Region.Mode) (ops:Array Oper) (l l':Array Bool) (i:Nat):Bool:=
  Region.noSelect ops && Region.free md ops l i && (Region.ready md ops l).contains i && (l.setIfInBounds i true == l')
theorem pure_ {i:Nat} {N:Option Tmp} {b:Oper} {v:Value} {d:Nat} {l:Array Bool} {a:Act} {w:World} (e:Array Bool) (j:ops[i]?=some b) (n:b.dst=N) (k:anyB md ops l e i=true)
    (o:∀ c a w,Q (.panic c) (a.put b.dst v) w→Q (.panic c) a w) (p:Yields P ops b v a) {m:Act} (q:a.put N v=m)
    (h:wpAnyLast P md ops Q S ds d e m w):wpAnyLast P md ops Q S ds (d+1) l a w:=by
  subst q
  subst n
  simp only [anyB,Bool.and_eq_true,beq_iff_eq] at k
  obtain⟨⟨⟨h1,h2⟩,h3⟩,h6⟩:=k
  subst h6
  exact wpAnyLast_any j (Region.noSelect_spec h1) o d l a w (Region.free_spec j h2) (by simpa using h3) p h
def readyB (md:Region.Mode) (ops:Array Oper) (l l':Array Bool) (i:Nat):Bool:=(Region.ready md ops l == [i]) && (l.setIfInBounds i true == l')
theorem one_ {i:Nat} {N:Option Tmp} {b:Oper} {c:Nat} {l:Array Bool} {a:Act} {w:World} (d:Array Bool) (k:ops[i]?=some b) (m:b.dst=N) (e:readyB md ops l d i=true) (hd:i ∉ ds)
    (h:∀ K:Act→World→Prop,Shut (∀ j w',S w'→(S w'→wpAnyLast P md ops Q S ds c d j w')→K j w')→if Region.wanted b (yielded ops a.tmps)=true then Oper.wp P b a w K Q else K (a.put N undef) w):
    wpAnyLast P md ops Q S ds (c+1) l a w:=by
  subst m
  simp only [readyB,Bool.and_eq_true,beq_iff_eq] at e
  obtain⟨h1,h2⟩:=e
  subst h2
  exact wpAnyLast_ready h1 (by simp) (AllReadyL.cons k hd (fun K n=>h K n) AllReadyL.nil)
theorem last_ {i:Nat} {N:Option Tmp} {b:Oper} {c:Nat} {l:Array Bool} {a:Act} {w:World} (d:Array Bool) (k:ops[i]?=some b) (m:b.dst=N) (e:readyB md ops l d i=true) (hd:i∈ds)
    (h:∀ K:Act→World→Prop,Shut (∀ j w',wpAnyLast P md ops Q S ds c d j w'→K j w')→if Region.wanted b (yielded ops a.tmps)=true then Oper.wp P b a w K Q else K (a.put N undef) w):
    wpAnyLast P md ops Q S ds (c+1) l a w:=by
  subst m
  simp only [readyB,Bool.and_eq_true,beq_iff_eq] at e
  obtain⟨h1,h2⟩:=e
  subst h2
  exact wpAnyLast_ready h1 (by simp) (AllReadyL.cons_last k hd (fun K n=>h K n) AllReadyL.nil)
theorem done_ {l:Array Bool} {a:Act} {w:World} {n:Nat} (b:(Region.ready md ops l == [])=true) (h:Q .normal a w):wpAnyLast P md ops Q S ds n l a w:=wpAnyLast_done (by simpa using b) h n
theorem two_ {i j:Nat} {Ni Nj:Option Tmp} {c d:Oper} {e:Nat} {l:Array Bool} {a:Act} {w:World} (m n:Array Bool) (t:ops[i]?=some c) (u:ops[j]?=some d) (p:c.dst=Ni) (q:d.dst=Nj)
    (o:(Region.ready md ops l == [i,j] && l.setIfInBounds i true == m && l.setIfInBounds j true == n)=true) (r:i ∉ ds) (s:j ∉ ds)
    (h1:∀ K:Act→World→Prop,Shut (∀ b w',S w'→(S w'→wpAnyLast P md ops Q S ds e m b w')→K b w')→if Region.wanted c (yielded ops a.tmps)=true then Oper.wp P c a w K Q else K (a.put Ni undef) w)
    (h2:∀ K:Act→World→Prop,Shut (∀ b w',S w'→(S w'→wpAnyLast P md ops Q S ds e n b w')→K b w')→if Region.wanted d (yielded ops a.tmps)=true then Oper.wp P d a w K Q else K (a.put Nj undef) w):
    wpAnyLast P md ops Q S ds (e+1) l a w:=by
  subst p
  subst q
  simp only [Bool.and_eq_true,beq_iff_eq] at o
  obtain⟨⟨h3,h4⟩,h5⟩:=o
  subst h4
  subst h5
  exact wpAnyLast_ready h3 (by simp) (AllReadyL.cons t r (fun K k=>h1 K k) (AllReadyL.cons u s (fun K k=>h2 K k) AllReadyL.nil))
def putAll:Act→List (Tmp×Value)→Act
  | a,[]=>a
  | a,(n,v) :: r=>putAll (a.put (some n) v) r
theorem join_ {σ:Type} {c:Nat} {l:Array Bool} {a:Act} {w:World} (b:Nat) (d:Array Bool) (e:σ→List (Tmp×Value)) (F:σ→World→Prop)
    (i:∀ s w',F s w'→wpAnyLast P md ops Q S ds b d (putAll a (e s)) w')
    (h:(∀ s w',F s w'→wpAnyLast P md ops Q S ds b d (putAll a (e s)) w')→wpAnyLast P md ops Q S ds c l a w):wpAnyLast P md ops Q S ds c l a w:=h i
theorem norm_ {b:Nat} {l:Array Bool} {a c:Act} {w:World} (d:a=c) (h:wpAnyLast P md ops Q S ds b l c w):wpAnyLast P md ops Q S ds b l a w:=by
  subst d
  exact h
theorem call_ {b:Oper} {N:Option Tmp} {a:Act} {w:World} {K:Act→World→Prop} (f:FuncId) (args:Array Value) (d:Region.wanted b (yielded ops a.tmps)=true) (i:b.dst=N) (c:(execOp a.eval b).run P w=.ok (.enter f args) w)
    (h:Calls P f args w fun e w'=>∃ v,e=.returned v∧K (a.put N v) w'):if Region.wanted b (yielded ops a.tmps)=true then Oper.wp P b a w K Q else K (a.put N undef) w:=by
  rw [if_pos d]
  subst i
  unfold Oper.wp
  rw [c,Oper.upon_enter]
  refine h.mono fun e k j=>?_
  obtain⟨v,rfl,hk⟩:=j
  exact hk
theorem enters_ {f:FuncId} {a:Func} (d:P.funcs[f]?=some a) (b:(a.name == "runtime.NumGoroutine")=false) (e:a.body.isSome=true) (args:Array Value) (w:World):(callFunc f args).run P w=.ok (.enter f args) w:=by
  have h1:a.name ≠ "runtime.NumGoroutine" := by simpa using b
  obtain⟨c,hc⟩:=Option.isSome_iff_exists.1 e
  simp [callFunc,d,h1,hc]
theorem goes_ {b:Oper} {N:Option Tmp} {a:Act} {w:World} {K:Act→World→Prop} {f:FuncId} {c:Func} {as:Array Operand} {k:Array TypeId} (m:P.funcs[f]?=some c) (d:(c.name == "runtime.NumGoroutine")=false) (n:c.body.isSome=true) (args:Array Value)
    (o:Region.wanted b (yielded ops a.tmps)=true) (p:b.dst=N) (j:b.op=.call { callee:=.value (.func f),args:=as,argTypes:=k }) (i:as.map a.eval=args)
    (h:Calls P f args w fun e w'=>∃ v,e=.returned v∧K (a.put N v) w'):if Region.wanted b (yielded ops a.tmps)=true then Oper.wp P b a w K Q else K (a.put N undef) w:=by
  refine call_ f args o p ?_ h
  have q:=enters_ m d n args w
  unfold execOp
  simp [j,resolve,Deferred.ofValue,invoke,Act.eval,i,q]
theorem goesL_ {d:List Oper} {b:Oper} {a:Act} {w:World} (N:Option Tmp) (hd:b.dst=N) (n:b.guard=none) {f:FuncId} {c:Func} {as:Array Operand} {o:Array TypeId} (p:P.funcs[f]?=some c) (i:(c.name == "runtime.NumGoroutine")=false) (q:c.body.isSome=true) (args:Array Value)
    (m:b.op=.call { callee:=.value (.func f),args:=as,argTypes:=o }) (j:as.map a.eval=args)
    (h:Calls P f args w fun e w'=>∃ v,e=.returned v∧wpList P ops Q d (a.put N v) w'):wpList P ops Q (b :: d) a w:=by
  refine wpList_plain n fun K r=>?_
  have s:=enters_ p i q args w
  have k:(execOp a.eval b).run P w=.ok (.enter f args) w:=by
    unfold execOp
    simp [m,resolve,Deferred.ofValue,invoke,Act.eval,j,s]
  unfold Oper.wp
  rw [k,Oper.upon_enter]
  refine h.mono fun e u t=>?_
  obtain⟨v,rfl,hk⟩:=t
  subst hd
  exact r _ _ hk
theorem value_ {b:Oper} {N:Option Tmp} {a:Act} {w w1:World} {v:Value} {K:Act→World→Prop} (d:Region.wanted b (yielded ops a.tmps)=true) (e:b.dst=N) (c:(execOp a.eval b).run P w=.ok (.value v) w1)
    (h:K (a.put N v) w1):if Region.wanted b (yielded ops a.tmps)=true then Oper.wp P b a w K Q else K (a.put N undef) w:=by
  rw [if_pos d]
  subst e
  unfold Oper.wp
  rw [c]
  exact h
theorem skip_ {b:Oper} {a:Act} {w w1:World} {K:Act→World→Prop} (d:Region.wanted b (yielded ops a.tmps)=true) (e:b.dst=none) (c:(execOp a.eval b).run P w=.ok .skip w1)
    (h:K a w1):if Region.wanted b (yielded ops a.tmps)=true then Oper.wp P b a w K Q else K (a.put none undef) w:=by
  rw [if_pos d]
  unfold Oper.wp
  rw [c]
  show K (a.put b.dst undef) w1
  rw [e]
  exact h
theorem i64_w (n:Int):IntKind.i64.wrap n=Go.RowKit.wrap64 n:=by unfold Go.RowKit.wrap64;exact IntKind.wrap_i64 n
theorem i32_w (n:Int):IntKind.i32.wrap n=Go.RowKit.wrap32 n:=by unfold Go.RowKit.wrap32;exact IntKind.wrap_i32 n
end
end Go.Proofs.YtkbebmifpccofaaGreatW.PrintLast
