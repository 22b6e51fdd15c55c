-- PRINTED BY print.sh 35421559b90ae4d0a3588c463048766b98c2df88dd9212a6774a882060cdf62d: not written by this session
-- PRINTED WORDS (module Derived/Print/Words.lean): go-wishes' parts 1 to 38 and go-gate-2's additions: AI agents of Go's test side,Mon Nov 16 2026;no person has read them. Plain theorems and definitions: no macro,no elab,no axiom.
import Derived.Below
import Derived.Deep.Draws
import Derived.Deep.AppendLies
import Derived.Maps.AppendAt
import Derived.OwnWalk
import Derived.Laws.BytesArg
import Derived.Laws.MakeOwn
import Derived.Laws.OwnMore
import Derived.Deep.OwnRows
import Derived.Tactics
import Derived.Lib.ConvBytes
import Derived.Laws.Slices
import Derived.WalkKit
import Derived.KernelRfl
import Derived.RowKit3
import Derived.Deep.LoopGhost
import Derived.Deep.QuietTactic
import Derived.BigQuiet
import Derived.WideLaws
import Derived.Deep.DeepCutAuto
import Derived.Deep.CutBlock
import Derived.Deep.RegionHeld3
import Derived.Laws.Rows
import Derived.Lib.AppendStr
import Derived.ArgAppend
import Derived.Laws.IdiomCopy
import Derived.RowKit
set_option linter.unusedVariables false
set_option linter.unusedSimpArgs false
namespace Go.Proofs.YtkbebmifpccofaaGreatW.PrintWords
open Go.RowKit
structure Aside0 (p:Prop):Prop where mk :: (out:p)
structure Drawn0 (w w':World):Prop where mk :: (out:∃ n,w'=w.drewN n)
theorem Drawn0.refl (w:World):Drawn0 w w:=⟨⟨0,rfl⟩⟩
theorem Drawn0.step {w w':World} (h:Drawn0 w w') (n:Nat):Drawn0 w (w'.drewN n):=by
  obtain⟨m,rfl⟩:=h
  exact⟨⟨m+n,World.drewN_drewN ..⟩⟩
theorem Drawn0.grown {w w':World} (h:Drawn0 w w'):Grown w w':=by
  obtain⟨n,rfl⟩:=h
  induction n with
  | zero=>exact Grown.refl _
  | succ n ih=>rw [← World.drew_drewN];exact Grown.drew ih
theorem Drawn0.below {w w':World} (h:Drawn0 w w'):Below w.heap.size w w':=by
  obtain⟨n,rfl⟩:=h
  induction n with
  | zero=>exact Below.refl _ _
  | succ n ih=>rw [← World.drew_drewN];exact ih.drew
def rd (xs:List Int) (i:Int):Int:=xs.getD i.toNat 0
def bt (s:ByteArray) (i:Int):Int:=if h:i.toNat < s.size then ((s[i.toNat]'h).toNat:Int) else 0
theorem bt_at (s:ByteArray) (i:Int):∀ h:i.toNat < s.size,((s[i.toNat]'h).toNat:Int)=bt s i:=fun h=>by simp [bt,h]
theorem bt_range (s:ByteArray) (i:Int):0≤bt s i∧bt s i≤255:=by
  unfold bt
  split
  · rename_i h
    have:=(s[i.toNat]'h).toNat_lt
    omega
  · omega
def nums (k:IntKind) (xs:List Int):List Value:=xs.map fun x=>.int k x
theorem nums_append (k:IntKind) (xs ys:List Int):nums k (xs++ys)=nums k xs++nums k ys:=by simp [nums]
theorem below_alloc {w W:World} (h:Below w.heap.size w W) (o:Obj):Below w.heap.size w (W.alloc o):=h.alloc h.size o
theorem below_drew {B:Nat} {w W:World} (h:Below B w W):Below B w W.drew:=⟨h.os,h.tape,h.output,h.size,h.block⟩
theorem pw_below_drewN {B:Nat} {w W:World} (h:Below B w W) (n:Nat):Below B w (W.drewN n):=⟨h.os,h.tape,h.output,h.size,h.block⟩
theorem below_then {B:Nat} {w w1 j:World} (h:Below B w w1) (p:B≤w1.heap.size) (k:Below w1.heap.size w1 j):Below B w j:=
  h.trans ⟨k.os,k.tape,k.output,k.size,fun i r=>k.block i (Nat.lt_of_lt_of_le r p)⟩
theorem grown_of_below {w w1:World} (h:Below w.heap.size w w1) (j:Option Nat):w.grownBy w1 j:=⟨h.os,h.tape,h.output,h.size,fun i p _=>h.block i p⟩
theorem pw_cell_below {w w1:World} (h:Below w.heap.size w w1) {a:Addr} {v:Value} (i:w.cell? a=some v):w1.cell? a=some v:=(h.cell (World.block_lt_of_cell? w a i)).trans i
theorem add_plain (g j:Nat):(⟨g,0,none⟩:Addr).add j=⟨g,j,none⟩:=by unfold Addr.add;split <;> simp_all
def ReadsInt (w:World) (k:IntKind) (A:Option Addr) (n:Nat) (xs:List Int):Prop:=
  xs.length=n∧n≤9223372036854775807∧(0 < n→∃ ad,A=some ad∧∀ j,j < n→w.cell? (ad.add j)=some (.int k (xs.getD j 0)))
theorem ReadsInt.at_ {w:World} {k:IntKind} {A:Option Addr} {n:Nat} {xs:List Int} (h:ReadsInt w k A n xs) (i:Int) (h0:0≤i) (h1:i < n):∃ j,A=some j∧w.cell? (j.add i.toNat)=some (.int k (rd xs i)):=by
  obtain⟨j,e,hc⟩:=h.2.2 (by omega)
  exact⟨j,e,hc _ (by omega)⟩
theorem ReadsInt.below {w w1:World} {k:IntKind} {A:Option Addr} {n:Nat} {xs:List Int} (h:ReadsInt w k A n xs) (i:Below w.heap.size w w1):ReadsInt w1 k A n xs:=
  ⟨h.1,h.2.1,fun p=>by
    obtain⟨ad,e,hc⟩:=h.2.2 p
    exact⟨ad,e,fun j r=>pw_cell_below i (hc j r)⟩⟩
theorem own_nil (W:World) (base:Nat) (e:TypeId) (size:Nat):W.ownsRow base e size (.slice none 0 0) 0 []:=⟨by simp,.inl ⟨rfl,rfl⟩⟩
theorem own_base {w:World} {base:Nat} {e:TypeId} {size n:Nat} {v:Value} {xs:List Value} (h:w.ownsRow base e size v n xs) (k:Nat) (i:v.ownBlock=some k):base≤k:=by
  rcases h.2 with ⟨rfl,_⟩|⟨g,cap,j,rfl,p,_⟩
  · simp [Value.ownBlock] at i
  · have:g=k:=by simpa [Value.ownBlock] using i
    omega
theorem own_lt {w:World} {base:Nat} {e:TypeId} {size n:Nat} {v:Value} {xs:List Value} (h:w.ownsRow base e size v n xs) (k:Nat) (i:v.ownBlock=some k):k < w.heap.size:=by
  rcases h.2 with ⟨rfl,_⟩|⟨g,cap,p,rfl,r,j,_⟩
  · simp [Value.ownBlock] at i
  · have:g=k:=by simpa [Value.ownBlock] using i
    subst this
    exact(Array.getElem?_eq_some_iff.1 j).1
theorem pw_own_below {w w1:World} {base:Nat} {e:TypeId} {size n:Nat} {v:Value} {xs:List Value} (h:w.ownsRow base e size v n xs) (i:Below w.heap.size w w1):w1.ownsRow base e size v n xs:=
  h.kept (grown_of_below i none) (by cases v.ownBlock <;> simp)
theorem own_other {w w1:World} {base:Nat} {e:TypeId} {size n:Nat} {v:Value} {xs:List Value} (h:w.ownsRow base e size v n xs) {i:Option Nat} (p:w.grownBy w1 i) (j:v.ownBlock=none∨v.ownBlock≠i):w1.ownsRow base e size v n xs:=h.kept p j
theorem own_reads {w:World} {base n:Nat} {e:TypeId} {k:IntKind} {v:Value} {xs:List Int} (h:w.ownsRow base e 1 v n (nums k xs)):∃ A c,v=.slice A n c∧ReadsInt w k A n xs:=by
  have i:xs.length=n:=by have:=h.1;simp [nums] at this;exact this
  rcases Nat.eq_zero_or_pos n with h0|h0
  · rcases h.2 with ⟨rfl,rfl⟩|⟨g,cap,r,rfl,_⟩
    · exact⟨none,0,rfl,i,by omega,fun p=>absurd p (by omega)⟩
    · exact⟨_,cap,rfl,i,by omega,fun p=>absurd p (by omega)⟩
  · obtain⟨g,cap,rfl,_,_⟩:=h.form h0
    have s:n≤9223372036854775807:=by
      rcases h.2 with ⟨_,h1⟩|⟨g',t,r,y,_,_,h1,h2,_⟩
      · omega
      · simp only [maxLen] at h2
        omega
    refine⟨_,cap,rfl,i,s,fun _=>⟨_,rfl,fun j z=>h.cells (g:=g) rfl j _ ?_⟩⟩
    simp [nums,List.getElem?_eq_getElem (show j < xs.length by omega),List.getD_eq_getElem?_getD]
theorem own_string {P:Program} {w:World} {base n:Nat} {e' j p e:TypeId} {v:Value} {xs:List Int} (hs:P.underlying j=some (.slice e)) (r:P.underlying e=some (.int .u8)) (hd:P.underlying p=some .string)
    (h:w.ownsRow base e' 1 v n (nums .u8 xs)):(convert j p v).run P w=.ok (.string (strOfNums xs)) w:=by
  have s:xs.length=n:=by have:=h.1;simp [nums] at this;exact this
  rcases h.2 with ⟨rfl,rfl⟩|⟨g,cap,z,rfl,_⟩
  · obtain rfl:xs=[]:=List.eq_nil_of_length_eq_zero s
    exact run_convert_bytes_nil w j e hs r 0 0 p hd
  · refine run_convert_bytes_arg w j e hs r g 0 n cap xs s (fun i B=>?_) p hd
    have t:=h.cells (g:=g) rfl i (.int .u8 (xs.getD i 0)) (by simp [nums,List.getElem?_eq_getElem (show i < xs.length by omega),List.getD_eq_getElem?_getD])
    have y:(⟨g,0,none⟩:Addr).add i=⟨g,0+i,none⟩:=by unfold Addr.add;split <;> simp_all
    rwa [y] at t
section
variable {P:Program} {ops:Array Oper} {rest:List Oper} {o:Oper} {a:Act} {Q:Exit→Act→World→Prop}
end
section
variable {P:Program}
end
section
variable {P:Program} {ops:Array Oper} {rest:List Oper} {o:Oper} {a:Act} {Q:Exit→Act→World→Prop}
theorem print_append_row {w0 W:World} (base:Nat) (T:o.guard=none) (s x:Operand) (t e:TypeId) (k:IntKind) (bytes:Nat)
    (Y:o.op=.call { callee:=.builtin .append,args:=#[s,x],argTypes:=#[t,t] })
    (z:P.underlying t=some (.slice e)) (M:(P.info? e).map (fun i=>(i.zero,i.size,i.bytes))=some (some (.int k 0),1,bytes)) (U:0 < bytes)
    (v:Value) (xs ys:List Int) (A:Option Addr) (m c:Nat) (hs:a.eval s=v) (Z:a.eval x=.slice A m c)
    (y:W.ownsRow base e 1 v xs.length (nums k xs)) (B:ReadsInt W k A m ys) (HB:Below base w0 W) (G:base≤W.heap.size) (I:(xs.length+m)*bytes≤140737488355328)
    (h:∀ p w1,w1.ownsRow base e 1 p (xs++ys).length (nums k (xs++ys))→Below base w0 w1→W.grownBy w1 v.ownBlock→(p.ownBlock=v.ownBlock∨∃ b,p.ownBlock=some b∧W.heap.size≤b)→wpList P ops Q rest (a.put o.dst p) w1):
    wpList P ops Q (o :: rest) a W:=by
  obtain⟨i0,hi,hzz⟩:=Option.map_eq_some_iff.1 M
  simp only [Prod.mk.injEq] at hzz
  obtain⟨hz0,hz1,hz2⟩:=hzz
  have D:ys.length=m:=B.1
  have aa:xs.length+m≤140737488355328:=Nat.le_trans (Nat.le_mul_of_pos_right _ U) I
  have O:∃ p w1,(Builtin.append_ #[t,t] o.type #[v,.slice A m c]).run P W=.ok p w1∧w1.ownsRow base e 1 p (xs++ys).length (nums k (xs++ys))∧W.grownBy w1 v.ownBlock∧(p.ownBlock=v.ownBlock∨p.ownBlock=some W.heap.size):=by
    rcases A with _|ad
    · have h0:m=0:=by
        rcases Nat.eq_zero_or_pos m with h0|h0
        · exact h0
        · obtain⟨ad,h,_⟩:=B.2.2 h0
          cases h
      subst h0
      obtain rfl:ys=[]:=List.eq_nil_of_length_eq_zero D
      refine⟨v,W,?_,by simpa using y,World.grownBy.refl W _,.inl rfl⟩
      rcases y.2 with ⟨rfl,hn⟩|⟨g,cap,ab,rfl,_,_,X,_⟩
      · simp [Builtin.append_,run_underlying z,sizeOf,typeInfo,hi,Builtin.lenOf,Builtin.firstCells]
      · simp [Builtin.append_,run_underlying z,sizeOf,typeInfo,hi,Builtin.lenOf,Builtin.firstCells,X,storeCells]
    · have L:∀ j u,(nums k ys)[j]?=some u→W.cell? (ad.add j)=some u:=by
        intro j u r
        have J:j < ys.length:=by
          rcases Nat.lt_or_ge j ys.length with h|h
          · exact h
          · simp [nums,List.getElem?_eq_none h] at r
        obtain⟨ad',h',hc⟩:=B.2.2 (by omega)
        injection h' with h'
        subst h'
        have:=hc j (by omega)
        simp [nums,List.getElem?_eq_getElem J] at r
        subst r
        rw [this]
        simp [List.getD_eq_getElem?_getD,List.getElem?_eq_getElem J]
      obtain⟨p,w1,hr,h2,h3,_,h5⟩:=run_append_own_at (P:=P) W base t o.type e i0 (.int k 0) 1 bytes z hi hz0 hz1 hz2 rfl (by omega) v xs.length (nums k xs) y ad m c (nums k ys) (by simp [nums,D]) L
        (by intro u r;simp only [nums,List.mem_map] at r;obtain⟨q,_,rfl⟩:=r;rfl) (by simp only [maxLen];omega) I G
      exact⟨p,w1,hr,by simpa [nums,D] using h2,h3,h5⟩
  obtain⟨p,w1,hr,hown,hg,hat⟩:=O
  refine wpList_plain T fun K hK=>?_
  unfold Oper.wp execOp
  simp only [Y,resolve,invoke,builtin,Sem.run_bind,Sem.run_pure,Result.andThen_ok,List.map_toArray,List.map_cons,List.map_nil,hs,Z,hr]
  refine hK _ _ (h p w1 hown (HB.grown hg G (own_base y)) hg ?_)
  rcases hat with hat|hat
  · exact .inl hat
  · exact .inr ⟨_,hat,Nat.le_refl _⟩
end
def bytesOf (s:ByteArray):List Int:=s.data.toList.map fun b=>(b.toNat:Int)
theorem data_length (s:ByteArray):s.data.toList.length=s.size:=by rw [Array.length_toList];rfl
theorem bytesOf_length (s:ByteArray):(bytesOf s).length=s.size:=by rw [bytesOf,List.length_map,data_length]
def LeO {α:Type} (a b:Option α):Prop:=∀ r,a=some r→b=some r
theorem LeO.refl {α:Type} (a:Option α):LeO a a:=fun _ h=>h
theorem LeO.none {α:Type} (b:Option α):LeO Option.none b:=fun _ h=>by cases h
theorem LeO.trans {α:Type} {a b c:Option α} (h:LeO a b) (k:LeO b c):LeO a c:=fun r i=>k r (h r i)
theorem LeO.ite {α:Type} {c:Prop} [Decidable c] {a i b b':Option α} (h:LeO a i) (k:LeO b b'):LeO (if c then a else b) (if c then i else b'):=by
  split
  · exact h
  · exact k
theorem LeO.bind {α β:Type} {a i:Option α} {f j:α→Option β} (h:LeO a i) (k:∀ x,LeO (f x) (j x)):LeO (a.bind f) (i.bind j):=by
  intro r p
  obtain⟨x,hx,hf⟩:=Option.bind_eq_some_iff.1 p
  exact Option.bind_eq_some_iff.2 ⟨x,h x hx,k x r hf⟩
theorem LeO.map {α β:Type} {a i:Option α} (f:α→β) (h:LeO a i):LeO (a.map f) (i.map f):=by
  intro r j
  obtain⟨x,hx,hf⟩:=Option.map_eq_some_iff.1 j
  exact Option.map_eq_some_iff.2 ⟨x,h x hx,hf⟩
theorem more_rounds {α:Type} {g:Nat→Option α} (h:∀ k,LeO (g k) (g (k+1))) (k:Nat):∀ j,LeO (g k) (g (k+j))
  | 0=>LeO.refl _
  | j+1=>(more_rounds h k j).trans (h (k+j))
theorem at_rounds {α:Type} {g:Nat→Option α} (h:∀ k,LeO (g k) (g (k+1))) {k k':Nat} (i:k≤k') {r:α} (j:g k=some r):g k'=some r:=by
  have:=more_rounds h k (k' - k) r j
  rwa [Nat.add_sub_cancel' i] at this
def Reps {α:Type} (R:α→List Value→Prop) (size:Nat) (ps:List α) (cs:List Value):Prop:=
  cs.length=ps.length*size∧∀ j p,ps[j]?=some p→R p ((cs.drop (j*size)).take size)
theorem Reps.none {α:Type} (R:α→List Value→Prop) (size:Nat):Reps R size [] []:=⟨by simp,fun j p h=>by simp at h⟩
theorem Reps.snoc {α:Type} {R:α→List Value→Prop} {size:Nat} {ps:List α} {cs c:List Value} {p:α} (h:Reps R size ps cs) (y:R p c) (r:c.length=size):Reps R size (ps++[p]) (cs++c):=by
  refine⟨by rw [List.length_append,h.1,r,List.length_append,List.length_singleton,Nat.add_mul,Nat.one_mul],fun j q i=>?_⟩
  rcases Nat.lt_or_ge j ps.length with hj|hj
  · rw [List.getElem?_append_left hj] at i
    have h1:j*size+size≤cs.length:=by rw [h.1,← Nat.succ_mul];exact Nat.mul_le_mul_right _ hj
    have h2:=h.2 j q i
    rw [List.drop_append_of_le_length (by omega),List.take_append_of_le_length (by rw [List.length_drop];omega)]
    exact h2
  · have s:j=ps.length:=by
      have:=(List.getElem?_eq_some_iff.1 i).1
      rw [List.length_append,List.length_singleton] at this
      omega
    subst s
    have t:p=q:=by simpa using i
    subst t
    rw [← h.1,List.drop_left,← r,List.take_length]
    exact y
theorem Reps.imp_ {α:Type} {R R':α→List Value→Prop} {size:Nat} {ps:List α} {cs:List Value} (h:Reps R size ps cs) (i:∀ p c,R p c→R' p c):Reps R' size ps cs:=⟨h.1,fun j p r=>i _ _ (h.2 j p r)⟩
def ReadsRow {α:Type} (R:α→List Value→Prop) (size:Nat) (w:World) (A:Option Addr) (n:Nat) (ps:List α):Prop:=
  ps.length=n∧n≤9223372036854775807∧(0 < n→∃ ad,A=some ad∧∀ j p,ps[j]?=some p→∃ c,c.length=size∧R p c∧∀ i u,c[i]?=some u→w.cell? (ad.add (j*size+i))=some u)
theorem ReadsRow.get_ {α:Type} {R:α→List Value→Prop} {size:Nat} {w:World} {A:Option Addr} {n:Nat} {ps:List α} (h:ReadsRow R size w A n ps) (d:α) (i:Int) (h0:0≤i) (h1:i < n):
    ∃ p c,A=some p∧c.length=size∧R (ps.getD i.toNat d) c∧∀ j u,c[j]?=some u→w.cell? (p.add (i.toNat*size+j))=some u:=by
  obtain⟨p,e,hc⟩:=h.2.2 (by omega)
  have r:i.toNat < ps.length:=by have:=h.1;omega
  obtain⟨c,hs,hr,hcell⟩:=hc i.toNat _ (List.getElem?_eq_getElem r)
  refine⟨p,c,e,hs,?_,hcell⟩
  rw [List.getD_eq_getElem?_getD,List.getElem?_eq_getElem r]
  exact hr
theorem ReadsRow.imp_ {α:Type} {R R':α→List Value→Prop} {size:Nat} {w w1:World} {A:Option Addr} {n:Nat} {ps:List α} (h:ReadsRow R size w A n ps) (r:Below w.heap.size w w1) (s:∀ p c,R p c→R' p c):ReadsRow R' size w1 A n ps:=
  ⟨h.1,h.2.1,fun t=>by
    obtain⟨ad,e,hc⟩:=h.2.2 t
    refine⟨ad,e,fun j p y=>?_⟩
    obtain⟨c,hs,hr,hcell⟩:=hc j p y
    exact⟨c,hs,s _ _ hr,fun i u z=>pw_cell_below r (hcell i u z)⟩⟩
theorem own_reads_row {α:Type} {R:α→List Value→Prop} {w:World} {base n size:Nat} {e:TypeId} {v:Value} {ps:List α} {cs:List Value} (h:w.ownsRow base e size v n cs) (y:Reps R size ps cs) (s:ps.length=n):
    ∃ A c,v=.slice A n c∧ReadsRow R size w A n ps:=by
  rcases Nat.eq_zero_or_pos n with h0|h0
  · rcases h.2 with ⟨rfl,rfl⟩|⟨g,cap,B,rfl,_⟩
    · exact⟨none,0,rfl,s,by omega,fun t=>absurd t (by omega)⟩
    · exact⟨_,cap,rfl,s,by omega,fun t=>absurd t (by omega)⟩
  · obtain⟨g,cap,rfl,_,_⟩:=h.form h0
    have G:n≤9223372036854775807:=by
      rcases h.2 with ⟨_,h1⟩|⟨g',I,B,J,_,_,h1,h2,_⟩
      · omega
      · simp only [maxLen] at h2
        omega
    refine⟨_,cap,rfl,s,G,fun _=>⟨_,rfl,fun j p z=>⟨(cs.drop (j*size)).take size,?_,y.2 j p z,fun i u r=>?_⟩⟩⟩
    · have D:=(List.getElem?_eq_some_iff.1 z).1
      have h1:j*size+size≤cs.length:=by rw [y.1,← Nat.succ_mul];exact Nat.mul_le_mul_right _ D
      rw [List.length_take,List.length_drop]
      omega
    · refine h.cells (g:=g) rfl _ u ?_
      rw [List.getElem?_take] at r
      split at r
      · rw [List.getElem?_drop] at r
        exact r
      · cases r
theorem add_field (i:Addr) (m j:Nat) (p:0 < j):i.add (m+j)=⟨(i.add m).block,(i.add m).off+j,none⟩:=by
  unfold Addr.add
  by_cases hm:m=0
  · subst hm
    simp [Nat.ne_of_gt p]
  · simp [hm,Nat.add_assoc]
section
variable {P:Program} {ops:Array Oper} {rest:List Oper} {o:Oper} {a:Act} {Q:Exit→Act→World→Prop}
theorem print_append_cells {w0 W:World} (base:Nat) (J:o.guard=none) (s x:Operand) (t e:TypeId) (z:Value) (size bytes:Nat)
    (T:o.op=.call { callee:=.builtin .append,args:=#[s,x],argTypes:=#[t,t] })
    (U:P.underlying t=some (.slice e)) (D:(P.info? e).map (fun i=>(i.zero,i.size,i.bytes))=some (some z,size,bytes)) (X:z.cells.size=size) (L:0 < size) (M:0 < bytes)
    (v:Value) (n:Nat) (xs ys:List Value) (hs:a.eval s=v) (Y:a.eval x=.slice (some ⟨W.heap.size,0,none⟩) 1 1) (O:ys.length=size) (h1:∀ u∈ys,u.oneCell'=true)
    (r:W.ownsRow base e size v n xs) (Z:Below base w0 W) (G:base≤W.heap.size) (y:(n+1)*bytes≤140737488355328)
    (h:∀ j w1,w1.ownsRow base e size j (n+1) (xs++ys)→Below base w0 w1→W.grownBy w1 v.ownBlock→(j.ownBlock=v.ownBlock∨∃ b,j.ownBlock=some b∧W.heap.size≤b)→wpList P ops Q rest (a.put o.dst j) w1):
    wpList P ops Q (o :: rest) a (W.alloc (.cells ys.toArray e)):=by
  obtain⟨i0,hi,hzz⟩:=Option.map_eq_some_iff.1 D
  simp only [Prod.mk.injEq] at hzz
  obtain⟨hz0,hz1,hz2⟩:=hzz
  have aa:n+1≤140737488355328:=Nat.le_trans (Nat.le_mul_of_pos_right _ M) y
  refine wpList_append_own_at (W.alloc (.cells ys.toArray e)) J s x t T base e i0 z size bytes U hi hz0 hz1 hz2 X L v n xs hs (r.alloc _) ⟨W.heap.size,0,none⟩ 1 1 ys Y (by rw [O];simp)
    (by simpa using World.news_of_block (cs:=ys.toArray) (t:=e) (fr:=(0,0)) (heap_alloc_new W (.cells ys.toArray e))) h1 (by simp only [maxLen];omega) y (by simp;omega) ?_
  intro j w1 I B _ p
  refine h j w1 I ((Z.alloc G _).grown B (by simp;omega) (own_base r)) (World.grownBy.trans (World.grownBy_alloc W _ _) B) ?_
  rcases p with p|p
  · exact .inl p
  · exact .inr ⟨_,p,by simp⟩
end
theorem own_ne {w:World} {base:Nat} {e t:TypeId} {size n g:Nat} {v:Value} {xs:List Value} {cs:Array Value} (h:w.ownsRow base e size v n xs) (p:w.heap[g]?=some (.cells cs t (0,0))) (j:e≠t):some g≠v.ownBlock:=by
  rcases h.2 with ⟨rfl,_⟩|⟨g',cap,s,rfl,_,i,_⟩
  · simp [Value.ownBlock]
  · intro r
    have:g=g':=by simpa [Value.ownBlock] using r
    subst this
    rw [p] at i
    injection i with i
    injection i with _ ht
    exact j ht.symm
theorem own_setCell {w:World} {base:Nat} {e:TypeId} {size n:Nat} {v:Value} {xs:List Value} (h:w.ownsRow base e size v n xs) {p:Addr} (i:some p.block≠v.ownBlock) (u:Value):(w.setCell p u).ownsRow base e size v n xs:=by
  obtain⟨h1,h2⟩:=h
  refine⟨h1,?_⟩
  rcases h2 with h2|⟨g,cap,j,rfl,s,t,r⟩
  · exact .inl h2
  · exact .inr ⟨g,cap,j,rfl,s,by rw [Below.heap_setCell _ _ _ _ (fun e=>i (by rw [e];rfl))];exact t,r⟩
theorem blk_set {w:World} {g:Nat} {t:TypeId} {cs:Array Value} (h:w.heap[g]?=some (.cells cs t (0,0))) (i:Nat) (u:Value):(w.setCell ⟨g,i,none⟩ u).heap[g]?=some (.cells (cs.setIfInBounds i u) t (0,0)):=by
  simp [World.setCell,Array.getElem?_modify,h]
theorem blk_far {w:World} {g:Nat} {t:TypeId} {cs:Array Value} (h:w.heap[g]?=some (.cells cs t (0,0))) {p:Addr} (i:g≠p.block) (u:Value):(w.setCell p u).heap[g]?=some (.cells cs t (0,0)):=(Below.heap_setCell w p u g i).trans h
theorem blk_lt {w:World} {g:Nat} {o:Obj} (h:w.heap[g]?=some o):g < w.heap.size:=(Array.getElem?_eq_some_iff.1 h).1
theorem blk_cell {w:World} {g:Nat} {t:TypeId} {cs:Array Value} (h:w.heap[g]?=some (.cells cs t (0,0))) (i:Nat):w.cell? ⟨g,i,none⟩=cs[i]?:=cell_of_row w g i cs t (0,0) h
theorem blk_frozen {w:World} {g:Nat} {t:TypeId} {cs:Array Value} (h:w.heap[g]?=some (.cells cs t (0,0))) (i:Nat):w.frozen? ⟨g,i,none⟩=false:=by simp [World.frozen?,h]
theorem blk_grown {w w1:World} {g:Nat} {o:Obj} {i:Option Nat} (h:w.heap[g]?=some o) (p:w.grownBy w1 i) (j:some g≠i):w1.heap[g]?=some o:=(p.block g (blk_lt h) j).trans h
def KeepBut (w w':World) (g:Nat) (row:Option Nat):Prop:=w.heap.size≤w'.heap.size∧∀ i,i < w.heap.size→i≠g→some i≠row→w'.heap[i]?=w.heap[i]?
theorem KeepBut.refl (w:World) (g:Nat) (i:Option Nat):KeepBut w w g i:=⟨Nat.le_refl _,fun _ _ _ _=>rfl⟩
theorem KeepBut.of_grown {w w1:World} {j:Option Nat} (h:w.grownBy w1 j) (g:Nat):KeepBut w w1 g j:=⟨h.size,fun i p _ r=>h.block i p r⟩
theorem KeepBut.of_below {w w1:World} (h:Below w.heap.size w w1) (g:Nat) (j:Option Nat):KeepBut w w1 g j:=⟨h.size,fun i p _ _=>h.block i p⟩
theorem KeepBut.set_ {w w1:World} {g:Nat} {p:Option Nat} (h:KeepBut w w1 g p) (j:Nat) (u:Value):KeepBut w (w1.setCell ⟨g,j,none⟩ u) g p:=
  ⟨by simpa [World.setCell] using h.1,fun i s r t=>(Below.heap_setCell w1 ⟨g,j,none⟩ u i r).trans (h.2 i s r t)⟩
theorem KeepBut.trans {w w1 r:World} {g:Nat} {p j:Option Nat} (h:KeepBut w w1 g p) (k:KeepBut w1 r g j) (z:j=p∨∃ b,j=some b∧w.heap.size≤b):KeepBut w r g p:=
  ⟨Nat.le_trans h.1 k.1,fun i s t y=>by
    refine(k.2 i (Nat.lt_of_lt_of_le s h.1) t ?_).trans (h.2 i s t y)
    rcases z with rfl|⟨b,rfl,B⟩
    · exact y
    · intro e
      injection e with e
      omega⟩
theorem KeepBut.blk {w w1:World} {g g':Nat} {i:Option Nat} {o:Obj} (h:KeepBut w w1 g i) (j:w.heap[g']?=some o) (p:g'≠g) (r:some g'≠i):w1.heap[g']?=some o:=(h.2 g' (blk_lt j) p r).trans j
def Ev {α:Type} (g:Nat→Option α) (r:α):Prop:=∃ K,∀ k,K≤k→g k=some r
theorem Ev.now {α:Type} (r:α):Ev (fun _=>some r) r:=⟨0,fun _ _=>rfl⟩
theorem Ev.rounds {α:Type} {g:Nat→Option α} {r:α} (h:Ev g r):∃ k,g k=some r:=by
  obtain⟨K,h⟩:=h
  exact⟨K,h K (Nat.le_refl _)⟩
theorem Ev.bind {α β:Type} {g:Nat→Option α} {f:Nat→α→Option β} {a:α} {r:β} (h:Ev g a) (k:Ev (fun n=>f n a) r):Ev (fun n=>(g n).bind (f n)) r:=by
  obtain⟨K,h⟩:=h
  obtain⟨K',k⟩:=k
  refine⟨max K K',fun n i=>?_⟩
  have h1:=h n (by omega)
  have h2:=k n (by omega)
  simp only [h1,Option.bind_some]
  exact h2
theorem Ev.step {α:Type} {g f:Nat→Option α} {r:α} (h:∀ k,g (k+1)=f k) (k:Ev f r):Ev g r:=by
  obtain⟨K,k⟩:=k
  refine⟨K+1,fun n i=>?_⟩
  obtain⟨m,rfl⟩:∃ m,n=m+1:=⟨n - 1,by omega⟩
  rw [h]
  exact k m (by omega)
theorem Ev.congr {α:Type} {g f:Nat→Option α} {r:α} (h:∀ k,g k=f k) (k:Ev f r):Ev g r:=by
  obtain⟨K,k⟩:=k
  exact⟨K,fun n i=>(h n).trans (k n i)⟩
section
variable {P:Program} {ops:Array Oper} {o:Oper} {a:Act} {Q:Exit→Act→World→Prop} {K:Act→World→Prop}
theorem step_append_cells {w0 W:World} (base:Nat) (J:Region.wanted o (yielded ops a.tmps)=true) (s x:Operand) (t e:TypeId) (z:Value) (size bytes:Nat)
    (L:o.op=.call { callee:=.builtin .append,args:=#[s,x],argTypes:=#[t,t] })
    (M:P.underlying t=some (.slice e)) (y:(P.info? e).map (fun i=>(i.zero,i.size,i.bytes))=some (some z,size,bytes)) (O:z.cells.size=size) (D:0 < size) (G:0 < bytes)
    (v:Value) (n:Nat) (xs ys:List Value) (hs:a.eval s=v) (T:a.eval x=.slice (some ⟨W.heap.size,0,none⟩) 1 1) (I:ys.length=size) (h1:∀ u∈ys,u.oneCell'=true)
    (p:W.ownsRow base e size v n xs) (U:Below base w0 W) (B:base≤W.heap.size) (r:(n+1)*bytes≤140737488355328)
    (h:∀ j w1,w1.ownsRow base e size j (n+1) (xs++ys)→Below base w0 w1→W.grownBy w1 v.ownBlock→(j.ownBlock=v.ownBlock∨∃ b,j.ownBlock=some b∧W.heap.size≤b)→K (a.put o.dst j) w1):
    if Region.wanted o (yielded ops a.tmps)=true then Oper.wp P o a (W.alloc (.cells ys.toArray e)) K Q else K (a.put o.dst undef) (W.alloc (.cells ys.toArray e)):=by
  obtain⟨i0,hi,hzz⟩:=Option.map_eq_some_iff.1 y
  simp only [Prod.mk.injEq] at hzz
  obtain⟨hz0,hz1,hz2⟩:=hzz
  have X:n+1≤140737488355328:=Nat.le_trans (Nat.le_mul_of_pos_right _ G) r
  rw [if_pos J]
  obtain⟨j,w1,hr,hown,hg,_,hat⟩:=run_append_own_at (P:=P) (W.alloc (.cells ys.toArray e)) base t o.type e i0 z size bytes M hi hz0 hz1 hz2 O D v n xs (p.alloc _) ⟨W.heap.size,0,none⟩ 1 1 ys (by rw [I];simp)
    (by simpa using World.news_of_block (cs:=ys.toArray) (t:=e) (fr:=(0,0)) (heap_alloc_new W (.cells ys.toArray e))) h1 (by simp only [maxLen];omega) r (by simp;omega)
  unfold Oper.wp execOp
  simp only [L,resolve,invoke,builtin,Sem.run_bind,Sem.run_pure,Result.andThen_ok,List.map_toArray,List.map_cons,List.map_nil,hs,T,hr]
  refine h j w1 hown ((U.alloc B _).grown hg (by simp;omega) (own_base p)) (World.grownBy.trans (World.grownBy_alloc W _ _) hg) ?_
  rcases hat with hat|hat
  · exact .inl hat
  · exact .inr ⟨_,hat,by simp⟩
end
theorem own_weaken {w:World} {base base':Nat} {e:TypeId} {size n:Nat} {v:Value} {xs:List Value} (h:w.ownsRow base e size v n xs) (j:base'≤base):w.ownsRow base' e size v n xs:=by
  obtain⟨h1,h2⟩:=h
  refine⟨h1,?_⟩
  rcases h2 with h2|⟨g,cap,i,rfl,p,r⟩
  · exact .inl h2
  · exact .inr ⟨g,cap,i,rfl,Nat.le_trans j p,r⟩
section
variable {α:Type} {enc:α→Value} {d:α}
def encs (enc:α→Value) (xs:List α):List Value:=xs.map enc
def rdOf (d:α) (xs:List α) (i:Int):α:=xs.getD i.toNat d
theorem encs_length (xs:List α):(encs enc xs).length=xs.length:=by simp [encs]
theorem encs_get (xs:List α) (j:Nat) (h:j < xs.length):(encs enc xs)[j]?=some (enc (xs.getD j d)):=by
  simp [encs,List.getElem?_eq_getElem h,List.getD_eq_getElem?_getD]
def ReadsOf (enc:α→Value) (d:α) (w:World) (A:Option Addr) (n:Nat) (xs:List α):Prop:=
  xs.length=n∧n≤9223372036854775807∧(0 < n→∃ ad,A=some ad∧∀ j,j < n→w.cell? (ad.add j)=some (enc (xs.getD j d)))
theorem ReadsOf.at_ {w:World} {A:Option Addr} {n:Nat} {xs:List α} (h:ReadsOf enc d w A n xs) (i:Int) (h0:0≤i) (h1:i < n):∃ j,A=some j∧w.cell? (j.add i.toNat)=some (enc (rdOf d xs i)):=by
  obtain⟨j,e,hc⟩:=h.2.2 (by omega)
  exact⟨j,e,hc _ (by omega)⟩
theorem ReadsOf.below {w w1:World} {A:Option Addr} {n:Nat} {xs:List α} (h:ReadsOf enc d w A n xs) (i:Below w.heap.size w w1):ReadsOf enc d w1 A n xs:=
  ⟨h.1,h.2.1,fun p=>by
    obtain⟨ad,e,hc⟩:=h.2.2 p
    exact⟨ad,e,fun j r=>pw_cell_below i (hc j r)⟩⟩
theorem own_at_of {W:World} {base g n cap:Nat} {e:TypeId} {xs:List α} (h:W.ownsRow base e 1 (.slice (some ⟨g,0,none⟩) n cap) n (encs enc xs)) (i:Int) (h0:0≤i) (h1:i < n):
    W.cell? ⟨g,i.toNat,none⟩=some (enc (rdOf d xs i))∧W.frozen? ⟨g,i.toNat,none⟩=false:=by
  have y:xs.length=n:=by have:=h.1;simp [encs] at this;exact this
  constructor
  · have p:=h.cells (g:=g) rfl i.toNat _ (encs_get (d:=d) xs i.toNat (by omega))
    rwa [add_plain] at p
  · rcases h.2 with ⟨j,_⟩|⟨g',s,t,j,_,r,_⟩
    · cases j
    · have:g=g':=by injection j with j;injection j with j;injection j with j
      subst this
      simp [World.frozen?,r]
theorem own_store_of {W:World} {base g n cap:Nat} {e:TypeId} {xs:List α} (h:W.ownsRow base e 1 (.slice (some ⟨g,0,none⟩) n cap) n (encs enc xs)) (i:Int) (x:α):
    (W.setCell ⟨g,i.toNat,none⟩ (enc x)).ownsRow base e 1 (.slice (some ⟨g,0,none⟩) n cap) n (encs enc (xs.set i.toNat x))∧W.grownBy (W.setCell ⟨g,i.toNat,none⟩ (enc x)) (some g):=by
  have hs:=h.stored i.toNat (enc x)
  have j:(encs enc xs).set i.toNat (enc x)=encs enc (xs.set i.toNat x):=by simp [encs,List.map_set]
  rwa [j] at hs
end
section
variable {α:Type} {P:Program} {ops:Array Oper} {rest:List Oper} {o:Oper} {a:Act} {Q:Exit→Act→World→Prop}
end
theorem blk_alloc {w:World} {g:Nat} {o:Obj} (h:w.heap[g]?=some o) (i:Obj):(w.alloc i).heap[g]?=some o:=(Below.heap_alloc w i g (blk_lt h)).trans h
theorem blk_drew {w:World} {g:Nat} {o:Obj} (h:w.heap[g]?=some o):w.drew.heap[g]?=some o:=h
theorem blk_drewN {w:World} {g:Nat} {o:Obj} (h:w.heap[g]?=some o) (n:Nat):(w.drewN n).heap[g]?=some o:=h
theorem blk_below {w w1:World} {g:Nat} {o:Obj} (h:w.heap[g]?=some o) (i:Below w.heap.size w w1):w1.heap[g]?=some o:=(i.block g (blk_lt h)).trans h
theorem blk_new (w:World) (o:Obj):(w.alloc o).heap[w.heap.size]?=some o:=heap_alloc_new w o
section
variable {P:Program}
end
theorem own_le {w:World} {base n m c size:Nat} {e:TypeId} {A:Option Addr} {xs:List Value} (h:w.ownsRow base e size (.slice A m c) n xs):m≤c:=by
  rcases h.2 with ⟨i,_⟩|⟨g,cap,j,i,_,_,p,_⟩
  · injection i with _ h2 h3
    omega
  · injection i with _ h2 h3
    omega
def OwnRow {α:Type} (R:α→List Value→Prop) (e:TypeId) (size:Nat) (w:World) (base:Nat) (v:Value) (ps:List α):Prop:=
  ∃ inner,w.ownsRow base e size v ps.length inner∧Reps R size ps inner
section
variable {α:Type} {R R':α→List Value→Prop} {e:TypeId} {size:Nat} {w w1:World} {base:Nat} {v:Value} {ps:List α}
theorem OwnRow.none_ (R:α→List Value→Prop) (e:TypeId) (size:Nat) (w:World) (base:Nat):OwnRow R e size w base (.slice none 0 0) []:=⟨[],own_nil _ _ _ _,Reps.none _ _⟩
theorem OwnRow.imp_ (h:OwnRow R e size w base v ps) (i:∀ p c,R p c→R' p c):OwnRow R' e size w base v ps:=by
  obtain⟨inner,ho,hr⟩:=h
  exact⟨inner,ho,hr.imp_ i⟩
theorem OwnRow.below (h:OwnRow R e size w base v ps) (i:Below w.heap.size w w1):OwnRow R e size w1 base v ps:=by
  obtain⟨inner,ho,hr⟩:=h
  exact⟨inner,pw_own_below ho i,hr⟩
theorem OwnRow.other (h:OwnRow R e size w base v ps) {i:Option Nat} (p:w.grownBy w1 i) (j:v.ownBlock=none∨v.ownBlock≠i):OwnRow R e size w1 base v ps:=by
  obtain⟨inner,ho,hr⟩:=h
  exact⟨inner,own_other ho p j,hr⟩
theorem OwnRow.set_ (h:OwnRow R e size w base v ps) {g:Nat} {t:TypeId} {cells:Array Value} (i:w.heap[g]?=some (.cells cells t (0,0))) (p:e≠t) (j:Nat) (u:Value):OwnRow R e size (w.setCell ⟨g,j,none⟩ u) base v ps:=by
  obtain⟨inner,ho,hr⟩:=h
  exact⟨inner,own_setCell ho (own_ne ho i p) u,hr⟩
theorem OwnRow.reads (h:OwnRow R e size w base v ps):∃ A c,v=.slice A ps.length c∧ps.length≤c∧ReadsRow R size w A ps.length ps:=by
  obtain⟨inner,ho,hr⟩:=h
  obtain⟨A,c,rfl,hrow⟩:=own_reads_row ho hr rfl
  exact⟨A,c,rfl,own_le ho,hrow⟩
theorem OwnRow.ne_block (h:OwnRow R e size w base v ps) {g:Nat} {t:TypeId} {cells:Array Value} (i:w.heap[g]?=some (.cells cells t (0,0))) (j:e≠t):some g≠v.ownBlock:=by
  obtain⟨inner,ho,hr⟩:=h
  exact own_ne ho i j
end
section
variable {P:Program} {ops:Array Oper} {rest:List Oper} {o:Oper} {a:Act} {Q:Exit→Act→World→Prop} {α:Type} {R:α→List Value→Prop}
theorem OwnRow.append {w0 W:World} (base:Nat) (I:o.guard=none) (s x:Operand) (t e:TypeId) (z:Value) (size bytes:Nat)
    (T:o.op=.call { callee:=.builtin .append,args:=#[s,x],argTypes:=#[t,t] })
    (U:P.underlying t=some (.slice e)) (y:(P.info? e).map (fun i=>(i.zero,i.size,i.bytes))=some (some z,size,bytes)) (X:z.cells.size=size) (J:0 < size) (L:0 < bytes)
    (v:Value) (ps:List α) (p:α) (cs:List Value) (hs:a.eval s=v) (Y:a.eval x=.slice (some ⟨W.heap.size,0,none⟩) 1 1) (Z:R p cs) (r:cs.length=size) (h1:∀ u∈cs,u.oneCell'=true)
    (HO:OwnRow R e size W base v ps) (HB:Below base w0 W) (B:base≤W.heap.size) (hl:(ps.length+1)*bytes≤140737488355328)
    (h:∀ j w1,OwnRow R e size w1 base j (ps++[p])→Below base w0 w1→W.grownBy w1 v.ownBlock→(j.ownBlock=v.ownBlock∨∃ b,j.ownBlock=some b∧W.heap.size≤b)→wpList P ops Q rest (a.put o.dst j) w1):
    wpList P ops Q (o :: rest) a (W.alloc (.cells cs.toArray e)):=by
  obtain⟨inner,hown,hr⟩:=HO
  refine print_append_cells base I s x t e z size bytes T U y X J L v ps.length inner cs hs Y r h1 hown HB B hl ?_
  intro j w1 D M O G
  exact h j w1 ⟨inner++cs,by rw [List.length_append,List.length_singleton];exact D,hr.snoc Z r⟩ M O G
end
section
variable {P:Program} {ops:Array Oper} {o:Oper} {a:Act} {Q:Exit→Act→World→Prop} {K:Act→World→Prop} {α:Type} {R:α→List Value→Prop}
end
section
variable {α:Type} {P:Program}
end
section
variable {P:Program} {ops:Array Oper} {rest:List Oper} {o:Oper} {a:Act} {Q:Exit→Act→World→Prop}
theorem print_append_str {w0 W:World} (base:Nat) (G:o.guard=none) (s x:Operand) (t u e:TypeId)
    (J:o.op=.call { callee:=.builtin .append,args:=#[s,x],argTypes:=#[t,u] })
    (L:P.underlying t=some (.slice e)) (M:P.underlying u=some .string) (B:(P.info? e).map (fun i=>(i.zero,i.size,i.bytes))=some (some (.int .u8 0),1,1))
    (v:Value) (xs:List Int) (y:ByteArray) (hs:a.eval s=v) (O:a.eval x=.string y)
    (r:W.ownsRow base e 1 v xs.length (nums .u8 xs)) (T:Below base w0 W) (p:base≤W.heap.size) (U:xs.length+y.size≤140737488355328)
    (h:∀ j w1,w1.ownsRow base e 1 j (xs++bytesOf y).length (nums .u8 (xs++bytesOf y))→Below base w0 w1→W.grownBy w1 v.ownBlock→wpList P ops Q rest (a.put o.dst j) w1):
    wpList P ops Q (o :: rest) a W:=by
  obtain⟨i0,hi,hzz⟩:=Option.map_eq_some_iff.1 B
  simp only [Prod.mk.injEq] at hzz
  obtain⟨hz0,hz1,hz2⟩:=hzz
  refine Lib.wpList_append_own_string W G s x t u J base e i0 L M hi hz0 hz1 hz2 v xs.length (nums .u8 xs) hs r y O (by simp only [maxLen];omega) U p ?_
  intro j w1 D z _
  have I:(xs++bytesOf y).length=xs.length+y.size:=by rw [List.length_append,bytesOf_length]
  have X:nums .u8 (xs++bytesOf y)=nums .u8 xs++Lib.strCells y:=by
    rw [nums_append]
    congr 1
    simp [nums,bytesOf,Lib.strCells]
  exact h j w1 (by rw [I,X];exact D) (T.grown z p (own_base r)) z
end
structure Kd (α:Type) where
  sz:Nat
  E:List Nat
  K:World→α→List Value→Prop
  M:World→Nat→(Nat→Prop)→α→List Value→Prop
  K_len:∀ {w x cs},K w x cs→cs.length=sz
  K_one:∀ {w x cs},K w x cs→∀ u∈cs,u.oneCell'=true
  K_below:∀ {w w1:World} {x cs},Below w.heap.size w w1→K w x cs→K w1 x cs
  K_of_M:∀ {w base ok x cs},M w base ok x cs→K w x cs
  M_mono:∀ {w base ok ok' x cs},(∀ k,ok k→ok' k)→M w base ok x cs→M w base ok' x cs
  M_bound:∀ {w:World} {base ok x cs},M w base ok x cs→M w base (fun k=>ok k∧base≤k∧k < w.heap.size∧∃ q,q∈E∧∃ cells,w.heap[k]?=some (.cells cells q (0,0))) x cs
  M_move:∀ {w w1:World} {base ok x cs},(∀ k,ok k→w1.heap[k]?=w.heap[k]?)→M w base ok x cs→M w1 base ok x cs
  M_lower:∀ {w base base' ok x cs},base'≤base→M w base ok x cs→M w base' ok x cs
theorem own_move {w w1:World} {base:Nat} {e:TypeId} {size n:Nat} {v:Value} {xs:List Value} (h:w.ownsRow base e size v n xs) (j:∀ k,v.ownBlock=some k→w1.heap[k]?=w.heap[k]?):w1.ownsRow base e size v n xs:=by
  obtain⟨h1,h2⟩:=h
  refine⟨h1,?_⟩
  rcases h2 with h2|⟨g,cap,i,rfl,p,s,r⟩
  · exact .inl h2
  · exact .inr ⟨g,cap,i,rfl,p,(j g (by simp [Value.ownBlock])).trans s,r⟩
theorem own_typed {w:World} {base:Nat} {e:TypeId} {size n:Nat} {v:Value} {xs:List Value} (h:w.ownsRow base e size v n xs) (k:Nat) (i:v.ownBlock=some k):∃ cells,w.heap[k]?=some (.cells cells e (0,0)):=by
  rcases h.2 with ⟨rfl,_⟩|⟨g,cap,j,rfl,s,p,r⟩
  · simp [Value.ownBlock] at i
  · have:g=k:=by simpa [Value.ownBlock] using i
    subst this
    exact⟨j,p⟩
namespace Kd
def C {α:Type} (d:Kd α) (w:World) (A:Option Addr) (n:Nat) (xs:List α):Prop:=ReadsRow (d.K w) d.sz w A n xs
def R {α:Type} (d:Kd α) (e:Nat) (w:World) (base:Nat) (ok:Nat→Prop) (v:Value) (xs:List α):Prop:=
  (∀ k,v.ownBlock=some k→ok k)∧OwnRow (d.M w base (fun k=>ok k∧some k≠v.ownBlock)) e d.sz w base v xs
section
variable {α:Type} {d:Kd α} {e:Nat} {w w1:World} {base:Nat} {ok ok':Nat→Prop} {v:Value} {xs:List α}
theorem C_below {A:Option Addr} {n:Nat} (h:d.C w A n xs) (i:Below w.heap.size w w1):d.C w1 A n xs:=ReadsRow.imp_ h i (fun _ _ j=>d.K_below i j)
theorem R_nil (d:Kd α) (e:Nat) (w:World) (base:Nat) (ok:Nat→Prop):d.R e w base ok (.slice none 0 0) []:=⟨fun k i=>by simp [Value.ownBlock] at i,OwnRow.none_ _ _ _ _ _⟩
theorem R_mono (h:d.R e w base ok v xs) (j:∀ k,ok k→ok' k):d.R e w base ok' v xs:=⟨fun k i=>j k (h.1 k i),h.2.imp_ (fun _ _ p=>d.M_mono (fun k i=>⟨j k i.1,i.2⟩) p)⟩
theorem R_bound (h:d.R e w base ok v xs):d.R e w base (fun k=>ok k∧base≤k∧k < w.heap.size∧∃ q,q∈e :: d.E∧∃ cells,w.heap[k]?=some (.cells cells q (0,0))) v xs:=by
  obtain⟨h0,inner,ho,hr⟩:=h
  refine⟨fun k i=>?_,inner,ho,hr.imp_ (fun _ _ j=>d.M_mono (fun k i=>?_) (d.M_bound j))⟩
  · obtain⟨cells,hc⟩:=own_typed ho k i
    exact⟨h0 k i,own_base ho k i,own_lt ho k i,e,List.mem_cons_self,cells,hc⟩
  · obtain⟨⟨h1,h2⟩,h3,h4,q,hq,hc⟩:=i
    exact⟨⟨h1,h3,h4,q,List.mem_cons_of_mem _ hq,hc⟩,h2⟩
theorem R_move (h:d.R e w base ok v xs) (j:∀ k,ok k→w1.heap[k]?=w.heap[k]?):d.R e w1 base ok v xs:=by
  obtain⟨h0,inner,ho,hr⟩:=h
  exact⟨h0,inner,own_move ho (fun k i=>j k (h0 k i)),hr.imp_ (fun _ _ p=>d.M_move (fun k i=>j k i.1) p)⟩
theorem R_lower {base':Nat} (h:d.R e w base ok v xs) (i:base'≤base):d.R e w base' ok v xs:=by
  obtain⟨h0,inner,ho,hr⟩:=h
  exact⟨h0,inner,own_weaken ho i,hr.imp_ (fun _ _ j=>d.M_lower i j)⟩
theorem R_step (h:d.R e w base ok v xs) (j:∀ k,ok k→k < w.heap.size→w1.heap[k]?=w.heap[k]?):d.R e w1 base ok v xs:=
  R_mono (R_move (R_bound h) (fun k i=>j k i.1 i.2.2.1)) (fun _ i=>i.1)
theorem M_step {x:α} {cs:List Value} (h:d.M w base ok x cs) (j:∀ k,ok k→k < w.heap.size→w1.heap[k]?=w.heap[k]?):d.M w1 base ok x cs:=
  d.M_mono (fun _ i=>i.1) (d.M_move (fun k i=>j k i.1 i.2.2.1) (d.M_bound h))
theorem R_below (h:d.R e w base ok v xs) (i:Below w.heap.size w w1):d.R e w1 base ok v xs:=R_step h (fun k _ j=>i.block k j)
theorem M_below {x:α} {cs:List Value} (h:d.M w base ok x cs) (i:Below w.heap.size w w1):d.M w1 base ok x cs:=M_step h (fun k _ j=>i.block k j)
theorem R_grown (h:d.R e w base ok v xs) {i:Option Nat} (p:w.grownBy w1 i) (j:∀ k,ok k→some k≠i):d.R e w1 base ok v xs:=R_step h (fun k r s=>p.block k s (j k r))
theorem R_far (h:d.R e w base ok v xs) {p:Addr} (i:∀ k,ok k→k≠p.block) (u:Value):d.R e (w.setCell p u) base ok v xs:=R_step h (fun k j _=>Below.heap_setCell w p u k (i k j))
theorem R_keep (h:d.R e w base ok v xs) {g:Nat} (p:KeepBut w w1 g none) (i:∀ k,ok k→k≠g):d.R e w1 base ok v xs:=R_step h (fun k r j=>p.2 k j (i k r) (by simp))
theorem R_types (h:d.R e w base ok v xs) {g t:Nat} {cells:Array Value} (i:w.heap[g]?=some (.cells cells t (0,0))) (p:∀ q,q∈e :: d.E→q≠t):d.R e w base (fun k=>ok k∧k≠g) v xs:=
  R_mono (R_bound h) (fun k j=>⟨j.1,by
    obtain⟨_,_,_,q,hq,cells',hc⟩:=j
    rintro rfl
    rw [hc] at i
    injection i with i
    injection i with _ i
    exact p q hq i⟩)
theorem R_set (h:d.R e w base ok v xs) {g t:Nat} {cells:Array Value} (r:w.heap[g]?=some (.cells cells t (0,0))) (s:∀ q,q∈e :: d.E→q≠t) (j:Nat) (u:Value):d.R e (w.setCell ⟨g,j,none⟩ u) base ok v xs:=
  R_mono (R_far (p:=⟨g,j,none⟩) (R_types h r s) (fun _ i=>i.2) u) (fun _ i=>i.1)
theorem R_reads (h:d.R e w base ok v xs):∃ A c,v=.slice A xs.length c∧xs.length≤c∧d.C w A xs.length xs:=by
  obtain⟨A,c,he,hl,hr⟩:=OwnRow.reads h.2
  exact⟨A,c,he,hl,hr.imp_ (Below.refl _ _) (fun _ _ i=>d.K_of_M i)⟩
theorem R_slice (h:d.R e w base ok v xs):∃ A c,v=.slice A xs.length c:=by
  obtain⟨A,c,he,_⟩:=R_reads h
  exact⟨A,c,he⟩
theorem R_own (h:d.R e w base ok v xs):∃ inner,w.ownsRow base e d.sz v xs.length inner:=by
  obtain⟨_,inner,ho,_⟩:=h
  exact⟨inner,ho⟩
theorem R_ne (h:d.R e w base ok v xs) {g t:Nat} {cells:Array Value} (i:w.heap[g]?=some (.cells cells t (0,0))) (j:e≠t):some g≠v.ownBlock:=OwnRow.ne_block h.2 i j
end
def scalar {α:Type} (enc:α→Value) (h1:∀ x,(enc x).oneCell'=true):Kd α where
  sz:=1
  E:=[]
  K:=fun _ x cs=>cs=[enc x]
  M:=fun _ _ _ x cs=>cs=[enc x]
  K_len:=fun h=>by rw [h];rfl
  K_one:=fun h u hu=>by
    rw [h] at hu
    rw [List.mem_singleton.1 hu]
    exact h1 _
  K_below:=fun _ h=>h
  K_of_M:=fun h=>h
  M_mono:=fun _ h=>h
  M_bound:=fun h=>h
  M_move:=fun _ h=>h
  M_lower:=fun _ h=>h
def int (k:IntKind):Kd Int:=scalar (Value.int k) (fun _=>rfl)
def bool:Kd Bool:=scalar Value.bool (fun _=>rfl)
def string:Kd ByteArray:=scalar Value.string (fun _=>rfl)
def slice {α:Type} (e:Nat) (d:Kd α):Kd (List α) where
  sz:=1
  E:=e :: d.E
  K:=fun w xs cs=>∃ A c,cs=[.slice A xs.length c]∧xs.length≤c∧d.C w A xs.length xs
  M:=fun w base ok xs cs=>∃ v,cs=[v]∧d.R e w base ok v xs
  K_len:=by
    rintro w x cs ⟨A,c,rfl,_⟩
    rfl
  K_one:=by
    rintro w x cs ⟨A,c,rfl,_⟩ u hu
    rw [List.mem_singleton.1 hu]
    rfl
  K_below:=by
    rintro w w1 x cs hb ⟨A,c,rfl,hl,hr⟩
    exact⟨A,c,rfl,hl,C_below hr hb⟩
  K_of_M:=by
    rintro w base ok x cs ⟨v,rfl,h⟩
    obtain⟨A,c,rfl,hl,hr⟩:=R_reads h
    exact⟨A,c,rfl,hl,hr⟩
  M_mono:=by
    rintro w base ok ok' x cs hok ⟨v,rfl,h⟩
    exact⟨v,rfl,R_mono h hok⟩
  M_bound:=by
    rintro w base ok x cs ⟨v,rfl,h⟩
    exact⟨v,rfl,R_bound h⟩
  M_move:=by
    rintro w w1 base ok x cs hm ⟨v,rfl,h⟩
    exact⟨v,rfl,R_move h hm⟩
  M_lower:=by
    rintro w base base' ok x cs hb ⟨v,rfl,h⟩
    exact⟨v,rfl,R_lower h hb⟩
def pair {α β:Type} (a:Kd α) (b:Kd β):Kd (α×β) where
  sz:=a.sz+b.sz
  E:=a.E++b.E
  K:=fun w x cs=>∃ c0 c1,cs=c0++c1∧a.K w x.1 c0∧b.K w x.2 c1
  M:=fun w base ok x cs=>∃ c0 c1,cs=c0++c1∧a.M w base ok x.1 c0∧b.M w base ok x.2 c1
  K_len:=by
    rintro w x cs ⟨c0,c1,rfl,h0,h1⟩
    rw [List.length_append,a.K_len h0,b.K_len h1]
  K_one:=by
    rintro w x cs ⟨c0,c1,rfl,h0,h1⟩ u hu
    rcases List.mem_append.1 hu with hu|hu
    · exact a.K_one h0 u hu
    · exact b.K_one h1 u hu
  K_below:=by
    rintro w w1 x cs hb ⟨c0,c1,rfl,h0,h1⟩
    exact⟨c0,c1,rfl,a.K_below hb h0,b.K_below hb h1⟩
  K_of_M:=by
    rintro w base ok x cs ⟨c0,c1,rfl,h0,h1⟩
    exact⟨c0,c1,rfl,a.K_of_M h0,b.K_of_M h1⟩
  M_mono:=by
    rintro w base ok ok' x cs hok ⟨c0,c1,rfl,h0,h1⟩
    exact⟨c0,c1,rfl,a.M_mono hok h0,b.M_mono hok h1⟩
  M_bound:=by
    rintro w base ok x cs ⟨c0,c1,rfl,h0,h1⟩
    refine⟨c0,c1,rfl,a.M_mono ?_ (a.M_bound h0),b.M_mono ?_ (b.M_bound h1)⟩
    · rintro k ⟨h2,h3,h4,q,hq,hc⟩
      exact⟨h2,h3,h4,q,List.mem_append_left _ hq,hc⟩
    · rintro k ⟨h2,h3,h4,q,hq,hc⟩
      exact⟨h2,h3,h4,q,List.mem_append_right _ hq,hc⟩
  M_move:=by
    rintro w w1 base ok x cs hm ⟨c0,c1,rfl,h0,h1⟩
    exact⟨c0,c1,rfl,a.M_move hm h0,b.M_move hm h1⟩
  M_lower:=by
    rintro w base base' ok x cs hb ⟨c0,c1,rfl,h0,h1⟩
    exact⟨c0,c1,rfl,a.M_lower hb h0,b.M_lower hb h1⟩
def iso {α β:Type} (d:Kd α) (f:β→α):Kd β where
  sz:=d.sz
  E:=d.E
  K:=fun w x cs=>d.K w (f x) cs
  M:=fun w base ok x cs=>d.M w base ok (f x) cs
  K_len:=d.K_len
  K_one:=d.K_one
  K_below:=d.K_below
  K_of_M:=d.K_of_M
  M_mono:=d.M_mono
  M_bound:=d.M_bound
  M_move:=d.M_move
  M_lower:=d.M_lower
def bot {α:Type} (sz:Nat) (E:List Nat):Kd α where
  sz:=sz
  E:=E
  K:=fun _ _ _=>False
  M:=fun _ _ _ _ _=>False
  K_len:=fun h=>h.elim
  K_one:=fun h=>h.elim
  K_below:=fun _ h=>h
  K_of_M:=fun h=>h
  M_mono:=fun _ h=>h
  M_bound:=fun h=>h
  M_move:=fun _ h=>h
  M_lower:=fun _ h=>h
def upto {α:Type} (F:Kd α→Kd α) (sz:Nat) (E:List Nat):Nat→Kd α
  | 0=>bot sz E
  | n+1=>F (upto F sz E n)
theorem C_get {α:Type} {d:Kd α} {w:World} {A:Option Addr} {n:Nat} {xs:List α} (h:d.C w A n xs) (z:α) (i:Int) (h0:0≤i) (h1:i < n):
    ∃ p c,A=some p∧c.length=d.sz∧d.K w (xs.getD i.toNat z) c∧∀ j u,c[j]?=some u→w.cell? (p.add (i.toNat*d.sz+j))=some u:=ReadsRow.get_ h z i h0 h1
theorem R_appended {α:Type} {d:Kd α} {e base:Nat} {ok okp:Nat→Prop} {W w1:World} {v r:Value} {xs:List α} {p:α} {inner cs:List Value} (h0:∀ k,v.ownBlock=some k→ok k) (O:Reps (d.M W base (fun k=>ok k∧some k≠v.ownBlock)) d.sz xs inner) (z:d.M W base okp p cs) (G:∀ k,okp k→ok k∧some k≠v.ownBlock) (D:∀ k,W.heap.size≤k→ok k)
    (I:w1.ownsRow base e d.sz r (xs.length+1) (inner++cs)) (T:W.grownBy w1 v.ownBlock) (j:r.ownBlock=v.ownBlock∨∃ b,r.ownBlock=some b∧W.heap.size≤b):d.R e w1 base ok r (xs++[p]):=by
  have J:∀ k,some k≠v.ownBlock→k < W.heap.size→some k≠r.ownBlock:=by
    intro k i U
    rcases j with j|⟨b,s,L⟩
    · rw [j];exact i
    · rw [s]
      intro B
      injection B with B
      omega
  have step:∀ {q:α} {c:List Value} {o:Nat→Prop},d.M W base o q c→(∀ k,o k→ok k∧some k≠v.ownBlock)→d.M w1 base (fun k=>ok k∧some k≠r.ownBlock) q c:=by
    intro q c o t y
    have h1:=d.M_move (w1:=w1) (fun k i=>T.block k i.2.2.1 (y k i.1).2) (d.M_bound t)
    exact d.M_mono (fun k i=>⟨(y k i.1).1,J k (y k i.1).2 i.2.2.1⟩) h1
  refine⟨fun k i=>?_,inner++cs,by rw [List.length_append,List.length_singleton];exact I,?_⟩
  · rcases j with j|⟨b,s,L⟩
    · exact h0 k (j ▸ i)
    · rw [s] at i
      injection i with i
      exact D k (by omega)
  · exact(O.imp_ (fun _ _ t=>step t (fun _ i=>i))).snoc (step z G) (d.K_len (d.K_of_M z))
section
variable {P:Program} {ops:Array Oper} {rest:List Oper} {o:Oper} {a:Act} {Q:Exit→Act→World→Prop} {α:Type}
theorem R_append (d:Kd α) {w0 W:World} (base:Nat) (O:o.guard=none) (s x:Operand) (t e:TypeId) (z:Value) (bytes:Nat)
    (Y:o.op=.call { callee:=.builtin .append,args:=#[s,x],argTypes:=#[t,t] })
    (Z:P.underlying t=some (.slice e)) (G:(P.info? e).map (fun i=>(i.zero,i.size,i.bytes))=some (some z,d.sz,bytes)) (hz:z.cells.size=d.sz) (T:0 < d.sz) (U:0 < bytes)
    (v:Value) (xs:List α) (p:α) (cs:List Value) (ok okp:Nat→Prop) (hs:a.eval s=v) (hx:a.eval x=.slice (some ⟨W.heap.size,0,none⟩) 1 1) (r:d.M W base okp p cs) (L:∀ k,okp k→ok k∧some k≠v.ownBlock) (D:∀ k,W.heap.size≤k→ok k)
    (HO:d.R e W base ok v xs) (HB:Below base w0 W) (I:base≤W.heap.size) (hl:(xs.length+1)*bytes≤140737488355328)
    (h:∀ j w1,d.R e w1 base ok j (xs++[p])→Below base w0 w1→W.grownBy w1 v.ownBlock→(j.ownBlock=v.ownBlock∨∃ b,j.ownBlock=some b∧W.heap.size≤b)→wpList P ops Q rest (a.put o.dst j) w1):
    wpList P ops Q (o :: rest) a (W.alloc (.cells cs.toArray e)):=by
  obtain⟨h0,inner,hown,hr⟩:=HO
  refine print_append_cells base O s x t e z d.sz bytes Y Z G hz T U v xs.length inner cs hs hx (d.K_len (d.K_of_M r)) (d.K_one (d.K_of_M r)) hown HB I hl ?_
  intro j w1 J X B y
  exact h j w1 (R_appended h0 hr r L D J B y) X B y
end
section
variable {P:Program} {ops:Array Oper} {o:Oper} {a:Act} {Q:Exit→Act→World→Prop} {Kc:Act→World→Prop} {α:Type}
theorem R_append_step (d:Kd α) {w0 W:World} (base:Nat) (X:Region.wanted o (yielded ops a.tmps)=true) (s x:Operand) (t e:TypeId) (z:Value) (bytes:Nat)
    (Y:o.op=.call { callee:=.builtin .append,args:=#[s,x],argTypes:=#[t,t] })
    (Z:P.underlying t=some (.slice e)) (G:(P.info? e).map (fun i=>(i.zero,i.size,i.bytes))=some (some z,d.sz,bytes)) (hz:z.cells.size=d.sz) (O:0 < d.sz) (T:0 < bytes)
    (v:Value) (xs:List α) (p:α) (cs:List Value) (ok okp:Nat→Prop) (hs:a.eval s=v) (hx:a.eval x=.slice (some ⟨W.heap.size,0,none⟩) 1 1) (r:d.M W base okp p cs) (L:∀ k,okp k→ok k∧some k≠v.ownBlock) (D:∀ k,W.heap.size≤k→ok k)
    (HO:d.R e W base ok v xs) (HB:Below base w0 W) (I:base≤W.heap.size) (hl:(xs.length+1)*bytes≤140737488355328)
    (h:∀ j w1,d.R e w1 base ok j (xs++[p])→Below base w0 w1→W.grownBy w1 v.ownBlock→(j.ownBlock=v.ownBlock∨∃ b,j.ownBlock=some b∧W.heap.size≤b)→Kc (a.put o.dst j) w1):
    if Region.wanted o (yielded ops a.tmps)=true then Oper.wp P o a (W.alloc (.cells cs.toArray e)) Kc Q else Kc (a.put o.dst undef) (W.alloc (.cells cs.toArray e)):=by
  obtain⟨h0,inner,hown,hr⟩:=HO
  refine step_append_cells base X s x t e z d.sz bytes Y Z G hz O T v xs.length inner cs hs hx (d.K_len (d.K_of_M r)) (d.K_one (d.K_of_M r)) hown HB I hl ?_
  intro j w1 J U B y
  exact h j w1 (R_appended h0 hr r L D J B y) U B y
end
theorem reps_scalar {α:Type} {enc:α→Value} (xs:List α):Reps (fun (x:α) (cs:List Value)=>cs=[enc x]) 1 xs (encs enc xs):=by
  refine⟨by simp [encs],fun j p r=>?_⟩
  obtain⟨hl,hp⟩:=List.getElem?_eq_some_iff.1 r
  have i:j < (encs enc xs).length:=by rw [encs_length];exact hl
  rw [Nat.mul_one,List.drop_eq_getElem_cons i]
  simp [encs,hp]
theorem R_of_own {α:Type} {enc:α→Value} {h1:∀ x,(enc x).oneCell'=true} {e:Nat} {w:World} {base:Nat} {ok:Nat→Prop} {v:Value} {xs:List α} (j:w.ownsRow base e 1 v xs.length (encs enc xs)) (i:∀ k,v.ownBlock=some k→ok k):(scalar enc h1).R e w base ok v xs:=⟨i,encs enc xs,j,reps_scalar xs⟩
theorem own_of_R {α:Type} {enc:α→Value} {h1:∀ x,(enc x).oneCell'=true} {e:Nat} {w:World} {base:Nat} {ok:Nat→Prop} {v:Value} {xs:List α} (h:(scalar enc h1).R e w base ok v xs):w.ownsRow base e 1 v xs.length (encs enc xs):=by
  obtain⟨_,inner,ho,hr⟩:=h
  have:inner=encs enc xs:=by
    apply List.ext_getElem?
    intro j
    rcases Nat.lt_or_ge j xs.length with hj|hj
    · have h2:=hr.2 j _ (List.getElem?_eq_getElem hj)
      have i:j < inner.length:=by have:=hr.1;simp [scalar] at this;omega
      have h3:(inner.drop (j*1)).take 1=[enc xs[j]]:=h2
      rw [Nat.mul_one,List.drop_eq_getElem_cons i] at h3
      have h4:inner[j]=enc xs[j]:=by
        have h5:=congrArg List.head? h3
        rw [List.take_succ_cons] at h5
        exact Option.some.inj h5
      rw [List.getElem?_eq_getElem i,h4]
      simp [encs,List.getElem?_eq_getElem hj]
    · have h3:inner.length=xs.length:=by have:=hr.1;simp [scalar] at this;omega
      rw [List.getElem?_eq_none (by omega),List.getElem?_eq_none (by rw [encs_length];omega)]
  rw [← this]
  exact ho
theorem reads_of_C {α:Type} {enc:α→Value} {d:α} {h1:∀ x,(enc x).oneCell'=true} {w:World} {A:Option Addr} {n:Nat} {xs:List α} (h:(scalar enc h1).C w A n xs):ReadsOf enc d w A n xs:=by
  refine⟨h.1,h.2.1,fun r=>?_⟩
  obtain⟨ad,e,hc⟩:=h.2.2 r
  refine⟨ad,e,fun j s=>?_⟩
  have i:j < xs.length:=by have:=h.1;omega
  obtain⟨c,_,hK,hcell⟩:=hc j _ (List.getElem?_eq_getElem i)
  have p:c=[enc xs[j]]:=hK
  subst p
  have:=hcell 0 _ rfl
  simpa [scalar,List.getD_eq_getElem?_getD,List.getElem?_eq_getElem i] using this
end Kd
namespace Kd
structure Mono {α β:Type} (F:Kd α→Kd β):Prop where
  sz:∀ d d':Kd α,d.sz=d'.sz→(F d).sz=(F d').sz
  K:∀ d d':Kd α,d.sz=d'.sz→(∀ w x cs,d.K w x cs→d'.K w x cs)→∀ w x cs,(F d).K w x cs→(F d').K w x cs
  M:∀ d d':Kd α,d.sz=d'.sz→(∀ w base ok x cs,d.M w base ok x cs→d'.M w base ok x cs)→∀ w base ok x cs,(F d).M w base ok x cs→(F d').M w base ok x cs
section
variable {α:Type} {F:Kd α→Kd α} {sz:Nat} {E:List Nat} {hs:∀ n,(upto F sz E n).sz=sz} {hE:∀ n q,q∈(upto F sz E n).E→q∈E}
end
end Kd
namespace Kd
end Kd
namespace Kd
section
variable {α β:Type} {d:Kd α} {d':Kd β} {e e':Nat} {w w1 W:World} {base b b':Nat} {ok ok' okv oku:Nat→Prop} {v u:Value} {xs:List α} {ys:List β}
theorem R_alloc (h:d.R e w base ok v xs) (o:Obj):d.R e (w.alloc o) base ok v xs:=R_below h (below_alloc (Below.refl _ _) o)
theorem R_drew (h:d.R e w base ok v xs):d.R e w.drew base ok v xs:=R_below h (below_drew (Below.refl _ _))
theorem R_drewN (h:d.R e w base ok v xs) (m:Nat):d.R e (w.drewN m) base ok v xs:=R_below h (pw_below_drewN (Below.refl _ _) m)
theorem C_alloc {A:Option Addr} {n:Nat} (h:d.C w A n xs) (o:Obj):d.C (w.alloc o) A n xs:=C_below h (below_alloc (Below.refl _ _) o)
theorem C_drew {A:Option Addr} {n:Nat} (h:d.C w A n xs):d.C w.drew A n xs:=C_below h (below_drew (Below.refl _ _))
theorem C_drewN {A:Option Addr} {n:Nat} (h:d.C w A n xs) (m:Nat):d.C (w.drewN m) A n xs:=C_below h (pw_below_drewN (Below.refl _ _) m)
theorem C_nil (d:Kd α) (w:World):d.C w none ([]:List α).length []:=⟨rfl,by simp,fun h=>absurd h (Nat.lt_irrefl 0)⟩
theorem R_reads' {A:Option Addr} {n c:Nat} (h:d.R e w base ok (.slice A n c) xs):n=xs.length∧n≤c∧d.C w A xs.length xs:=by
  obtain⟨A',c',he,hl,hr⟩:=R_reads h
  injection he with h1 h2 h3
  subst h1
  exact⟨h2,by omega,hr⟩
theorem R_lt (h:d.R e w base ok v xs):∀ k,v.ownBlock=some k→k < w.heap.size:=by
  obtain⟨inner,ho⟩:=R_own h
  exact own_lt ho
theorem R_base (h:d.R e w base ok v xs):∀ k,v.ownBlock=some k→base≤k:=by
  obtain⟨inner,ho⟩:=R_own h
  exact own_base ho
theorem R_away (h:d.R e w base ok v xs) {g:Nat} (i:∀ k,ok k→k≠g):some g≠v.ownBlock:=fun e=>i g (h.1 g e.symm) rfl
theorem R_form (h:d.R e w base ok v xs) (i:0 < xs.length):∃ g cap,v=.slice (some ⟨g,0,none⟩) xs.length cap∧base≤g∧g < w.heap.size∧∃ cells,w.heap[g]?=some (.cells cells e (0,0)):=by
  obtain⟨inner,ho⟩:=R_own h
  obtain⟨g,cap,he,hb,hl⟩:=ho.form i
  obtain⟨cells,hc⟩:=own_typed ho g (by rw [he];simp [Value.ownBlock])
  exact⟨g,cap,he,hb,hl,cells,hc⟩
end
section
variable {w W:World} {A:Option Addr} {n:Nat}
theorem at_int {k:IntKind} {xs:List Int} (h:(Kd.int k).C w A n xs) (i:Int) (h0:0≤i) (h1:i < n):∃ j,A=some j∧w.cell? (j.add i.toNat)=some (.int k (rd xs i)):=
  ReadsOf.at_ (reads_of_C (enc:=Value.int k) (d:=(0:Int)) (h1:=fun _=>rfl) h) i h0 h1
theorem at_bool {xs:List Bool} (h:Kd.bool.C w A n xs) (i:Int) (h0:0≤i) (h1:i < n):∃ j,A=some j∧w.cell? (j.add i.toNat)=some (.bool (rdOf false xs i)):=
  ReadsOf.at_ (reads_of_C (enc:=Value.bool) (d:=false) (h1:=fun _=>rfl) h) i h0 h1
theorem at_string {xs:List ByteArray} (h:Kd.string.C w A n xs) (i:Int) (h0:0≤i) (h1:i < n):∃ j,A=some j∧w.cell? (j.add i.toNat)=some (.string (rdOf ByteArray.empty xs i)):=
  ReadsOf.at_ (reads_of_C (enc:=Value.string) (d:=ByteArray.empty) (h1:=fun _=>rfl) h) i h0 h1
variable {α:Type} {enc:α→Value} {h1:∀ x,(enc x).oneCell'=true} {e base g cap:Nat} {ok:Nat→Prop} {xs:List α}
theorem R_cell (d:α) (h:(scalar enc h1).R e W base ok (.slice (some ⟨g,0,none⟩) xs.length cap) xs) (i:Int) (h0:0≤i) (j:i < xs.length):W.cell? ⟨g,i.toNat,none⟩=some (enc (rdOf d xs i))∧W.frozen? ⟨g,i.toNat,none⟩=false:=own_at_of (own_of_R h) i h0 j
theorem R_put (h:(scalar enc h1).R e W base ok (.slice (some ⟨g,0,none⟩) xs.length cap) xs) (i:Int) (x:α):(scalar enc h1).R e (W.setCell ⟨g,i.toNat,none⟩ (enc x)) base ok (.slice (some ⟨g,0,none⟩) xs.length cap) (xs.set i.toNat x)∧W.grownBy (W.setCell ⟨g,i.toNat,none⟩ (enc x)) (some g):=by
  obtain⟨ho,hg⟩:=own_store_of (own_of_R h) i x
  exact⟨R_of_own (by rw [List.length_set];exact ho) h.1,hg⟩
end
section
variable {P:Program} {ops:Array Oper} {rest:List Oper} {o:Oper} {a:Act} {Q:Exit→Act→World→Prop}
theorem event_run {W w1:World} {v:Value} (j:o.guard=none) (i:(execOp a.eval o).run P W=.ok (.value v) w1) (h:wpList P ops Q rest (a.put o.dst v) w1):wpList P ops Q (o :: rest) a W:=by
  refine wpList_plain j fun K p=>?_
  unfold Oper.wp
  rw [i]
  exact p _ _ h
variable {α:Type}
theorem R_lit (d:Kd α) {w0 W:World} (base e:Nat) (z:o.guard=none) {N:Tmp} (_hd:o.dst=some N) {xs:List α} {inner:List Value} {ok okp:Nat→Prop}
    (y:(execOp a.eval o).run P W=.ok (.value (.slice (some ⟨W.heap.size,0,none⟩) xs.length xs.length)) (W.alloc (.cells inner.toArray e)))
    (s:Reps (d.M W base okp) d.sz xs inner) (B:∀ k,okp k→ok k) (t:ok W.heap.size) (D:Below base w0 W) (r:base≤W.heap.size) (G:xs.length≤9223372036854775807)
    (h:∀ j w1,d.R e w1 base ok j xs→Below base w0 w1→W.grownBy w1 none→(∃ b,j.ownBlock=some b∧W.heap.size≤b)→wpList P ops Q rest (a.put o.dst j) w1):wpList P ops Q (o :: rest) a W:=by
  refine event_run z y (h _ _ ⟨fun k i=>?_,inner,?_,?_⟩ (D.alloc r _) (World.grownBy_alloc W _ none) ⟨W.heap.size,by simp [Value.ownBlock],Nat.le_refl _⟩)
  · have:W.heap.size=k:=by simpa [Value.ownBlock] using i
    subst this
    exact t
  · have h2:=World.ownsRow_lit (base:=base) (e:=e) (size:=d.sz) W inner.toArray xs.length r (by simpa [maxLen] using G) (by simpa using s.1)
    simpa using h2
  · refine s.imp_ (fun p c I=>d.M_mono (fun k i=>⟨B k i.1,fun J=>?_⟩) (M_below (d.M_bound I) (below_alloc (Below.refl _ _) _)))
    have h3:k=W.heap.size:=by simpa [Value.ownBlock] using J
    have:=i.2.2.1
    omega
theorem reps_made {α:Type} {R:α→List Value→Prop} {z:Value} {size:Nat} {r:α} (s:z.cells.size=size) (hs:0 < size) (h0:R r z.cells.toList) (m:Nat):Reps R size (List.replicate m r) (madeCells z.cells (m*size)).toList:=by
  refine⟨by simp [size_madeCells],fun j p D=>?_⟩
  obtain⟨hjl,hp⟩:=List.getElem?_eq_some_iff.1 D
  have y:j < m:=by simpa using hjl
  have B:r=p:=by simpa using hp
  subst B
  have I:j*size+size≤m*size:=by rw [← Nat.succ_mul];exact Nat.mul_le_mul_right _ y
  have:((madeCells z.cells (m*size)).toList.drop (j*size)).take size=z.cells.toList:=by
    apply List.ext_getElem
    · simp [size_madeCells,s]
      omega
    · intro i h1 h2
      have G:i < size:=by rw [Array.length_toList,s] at h2;exact h2
      have t:(j*size+i) % size=i:=by
        rw [Nat.mul_comm,Nat.mul_add_mod]
        exact Nat.mod_eq_of_lt G
      simp [madeCells,s,t]
      rw [getElem!_pos z.cells i (by omega)]
  rw [this]
  exact h0
theorem R_make (d:Kd α) {w0 W:World} (base e:Nat) (J:o.guard=none) {N:Tmp} (hd:o.dst=some N) (t:TypeId) (x y:Operand) (U:o.op=.makeSlice t x y) (n:Int) (X:a.eval x=.int .i64 n) (Y:a.eval y=.int .i64 n)
    (Z:P.underlying t=some (.slice e)) (z:Value) (bytes:Nat) (D:(P.info? e).map (fun i=>(i.zero,i.size,i.bytes))=some (some z,d.sz,bytes)) (hz:z.cells.size=d.sz) (L:0 < d.sz) (O:0 < bytes)
    (j:α) {ok okp:Nat→Prop} (G:d.M W base okp j z.cells.toList) (T:∀ k,okp k→ok k) (B:ok W.heap.size) (h0:0≤n) (s:n.toNat*bytes≤281474976710656) (HB:Below base w0 W) (I:base≤W.heap.size)
    (h:∀ p w1,d.R e w1 base ok p (List.replicate n.toNat j)→Below base w0 w1→W.grownBy w1 none→(∃ b,p.ownBlock=some b∧W.heap.size≤b)→wpList P ops Q rest (a.put o.dst p) w1):wpList P ops Q (o :: rest) a W:=by
  obtain⟨m,rfl⟩:=Int.eq_ofNat_of_zero_le h0
  simp only [Int.toNat_natCast] at s h
  obtain⟨i0,hi,hzz⟩:=Option.map_eq_some_iff.1 D
  simp only [Prod.mk.injEq] at hzz
  obtain⟨hz0,hz1,hz2⟩:=hzz
  have hm:m≤281474976710656:=Nat.le_trans (Nat.le_mul_of_pos_right _ O) s
  have r:=run_make (P:=P) W t e i0 z Z hi hz0 .i64 .i64 (m:Int) (m:Int) (by omega) (by omega)
    (by
      have h3:((i0.bytes*m:Nat):Int)≤281474976710656:=by rw [hz2,Nat.mul_comm];omega
      rwa [Int.natCast_mul] at h3) (by omega)
  simp only [Int.toNat_natCast] at r
  rw [hz1] at r
  refine R_lit d base e J hd (xs:=List.replicate m j) (inner:=(madeCells z.cells (m*d.sz)).toList) (okp:=okp) (ok:=ok) ?_ (reps_made hz L G m) T B HB I (by simp;omega) h
  simp [execOp,U,X,Y,r]
end
end Kd
section
variable {P:Program}
end
def QRow (w:World) (base:Nat) (e:TypeId) (size:Nat) (v:Value) (n:Nat) (xs:List Value):Prop:=
  xs.length=n*size∧
  ((n=0∧∃ A,v=.slice A 0 0∧∀ a,A=some a→base≤a.block∧∃ cur,w.heap[a.block]?=some (.cells cur e (0,0)))∨
   ∃ g off cap cur,v=.slice (some ⟨g,off*size,none⟩) n cap∧base≤g∧w.heap[g]?=some (.cells cur e (0,0))∧n≤cap∧off+cap≤maxLen∧cur.size=(off+cap)*size∧(cur.toList.drop (off*size)).take (n*size)=xs)
section
variable {w w1:World} {base n size:Nat} {e:TypeId} {v:Value} {xs:List Value}
theorem q_of_own (h:w.ownsRow base e size v n xs):QRow w base e size v n xs:=by
  obtain⟨h1,h2⟩:=h
  refine⟨h1,?_⟩
  rcases h2 with ⟨rfl,h0⟩|⟨g,cap,i,rfl,s,t,j,p,r,y⟩
  · exact .inl ⟨h0,none,rfl,fun a z=>by cases z⟩
  · exact .inr ⟨g,0,cap,i,by rw [Nat.zero_mul],s,t,j,by rw [Nat.zero_add];exact p,by rw [Nat.zero_add];exact r,by rw [Nat.zero_mul,List.drop_zero];exact y⟩
theorem setCells_far {g:Nat}:∀ (i:List Value) (o:Nat) {w:World} (k:Nat),k≠g→(w.setCells g o i).heap[k]?=w.heap[k]?
  | [],_,_,_,_=>rfl
  | v :: r, o, w, k, hk => by
    rw [World.setCells,setCells_far r (o+1) k hk]
    exact Below.heap_setCell w ⟨g,o,none⟩ v k hk
theorem setCells_same (g:Nat):∀ (i:List Value) (o:Nat) (w:World),(w.setCells g o i).os=w.os∧(w.setCells g o i).tape=w.tape∧(w.setCells g o i).output=w.output∧(w.setCells g o i).heap.size=w.heap.size
  | [],_,_=>⟨rfl,rfl,rfl,rfl⟩
  | v :: r, o, w => by
    obtain⟨h1,h2,h3,h4⟩:=setCells_same g r (o+1) (w.setCell ⟨g,o,none⟩ v)
    rw [World.setCells]
    exact⟨h1,h2,h3,by rw [h4];simp [World.setCell]⟩
theorem setCells_row {g:Nat} {e:TypeId}:∀ (p:List Value) (o:Nat) (w:World) (i:Array Value),w.heap[g]?=some (.cells i e (0,0))→o+p.length≤i.size→
    ∃ j,(w.setCells g o p).heap[g]?=some (.cells j e (0,0))∧j.size=i.size∧j.toList=i.toList.take o++p++i.toList.drop (o+p.length)
  | [],o,w,i,h,_=>⟨i,h,rfl,by simp⟩
  | v :: r, o, w, i, h, hl => by
    have h2:=blk_set h o v
    simp only [List.length_cons] at hl
    obtain⟨j,h3,h4,h5⟩:=setCells_row r (o+1) (w.setCell ⟨g,o,none⟩ v) _ h2 (by simp;omega)
    refine⟨j,h3,by rw [h4];simp,?_⟩
    rw [h5,Array.toList_setIfInBounds]
    have t:o < i.toList.length:=by rw [Array.length_toList];omega
    rw [List.take_set,List.drop_set_of_lt (by omega)]
    simp only [List.length_cons]
    rw [show o+1+r.length=o+(r.length+1) by omega]
    congr 1
    rw [List.take_succ_eq_append_getElem t,List.set_append_right _ _ (by rw [List.length_take];omega)]
    have s:o < i.size:=by omega
    simp [Nat.min_eq_left (Nat.le_of_lt s)]
end
section
variable {P:Program}
end
namespace Kd
def Q {α:Type} (d:Kd α) (e:Nat) (w:World) (base:Nat) (ok:Nat→Prop) (v:Value) (xs:List α):Prop:=
  (∀ k,v.ownBlock=some k→ok k)∧∃ inner,QRow w base e d.sz v xs.length inner∧Reps (d.M w base (fun k=>ok k∧some k≠v.ownBlock)) d.sz xs inner
section
variable {α:Type} {d:Kd α} {e:Nat} {w w1 W:World} {base:Nat} {ok ok':Nat→Prop} {v:Value} {xs:List α}
theorem Q_of_R (h:d.R e w base ok v xs):d.Q e w base ok v xs:=by
  obtain⟨h0,inner,ho,hr⟩:=h
  exact⟨h0,inner,q_of_own ho,hr⟩
theorem Q_nil (d:Kd α) (e:Nat) (w:World) (base:Nat) (ok:Nat→Prop):d.Q e w base ok (.slice none 0 0) []:=Q_of_R (R_nil d e w base ok)
end
section
variable {P:Program} {ops:Array Oper} {rest:List Oper} {o:Oper} {a:Act} {Q':Exit→Act→World→Prop} {Kc:Act→World→Prop} {α:Type}
end
end Kd
namespace Kd
section
variable {α:Type} {d:Kd α} {e e':Nat} {w w1 W:World} {base:Nat} {ok:Nat→Prop} {u v:Value} {xs:List α}
theorem R_typed (h:d.R e w base ok v xs):∀ k,v.ownBlock=some k→∃ cells,w.heap[k]?=some (.cells cells e (0,0)):=by
  obtain⟨inner,ho⟩:=R_own h
  exact fun k i=>own_typed ho k i
theorem R_over' (h:d.R e W base ok u xs) (j:∀ k,v.ownBlock=some k→∃ cells,W.heap[k]?=some (.cells cells e' (0,0))) (p:∀ q,q∈e :: d.E→q≠e') (r:W.grownBy w1 v.ownBlock):d.R e w1 base ok u xs:=by
  refine R_mono (R_move (R_bound h) (fun k i=>r.block k i.2.2.1 (fun s=>?_))) (fun _ i=>i.1)
  obtain⟨_,_,_,q,hq,cells,hc⟩:=i
  obtain⟨cells',hc'⟩:=j k s.symm
  rw [hc] at hc'
  injection hc' with hc'
  injection hc' with _ hc'
  exact p q hq hc'
theorem R_apart' (h:d.R e W base ok u xs) (j:∀ k,v.ownBlock=some k→∃ cells,W.heap[k]?=some (.cells cells e' (0,0))) (p:∀ q,q∈e :: d.E→q≠e'):d.R e W base (fun k=>ok k∧some k≠v.ownBlock) u xs:=by
  refine R_mono (R_bound h) (fun k i=>⟨i.1,fun r=>?_⟩)
  obtain⟨_,_,_,q,hq,cells,hc⟩:=i
  obtain⟨cells',hc'⟩:=j k r.symm
  rw [hc] at hc'
  injection hc' with hc'
  injection hc' with _ hc'
  exact p q hq hc'
theorem R_elder' (p:d.R e W base ok u xs) (j:∀ k,v.ownBlock=some k→W.heap.size≤k) (r:Below W.heap.size W w1):d.R e w1 base (fun k=>ok k∧some k≠v.ownBlock) u xs:=
  R_mono (R_move (R_bound p) (fun k i=>r.block k i.2.2.1)) (fun k i=>⟨i.1,fun s=>by have:=j k s.symm;have:=i.2.2.1;omega⟩)
theorem R_new' (h:d.R e w1 W.heap.size ok v xs) (j:∀ k,u.ownBlock=some k→k < W.heap.size):d.R e w1 W.heap.size (fun k=>ok k∧some k≠u.ownBlock) v xs:=
  R_mono (R_bound h) (fun k i=>⟨i.1,fun p=>by have:=j k p.symm;have:=i.2.1;omega⟩)
end
end Kd
theorem seg_get {α:Type} (a seg:List α) (o:Nat) (h:o+seg.length≤a.length) (q:Nat):
    (a.take o++seg++a.drop (o+seg.length))[q]?=if q < o then a[q]? else if q < o+seg.length then seg[q - o]? else a[q]?:=by
  have i:(a.take o).length=o:=by rw [List.length_take];omega
  rw [List.append_assoc]
  by_cases h1:q < o
  · rw [if_pos h1,List.getElem?_append_left (by omega),List.getElem?_take,if_pos h1]
  · rw [if_neg h1,List.getElem?_append_right (by omega),i]
    by_cases h2:q < o+seg.length
    · rw [if_pos h2,List.getElem?_append_left (by omega)]
    · rw [if_neg h2,List.getElem?_append_right (by omega),List.getElem?_drop]
      congr 1
      omega
namespace Kd
section
variable {α:Type} {d:Kd α} {e base g n cap:Nat} {ok okp:Nat→Prop} {W:World} {xs:List α}
theorem R_elem (h:d.R e W base ok (.slice (some ⟨g,0,none⟩) n cap) xs) (z:α) (i:Int) (h0:0≤i) (h1:i < n):
    ∃ c,c.length=d.sz∧d.M W base (fun k=>ok k∧k≠g) (xs.getD i.toNat z) c∧(∀ j u,c[j]?=some u→W.cell? ⟨g,i.toNat*d.sz+j,none⟩=some u)∧∀ j,W.frozen? ⟨g,i.toNat*d.sz+j,none⟩=false:=by
  obtain⟨hn,hnc,hC⟩:=R_reads' h
  obtain⟨_,inner,ho,hr⟩:=h
  have r:i.toNat < xs.length:=by omega
  have B:i.toNat*d.sz+d.sz≤inner.length:=by rw [hr.1,← Nat.succ_mul];exact Nat.mul_le_mul_right _ r
  have t:=hr.2 i.toNat _ (List.getElem?_eq_getElem r)
  refine⟨(inner.drop (i.toNat*d.sz)).take d.sz,by rw [List.length_take,List.length_drop];omega,?_,fun j u p=>?_,fun j=>?_⟩
  · rw [List.getD_eq_getElem?_getD,List.getElem?_eq_getElem r]
    exact d.M_mono (fun k s=>⟨s.1,fun y=>s.2 (by rw [y];simp [Value.ownBlock])⟩) t
  · rw [List.getElem?_take] at p
    split at p
    · rw [List.getElem?_drop] at p
      have:=ho.cells (g:=g) (by simp [Value.ownBlock]) _ u p
      rwa [add_plain] at this
    · cases p
  · obtain⟨cells,hc⟩:=own_typed ho g (by simp [Value.ownBlock])
    exact blk_frozen hc _
theorem R_seg (h:d.R e W base ok (.slice (some ⟨g,0,none⟩) n cap) xs) (i:Int) (h0:0≤i) (h1:i < n) {c seg:List Value} {j:Nat} (aj:c.length=d.sz) (ab:∀ j u,c[j]?=some u→W.cell? ⟨g,i.toNat*d.sz+j,none⟩=some u)
    (hj:j+seg.length≤d.sz) {x':α} (hM:d.M W base okp x' (c.take j++seg++c.drop (j+seg.length))) (D:∀ k,okp k→ok k∧k≠g):
    d.R e (W.setCells g (i.toNat*d.sz+j) seg) base ok (.slice (some ⟨g,0,none⟩) n cap) (xs.set i.toNat x')∧W.grownBy (W.setCells g (i.toNat*d.sz+j) seg) (some g):=by
  obtain⟨hn,hnc,_⟩:=R_reads' h
  obtain⟨hok,inner,ho,hr⟩:=h
  have ac:i.toNat < xs.length:=by omega
  have J:i.toNat*d.sz+d.sz≤inner.length:=by rw [hr.1,← Nat.succ_mul];exact Nat.mul_le_mul_right _ ac
  have ak:inner.length=n*d.sz:=by rw [hr.1,hn]
  obtain⟨ho1,ho2⟩:=ho
  rcases ho2 with ⟨I,_⟩|⟨g',ah,z,I,hb,T,ai,ad,ae,U⟩
  · cases I
  injection I with ha _ hc
  injection ha with ha
  injection ha with hg
  subst hg;subst hc
  have X:i.toNat*d.sz+j+seg.length≤z.size:=by
    have:n*d.sz≤cap*d.sz:=Nat.mul_le_mul_right _ hnc
    omega
  obtain⟨cur',h3,h4,h5⟩:=setCells_row seg (i.toNat*d.sz+j) W z T X
  obtain⟨s1,s2,s3,s4⟩:=setCells_same g seg (i.toNat*d.sz+j) W
  have G:∀ k,k≠g→(W.setCells g (i.toNat*d.sz+j) seg).heap[k]?=W.heap[k]?:=fun k s=>setCells_far seg _ k s
  -- the element's cells before are what was read
  have Y:∀ q,q < d.sz→c[q]?=inner[i.toNat*d.sz+q]?:=by
    intro q r
    have L:q < c.length:=by omega
    have h6:=ab q _ (List.getElem?_eq_getElem L)
    rw [cell_of_row W g _ z e (0,0) T] at h6
    rw [List.getElem?_eq_getElem L,← h6,← U,List.getElem?_take,if_pos (by rw [← hn];omega),Array.getElem?_toList]
  refine⟨⟨hok,inner.take (i.toNat*d.sz+j)++seg++inner.drop (i.toNat*d.sz+j+seg.length),⟨?_,.inr ⟨g,cap,cur',by rw [List.length_set,hn],hb,h3,by rw [List.length_set,← hn];exact hnc,ad,by rw [h4,ae],?_⟩⟩,?_⟩,
    ⟨s1,s2,s3,by rw [s4];exact Nat.le_refl _,fun k _ s=>G k (fun y=>s (by rw [y]))⟩⟩
  · rw [List.length_set]
    simp only [List.length_append,List.length_take,List.length_drop]
    rw [hr.1] at J ⊢
    omega
  · rw [List.length_set,← hn]
    apply List.ext_getElem?
    intro q
    rw [List.getElem?_take,h5]
    rw [seg_get z.toList seg (i.toNat*d.sz+j) (by rw [Array.length_toList];omega) q,seg_get inner seg (i.toNat*d.sz+j) (by omega) q]
    have Z:∀ q,q < n*d.sz→z.toList[q]?=inner[q]?:=by
      intro q r
      rw [← U,List.getElem?_take,if_pos (by rw [← hn];exact r)]
    by_cases r:q < n*d.sz
    · rw [if_pos r,Z q r]
    · rw [if_neg r,if_neg (by omega),if_neg (by omega),List.getElem?_eq_none (by omega)]
  · refine⟨?_,fun m p t=>?_⟩
    · rw [List.length_set]
      simp only [List.length_append,List.length_take,List.length_drop]
      rw [hr.1] at J ⊢
      omega
    · have af:m < xs.length:=by
        have:=(List.getElem?_eq_some_iff.1 t).1
        rwa [List.length_set] at this
      have ag:m*d.sz+d.sz≤inner.length:=by rw [hr.1,← Nat.succ_mul];exact Nat.mul_le_mul_right _ af
      have O:some g=(Value.slice (some ⟨g,0,none⟩) n cap).ownBlock:=by simp [Value.ownBlock]
      by_cases hmi:m=i.toNat
      · subst hmi
        rw [List.getElem?_set_self (by omega)] at t
        injection t with t
        subst t
        have B:((inner.take (i.toNat*d.sz+j)++seg++inner.drop (i.toNat*d.sz+j+seg.length)).drop (i.toNat*d.sz)).take d.sz=c.take j++seg++c.drop (j+seg.length):=by
          apply List.ext_getElem?
          intro q
          rw [List.getElem?_take,List.getElem?_drop,seg_get inner seg _ (by omega),seg_get c seg j (by omega) q]
          by_cases r:q < d.sz
          · rw [if_pos r,Y q r]
            by_cases hq1:q < j
            · rw [if_pos (by omega),if_pos hq1]
            · rw [if_neg (by omega),if_neg hq1]
              by_cases hq2:q < j+seg.length
              · rw [if_pos (by omega),if_pos hq2]
                congr 1
                omega
              · rw [if_neg (by omega),if_neg hq2]
          · rw [if_neg r,if_neg (by omega),if_neg (by omega),List.getElem?_eq_none (by omega)]
        rw [B]
        refine d.M_mono (fun k s=>?_) (d.M_move (w1:=W.setCells g (i.toNat*d.sz+j) seg) (fun k s=>G k (D k s).2) hM)
        exact⟨(D k s).1,fun y=>(D k s).2 (by rw [← O] at y;injection y)⟩
      · rw [List.getElem?_set_ne (by omega)] at t
        have aa:=hr.2 m p t
        have B:((inner.take (i.toNat*d.sz+j)++seg++inner.drop (i.toNat*d.sz+j+seg.length)).drop (m*d.sz)).take d.sz=(inner.drop (m*d.sz)).take d.sz:=by
          apply List.ext_getElem?
          intro q
          rw [List.getElem?_take,List.getElem?_take,List.getElem?_drop,List.getElem?_drop,seg_get inner seg _ (by omega)]
          by_cases r:q < d.sz
          · rw [if_pos r,if_pos r]
            rcases Nat.lt_or_gt_of_ne hmi with hlt|hgt
            · have:m*d.sz+d.sz≤i.toNat*d.sz:=by rw [← Nat.succ_mul];exact Nat.mul_le_mul_right _ hlt
              rw [if_pos (by omega)]
            · have:i.toNat*d.sz+d.sz≤m*d.sz:=by rw [← Nat.succ_mul];exact Nat.mul_le_mul_right _ hgt
              rw [if_neg (by omega),if_neg (by omega)]
          · rw [if_neg r,if_neg r]
        rw [B]
        refine d.M_move (fun k s=>G k (fun y=>s.2 (by rw [y];exact O))) aa
end
end Kd
namespace Kd
section
variable {α:Type} {F:Kd α→Kd α} {sz:Nat} {E:List Nat} {hs:∀ n,(upto F sz E n).sz=sz} {hE:∀ n q,q∈(upto F sz E n).E→q∈E}
end
end Kd
namespace Kd
section
variable {P:Program} {ops:Array Oper} {rest:List Oper} {o:Oper} {a:Act} {Q:Exit→Act→World→Prop} {α:Type}
end
end Kd
namespace Kd
section
variable {P:Program} {ops:Array Oper} {rest:List Oper} {o:Oper} {a:Act} {Q:Exit→Act→World→Prop} {α:Type}
end
end Kd
namespace Kd
section
variable {α:Type} {k:Kd α} {w:World} {A:Option Addr} {xs:List α} {m c:Nat}
end
end Kd
section
variable {P:Program}
end
theorem below_size {w W:World} (h:Below w.heap.size w W):w.heap.size≤W.heap.size:=h.size
theorem below_step {w W i:World} (h:Below w.heap.size w W) (k:Below W.heap.size W i):Below w.heap.size w i:=below_then h h.size k
theorem own_reads' {W:World} {base n c:Nat} {e:TypeId} {k:IntKind} {A:Option Addr} {xs:List Int} (h:W.ownsRow base e 1 (.slice A n c) n (nums k xs)):ReadsInt W k A n xs:=by
  obtain⟨A',c',he,hr⟩:=own_reads h
  injection he with hA
  rw [hA];exact hr
theorem ReadsInt.nil (W:World) (k:IntKind):ReadsInt W k none ([]:List Int).length []:=⟨rfl,by simp,fun h=>absurd h (Nat.lt_irrefl 0)⟩
theorem ReadsInt.drewN {W:World} {k:IntKind} {A:Option Addr} {n:Nat} {xs:List Int} (h:ReadsInt W k A n xs) (m:Nat):ReadsInt (W.drewN m) k A n xs:=h
theorem below_set {w W:World} {g j:Nat} {v:Value} (h:Below w.heap.size w W) (i:w.heap.size≤g):Below w.heap.size w (W.setCell ⟨g,j,none⟩ v):=h.setCell i _
theorem keep_drewN {w W:World} {g:Nat} {i:Option Nat} (h:KeepBut w W g i) (m:Nat):KeepBut w (W.drewN m) g i:=h
theorem keep_alloc {w W:World} {g:Nat} (h:KeepBut w W g none) (o:Obj):KeepBut w (W.alloc o) g none:=h.trans (KeepBut.of_grown (World.grownBy_alloc W o none) g) (.inl rfl)
theorem add_block (a:Addr) (i:Nat):(a.add i).block=a.block:=by unfold Addr.add;split <;> rfl
theorem below_weaken {w0 w w1:World} {B:Nat} (h:Below w0.heap.size w0 w) (j:w0.heap.size≤B) (k:Below B w w1):Below w0.heap.size w0 w1:=
  h.trans ⟨k.os,k.tape,k.output,k.size,fun i p=>k.block i (Nat.lt_of_lt_of_le p j)⟩
theorem own_base' {w:World} {base:Nat} {e:TypeId} {size n:Nat} {v:Value} {xs:List Value} (h:w.ownsRow base e size v n xs):v.ownBlock=none∨∃ b,v.ownBlock=some b∧base≤b:=by
  cases hv:v.ownBlock with
  | none=>exact .inl rfl
  | some b=>exact .inr ⟨b,rfl,own_base h b hv⟩
theorem ReadsOf.nil {α:Type} (enc:α→Value) (d:α) (W:World):ReadsOf enc d W none ([]:List α).length []:=⟨rfl,by simp,fun h=>absurd h (Nat.lt_irrefl 0)⟩
theorem ReadsOf.drewN {α:Type} {enc:α→Value} {d:α} {W:World} {A:Option Addr} {n:Nat} {xs:List α} (h:ReadsOf enc d W A n xs) (m:Nat):ReadsOf enc d (W.drewN m) A n xs:=h
theorem blk_put {w:World} {g:Nat} {t:TypeId} {cs j:Array Value} (h:w.heap[g]?=some (.cells cs t (0,0))) (i:Nat) (u:Value) (e:cs.setIfInBounds i u=j):(w.setCell ⟨g,i,none⟩ u).heap[g]?=some (.cells j t (0,0)):=e ▸ blk_set h i u
theorem below_drew1 {base:Nat} {w W:World} (h:Below base w W):Below base w W.drew:=h.drew
theorem keep_drew {w W:World} {g:Nat} {i:Option Nat} (h:KeepBut w W g i):KeepBut w W.drew g i:=h
namespace Kd
section
variable {α β:Type} {d:Kd α} {d':Kd β} {e e' base base' n:Nat} {ok ok':Nat→Prop} {w W w1 W1:World} {v u:Value} {xs:List α} {ys:List β} {A:Option Addr} {c:Nat}
theorem R_base2 (h:d.R e w base ok v xs):v.ownBlock=none∨∃ k,v.ownBlock=some k∧base≤k:=by
  obtain⟨inner,ho⟩:=R_own h
  exact own_base' ho
end
section
variable {α:Type} {enc:α→Value} {h1:∀ x,(enc x).oneCell'=true} {w W:World} {A:Option Addr} {n g:Nat} {xs:List α}
end
end Kd
namespace Kd
section
variable {α:Type} {d:Kd α} {e base g:Nat} {ok:Nat→Prop} {w w1:World} {v:Value} {xs:List α} {o:Obj}
theorem R_elderB (h:d.R e w base ok v xs) (a:Nat) (j:w.heap.size≤a):d.R e w base (fun k=>ok k∧k≠a) v xs:=R_mono (R_bound h) (fun k i=>⟨i.1,by have:=i.2.2.1;omega⟩)
theorem freshB (i:w.heap[g]?=some o):∀ k,w.heap.size≤k→k≠g:=fun k j=>by have:=blk_lt i;omega
end
end Kd
section
variable {P:Program} {ops:Array Oper} {rest:List Oper} {o:Oper} {a:Act} {Q:Exit→Act→World→Prop}
theorem box_event {W:World} (j:o.guard=none) {N:Tmp} (_hd:o.dst=some N) {cs:Array Value} {t:TypeId}
    (i:(execOp a.eval o).run P W=.ok (.value (.pointer (some ⟨W.heap.size,0,none⟩))) (W.alloc (.cells cs t (0,0))))
    (h:∀ g,g=W.heap.size→∀ w1,w1.heap[g]?=some (.cells cs t (0,0))→Below W.heap.size W w1→wpList P ops Q rest (a.put o.dst (.pointer (some ⟨g,0,none⟩))) w1):wpList P ops Q (o :: rest) a W:=
  Kd.event_run j i (h _ rfl _ (blk_new W _) (below_alloc (Below.refl _ _) _))
end
namespace Kd
section
variable {α:Type} {enc:α→Value} {h1:∀ x,(enc x).oneCell'=true} {e base g n cap:Nat} {ok:Nat→Prop} {W:World} {xs:List α}
theorem R_celln (d:α) (h:(scalar enc h1).R e W base ok (.slice (some ⟨g,0,none⟩) n cap) xs) (i:Int) (h0:0≤i) (j:i < n):W.cell? ⟨g,i.toNat,none⟩=some (enc (rdOf d xs i))∧W.frozen? ⟨g,i.toNat,none⟩=false:=by
  obtain⟨rfl,_⟩:=R_reads' h
  exact R_cell d h i h0 j
end
end Kd
section
variable {P:Program} {ops:Array Oper} {rest:List Oper} {o:Oper} {a:Act} {Q:Exit→Act→World→Prop}
theorem store_event {W w1:World} (j:o.guard=none) {t:TypeId} {p:Tmp} {v:Operand} (_ho:o.op=.store t (.tmp p) v) (r:o.dst=none)
    (i:(execOp a.eval o).run P W=.ok .skip w1) (h:∀ w',w'=w1→wpList P ops Q rest a w'):wpList P ops Q (o :: rest) a W:=by
  refine wpList_plain j fun K s=>?_
  unfold Oper.wp
  rw [i]
  show K (a.put o.dst undef) w1
  rw [r]
  exact s _ _ (h _ rfl)
end
namespace Kd
section
variable {α:Type} {enc:α→Value} {h1:∀ x,(enc x).oneCell'=true} {e base g n cap:Nat} {ok:Nat→Prop} {W:World} {xs:List α}
theorem R_putg (h:(scalar enc h1).R e W base ok (.slice (some ⟨g,0,none⟩) n cap) xs) (i:Int) (x:α):(scalar enc h1).R e (W.setCell ⟨g,i.toNat,none⟩ (enc x)) base ok (.slice (some ⟨g,0,none⟩) n cap) (xs.set i.toNat x)∧W.grownBy (W.setCell ⟨g,i.toNat,none⟩ (enc x)) (some g):=by
  obtain⟨rfl,_⟩:=R_reads' h
  exact R_put h i x
end
end Kd
section
variable {P:Program} {ops:Array Oper} {rest:List Oper} {o:Oper} {a:Act} {Q:Exit→Act→World→Prop} {W:World}
theorem gate_store {t:TypeId} {p:Tmp} {v:Operand} (_ho:o.op=.store t (.tmp p) v) (h:wpList P ops Q (o :: rest) a W):wpList P ops Q (o :: rest) a W:=h
end
section
variable {P:Program} {ops:Array Oper} {o:Oper} {a:Act} {Q:Exit→Act→World→Prop} {Kc:Act→World→Prop}
theorem event_step {W w1:World} {v:Value} (j:Region.wanted o (yielded ops a.tmps)=true) (i:(execOp a.eval o).run P W=.ok (.value v) w1) (h:Kc (a.put o.dst v) w1):if Region.wanted o (yielded ops a.tmps)=true then Oper.wp P o a W Kc Q else Kc (a.put o.dst undef) W:=by
  rw [if_pos j]
  unfold Oper.wp
  rw [i]
  exact h
theorem box_step {W:World} (j:Region.wanted o (yielded ops a.tmps)=true) {N:Tmp} (_hd:o.dst=some N) {cs:Array Value} {t:TypeId}
    (i:(execOp a.eval o).run P W=.ok (.value (.pointer (some ⟨W.heap.size,0,none⟩))) (W.alloc (.cells cs t (0,0))))
    (h:∀ g,g=W.heap.size→∀ w1,w1.heap[g]?=some (.cells cs t (0,0))→Below W.heap.size W w1→Kc (a.put o.dst (.pointer (some ⟨g,0,none⟩))) w1):if Region.wanted o (yielded ops a.tmps)=true then Oper.wp P o a W Kc Q else Kc (a.put o.dst undef) W:=
  event_step j i (h _ rfl _ (blk_new W _) (below_alloc (Below.refl _ _) _))
namespace Kd
variable {α:Type}
theorem R_lit_step (d:Kd α) {w0 W:World} (base e:Nat) (B:Region.wanted o (yielded ops a.tmps)=true) {N:Tmp} (_hd:o.dst=some N) {xs:List α} {inner:List Value} {ok okp:Nat→Prop}
    (y:(execOp a.eval o).run P W=.ok (.value (.slice (some ⟨W.heap.size,0,none⟩) xs.length xs.length)) (W.alloc (.cells inner.toArray e)))
    (s:Reps (d.M W base okp) d.sz xs inner) (z:∀ k,okp k→ok k) (t:ok W.heap.size) (D:Below base w0 W) (r:base≤W.heap.size) (G:xs.length≤9223372036854775807)
    (h:∀ j w1,d.R e w1 base ok j xs→Below base w0 w1→W.grownBy w1 none→(∃ b,j.ownBlock=some b∧W.heap.size≤b)→Kc (a.put o.dst j) w1):if Region.wanted o (yielded ops a.tmps)=true then Oper.wp P o a W Kc Q else Kc (a.put o.dst undef) W:=by
  refine event_step B y (h _ _ ⟨fun k i=>?_,inner,?_,?_⟩ (D.alloc r _) (World.grownBy_alloc W _ none) ⟨W.heap.size,by simp [Value.ownBlock],Nat.le_refl _⟩)
  · have:W.heap.size=k:=by simpa [Value.ownBlock] using i
    subst this
    exact t
  · have h2:=World.ownsRow_lit (base:=base) (e:=e) (size:=d.sz) W inner.toArray xs.length r (by simpa [maxLen] using G) (by simpa using s.1)
    simpa using h2
  · refine s.imp_ (fun p c I=>d.M_mono (fun k i=>⟨z k i.1,fun J=>?_⟩) (M_below (d.M_bound I) (below_alloc (Below.refl _ _) _)))
    have h3:k=W.heap.size:=by simpa [Value.ownBlock] using J
    have:=i.2.2.1
    omega
end Kd
end
inductive Vals (P:Program) (tmps:Array Value) (w:World):List ResultVar→List Value→Prop where
  | nil:Vals P tmps w [] []
  | tmp {u:Tmp} {rs:List ResultVar} {vs:List Value} (h:Vals P tmps w rs vs):Vals P tmps w (.tmp u :: rs) (tmps.getD u undef :: vs)
  | cell {p:Tmp} {ty:TypeId} {rs:List ResultVar} {vs:List Value} (g:Nat) (t:TypeId) (cs:Array Value) (fr:Nat×Nat) (d:TypeDesc)
      (hp:tmps.getD p undef=.pointer (some ⟨g,0,none⟩)) (hg:w.heap[g]?=some (.cells cs t fr))
      (hu:P.underlying ty=some d) (hd:(match d with|.struct _|.array _ _=>true|_=>false)=true) (hi:(P.info? ty).map (·.size)=some cs.size)
      (h:Vals P tmps w rs vs):Vals P tmps w (.cell p ty :: rs) (.agg cs :: vs)
section
variable {P:Program} {tmps:Array Value} {w:World}
end
namespace Kd
section
variable {P:Program} {α:Type}
end
section
variable {P:Program} {ops:Array Oper} {rest:List Oper} {o:Oper} {a:Act} {Q:Exit→Act→World→Prop} {Kc:Act→World→Prop} {α:Type}
end
end Kd
end Go.Proofs.YtkbebmifpccofaaGreatW.PrintWords
