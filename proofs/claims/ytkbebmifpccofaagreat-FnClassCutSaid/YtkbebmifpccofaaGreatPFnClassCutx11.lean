/- Functions of the program as plain Lean functions, each with a proof that the program's call comes to the same; no condition. Written by a program of this session. -/
import Derived.Test.YtkbebmifpccofaaGreatPFnClassCutx0
import Derived.Test.YtkbebmifpccofaaGreatPFnClassCutx1
import Derived.Test.YtkbebmifpccofaaGreatPFnClassCutx5
namespace Go.Proofs.YtkbebmifpccofaaGreat.PFnClassCut
open Go.RowKit Go.Proofs.YtkbebmifpccofaaGreatW.PrintWords Go.Proofs.YtkbebmifpccofaaGreatW.PrintLast Go.Proofs.YtkbebmifpccofaaGreatW.PrintMore
open Go.Proofs.YtkbebmifpccofaaGreatW.PrintWords renaming below_alloc→Zba,below_drew1→Zbd,below_set→Zbs,below_size→Zbz,below_step→Zbt,blk_drew→Zkd,blk_cell→Zkc,blk_frozen→Zkf,blk_below→Zkb
open Go.Proofs.YtkbebmifpccofaaGreatW.PrintWords.Aside0 renaming mk→Zm
attribute [local go_sem] max2_int min2_int max_two min_two max_three min_three max_four min_four   -- for this text's walks alone
set_option maxHeartbeats 80000000
set_option maxRecDepth 100000
set_option linter.unusedVariables false
set_option linter.unusedSimpArgs false
theorem pV {P:Program} {c:Array Oper} {o:Oper} {a:Act} {Q:Exit→Act→World→Prop} {K:Act→World→Prop} {w0 W:World} (base:Nat) (q:Region.wanted o (yielded c a.tmps)=true) (s x:Operand) (t u e:TypeId)
    (r:o.op=.call { callee:=.builtin .append,args:=#[s,x],argTypes:=#[t,u] })
    (z:P.underlying t=some (.slice e)) (A:P.underlying u=some .string) (j:(P.info? e).map (fun i=>(i.zero,i.size,i.bytes))=some (some (.int .u8 0),1,1))
    (v:Value) (xs:List Int) (y:ByteArray) (hs:a.eval s=v) (B:a.eval x=.string y)
    (d:W.ownsRow base e 1 v xs.length (nums .u8 xs)) (D:Below base w0 W) (b:base≤W.heap.size) (E:xs.length+y.size≤140737488355328)
    (h:∀ v1 w1,w1.ownsRow base e 1 v1 (xs++bytesOf y).length (nums .u8 (xs++bytesOf y))→Below base w0 w1→W.grownBy w1 v.ownBlock→K (a.put o.dst v1) w1):
    if Region.wanted o (yielded c a.tmps)=true then Oper.wp P o a W K Q else K (a.put o.dst undef) W:=by
  obtain⟨i0,hi,hzz⟩:=Option.map_eq_some_iff.1 j;simp only [Prod.mk.injEq] at hzz;obtain⟨k,m,n⟩:=hzz;rw [if_pos q];obtain⟨v1,w1,hr,hown,hg,_⟩:=Lib.run_append_own_string (P:=P) W base t u o.type e i0 z A hi k m n v xs.length (nums .u8 xs) d y (by simp only [maxLen];omega) E b;unfold Oper.wp execOp;simp only [r,resolve,invoke,builtin,Sem.run_bind,Sem.run_pure,Result.andThen_ok,List.map_toArray,List.map_cons,List.map_nil,hs,B,hr];have p:(xs++bytesOf y).length=xs.length+y.size:=by rw [List.length_append,bytesOf_length]
  have G:nums .u8 (xs++bytesOf y)=nums .u8 xs++Lib.strCells y:=by
    rw [nums_append];congr 1;simp [nums,bytesOf,Lib.strCells]
  exact h v1 w1 (by rw [p,G];exact hown) (D.grown hg b (own_base d)) hg
theorem mY {l:List ByteArray} {i:Int} (h0:0≤i) (h1:i < (l.length:Int)):l.drop i.toNat=rdOf ByteArray.empty l i :: l.drop (i+1).toNat:=by
 have b:(i+1).toNat=i.toNat+1:=by omega
 have a:i.toNat < l.length:=by omega
 rw [b,List.drop_eq_getElem_cons a];congr 1;simp [rdOf,a]
def dF (w0 W:World) (g:Nat) (b:List ByteArray) (c:List Int):Prop:=∃ a v1,W.heap[g]?=some (.cells #[a,v1] 76 (0,0))∧w0.heap.size≤g∧Kd.R Kd.string 9 W w0.heap.size (fun k=>k≠g) a b∧Kd.R (Kd.int .u8) 5 W w0.heap.size (fun k=>k≠g) v1 c
theorem dF.same {w0 W:World} {g:Nat} {d:List ByteArray} {e:List Int} {i:World} (h:dF w0 W g d e) (b:∀ k,k < W.heap.size→(k=g∨∃ q,q∈[9,5]∧∃ cells,W.heap[k]?=some (.cells cells q (0,0)))→i.heap[k]?=W.heap[k]?):dF w0 i g d e:=by
  obtain⟨m,v1,hb,hg,hr0,j⟩:=h;exact⟨m,v1,(b g (blk_lt hb) (.inl rfl)).trans hb,hg,Kd.R_mono (Kd.R_move (Kd.R_bound hr0) (fun k a=>b k a.2.2.1 (.inr (by obtain⟨q,hq,hc⟩:=a.2.2.2;exact⟨q,by have c:q=9:=(by simpa [Kd.string,Kd.int,Kd.scalar] using hq);subst c;decide,hc⟩)))) (fun _ a=>a.1),Kd.R_mono (Kd.R_move (Kd.R_bound j) (fun k a=>b k a.2.2.1 (.inr (by obtain⟨q,hq,hc⟩:=a.2.2.2;exact⟨q,by have c:q=5:=(by simpa [Kd.string,Kd.int,Kd.scalar] using hq);subst c;decide,hc⟩)))) (fun _ a=>a.1)⟩
theorem dF.below {w0 W:World} {g:Nat} {a:List ByteArray} {b:List Int} {c:World} (h:dF w0 W g a b) (d:Below W.heap.size W c):dF w0 c g a b:=h.same (fun k e _=>d.block k e)
theorem dF.alloc {w0 W:World} {g:Nat} {a:List ByteArray} {b:List Int} (h:dF w0 W g a b) (o:Obj):dF w0 (W.alloc o) g a b:=h.below (Zba (Below.refl _ _) o)
theorem dF.drewN {w0 W:World} {g:Nat} {a:List ByteArray} {b:List Int} (h:dF w0 W g a b) (m:Nat):dF w0 (W.drewN m) g a b:=h.same (fun _ _ _=>rfl)
theorem dF.drew {w0 W:World} {g:Nat} {a:List ByteArray} {b:List Int} (h:dF w0 W g a b):dF w0 W.drew g a b:=h.same (fun _ _ _=>rfl)
theorem dF.at_ {w0 W:World} {g:Nat} {a:List ByteArray} {b:List Int} {w':World} {m:Nat} (c:W.drewN m=w') (h:dF w0 W g a b):dF w0 w' g a b:=by subst c;exact dF.drewN h m
theorem mS {W:World} {k t q:Nat} {cs b:Array Value} {fr c:Nat×Nat} (h:W.heap[k]?=some (.cells cs t fr)) (a:W.heap[k]?=some (.cells b q c)):t=q:=by
  rw [h] at a;injection a with a;injection a with _ a
theorem dF.grownT {w0 W:World} {g:Nat} {a:List ByteArray} {b:List Int} {d:World} {row:Option Nat} {e:Nat} (h:dF w0 W g a b) (n:W.grownBy d row) (i:some g≠row) (o:∀ k,row=some k→∃ cells,W.heap[k]?=some (.cells cells e (0,0))) (p:e ∉ [9,5]):dF w0 d g a b:=by
  refine h.same (fun k r s=>n.block k r ?_);rintro rfl;obtain⟨c,j⟩:=o k rfl;rcases s with rfl|⟨q,t,u,m⟩
  · exact i rfl
  · exact p ((mS j m) ▸ t)
theorem dF.apart {w0 W:World} {g:Nat} {a:List ByteArray} {b:List Int} {α:Type} {d:Kd α} {e:Nat} {base:Nat} {ok:Nat→Prop} {v:Value} {xs:List α} (h:dF w0 W g a b) (c:d.R e W base ok v xs) (i:∀ q,q∈e :: d.E→q≠76):d.R e W base (fun k=>ok k∧k≠g) v xs:=by
  obtain⟨m,v1,hb,hg,hr0,j⟩:=h;exact Kd.R_types c hb i
theorem dF.own_ne {w0 W:World} {g:Nat} {a:List ByteArray} {b:List Int} {α:Type} {d:Kd α} {e:Nat} {base:Nat} {ok:Nat→Prop} {v:Value} {xs:List α} (h:dF w0 W g a b) (c:d.R e W base ok v xs) (i:e≠76):some g≠v.ownBlock:=by
  obtain⟨k,v1,hb,hg,hr0,j⟩:=h;exact Kd.R_ne c hb i
theorem dF.apartS {w0 W:World} {g:Nat} {a:List ByteArray} {b:List Int} {α:Type} {d:Kd α} {e:Nat} {base:Nat} {ok:Nat→Prop} {v:Value} {xs:List α} (h:dF w0 W g a b) (c:Kd.S d e W base ok v xs) (i:∀ q,q∈e :: d.E→q≠76):Kd.S d e W base (fun k=>ok k∧k≠g) v xs:=by
  obtain⟨m,v1,hb,hg,hr0,j⟩:=h;exact Kd.S_types c hb i
theorem dF.own_neS {w0 W:World} {g:Nat} {a:List ByteArray} {b:List Int} {α:Type} {d:Kd α} {e:Nat} {base:Nat} {ok:Nat→Prop} {v:Value} {xs:List α} (h:dF w0 W g a b) (c:Kd.S d e W base ok v xs) (i:e≠76):some g≠v.ownBlock:=by
  obtain⟨k,v1,hb,hg,hr0,j⟩:=h;exact Kd.S_ne c hb i
theorem dF.lt {w0 W:World} {g:Nat} {a:List ByteArray} {b:List Int} (h:dF w0 W g a b):g < W.heap.size:=by
  obtain⟨d,v1,hb,hg,hr0,c⟩:=h;exact blk_lt hb
theorem dF.ge {w0 W:World} {g:Nat} {a:List ByteArray} {b:List Int} (h:dF w0 W g a b):w0.heap.size≤g:=by
  obtain⟨d,v1,hb,hg,hr0,c⟩:=h;exact hg
theorem dF.ne_blk {w0 W:World} {g:Nat} {c:List ByteArray} {d:List Int} {a:Nat} {cs:Array Value} {t:TypeId} {fr:Nat×Nat} (h:dF w0 W g c d) (b:W.heap[a]?=some (.cells cs t fr)) (e:t≠76):g≠a:=by
  obtain⟨j,v1,hb,hg,hr0,i⟩:=h;rintro rfl;exact e (mS b hb)
theorem dF.far {w0 W:World} {g:Nat} {a:List ByteArray} {b:List Int} {p:Addr} {cs:Array Value} {t:TypeId} (h:dF w0 W g a b) (c:g≠p.block) (d:W.heap[p.block]?=some (.cells cs t (0,0))) (i:t ∉ [9,5]) (u:Value):dF w0 (W.setCell p u) g a b:=by
  refine h.same (fun k n j=>Below.heap_setCell W p u k ?_);rintro rfl;rcases j with rfl|⟨q,m,o,e⟩
  · exact c rfl
  · exact i ((mS d e) ▸ m)
theorem dF.mk0 {w0 W:World} {g:Nat}  (a:W.heap[g]?=some (.cells #[.slice none 0 0,.slice none 0 0] 76 (0,0))) (b:w0.heap.size≤g):dF w0 W g [] []:=⟨_,_,a,b,Kd.R_nil _ _ _ _ _,Kd.R_nil _ _ _ _ _⟩
theorem fF {w0 W:World} {g:Nat} {a:List ByteArray} {b:List Int} (h:dF w0 W g a b:=by repeat (first|(with_reducible first|(refine Aside0.out ?_;assumption)|apply dF.alloc|apply dF.drewN|apply dF.drew|refine dF.far ?_ (Aside0.out (by assumption)) dR (by decide) _)|(refine Aside0.out ?_;assumption))):dF w0 W g a b:=h
theorem vE {w W:World} (h:Below w.heap.size w W:=by repeat (first|(with_reducible first|(refine Aside0.out ?_;assumption)|apply below_alloc|apply pw_below_drewN|apply below_drew1|refine below_set ?_ (Aside0.out (by assumption))|refine below_set ?_ (dF.ge (Aside0.out (by assumption))))|(refine Aside0.out ?_;assumption))):Below w.heap.size w W:=h
def dT (w W:World) (g:Nat):Prop:=w.heap.size≤W.heap.size∧∀ i,i < w.heap.size→i≠g→(∀ cells q,q∈[9,5]→w.heap[i]?≠some (.cells cells q (0,0)))→W.heap[i]?=w.heap[i]?
theorem dT.refl (w:World) (g:Nat):dT w w g:=⟨Nat.le_refl _,fun _ _ _ _=>rfl⟩
theorem dT.of_below {w w1:World} (h:Below w.heap.size w w1) (g:Nat):dT w w1 g:=⟨h.size,fun i a _ _=>h.block i a⟩
theorem dT.trans {w w1 e:World} {g:Nat} (h:dT w w1 g) (k:dT w1 e g):dT w e g:=
  ⟨Nat.le_trans h.1 k.1,fun i a b d=>(k.2 i (Nat.lt_of_lt_of_le a h.1) b (fun c q j=>by rw [h.2 i a b d];exact d c q j)).trans (h.2 i a b d)⟩
theorem dT.set_ {w w1:World} {g:Nat} (h:dT w w1 g) (j:Nat) (u:Value):dT w (w1.setCell ⟨g,j,none⟩ u) g:=⟨by simpa [World.setCell] using h.1,fun i b a c=>(Below.heap_setCell w1 ⟨g,j,none⟩ u i a).trans (h.2 i b a c)⟩
theorem dT.drewN {w w1:World} {g:Nat} (h:dT w w1 g) (m:Nat):dT w (w1.drewN m) g:=h
theorem dT.drew {w w1:World} {g:Nat} (h:dT w w1 g):dT w w1.drew g:=h
theorem dT.alloc {w w1:World} {g:Nat} (h:dT w w1 g) (o:Obj):dT w (w1.alloc o) g:=h.trans (.of_below (Zba (Below.refl _ _) o) g)
theorem dT.far {w w1:World} {g:Nat} (h:dT w w1 g) {p:Addr} (d:w.heap.size≤p.block) (u:Value):dT w (w1.setCell p u) g:=⟨by simpa [World.setCell] using h.1,fun i a b c=>(Below.heap_setCell w1 p u i (by omega)).trans (h.2 i a b c)⟩
theorem fM {w w1 a:World} {g:Nat} (h0:dT w w1 g:=by exact HK.out) (h:dT w a g:=by repeat (first|(with_reducible first|exact HK.out|apply dT.set_|apply dT.drewN|apply dT.drew|apply dT.alloc|refine dT.far ?_ (Aside0.out (by assumption)) _)|exact HK.out)):dT w a g:=h
theorem dT.size {w w1:World} {g:Nat} (h:dT w w1 g):w.heap.size≤w1.heap.size:=h.1
theorem dT.blk {w w1:World} {g g':Nat} {cs:Array Value} {t:TypeId} {fr:Nat×Nat} (h:dT w w1 g) (a:w.heap[g']?=some (.cells cs t fr)) (b:g'≠g) (d:∀ q,q∈[9,5]→t≠q):w1.heap[g']?=some (.cells cs t fr):=(h.2 g' (blk_lt a) b (fun c q e i=>d q e (mS a i))).trans a
theorem dT.grown {w w1 a:World} {g:Nat} {row:Option Nat} (h:dT w w1 g) (b:w1.grownBy a row) (d:∀ k,row=some k→∃ q,q∈[9,5]∧∃ cells,w1.heap[k]?=some (.cells cells q (0,0))):dT w a g:=
  h.trans ⟨b.size,fun i j n m=>b.block i j (fun e=>by obtain⟨q,hq,c,hc⟩:=d i e.symm;exact m c q hq hc)⟩
def uB {α:Type} (d:Kd α) (e:Nat) (w0 w:World) (g:Nat) (a:List ByteArray) (b:List Int) (v:Value) (xs:List α):Prop:=∃ W,dF w0 W g a b∧Below W.heap.size W w∧d.R e w W.heap.size (fun _=>True) v xs
theorem uB.mk {α:Type} {d:Kd α} {e:Nat} {w0 W w:World} {g:Nat} {a:List ByteArray} {b:List Int} {v:Value} {xs:List α} (h:dF w0 W g a b) (c:d.R e w W.heap.size (fun _=>True) v xs) (i:Below W.heap.size W w):uB d e w0 w g a b v xs:=⟨W,h,i,c⟩
def jK (w0 W:World) (g:Nat) (P:Nat→Prop) (p:List ByteArray) (o:List Int) (a v1:Value):Prop:=W.heap[g]?=some (.cells #[a,v1] 76 (0,0))∧w0.heap.size≤g∧Kd.R Kd.string 9 W w0.heap.size (fun k=>k≠g∧P k) a p∧Kd.R (Kd.int .u8) 5 W w0.heap.size (fun k=>k≠g∧P k) v1 o
theorem jK.is {w0 W:World} {g:Nat} {P:Nat→Prop} {p:List ByteArray} {o:List Int} {b v1:Value} (h:jK w0 W g P p o b v1):dF w0 W g p o:=⟨b,v1,h.1,h.2.1,Kd.R_mono h.2.2.1 (fun _ a=>a.1),Kd.R_mono h.2.2.2 (fun _ a=>a.1)⟩
theorem dF.wv {w0 W:World} {g:Nat} {p:List ByteArray} {o:List Int} (h:dF w0 W g p o):∃ b v1,jK w0 W g (fun k=>k < W.heap.size) p o b v1:=by
  obtain⟨b,v1,hb,hg,hr0,c⟩:=h;exact⟨b,v1,hb,hg,Kd.R_mono (Kd.R_bound hr0) (fun k a=>⟨a.1,a.2.2.1⟩),Kd.R_mono (Kd.R_bound c) (fun k a=>⟨a.1,a.2.2.1⟩)⟩
theorem jK.below {w0 W b:World} {g:Nat} {P:Nat→Prop} {p:List ByteArray} {o:List Int} {c v1:Value} (h:jK w0 W g P p o c v1) (a:Below W.heap.size W b):jK w0 b g P p o c v1:=⟨Zkb h.1 a,h.2.1,Kd.R_below h.2.2.1 a,Kd.R_below h.2.2.2 a⟩
theorem jK.mono {w0 W:World} {g:Nat} {P P':Nat→Prop} {p:List ByteArray} {o:List Int} {b v1:Value} (h:jK w0 W g P p o b v1) (c:∀ k,P k→P' k):jK w0 W g P' p o b v1:=⟨h.1,h.2.1,Kd.R_mono h.2.2.1 (fun _ a=>⟨a.1,c _ a.2⟩),Kd.R_mono h.2.2.2 (fun _ a=>⟨a.1,c _ a.2⟩)⟩
theorem uB.wv {α:Type} {d:Kd α} {e:Nat} {w0 w:World} {g:Nat} {p:List ByteArray} {o:List Int} {v:Value} {xs:List α} (h:uB d e w0 w g p o v xs):(∃ a v1,jK w0 w g (fun k=>some k≠v.ownBlock) p o a v1)∧d.R e w 0 (fun _=>True) v xs:=by
  obtain⟨W,hI,hb,ho⟩:=h;obtain⟨a,v1,hw⟩:=hI.wv;refine⟨⟨a,v1,(hw.below hb).mono (fun k b e=>?_)⟩,Kd.R_lower ho (Nat.zero_le _)⟩;have:=Kd.R_base ho k e.symm;omega
theorem jK.app1 {w0 W b:World} {g:Nat} {P:Nat→Prop} {p:List ByteArray} {o j:List Int} {c v1 u:Value} (h:jK w0 W g P p o c v1) (n:Kd.R (Kd.int .u8) 5 b w0.heap.size (fun k=>k≠g∧P k) u j) (m:W.grownBy b v1.ownBlock):b.heap[g]?=some (.cells #[c,v1] 76 (0,0))∧jK w0 (b.setCell ⟨g,1,none⟩ u) g P p j c u:=by
  obtain⟨hb,hge,hr0,d⟩:=h;have i:=blk_grown hb m (Kd.R_ne d hb (by decide));refine⟨i,by simpa using blk_set i 1 u,hge,Kd.R_far (p:=⟨g,1,none⟩) (Kd.R_grown2 hr0 rfl m (fun k a e=>?_)) (fun k a=>a.1) _,Kd.R_far (p:=⟨g,1,none⟩) n (fun k a=>a.1) _⟩;obtain⟨c1,h1⟩:=Kd.R_typed d k a;obtain⟨c2,h2⟩:=Kd.R_typed hr0 k e.symm;exact absurd (mS h1 h2) (by decide)
theorem jK.app0 {w0 W b:World} {g:Nat} {P:Nat→Prop} {p j:List ByteArray} {o:List Int} {c v1 u:Value} (h:jK w0 W g P p o c v1) (n:Kd.R Kd.string 9 b w0.heap.size (fun k=>k≠g∧P k) u j) (m:W.grownBy b c.ownBlock):b.heap[g]?=some (.cells #[c,v1] 76 (0,0))∧jK w0 (b.setCell ⟨g,0,none⟩ u) g P j o u v1:=by
  obtain⟨hb,hge,hr0,d⟩:=h;have i:=blk_grown hb m (Kd.R_ne hr0 hb (by decide));refine⟨i,by simpa using blk_set i 0 u,hge,Kd.R_far (p:=⟨g,0,none⟩) n (fun k a=>a.1) _,Kd.R_far (p:=⟨g,0,none⟩) (Kd.R_grown2 d rfl m (fun k a e=>?_)) (fun k a=>a.1) _⟩;obtain⟨c1,h1⟩:=Kd.R_typed hr0 k a;obtain⟨c2,h2⟩:=Kd.R_typed d k e.symm;exact absurd (mS h1 h2) (by decide)
theorem jK.arg {w0 W i:World} {g:Nat} {P:Nat→Prop} {p:List ByteArray} {o:List Int} {t v1 v u x:Value} {α:Type} {d:Kd α} {e b:Nat} {ok:Nat→Prop} {xs:List α} {j:Nat} (h:jK w0 W g P p o t v1) (m:d.R e W b ok v xs) (n:d.E=[]) (y:e≠76) (z:∀ k,P k→some k≠v.ownBlock) (A:∀ k,u.ownBlock=some k→P k) (r:W.grownBy i u.ownBlock):d.R e (i.setCell ⟨g,j,none⟩ x) b ok v xs:=by
  have h1:d.R e i b ok v xs:=Kd.R_grown2 m n r (fun k a=>z k (A k a))
  have D:i.heap[g]?=W.heap[g]?∨u.ownBlock=some g:=by
    by_cases hh:u.ownBlock=some g
    · exact .inr hh
    · exact .inl (r.block g (blk_lt h.1) (fun e=>hh e.symm))
  refine Kd.R_mono (ok:=fun k=>ok k∧k≠g) (Kd.R_far (p:=⟨g,j,none⟩) ?_ (fun k a=>a.2) x) (fun k a=>a.1);refine Kd.R_flat (fun B=>d.M_mono (fun k a=>by obtain⟨_,_,_,q,hq,_⟩:=a;rw [n] at hq;cases hq) (d.M_bound B)) h1 (fun k a s=>⟨s,?_⟩);rintro rfl;obtain⟨c,hc⟩:=Kd.R_typed m k a;exact y (mS hc h.1)
theorem jK.str {w0 W a:World} {g:Nat} {P:Nat→Prop} {p:List ByteArray} {o b:List Int} {e v1 u:Value} (h:jK w0 W g P p o e v1) (i:a.ownsRow w0.heap.size 5 1 u b.length (nums .u8 b)) (j:W.grownBy a v1.ownBlock):a.heap[g]?=some (.cells #[e,v1] 76 (0,0))∧dF w0 (a.setCell ⟨g,1,none⟩ u) g p b:=by
  obtain⟨hb,hge,hr0,d⟩:=h;have m:=blk_grown hb j (Kd.R_ne d hb (by decide))
  have n:Kd.R (Kd.int .u8) 5 a w0.heap.size (fun k=>k≠g∧True) u b:=Kd.R_of_own i (fun k q=>⟨by
    rintro rfl;obtain⟨c,hc⟩:=own_typed i k q;exact absurd (mS hc m) (by decide),trivial⟩)
  obtain⟨h1,h2⟩:=(jK.mono (P':=fun _=>True) ⟨hb,hge,hr0,d⟩ (fun _ _=>trivial)).app1 n j;exact⟨h1,h2.is⟩
def bA.f (b:List ByteArray) (a:List Int) (c:Int):Option (List ByteArray×List Int):=if a.length < 1099511627776 then some (b,a++[c % 256]) else none
theorem bA.calls (g:Nat) (o:List ByteArray) (d:List Int) (c:Int) (r1:List ByteArray) (r:List Int) (w0 w:World) (s:dF w0 w g o d) (t:Below w0.heap.size w0 w) (h:bA.f o d c=some (r1,r)):
 Calls Tryz.prog 150 #[.pointer (some ⟨g,0,none⟩),.int .i64 c] w fun e w'=>e=.returned (.tuple #[])∧dF w0 w' g r1 r∧Below w0.heap.size w0 w'∧dT w w' g:=by
 have E:=Tryz.underlying72;have G:=Tryz.underlying76;unfold bA.f at h;replace h:=hY h;obtain⟨hl,h⟩:=h;simp only [Option.some.injEq,Prod.mk.injEq] at h;obtain⟨rfl,rfl⟩:=h;obtain⟨J,v1,hw⟩:=s.wv;have a:=Zm hw;have B:=Zm hl;have m:=Zm t;clear s t hw hl;have p:=nW a.out.1;obtain⟨y,hy⟩:∃ y:List Int,y=d++[c % 256]:=⟨_,rfl⟩;rw [← hy];have D:=Zm hy;clear hy;go_enter Tryz.func150,Tryz.ntmps150;go_wp2_with (first|(at_builtin;refine Kd.R_append (Kd.int .u8) (w0:=w0) w0.heap.size rfl (.tmp 8) (.tmp 11) 22 5 (.int .u8 0) 1 rfl Tryz.underlying22 info5 rfl (by decide) (by omega) v1 d (c % 256) [.int .u8 (c % 256)] (fun k=>k≠g∧True) (fun _=>False) rfl rfl ?aP (fun _ b=>b.elim) ?aF ?aO ?aB ?aS ?aL ?_;(case aP=>exact rfl);(case aF=>exact fun k b=>⟨fun K=>by have:=blk_lt a.out.1;omega,trivial⟩);(case aO=>exact Kd.R_mono a.out.2.2.2 (fun _ b=>⟨b.1,trivial⟩));(case aB=>exact m.out);(case aS=>exact m.out.size);(case aL=>have:=B.out;omega);intro u1 w1 i u n v;rw [← D.out] at i;obtain⟨Ao,co,eo⟩:=Kd.R_slice i;subst eo;obtain⟨j,q⟩:=(a.out.mono (P':=fun _=>True) (fun _ _=>trivial)).app1 i n;have x:=Zm q;have z:=Zm ((dT.grown (dT.refl w g) n (fun k b=>⟨5,by decide,Kd.R_typed a.out.2.2.2 k b⟩)).set_ 1 (.slice Ao y.length co));have A:=Zm (Zbs u a.out.2.1:Below w0.heap.size w0 (w1.setCell ⟨g,1,none⟩ (.slice Ao y.length co)));clear i u n v q a m p;have p:=nW j;have I:=Zkf j 1;clear j));go_end0;exact⟨rfl,x.out.is,A.out,z.out⟩
def kK (t:ByteArray):List ByteArray→Int→Option Int
 | [],_=>none
 | x :: l,i=>if x.toList=t.toList then some i else kK t l (wrap64 (i+1))
def bE.f (a:List ByteArray) (c:List Int) (b:ByteArray):Option (List ByteArray×List Int):=if a.length < 1099511627776 then (match kK b a 0 with|some i=>bA.f a c i|none=>bA.f (a++[b]) c (wrap64 (((a++[b]).length:Int) - 1))) else none
theorem bE.calls (g:Nat) (b:List ByteArray) (A:List Int) (d:ByteArray) (r1:List ByteArray) (O:List Int) (w0 w:World) (P:dF w0 w g b A) (T:Below w0.heap.size w0 w) (h:bE.f b A d=some (r1,O)):
 Calls Tryz.prog 149 #[.pointer (some ⟨g,0,none⟩),.string d] w fun e w'=>e=.returned (.tuple #[])∧dF w0 w' g r1 O∧Below w0.heap.size w0 w'∧dT w w' g:=by
 have af:=Tryz.underlying72;have ag:=Tryz.underlying76;unfold bE.f at h;replace h:=hY h;obtain⟨K,h⟩:=h;obtain⟨q,v1,r⟩:=P.wv;have c:=Zm (r.mono (P':=fun _=>True) (fun _ _=>trivial));have U:=Zm K;have j:=Zm T;have HK:=Zm (dT.refl w g);have X:=Zm h;clear P T r K h;go_enter Tryz.func149,Tryz.ntmps149;go_wp2;go_loopg [4] (b.length+1) (fun kq v4 w'=>∃ (a:Int) (q v1:Value),v4=.int .i64 a∧Aside0 (0≤a∧(a≤(b.length:Int)∧a+kq=b.length+1)∧kK d b 0=kK d (b.drop a.toNat) a)∧Aside0 (jK w0 w' g (fun _=>True) b A q v1)∧Aside0 (Below w0.heap.size w0 w')∧Aside0 (dT w w' g))
 case atStart=>exact⟨0,q,v1,rfl,⟨Int.le_refl _,⟨by omega,by omega⟩,rfl⟩,c,j,HK⟩
 case round=>
  clear c j HK q v1;obtain⟨a,q,v1,rfl,HX,c,j,HK⟩:=hrel;have n:=HX.out.1;obtain⟨Ap,cp,ep⟩:=Kd.R_slice c.out.2.2.1;subst ep;have o:wr.cell? ⟨g,0,none⟩=some (.slice Ap b.length cp)∧wr.cell? ⟨g,1,none⟩=some v1:=nW c.out.1
  cases gk with
  | zero=>exact absurd HX.out.2.1 (by omega)
  | succ k1=>
   by_cases hx:a < (b.length:Int);rotate_left
   · have c0:=decide_eq_false hx;have Y:b.drop a.toNat=[]:=List.drop_of_length_le (by omega);have H:=X.out;rw [HX.out.2.2,Y] at H;simp only [kK] at H;obtain⟨x,hy_⟩:∃ y:List ByteArray,y=b++[d]:=⟨_,rfl⟩;rw [← hy_] at H;have aa:=Zm hy_;clear hy_;have L:=Zm H;clear H hx n;go_wp2_with (first|(at_builtin;refine Kd.R_append Kd.string (w0:=w0) w0.heap.size rfl (.tmp 30) (.tmp 32) 74 9 (.string ⟨#[]⟩) 16 rfl Tryz.underlying74 info9 rfl (by decide) (by omega) (.slice Ap b.length cp) b d [.string d] (fun k=>k≠g∧True) (fun _=>False) rfl rfl ?aP (fun _ i=>i.elim) ?aF ?aO ?aB ?aS ?aL ?_;(case aP=>exact rfl);(case aF=>exact fun k i=>⟨fun Y=>by have:=blk_lt c.out.1;omega,trivial⟩);(case aO=>exact c.out.2.2.1);(case aB=>exact j.out);(case aS=>exact j.out.size);(case aL=>have:=U.out;omega);intro u1 Z ho m hg ab;rw [← aa.out] at ho;obtain⟨Aq,cq,eo⟩:=Kd.R_slice ho;subst eo;obtain⟨B,M⟩:=c.out.app0 ho hg;have u:=Zm M;have D:=Zm ((dT.grown HK.out hg (fun k i=>⟨9,by decide,Kd.R_typed c.out.2.2.1 k i⟩)).set_ 0 (.slice Aq x.length cq));have E:=Zm (Zbs m c.out.2.1:Below w0.heap.size w0 (Z.setCell ⟨g,0,none⟩ (.slice Aq x.length cq)));clear ho m hg ab M c HK j o;have o:=nW B;have ac:=Zkf B 0;clear B)|((with_reducible refine gate_store (t:=74) (p:=35) rfl ?_);refine store_event (t:=74) (p:=35) (v:=?vo) (w1:=(Z.setCell ⟨g,0,none⟩ (.slice Aq x.length cq))) ?hg ?ho ?hn ?hr ?_;(case ho=>rfl);(case hg=>rfl);(case hn=>rfl);(case hr=>exact jE);intro w5 r;rw [← r] at u D E;clear r o ac;have o:=nW u.out.1)|((with_reducible refine gate_callee (f:=150) rfl ?_);refine cQ (some 43) Tryz.func150 #[.pointer (some ⟨g,0,none⟩),.int .i64 (wrap64 ((x.length:Int) - 1))] ?_;refine cD (bA.calls g _ _ _ _ _ w0 _ u.out.is E.out L.out) ?_;rintro e w6 ⟨rfl,s,m,i⟩;refine⟨_,rfl,?_⟩;have G:=Zm s;have I:=Zm m;have J:=Zm (D.out.trans i);clear s m i o u E D))
     first|go_end0|((try simp only [Exit.inBlock,Exit.then]);refine bodyPost_ret (results_none rfl _ _ _) rfl ?_)
     exact⟨rfl,G.out,I.out,J.out⟩
   have c0:=decide_eq_true hx;obtain⟨ad,eA,ah⟩:=Kd.at_string (Kd.R_reads' c.out.2.2.1).2.2 a n hx;cases eA;have p0:=eq_true n;have q0:=eq_true hx;have hd:kK d b 0=if (rdOf ByteArray.empty b a).toList=d.toList then some a else kK d (b.drop (a+1).toNat) (wrap64 (a+1)):=by rw [HX.out.2.2,mY n hx];rfl
   have HP:=Zm n;have HQ:=Zm hx;have ND:=Zm hd;clear n hx hd;by_cases ht:(rdOf ByteArray.empty b a).toList=d.toList
   · have ae:((rdOf ByteArray.empty b a).toList == d.toList)=true:=beq_iff_eq.mpr ht;have H:=X.out;rw [ND.out,if_pos ht] at H;dsimp only at H;have L:=Zm H;clear H ht;go_wp2_with (first|((with_reducible refine gate_callee (f:=150) rfl ?_);refine cQ (some 25) Tryz.func150 #[.pointer (some ⟨g,0,none⟩),.int .i64 a] ?_;refine cD (bA.calls g _ _ _ _ _ w0 _ c.out.is j.out L.out) ?_;rintro e w6 ⟨rfl,s,m,i⟩;refine⟨_,rfl,?_⟩;have G:=Zm s;have I:=Zm m;have J:=Zm (HK.out.trans i);clear s m i o c j HK))
     first|go_end0|((try simp only [Exit.inBlock,Exit.then]);refine bodyPost_ret (results_none rfl _ _ _) rfl ?_)
     exact⟨rfl,G.out,I.out,J.out⟩
   have ae:((rdOf ByteArray.empty b a).toList == d.toList)=false:=beq_eq_false_iff_ne.mpr ht;have NT:=Zm ht;clear ht;go_wp2;go_roundg k1
   case measure=>omega
   case rel=>
    have hq:=HQ.out;have hp:=HP.out;have K:=HX.out.2.1;have hL:=U.out;have z:wrap64 (a+1)=a+1:=by unfold wrap64;omega
    exact⟨wrap64 (a+1),_,v1,rfl,⟨by rw [z];omega,⟨by rw [z];omega,by rw [z];omega⟩,by rw [ND.out,if_neg NT.out,z]⟩,c,j,HK⟩
def cG.j0:Nat→Bool→Bool→Int→Option (Int)
 | 0,_,_,_=>none
 | k+1,c,b,a=>if c=true then (if b=true then (some (wrap64 ((wrap64 (a+2))+4))) else (some (wrap64 (a+2)))) else (if b=true then (some (wrap64 (a+4))) else (some a))
def cG.f (k:Nat) (c:Bool) (a:Bool) (b:Bool):Option (Int):=if c=true then (cG.j0 k a b 1) else (cG.j0 k a b 0)
theorem cG.mono_l:∀ k,(∀ a b c,LeO (cG.j0 k a b c) (cG.j0 (k+1) a b c))
 | 0=>by intros;intro r h;simp [cG.j0] at h
 | k+1=>by
  have ih0:=cG.mono_l k;intros;unfold cG.j0;exact lM
theorem cG.mono:∀ a b c k,LeO (cG.f k a b c) (cG.f (k+1) a b c):=by
 intro a b c k;have ih0:=cG.mono_l k;unfold cG.f;exact lM
theorem cG.calls (k:Nat) (m:Bool) (d:Bool) (i:Bool) (r:Int) (w:World) (h:cG.f k m d i=some r):
 Calls Tryz.prog 151 #[.bool m,.bool d,.bool i] w fun e w'=>e=.returned (.int .i64 r)∧Drawn0 w w':=by
 have H:=h;clear h;unfold cG.f at H;have c:=Zm H;clear H;go_enter Tryz.func151,Tryz.ntmps151;go_upto_if 8 with (fail);go_cut [7] (fun n wc=>∃ (a:Nat) (b:Int),n=.int .i64 b∧Aside0 (cG.j0 a d i b=some r)∧Aside0 (a≤k)∧Drawn0 w wc)
 case first=>
  have H:=c.out;clear c;replace H:=eN H;rcases H with ⟨rfl,H⟩|⟨rfl,H⟩
  · have j:=Zm H;clear H;go_wp2;go_meet
    case rel=>exact⟨_,(0),dS,j,⟨iS⟩,mX⟩
  have j:=Zm H;clear H;go_wp2;go_meet
  case rel=>exact⟨_,(1),dS,j,⟨iS⟩,mX⟩
 case rest=>
  clear c;obtain⟨a,b,rfl,HA,o,⟨p,rfl⟩⟩:=hcut
  cases a with
  | zero=>exact absurd HA.out (by simp [cG.j0])
  | succ q=>
   have H:=HA.out;clear HA;simp only [cG.j0] at H;replace H:=eN H;rcases H with ⟨rfl,H⟩|⟨rfl,H⟩
   · replace H:=eN H;rcases H with ⟨rfl,H⟩|⟨rfl,H⟩
     · obtain rfl:=Option.some.inj H;go_wp2;go_ret;exact hU
     obtain rfl:=Option.some.inj H;go_wp2;go_ret;exact hU
   replace H:=eN H;rcases H with ⟨rfl,H⟩|⟨rfl,H⟩
   · obtain rfl:=Option.some.inj H;go_wp2;go_ret;exact hU
   obtain rfl:=Option.some.inj H;go_wp2;go_ret;exact hU
def jI.f (a:Int):Option (ByteArray):=(eQ.f a).bind fun b=>(if b=true then (some (strOfNums (([((a) % 4294967296) / 16777216,(((a) % 4294967296) / 65536) % 256,(((a) % 4294967296) / 256) % 256,((a) % 4294967296) % 256]:List Int)))) else (some (⟨#[]⟩:ByteArray)))
theorem jI.calls (a:Int) (r:ByteArray) (w:World) (h:jI.f a=some r):
 Calls Tryz.prog 197 #[.int .i64 a] w fun e w'=>e=.returned (.string r)∧Below w.heap.size w w':=by
 have c:=Zm (Below.refl w.heap.size w);have H:=h;clear h;unfold jI.f at H;replace H:=cM H;obtain⟨t,p,H⟩:=H;have i:=Zm H;clear H;go_enter Tryz.func197,Tryz.ntmps197;go_upto_if 6 with (first|((with_reducible refine gate_callee (f:=196) rfl ?_);refine cQ (some 5) Tryz.func196 #[.int .i64 a] ?_;(with_reducible refine(eQ.calls _ _ _ p.out).mono ?_);rintro e w' ⟨rfl,⟨x,rfl⟩⟩;refine⟨_,rfl,?_⟩));have H:=i.out;clear i;replace H:=eN H;rcases H with ⟨rfl,H⟩|⟨rfl,H⟩
 · obtain rfl:=Option.some.inj H;go_wp2;go_ret;exact cI c
 obtain⟨n,hy_⟩:∃ q:List Int,q=(([((a) % 4294967296) / 16777216,(((a) % 4294967296) / 65536) % 256,(((a) % 4294967296) / 256) % 256,((a) % 4294967296) % 256]:List Int)):=⟨_,rfl⟩;replace H:(some (strOfNums n))=some r:=iU
 have d:=Zm hy_;clear hy_;obtain rfl:=Option.some.inj H;go_wp2_with (first|((with_reducible refine gate_dst (N:=20) rfl ?_);refine Kd.R_lit (Kd.int .u8) _ 5 ?hg (N:=20) ?hd (xs:=([((a) % 4294967296) / 16777216,(((a) % 4294967296) / 65536) % 256,(((a) % 4294967296) / 256) % 256,((a) % 4294967296) % 256]:List Int)) (inner:=[.int .u8 (((a) % 4294967296) / 16777216),.int .u8 ((((a) % 4294967296) / 65536) % 256),.int .u8 ((((a) % 4294967296) / 256) % 256),.int .u8 (((a) % 4294967296) % 256)]) (ok:=fun _=>True) (okp:=fun _=>True) ?hr ?hp (fun _ s=>s) trivial (Below.refl _ _) (Nat.le_refl _) (by simp) ?_;(case hd=>rfl);(case hg=>rfl);(case hr=>exact jE);(case hp=>exact(Reps.one (show Kd.M (Kd.int .u8) _ _ _ (((a) % 4294967296) / 16777216) [.int .u8 (((a) % 4294967296) / 16777216)] from rfl) (Reps.one (show Kd.M (Kd.int .u8) _ _ _ ((((a) % 4294967296) / 65536) % 256) [.int .u8 ((((a) % 4294967296) / 65536) % 256)] from rfl) (Reps.one (show Kd.M (Kd.int .u8) _ _ _ ((((a) % 4294967296) / 256) % 256) [.int .u8 ((((a) % 4294967296) / 256) % 256)] from rfl) (Reps.one (show Kd.M (Kd.int .u8) _ _ _ (((a) % 4294967296) % 256) [.int .u8 (((a) % 4294967296) % 256)] from rfl) (Reps.none _ _))))));intro u y b j o k;clear o k;(first|rw [← d.out] at b|(simp only [Int.reduceToNat] at b;rw [← d.out] at b));have m:=Zm (Kd.R_lower b (Zbz (bk c.out)));replace c:=dJ c j;clear j b;have v:=own_string (P:=Tryz.prog) Tryz.underlying22 Tryz.underlying5 Tryz.underlying9 (Kd.own_of_R m.out)));go_ret;exact cI c
def cY.f (k:Nat) (i:List ByteArray) (j:List Int) (d a:Int) (b e c:ByteArray):Option (List ByteArray×List Int):=(bA.f i j d).bind fun p=>((bU.f k d).bind fun t=>if t.toList=([110]:List UInt8) then ((jI.f a).bind fun s=>if p.2.length+s.size≤1099511627776 then some (p.1,p.2++bytesOf s) else none) else if t.toList=([105]:List UInt8) then bA.f p.1 p.2 a else if t.toList=([116]:List UInt8) then bA.f p.1 p.2 a else if t.toList=([99]:List UInt8) then bE.f p.1 p.2 b else if t.toList=([121]:List UInt8) then bE.f p.1 p.2 c else if t.toList=([102]:List UInt8) then (bE.f p.1 p.2 b).bind fun p=>((bE.f p.1 p.2 e).bind fun p=>bE.f p.1 p.2 c) else if t.toList=([109]:List UInt8) then (bE.f p.1 p.2 b).bind fun p=>((bE.f p.1 p.2 e).bind fun p=>bE.f p.1 p.2 c) else some p)
def cY.T4:Bool×List (List Nat×List Nat):=(true,[([],[]),([],[]),([1],[1]),([2],[2]),([3],[3]),([],[]),([5],[5]),([6],[6]),([4,7,7],[4,7]),([0,0,1,2,3,4,5,6,7,8],[0]),([9,0,1,2,3,4,5,6,7,8],[9]),([10,8,8,0,1,2,3,4,5,6,7,8],[8,10])])
def cY.B4:List Nat:=[0,0,2,6,14,0,32,96,254,511,1023,2047]
theorem cY.tab4:rtab .any (opsOf Tryz.f152 4)=cY.T4:=by kernel_rfl
theorem cY.bits4:waitsOk cY.T4.2 cY.B4=true:=by kernel_rfl
theorem cY.calls (k:Nat) (g:Nat) (U:List ByteArray) (X:List Int) (E y:Int) (z G A:ByteArray) (r1:List ByteArray) (r2:List Int) (w0 w:World) (hI:dF w0 w g U X) (hB:Below w0.heap.size w0 w) (h:cY.f k U X E y z G A=some (r1,r2)):
 Calls Tryz.prog 152 #[.pointer (some ⟨g,0,none⟩),.agg #[.int .i64 E,.int .i64 y,.string z,.string G,.string A]] w fun e w'=>e=.returned (.tuple #[])∧dF w0 w' g r1 r2∧Below w0.heap.size w0 w'∧dT w w' g:=by
 have ao:=Tryz.underlying72;have ap:=Tryz.underlying76;have an:=Tryz.underlying159;unfold cY.f at h;replace h:=cM h;obtain⟨⟨p,o⟩,A2,h⟩:=h;replace h:=cM h;obtain⟨t,A3,h⟩:=h;dsimp only at h;have j:=Zm hI;have d:=Zm hB;have HK:=Zm (dT.refl w g);have HH:=Zm h;clear hI hB h;go_enter Tryz.func152,Tryz.ntmps152;go_upto_if 11 with (first|((with_reducible refine gate_dst (N:=3) rfl ?_);refine fH 3 159 #[.int .i64 E,.int .i64 y,.string z,.string G,.string A] ?_;intro gb B w1 J a;replace j:=Zm (j.out.below a);replace d:=dJ d a;replace HK:=Zm (HK.out.trans (.of_below a g));have b:=Zm J;have NB:=Zm ((j.out.ne_blk J (by decide)).symm);clear B J a;have q:=fR b.out)|((with_reducible refine gate_callee (f:=150) rfl ?_);refine cQ (some 7) Tryz.func150 #[.pointer (some ⟨g,0,none⟩),.int .i64 E] ?_;refine cD (bA.calls g _ _ _ _ _ w0 _ j.out d.out A2.out) ?_;rintro e w3 ⟨rfl,m,a,c⟩;refine⟨_,rfl,?_⟩;replace j:=Zm m;replace b:=Zm (c.blk b.out NB.out (by decide));replace d:=Zm a;replace HK:=Zm (HK.out.trans c);clear m a c q;have q:=fR b.out)|((with_reducible refine gate_callee (f:=143) rfl ?_);refine cQ (some 10) Tryz.func143 #[.int .i64 E] ?_;refine cD (bU.calls _ _ _ _ A3.out) ?_;rintro e w4 ⟨rfl,a⟩;refine⟨_,rfl,?_⟩;replace j:=Zm (j.out.below a);replace b:=kb b a;replace d:=dJ d a;replace HK:=Zm (HK.out.trans (.of_below a g));clear a q;have q:=fR b.out));have H:=HH.out;clear HH;replace H:=eM H;rcases H with ⟨c1,L,aa,H⟩|⟨c1,L,aa,H⟩;rotate_left
 · clear c1;rw [L];replace H:=cM H;obtain⟨s,r,H⟩:=H;replace H:=hY H;obtain⟨hl,H⟩:=H;simp only [Option.some.injEq,Prod.mk.injEq] at H;obtain⟨rfl,rfl⟩:=H;have HL:=Zm hl;clear hl;obtain⟨v0,v1,hw⟩:=j.out.wv;have v:=Zm hw;clear hw j;go_upto_region 4 with (fail);have Y:w4.cell? ⟨g,1,none⟩=some v1:=(Zkc v.out.1 1).trans rfl;refine start_ (n:=12) (S:=fun w'=>w'.cell? ⟨gb,1,none⟩=some (.int .i64 y)∧w'.cell? ⟨g,1,none⟩=some v1) (ds:=[11]) #[false,false,false,false,false,false,false,false,false,false,false,false] (by kernel_rfl) rfl rfl ⟨q.2.1,Y⟩ (fun hHeld=>?_);refine with_tabW cY.tab4 cY.bits4 (fun HT_ HW_=>?_);replace v:=Zm (v.out.below (below_drew (Below.refl _ _)));replace b:=Zm (Zkd b.out);replace d:=Zm (Zbd d.out);replace HK:=Zm (HK.out.drew);clear q Y;generalize w4.drew=D at v b d HK hHeld ⊢;refine eX 0 13 ?_;refine eX 1 14 ?_;refine eX 2 15 ?_;refine eX 3 16 ?_;refine eX 5 18 ?_;refine lL 4 17 ?_;refine lL 6 19 ?_;refine one_ (i:=7) (N:=some 20) #[true,true,true,true,true,true,true,true,false,false,false,false] rfl rfl (one_of HT_.out (by kernel_rfl)) (by decide) (fun K x=>?_);refine goes_ Tryz.func197 (by kernel_rfl) rfl #[.int .i64 y] (by rfl) rfl rfl (by (try simp only [List.map_toArray,List.map_cons,List.map_nil]);first|rfl|(simp only [List.length_drop,List.length_take];rfl)) ?_;refine cD (jI.calls _ _ _ r.out) ?_;rintro e w6 ⟨rfl,a⟩;refine⟨_,rfl,?_⟩;replace v:=Zm (v.out.below a);replace b:=kb b a;replace d:=dJ d a;replace HK:=Zm (HK.out.trans (.of_below a g));clear a;refine x.out _ _ ⟨(Zkc b.out 1).trans rfl,(Zkc v.out.1 1).trans rfl⟩ (fun hHeld=>?_);clear x K;refine jT 20 ?_;refine one_ (i:=8) (N:=some 21) #[true,true,true,true,true,true,true,true,true,false,false,false] rfl rfl (one_of HT_.out (by kernel_rfl)) (by decide) (fun K x=>?_);refine pV (w0:=w0) w0.heap.size (by rfl) (.tmp 17) (.tmp 20) 22 9 5 rfl Tryz.underlying22 Tryz.underlying9 info5 v1 o s rfl rfl (Kd.own_of_R v.out.2.2.2) d.out d.out.size (by have:=HL.out;omega) ?_;intro u I O a B;obtain⟨Ao,co,eo,_⟩:=own_reads O;subst eo;obtain⟨M,m⟩:=v.out.str O B;have Z:some gb≠v1.ownBlock:=Kd.R_ne v.out.2.2.2 b.out (by decide);replace b:=Zm (blk_grown b.out B Z);have j:=Zm m;replace HK:=Zm ((dT.grown HK.out B (fun k c=>⟨5,by decide,Kd.R_typed v.out.2.2.2 k c⟩)).set_ 1 (.slice Ao (o++bytesOf s).length co));replace d:=Zm (Zbs a v.out.2.1:Below w0.heap.size w0 (I.setCell ⟨g,1,none⟩ (.slice Ao (o++bytesOf s).length co)));clear m O a B Z v;refine x.out _ _ ⟨(Zkc b.out 1).trans rfl,(Zkc M 1).trans rfl⟩ (fun hHeld=>?_);clear x K;refine jT 21 ?_;refine eX 9 22 ?_;refine eX 10 23 ?_;refine last_ (i:=11) (N:=none) #[true,true,true,true,true,true,true,true,true,true,true,true] rfl rfl (one_of HT_.out (by kernel_rfl)) (by decide) (fun K x=>?_);have hs:I.cell? ⟨g,1,none⟩=some v1:=(Zkc M 1).trans rfl;have hf:=Zkf M 1;refine skip_ (w1:=I.setCell ⟨g,1,none⟩ (.slice Ao (o++bytesOf s).length co)) (by rfl) rfl jE ?_;refine x.out _ _ ?_;clear x K;refine done_ (done_of HT_.out (by kernel_rfl)) ?_;try go_wp2
   go_end0;exact⟨rfl,j.out,d.out,HK.out⟩
 rw [L];replace H:=eM H;rcases H with ⟨c2,ab,ac,H⟩|⟨c2,ab,ac,H⟩;rotate_left
 · clear c2;have r:=Zm H;clear H;go_wp2_with (first|((with_reducible refine gate_callee (f:=150) rfl ?_);refine cQ (some 30) Tryz.func150 #[.pointer (some ⟨g,0,none⟩),.int .i64 y] ?_;refine cD (bA.calls g _ _ _ _ _ w0 _ j.out d.out r.out) ?_;rintro e D ⟨rfl,m,a,c⟩;refine⟨_,rfl,?_⟩;replace j:=Zm m;replace b:=Zm (c.blk b.out NB.out (by decide));replace d:=Zm a;replace HK:=Zm (HK.out.trans c);clear m a c q;have q:=fR b.out));go_end0;exact⟨rfl,j.out,d.out,HK.out⟩
 replace H:=eM H;rcases H with ⟨c3,ad,ae,H⟩|⟨c3,ad,ae,H⟩;rotate_left
 · clear c3;have r:=Zm H;clear H;go_wp2_with (first|((with_reducible refine gate_callee (f:=150) rfl ?_);refine cQ (some 30) Tryz.func150 #[.pointer (some ⟨g,0,none⟩),.int .i64 y] ?_;refine cD (bA.calls g _ _ _ _ _ w0 _ j.out d.out r.out) ?_;rintro e D ⟨rfl,m,a,c⟩;refine⟨_,rfl,?_⟩;replace j:=Zm m;replace b:=Zm (c.blk b.out NB.out (by decide));replace d:=Zm a;replace HK:=Zm (HK.out.trans c);clear m a c q;have q:=fR b.out));go_end0;exact⟨rfl,j.out,d.out,HK.out⟩
 replace H:=eM H;rcases H with ⟨c4,af,ag,H⟩|⟨c4,af,ag,H⟩;rotate_left
 · clear c4;have r:=Zm H;clear H;go_wp2_with (first|((with_reducible refine gate_callee (f:=149) rfl ?_);refine cQ (some 36) Tryz.func149 #[.pointer (some ⟨g,0,none⟩),.string z] ?_;refine cD (bE.calls g _ _ _ _ _ w0 _ j.out d.out r.out) ?_;rintro e D ⟨rfl,m,a,c⟩;refine⟨_,rfl,?_⟩;replace j:=Zm m;replace b:=Zm (c.blk b.out NB.out (by decide));replace d:=Zm a;replace HK:=Zm (HK.out.trans c);clear m a c q;have q:=fR b.out));go_end0;exact⟨rfl,j.out,d.out,HK.out⟩
 replace H:=eM H;rcases H with ⟨c5,ah,ai,H⟩|⟨c5,ah,ai,H⟩;rotate_left
 · clear c5;have r:=Zm H;clear H;go_wp2_with (first|((with_reducible refine gate_callee (f:=149) rfl ?_);refine cQ (some 42) Tryz.func149 #[.pointer (some ⟨g,0,none⟩),.string A] ?_;refine cD (bE.calls g _ _ _ _ _ w0 _ j.out d.out r.out) ?_;rintro e D ⟨rfl,m,a,c⟩;refine⟨_,rfl,?_⟩;replace j:=Zm m;replace b:=Zm (c.blk b.out NB.out (by decide));replace d:=Zm a;replace HK:=Zm (HK.out.trans c);clear m a c q;have q:=fR b.out));go_end0;exact⟨rfl,j.out,d.out,HK.out⟩
 replace H:=eM H;rcases H with ⟨c6,aj,ak,H⟩|⟨c6,aj,ak,H⟩;rotate_left
 · clear c6;replace H:=cM H;obtain⟨⟨p1,o1⟩,r,H⟩:=H;dsimp only at H;replace H:=cM H;obtain⟨⟨p2,o2⟩,P,H⟩:=H;dsimp only at H;have T:=Zm H;clear H;go_wp2_with (first|((with_reducible refine gate_callee (f:=149) rfl ?_);refine cQ (some 49) Tryz.func149 #[.pointer (some ⟨g,0,none⟩),.string z] ?_;refine cD (bE.calls g _ _ _ _ _ w0 _ j.out d.out r.out) ?_;rintro e D ⟨rfl,m,a,c⟩;refine⟨_,rfl,?_⟩;replace j:=Zm m;replace b:=Zm (c.blk b.out NB.out (by decide));replace d:=Zm a;replace HK:=Zm (HK.out.trans c);clear m a c q;have q:=fR b.out)|((with_reducible refine gate_callee (f:=149) rfl ?_);refine cQ (some 53) Tryz.func149 #[.pointer (some ⟨g,0,none⟩),.string G] ?_;refine cD (bE.calls g _ _ _ _ _ w0 _ j.out d.out P.out) ?_;rintro e w6 ⟨rfl,m,a,c⟩;refine⟨_,rfl,?_⟩;replace j:=Zm m;replace b:=Zm (c.blk b.out NB.out (by decide));replace d:=Zm a;replace HK:=Zm (HK.out.trans c);clear m a c q;have q:=fR b.out)|((with_reducible refine gate_callee (f:=149) rfl ?_);refine cQ (some 57) Tryz.func149 #[.pointer (some ⟨g,0,none⟩),.string A] ?_;refine cD (bE.calls g _ _ _ _ _ w0 _ j.out d.out T.out) ?_;rintro e I ⟨rfl,m,a,c⟩;refine⟨_,rfl,?_⟩;replace j:=Zm m;replace b:=Zm (c.blk b.out NB.out (by decide));replace d:=Zm a;replace HK:=Zm (HK.out.trans c);clear m a c q;have q:=fR b.out));go_end0;exact⟨rfl,j.out,d.out,HK.out⟩
 replace H:=eM H;rcases H with ⟨c7,al,am,H⟩|⟨c7,al,am,H⟩;rotate_left
 · clear c7;replace H:=cM H;obtain⟨⟨p1,o1⟩,r,H⟩:=H;dsimp only at H;replace H:=cM H;obtain⟨⟨p2,o2⟩,P,H⟩:=H;dsimp only at H;have T:=Zm H;clear H;go_wp2_with (first|((with_reducible refine gate_callee (f:=149) rfl ?_);refine cQ (some 49) Tryz.func149 #[.pointer (some ⟨g,0,none⟩),.string z] ?_;refine cD (bE.calls g _ _ _ _ _ w0 _ j.out d.out r.out) ?_;rintro e D ⟨rfl,m,a,c⟩;refine⟨_,rfl,?_⟩;replace j:=Zm m;replace b:=Zm (c.blk b.out NB.out (by decide));replace d:=Zm a;replace HK:=Zm (HK.out.trans c);clear m a c q;have q:=fR b.out)|((with_reducible refine gate_callee (f:=149) rfl ?_);refine cQ (some 53) Tryz.func149 #[.pointer (some ⟨g,0,none⟩),.string G] ?_;refine cD (bE.calls g _ _ _ _ _ w0 _ j.out d.out P.out) ?_;rintro e w6 ⟨rfl,m,a,c⟩;refine⟨_,rfl,?_⟩;replace j:=Zm m;replace b:=Zm (c.blk b.out NB.out (by decide));replace d:=Zm a;replace HK:=Zm (HK.out.trans c);clear m a c q;have q:=fR b.out)|((with_reducible refine gate_callee (f:=149) rfl ?_);refine cQ (some 57) Tryz.func149 #[.pointer (some ⟨g,0,none⟩),.string A] ?_;refine cD (bE.calls g _ _ _ _ _ w0 _ j.out d.out T.out) ?_;rintro e I ⟨rfl,m,a,c⟩;refine⟨_,rfl,?_⟩;replace j:=Zm m;replace b:=Zm (c.blk b.out NB.out (by decide));replace d:=Zm a;replace HK:=Zm (HK.out.trans c);clear m a c q;have q:=fR b.out));go_end0;exact⟨rfl,j.out,d.out,HK.out⟩
 simp only [Option.some.injEq,Prod.mk.injEq] at H;obtain⟨rfl,rfl⟩:=H;go_wp2;go_end0;exact⟨rfl,j.out,d.out,HK.out⟩
end Go.Proofs.YtkbebmifpccofaaGreat.PFnClassCut
