/- Functions of the program as plain Lean functions, each with its proof; no condition. -/
import Derived.Test.YtkbebmifpccofaaGreatPFnExactClassReadx0
namespace Go.Proofs.YtkbebmifpccofaaGreat.PFnExactClassRead
open Go.RowKit Go.Proofs.YtkbebmifpccofaaGreatW.PrintWords Go.Proofs.YtkbebmifpccofaaGreatW.PrintLast Go.Proofs.YtkbebmifpccofaaGreatW.PrintMore
open Go.Proofs.YtkbebmifpccofaaGreatW.PrintWords renaming below_alloc→Zba,pw_below_drewN→Zbn,below_drew1→Zbd,below_set→Zbs,below_step→Zbt,blk_cell→Zkc,blk_frozen→Zkf
open Go.Proofs.YtkbebmifpccofaaGreatW.PrintWords.Aside0 renaming mk→Zm
attribute [local go_sem] max2_int min2_int max_two min_two max_three min_three max_four min_four
set_option maxHeartbeats 80000000
set_option maxRecDepth 100000
set_option linter.unusedVariables false
set_option linter.unusedSimpArgs false
def cK.l0:Nat→List ByteArray→Int→Int→Option (Bool)
 | 0,_,_,_=>none
 | k+1,b,c,a=>if a < c then (if 0≤a then (if a < (b.length:Int) then (if ((rdOf ByteArray.empty b a).size:Int) > 20000 then (some false) else (cK.l0 k b c (wrap64 (a+1)))) else (none)) else (none)) else (some true)
def cK.f (k:Nat) (l0:List ByteArray):Option (Bool):=cK.l0 k l0 (l0.length:Int) 0
theorem cK.mono_l:∀ k,(∀ a b c,LeO (cK.l0 k a b c) (cK.l0 (k+1) a b c))
 | 0=>by intros;intro r h;simp [cK.l0] at h
 | k+1=>by
  have ih0:=cK.mono_l k;intros;unfold cK.l0;exact mT
theorem cK.mono:∀ a k,LeO (cK.f k a) (cK.f (k+1) a):=by
 intro a k;have ih0:=cK.mono_l k;unfold cK.f;exact mT
theorem cK.calls (k:Nat) (o:Option Addr) (p:Nat) (l0:List ByteArray) (r:Bool) (w:World) (i:Kd.C Kd.string w o l0.length l0) (j:l0.length≤p) (h:cK.f k l0=some r):
 Calls Tryz.prog 47 #[.slice o l0.length p] w fun e w'=>e=.returned (.bool r)∧Drawn0 w w':=by
 have m:=Zm i;have A:=Zm j;clear i j;have H:=h;clear h;unfold cK.f at H;have c:=Zm H;clear H;go_enter Tryz.func47,Tryz.ntmps47;go_wp2;go_loopg [7] k (fun q y w'=>∃ (a:Int),y=.int .i64 a∧Aside0 (cK.l0 q l0 (l0.length:Int) a=some r)∧Aside0 (q≤k)∧Drawn0 w w')
 case atStart=>exact⟨(0),dX,c,⟨Nat.le_refl _⟩,pD⟩
 case round=>
  clear c;obtain⟨a,rfl,HA,n,⟨m1,rfl⟩⟩:=hrel
  cases gk with
  | zero=>exact absurd HA.out (by simp [cK.l0])
  | succ z=>
   have H:=HA.out;clear HA;simp only [cK.l0] at H;replace H:=iY H;rcases H with ⟨u,H⟩|⟨u,H⟩
   · obtain rfl:=Option.some.inj H;go_wp2;go_ret;exact jH
   replace H:=eZ H;obtain⟨c3b0,H⟩:=H;replace H:=eZ H;obtain⟨c4b0,H⟩:=H;replace H:=jF H;rcases H with ⟨b,H⟩|⟨b,H⟩
   · have v:decide (20000 < ((rdOf ByteArray.empty l0 a).size:Int))=false:=decide_eq_false b;have x:decide (20000 < (rdOf ByteArray.empty l0 a).size)=false:=decide_eq_false (by omega);clear b;have c:=Zm H;clear H;obtain⟨s,d,t⟩:=qP m a;cases d;go_wp2;go_roundg z
     case measure=>have:=n.out;omega
     case rel=>exact⟨(wrap64 (a+1)),dX,c,⟨by have:=n.out;omega⟩,pD⟩
   have v:decide (20000 < ((rdOf ByteArray.empty l0 a).size:Int))=true:=decide_eq_true b;have x:decide (20000 < (rdOf ByteArray.empty l0 a).size)=true:=decide_eq_true (by omega);clear b;obtain rfl:=Option.some.inj H;obtain⟨s,d,t⟩:=qP m a;cases d;go_wp2;go_ret;exact jH
def cC.f (a:ByteArray):Option (Int):=some (a.size:Int)
theorem cC.calls (a:ByteArray) (r:Int) (w:World) (h:cC.f a=some r):
 Calls Tryz.prog 101 #[.string a] w fun e w'=>e=.returned (.int .i64 r)∧Drawn0 w w':=by
 have H:=h;clear h;unfold cC.f at H;obtain rfl:=Option.some.inj H;go_enter Tryz.func101,Tryz.ntmps101;go_wp2;go_ret;exact jH
def bL (w0 W:World) (g:Nat) (b:ByteArray) (c:Int) (d:List ByteArray) (e:Int) (i:Int):Prop:=∃ a,W.heap[g]?=some (.cells #[.string b,.int .i64 c,a,.int .i64 e,.int .i64 i] 124 (0,0))∧w0.heap.size≤g∧Kd.R Kd.string 9 W w0.heap.size (fun k=>k≠g) a d
theorem bL.same {w0 W:World} {g:Nat} {b:ByteArray} {c:Int} {d:List ByteArray} {e:Int} {i:Int} {j:World} (h:bL w0 W g b c d e i) (m:∀ k,k < W.heap.size→(k=g∨∃ q,q∈[9]∧∃ cells,W.heap[k]?=some (.cells cells q (0,0)))→j.heap[k]?=W.heap[k]?):bL w0 j g b c d e i:=by
 obtain⟨o,hb,hg,n⟩:=h;exact⟨o,(m g (blk_lt hb) (.inl rfl)).trans hb,hg,Kd.R_mono (Kd.R_move (Kd.R_bound n) (fun k a=>m k a.2.2.1 (.inr (by obtain⟨q,hq,hc⟩:=a.2.2.2;exact⟨q,by have p:q=9:=(by simpa [Kd.string,Kd.int,Kd.scalar] using hq);subst p;decide,hc⟩)))) (fun _ a=>a.1)⟩
theorem bL.below {w0 W:World} {g:Nat} {a:ByteArray} {b:Int} {c:List ByteArray} {d:Int} {e:Int} {i:World} (h:bL w0 W g a b c d e) (j:Below W.heap.size W i):bL w0 i g a b c d e:=h.same (fun k m _=>j.block k m)
theorem bL.alloc {w0 W:World} {g:Nat} {a:ByteArray} {b:Int} {c:List ByteArray} {d:Int} {e:Int} (h:bL w0 W g a b c d e) (o:Obj):bL w0 (W.alloc o) g a b c d e:=h.below (Zba (Below.refl _ _) o)
theorem bL.drewN {w0 W:World} {g:Nat} {a:ByteArray} {b:Int} {c:List ByteArray} {d:Int} {e:Int} (h:bL w0 W g a b c d e) (m:Nat):bL w0 (W.drewN m) g a b c d e:=h.same (fun _ _ _=>rfl)
theorem bL.drew {w0 W:World} {g:Nat} {a:ByteArray} {b:Int} {c:List ByteArray} {d:Int} {e:Int} (h:bL w0 W g a b c d e):bL w0 W.drew g a b c d e:=h.same (fun _ _ _=>rfl)
theorem bL.at_ {w0 W:World} {g:Nat} {a:ByteArray} {b:Int} {c:List ByteArray} {d:Int} {e:Int} {w':World} {m:Nat} (i:W.drewN m=w') (h:bL w0 W g a b c d e):bL w0 w' g a b c d e:=by subst i;exact bL.drewN h m
theorem oC {W:World} {k t q:Nat} {cs b:Array Value} {fr c:Nat×Nat} (h:W.heap[k]?=some (.cells cs t fr)) (a:W.heap[k]?=some (.cells b q c)):t=q:=by
 rw [h] at a;injection a with a;injection a with _ a
theorem bL.grownT {w0 W:World} {g:Nat} {b:ByteArray} {d:Int} {i:List ByteArray} {j:Int} {m:Int} {n:World} {a:Option Nat} {e:Nat} (h:bL w0 W g b d i j m) (s:W.grownBy n a) (o:some g≠a) (t:∀ k,a=some k→∃ cells,W.heap[k]?=some (.cells cells e (0,0))) (u:e ∉ [9]):bL w0 n g b d i j m:=by
 refine h.same (fun k v w=>s.block k v ?_);rintro rfl;obtain⟨c,p⟩:=t k rfl;rcases w with rfl|⟨q,x,y,r⟩
 · exact o rfl
 · exact u ((oC p r) ▸ x)
theorem bL.apart {w0 W:World} {g:Nat} {a:ByteArray} {b:Int} {c:List ByteArray} {i:Int} {j:Int} {α:Type} {d:Kd α} {e:Nat} {base:Nat} {ok:Nat→Prop} {v:Value} {xs:List α} (h:bL w0 W g a b c i j) (m:d.R e W base ok v xs) (n:∀ q,q∈e :: d.E→q≠124):d.R e W base (fun k=>ok k∧k≠g) v xs:=by
 obtain⟨p,hb,hg,o⟩:=h;exact Kd.R_types m hb n
theorem bL.own_ne {w0 W:World} {g:Nat} {a:ByteArray} {b:Int} {c:List ByteArray} {i:Int} {j:Int} {α:Type} {d:Kd α} {e:Nat} {base:Nat} {ok:Nat→Prop} {v:Value} {xs:List α} (h:bL w0 W g a b c i j) (k:d.R e W base ok v xs) (m:e≠124):some g≠v.ownBlock:=by
 obtain⟨o,hb,hg,n⟩:=h;exact Kd.R_ne k hb m
theorem bL.apartS {w0 W:World} {g:Nat} {a:ByteArray} {b:Int} {c:List ByteArray} {i:Int} {j:Int} {α:Type} {d:Kd α} {e:Nat} {base:Nat} {ok:Nat→Prop} {v:Value} {xs:List α} (h:bL w0 W g a b c i j) (m:Kd.S d e W base ok v xs) (n:∀ q,q∈e :: d.E→q≠124):Kd.S d e W base (fun k=>ok k∧k≠g) v xs:=by
 obtain⟨p,hb,hg,o⟩:=h;exact Kd.S_types m hb n
theorem bL.own_neS {w0 W:World} {g:Nat} {a:ByteArray} {b:Int} {c:List ByteArray} {i:Int} {j:Int} {α:Type} {d:Kd α} {e:Nat} {base:Nat} {ok:Nat→Prop} {v:Value} {xs:List α} (h:bL w0 W g a b c i j) (k:Kd.S d e W base ok v xs) (m:e≠124):some g≠v.ownBlock:=by
 obtain⟨o,hb,hg,n⟩:=h;exact Kd.S_ne k hb m
theorem bL.lt {w0 W:World} {g:Nat} {a:ByteArray} {b:Int} {c:List ByteArray} {d:Int} {e:Int} (h:bL w0 W g a b c d e):g < W.heap.size:=by
 obtain⟨j,hb,hg,i⟩:=h;exact blk_lt hb
theorem bL.ge {w0 W:World} {g:Nat} {a:ByteArray} {b:Int} {c:List ByteArray} {d:Int} {e:Int} (h:bL w0 W g a b c d e):w0.heap.size≤g:=by
 obtain⟨j,hb,hg,i⟩:=h;exact hg
theorem bL.ne_blk {w0 W:World} {g:Nat} {c:ByteArray} {d:Int} {e:List ByteArray} {i:Int} {j:Int} {a:Nat} {cs:Array Value} {t:TypeId} {fr:Nat×Nat} (h:bL w0 W g c d e i j) (b:W.heap[a]?=some (.cells cs t fr)) (k:t≠124):g≠a:=by
 obtain⟨n,hb,hg,m⟩:=h;rintro rfl;exact k (oC b hb)
theorem bL.far {w0 W:World} {g:Nat} {a:ByteArray} {b:Int} {c:List ByteArray} {d:Int} {e:Int} {p:Addr} {cs:Array Value} {t:TypeId} (h:bL w0 W g a b c d e) (i:g≠p.block) (j:W.heap[p.block]?=some (.cells cs t (0,0))) (n:t ∉ [9]) (u:Value):bL w0 (W.setCell p u) g a b c d e:=by
 refine h.same (fun k s o=>Below.heap_setCell W p u k ?_);rintro rfl;rcases o with rfl|⟨q,r,v,m⟩
 · exact i rfl
 · exact n ((oC j m) ▸ r)
theorem mH {W:World} {g:Nat} {b:Value} {a:ByteArray} {c:Int} {d:Int} {e:Int} (h:W.heap[g]?=some (.cells #[.string a,.int .i64 c,b,.int .i64 d,.int .i64 e] 124 (0,0))):W.cell? ⟨g,0,none⟩=some (.string a):=(Zkc h 0).trans rfl
theorem bL.set_0 {w0 W:World} {g:Nat} {i:ByteArray} {a:Int} {b:List ByteArray} {c:Int} {d:Int} (h:bL w0 W g i a b c d) (x:ByteArray):bL w0 (W.setCell ⟨g,0,none⟩ (.string x)) g x a b c d:=by
 obtain⟨j,hb,hg,e⟩:=h;exact⟨j,by simpa using blk_set hb 0 (.string x),hg,Kd.R_far e (p:=⟨g,0,none⟩) (fun _ k=>k) _⟩
theorem iZ {W:World} {g:Nat} {b:Value} {c:ByteArray} {a:Int} {d:Int} {e:Int} (h:W.heap[g]?=some (.cells #[.string c,.int .i64 a,b,.int .i64 d,.int .i64 e] 124 (0,0))):W.cell? ⟨g,1,none⟩=some (.int .i64 a):=(Zkc h 1).trans rfl
theorem bL.set_1 {w0 W:World} {g:Nat} {a:ByteArray} {i:Int} {b:List ByteArray} {c:Int} {d:Int} (h:bL w0 W g a i b c d) (x:Int):bL w0 (W.setCell ⟨g,1,none⟩ (.int .i64 x)) g a x b c d:=by
 obtain⟨j,hb,hg,e⟩:=h;exact⟨j,by simpa using blk_set hb 1 (.int .i64 x),hg,Kd.R_far e (p:=⟨g,1,none⟩) (fun _ k=>k) _⟩
theorem kG {W:World} {g:Nat} {a:Value} {b:ByteArray} {c:Int} {d:Int} {e:Int} (h:W.heap[g]?=some (.cells #[.string b,.int .i64 c,a,.int .i64 d,.int .i64 e] 124 (0,0))):W.cell? ⟨g,2,none⟩=some (a):=(Zkc h 2).trans rfl
theorem nH {W:World} {g:Nat} {b:Value} {c:ByteArray} {d:Int} {a:Int} {e:Int} (h:W.heap[g]?=some (.cells #[.string c,.int .i64 d,b,.int .i64 a,.int .i64 e] 124 (0,0))):W.cell? ⟨g,3,none⟩=some (.int .i64 a):=(Zkc h 3).trans rfl
theorem bL.set_3 {w0 W:World} {g:Nat} {a:ByteArray} {b:Int} {c:List ByteArray} {i:Int} {d:Int} (h:bL w0 W g a b c i d) (x:Int):bL w0 (W.setCell ⟨g,3,none⟩ (.int .i64 x)) g a b c x d:=by
 obtain⟨j,hb,hg,e⟩:=h;exact⟨j,by simpa using blk_set hb 3 (.int .i64 x),hg,Kd.R_far e (p:=⟨g,3,none⟩) (fun _ k=>k) _⟩
theorem iJ {W:World} {g:Nat} {b:Value} {c:ByteArray} {d:Int} {e:Int} {a:Int} (h:W.heap[g]?=some (.cells #[.string c,.int .i64 d,b,.int .i64 e,.int .i64 a] 124 (0,0))):W.cell? ⟨g,4,none⟩=some (.int .i64 a):=(Zkc h 4).trans rfl
theorem bL.set_4 {w0 W:World} {g:Nat} {a:ByteArray} {b:Int} {c:List ByteArray} {d:Int} {i:Int} (h:bL w0 W g a b c d i) (x:Int):bL w0 (W.setCell ⟨g,4,none⟩ (.int .i64 x)) g a b c d x:=by
 obtain⟨j,hb,hg,e⟩:=h;exact⟨j,by simpa using blk_set hb 4 (.int .i64 x),hg,Kd.R_far e (p:=⟨g,4,none⟩) (fun _ k=>k) _⟩
theorem bL.mk0 {w0 W:World} {g:Nat} {a:ByteArray} {b:Int} {c:Int} {d:Int} (e:W.heap[g]?=some (.cells #[.string a,.int .i64 b,.slice none 0 0,.int .i64 c,.int .i64 d] 124 (0,0))) (i:w0.heap.size≤g):bL w0 W g a b [] c d:=⟨_,e,i,Kd.R_nil _ _ _ _ _⟩
theorem bZ {w0 W:World} {g:Nat} {a:ByteArray} {b:Int} {c:List ByteArray} {d:Int} {e:Int} (h:bL w0 W g a b c d e:=by repeat (first|(with_reducible first|(refine Aside0.out ?_;assumption)|apply bL.alloc|apply bL.drewN|apply bL.drew|apply bL.set_0|apply bL.set_1|apply bL.set_3|apply bL.set_4|refine bL.far ?_ (Aside0.out (by assumption)) eY (by decide) _)|(refine Aside0.out ?_;assumption))):bL w0 W g a b c d e:=h
theorem eW {w W:World} (h:Below w.heap.size w W:=by repeat (first|(with_reducible first|(refine Aside0.out ?_;assumption)|apply below_alloc|apply pw_below_drewN|apply below_drew1|refine below_set ?_ (Aside0.out (by assumption))|refine below_set ?_ (bL.ge (Aside0.out (by assumption))))|(refine Aside0.out ?_;assumption))):Below w.heap.size w W:=h
def bO (w W:World) (g:Nat):Prop:=w.heap.size≤W.heap.size∧∀ i,i < w.heap.size→i≠g→(∀ cells q,q∈[9]→w.heap[i]?≠some (.cells cells q (0,0)))→W.heap[i]?=w.heap[i]?
theorem bO.refl (w:World) (g:Nat):bO w w g:=⟨Nat.le_refl _,fun _ _ _ _=>rfl⟩
theorem bO.of_below {w w1:World} (h:Below w.heap.size w w1) (g:Nat):bO w w1 g:=⟨h.size,fun i a _ _=>h.block i a⟩
theorem bO.trans {w w1 e:World} {g:Nat} (h:bO w w1 g) (k:bO w1 e g):bO w e g:=
 ⟨Nat.le_trans h.1 k.1,fun i a b d=>(k.2 i (Nat.lt_of_lt_of_le a h.1) b (fun c q j=>by rw [h.2 i a b d];exact d c q j)).trans (h.2 i a b d)⟩
theorem bO.set_ {w w1:World} {g:Nat} (h:bO w w1 g) (j:Nat) (u:Value):bO w (w1.setCell ⟨g,j,none⟩ u) g:=⟨by simpa [World.setCell] using h.1,fun i b a c=>(Below.heap_setCell w1 ⟨g,j,none⟩ u i a).trans (h.2 i b a c)⟩
theorem bO.drewN {w w1:World} {g:Nat} (h:bO w w1 g) (m:Nat):bO w (w1.drewN m) g:=h
theorem bO.drew {w w1:World} {g:Nat} (h:bO w w1 g):bO w w1.drew g:=h
theorem bO.alloc {w w1:World} {g:Nat} (h:bO w w1 g) (o:Obj):bO w (w1.alloc o) g:=h.trans (.of_below (Zba (Below.refl _ _) o) g)
theorem bO.far {w w1:World} {g:Nat} (h:bO w w1 g) {p:Addr} (d:w.heap.size≤p.block) (u:Value):bO w (w1.setCell p u) g:=⟨by simpa [World.setCell] using h.1,fun i a b c=>(Below.heap_setCell w1 p u i (by omega)).trans (h.2 i a b c)⟩
theorem cA {w w1 a:World} {g:Nat} (h0:bO w w1 g:=by exact HK.out) (h:bO w a g:=by repeat (first|(with_reducible first|exact HK.out|apply bO.set_|apply bO.drewN|apply bO.drew|apply bO.alloc|refine bO.far ?_ (Aside0.out (by assumption)) _)|exact HK.out)):bO w a g:=h
theorem bO.size {w w1:World} {g:Nat} (h:bO w w1 g):w.heap.size≤w1.heap.size:=h.1
theorem bO.blk {w w1:World} {g g':Nat} {cs:Array Value} {t:TypeId} {fr:Nat×Nat} (h:bO w w1 g) (a:w.heap[g']?=some (.cells cs t fr)) (b:g'≠g) (d:∀ q,q∈[9]→t≠q):w1.heap[g']?=some (.cells cs t fr):=(h.2 g' (blk_lt a) b (fun c q e i=>d q e (oC a i))).trans a
theorem bO.grown {w w1 b:World} {g:Nat} {a:Option Nat} (h:bO w w1 g) (d:w1.grownBy b a) (j:∀ k,a=some k→∃ q,q∈[9]∧∃ cells,w1.heap[k]?=some (.cells cells q (0,0))):bO w b g:=
 h.trans ⟨d.size,fun i m o n=>d.block i m (fun e=>by obtain⟨q,hq,c,hc⟩:=j i e.symm;exact n c q hq hc)⟩
theorem bL.app {w0 W a:World} {g:Nat} {b u:Value} {c:ByteArray} {d:Int} {n:List ByteArray} {e:Int} {i:Int} {x:List ByteArray} (m:W.heap[g]?=some (.cells #[.string c,.int .i64 d,b,.int .i64 e,.int .i64 i] 124 (0,0))) (o:w0.heap.size≤g) (q:Kd.R Kd.string 9 W w0.heap.size (fun k=>k≠g) b n) (r:Kd.R Kd.string 9 a w0.heap.size (fun k=>k≠g) u x) (s:W.grownBy a b.ownBlock):a.heap[g]?=some (.cells #[.string c,.int .i64 d,b,.int .i64 e,.int .i64 i] 124 (0,0))∧bL w0 (a.setCell ⟨g,2,none⟩ u) g c d x e i:=
 have j:=blk_grown m s (Kd.R_ne q m (by decide))
 ⟨j,u,by simpa using blk_set j 2 u,o,Kd.R_far (p:=⟨g,2,none⟩) r (fun _ t=>t) _⟩
theorem bO.grownB {w w1 c:World} {g:Nat} {b:Option Nat} (h:bO w w1 g) (d:w1.grownBy c b) (a:b=none∨∃ k,b=some k∧w.heap.size≤k):bO w c g:=
 ⟨Nat.le_trans h.1 d.size,fun i j m n=>(d.block i (Nat.lt_of_lt_of_le j h.1) (fun e=>by rcases a with a|⟨k,a,o⟩ <;> rw [a] at e <;> cases e;omega)).trans (h.2 i j m n)⟩
theorem bO.Rk {w w1:World} {g:Nat} {α:Type} {d:Kd α} {e base:Nat} {ok:Nat→Prop} {v:Value} {xs:List α} (i:d.R e w base (fun k=>ok k∧k≠g) v xs) (j:bO w w1 g) (m:∀ q,q∈e :: d.E→q ∉ [9]):d.R e w1 base (fun k=>ok k∧k≠g) v xs:=Kd.R_mono (Kd.R_move (Kd.R_bound i) (fun k h=>j.2 k h.2.2.1 h.1.2 (fun c q n o=>by obtain⟨p,a,c2,b⟩:=h.2.2.2;exact m p a ((oC o b) ▸ n)))) (fun _ h=>h.1)
theorem bO.oldS {w w1:World} {g:Nat} {α:Type} {d:Kd α} {e base:Nat} {ok:Nat→Prop} {v:Value} {xs:List α} (i:Kd.S d e w base (fun k=>ok k∧k≠g) v xs) (j:bO w w1 g) (m:∀ q,q∈e :: d.E→q ∉ [9]):Kd.S d e w1 base (fun k=>ok k∧k < w.heap.size) v xs:=Kd.S_mono (Kd.S_move (Kd.S_bound i) (fun k h=>j.2 k h.2.2.1 h.1.2 (fun c q n o=>by obtain⟨p,a,c2,b⟩:=h.2.2.2;exact m p a ((oC o b) ▸ n)))) (fun _ h=>⟨h.1.1,h.2.2.1⟩)
theorem mR {w W:World} {g a:Nat} (b:a=W.heap.size) (h:bO w W g:=by exact cA):Aside0 (w.heap.size≤a):=⟨b ▸ h.size⟩
theorem mV {w0 W:World} {g a:Nat} {j:World} {b:ByteArray} {c:Int} {d:List ByteArray} {e:Int} {i:Int} (k:a=W.heap.size) (m:Aside0 (bL w0 j g b c d e i):=by assumption) (h:bL w0 W g b c d e i:=by exact bZ):Aside0 (g≠a):=⟨k ▸ Nat.ne_of_lt (bL.lt h)⟩
theorem hD {W a w1:World} [Nonempty (Pl W a)] {g g':Nat} {cs:Array Value} {t:TypeId} {fr:Nat×Nat} (h:Aside0 (W.heap[g']?=some (.cells cs t fr))) (b:Aside0 (g'≠g)) (c:bO a w1 g) (d:∀ q,q∈[9]→t≠q:=by decide):Aside0 (w1.heap[g']?=some (.cells cs t fr)):=⟨bO.blk c (pk h.out) b.out d⟩
theorem fG {W w1:World} {g:Nat} (g':Nat) (cs:Array Value) (t:TypeId) (a:Aside0 (g'≠g)) (b:bO W w1 g) (h:W.heap[g']?=some (.cells cs t (0,0)):=by exact eY) (c:∀ q,q∈[9]→t≠q:=by decide):Aside0 (w1.heap[g']?=some (.cells cs t (0,0))):=⟨bO.blk b h a.out c⟩
theorem jM {k w0 W w1:World} {g:Nat} {α:Type} {d:Kd α} {e base:Nat} {ok:Nat→Prop} {v:Value} {xs:List α} {m:World} {a:ByteArray} {b:Int} {c:List ByteArray} {i:Int} {j:Int} (r:Aside0 (Kd.R d e k base ok v xs)) (n:bO W w1 g) (p:Aside0 (bL w0 m g a b c i j):=by assumption) (o:bL w0 W g a b c i j:=by exact bZ) (hs:Kd.R d e W base ok v xs:=by repeat (first|(with_reducible first|(refine Aside0.out ?_;assumption)|apply Kd.R_alloc|apply Kd.R_drewN|apply Kd.R_drew)|refine Kd.R_set ?_ eY (by decide) _ _)) (h1:∀ q,q∈e :: d.E→q≠124:=by decide) (h2:∀ q,q∈e :: d.E→q ∉ [9]:=by decide):Aside0 (Kd.R d e w1 base ok v xs):=⟨Kd.R_mono (bO.Rk (bL.apart o hs h1) n h2) (fun _ h=>h.1)⟩
def aZ.f (a:ByteArray) (b:Int) (c:List ByteArray) (e:Int) (d:Int) (i:Int) (j:Int):Option (ByteArray×Int×List ByteArray×Int×Int):=if d=0 then (some (a,b,c,j,i)) else (some (a,b,c,e,d))
theorem aZ.calls (g:Nat) (b:ByteArray) (c:Int) (d:List ByteArray) (i:Int) (j:Int) (o:Int) (p:Int) (r1:ByteArray) (q:Int) (r:List ByteArray) (r4:Int) (s:Int) (w0 w:World) (t:bL w0 w g b c d i j) (a:Below w0.heap.size w0 w) (h:aZ.f b c d i j o p=some (r1,q,r,r4,s)):
 Calls Tryz.prog 154 #[.pointer (some ⟨g,0,none⟩),.int .i64 o,.int .i64 p] w fun e w'=>e=.returned (.tuple #[])∧bL w0 w' g r1 q r r4 s∧Below w0.heap.size w0 w'∧bO w w' g:=by
 have n:=Zm t;have HK:=Zm (bO.refl w g);have G:=Zm a.size;clear t;have E:=Zm a.size;have y:=Zm a;clear a;have H:=h;clear h;unfold aZ.f at H;replace H:=fB H;rcases H with ⟨u,v,x,H⟩|⟨u,v,x,H⟩
 · simp only [Option.some.injEq,Prod.mk.injEq] at H;obtain⟨rfl,rfl,rfl,rfl,rfl⟩:=H;obtain⟨z,k,-,-⟩:=n.out;have B:=jT k;clear k;go_enter Tryz.func154,Tryz.ntmps154;go_wp2
   first|go_end0|((try simp only [Exit.inBlock,Exit.then]);refine bodyPost_ret (results_none rfl _ _ _) rfl ?_)
   exact⟨iO,by exact bZ,by exact bk y.out,cA⟩
 clear u;simp only [Option.some.injEq,Prod.mk.injEq] at H;obtain⟨rfl,rfl,rfl,rfl,rfl⟩:=H;obtain⟨A,m,-,-⟩:=n.out;have D:=jT m;clear m;go_enter Tryz.func154,Tryz.ntmps154;go_wp2
 first|go_end0|((try simp only [Exit.inBlock,Exit.then]);refine bodyPost_ret (results_none rfl _ _ _) rfl ?_)
 exact⟨iO,by exact bZ,by exact eW,cA⟩
def aQ.j0:Nat→Bool→ByteArray→Int→List ByteArray→Int→Int→Option (Int×ByteArray×Int×List ByteArray×Int×Int)
 | 0,_,_,_,_,_,_=>none
 | k+1,x19,a,b,d,e,i=>if x19=true then ((cC.f a).bind fun j=>((aZ.f a b d e i 4 j).bind fun c=>(some (0,c.1,c.2.1,c.2.2.1,c.2.2.2.1,c.2.2.2.2)))) else (if 0≤(wrap64 ((wrap64 (b+1)) - 1)) then (if (wrap64 ((wrap64 (b+1)) - 1)) < (a.size:Int) then (some (wrap64 (bt a (wrap64 ((wrap64 (b+1)) - 1))),a,wrap64 (b+1),d,e,i)) else (none)) else (none))
def aQ.f (k:Nat) (a:ByteArray) (b:Int) (d:List ByteArray) (e:Int) (c:Int):Option (Int×ByteArray×Int×List ByteArray×Int×Int):=if c=0 then ((cC.f a).bind fun i=>(aQ.j0 k (decide (b ≥ i)) a b d e c)) else (aQ.j0 k true a b d e c)
theorem aQ.calls (k:Nat) (g:Nat) (a:ByteArray) (d:Int) (s:List ByteArray) (t:Int) (p:Int) (r1:Int) (v:ByteArray) (x:Int) (r4:List ByteArray) (y:Int) (z:Int) (w0 w:World) (A:bL w0 w g a d s t p) (q:Below w0.heap.size w0 w) (h:aQ.f k a d s t p=some (r1,v,x,r4,y,z)):
 Calls Tryz.prog 153 #[.pointer (some ⟨g,0,none⟩)] w fun e w'=>e=.returned (.int .i64 r1)∧bL w0 w' g v x r4 y z∧Below w0.heap.size w0 w'∧bO w w' g:=by
 have i:=Zm A;have HK:=Zm (bO.refl w g);have HL:=Zm q.size;clear A;have Z:=Zm q.size;have c:=Zm q;clear q;have H:=h;clear h;unfold aQ.f at H;obtain⟨v2,b,hg,hr⟩:=i.out;have f0:=mH b;have f1:=iZ b;have f3:=nH b;have f4:=iJ b;have z1:=Zkf b 1;have Y:=Tryz.underlying124;have D:∀ W:World,Calls Tryz.prog 101 #[.string a] W fun e B=>e=.returned (.int .i64 (a.size:Int))∧Drawn0 W B:=fun W=>cC.calls a (a.size:Int) W rfl
 have u:∀ (W:World) (n:Nat),Calls Tryz.prog 101 #[.string a] (W.drewN n) fun e E=>e=.returned (.int .i64 (a.size:Int))∧∃ m,E=W.drewN m:=fun W n=>Calls.quiet_of ((D (W.drewN n)).mono fun e B ⟨J,⟨m,K⟩⟩=>⟨J,m,K⟩)
 clear hr;by_cases c1:p=0;rotate_left
 · rw [if_neg c1] at H;have aa:(p != 0)=true:=bne_iff_ne.mpr c1
   cases k with
   | zero=>simp [aQ.j0] at H
   | succ k=>
    simp only [aQ.j0,cC.f,Option.bind_some,↓reduceIte] at H;replace H:=cU H;obtain⟨⟨L,M,O,P,T⟩,r,H⟩:=H;(try dsimp only at H);simp only [Option.some.injEq,Prod.mk.injEq] at H;obtain⟨rfl,rfl,rfl,rfl,rfl,rfl⟩:=H;clear b;go_enter Tryz.func153,Tryz.ntmps153;go_wp2;go_quiet (fail);go_wp2_with (first|((with_reducible refine gk_ 101 rfl ?_);refine gW (some 25) Tryz.func101 #[.string a] ?_;refine eV (cC.calls _ _ _ rfl) ?_;rintro e w' ⟨rfl,⟨U,rfl⟩⟩;refine⟨_,rfl,?_⟩)|((with_reducible refine gk_ 154 rfl ?_);refine gW (some 26) Tryz.func154 #[.pointer (some ⟨g,0,none⟩),.int .i64 4,.int .i64 (a.size:Int)] ?_;refine eV (aZ.calls g _ _ _ _ _ _ _ _ _ _ _ _ w0 _ bZ (bk c.out) r.out) ?_;rintro e G ⟨rfl,j,b,o⟩;refine⟨_,rfl,?_⟩;replace HK:=Zm (bO.trans cA o);replace c:=Zm b;replace i:=Zm j;clear b o j));go_ret;exact⟨rfl,i.out,c.out,HK.out⟩
 subst c1;rw [if_pos rfl] at H;simp only [cC.f,Option.bind_some] at H
 cases k with
 | zero=>simp [aQ.j0] at H
 | succ k=>
  simp only [aQ.j0,cC.f,Option.bind_some] at H;by_cases c2:d ≥ (a.size:Int);rotate_left
  · have I:decide ((a.size:Int)≤d)=false:=decide_eq_false c2;rw [if_neg (by simpa using c2)] at H;replace H:=jQ H;obtain⟨c3,H⟩:=H;replace H:=jQ H;obtain⟨c4,H⟩:=H;simp only [Option.some.injEq,Prod.mk.injEq] at H;obtain⟨rfl,rfl,rfl,rfl,rfl,rfl⟩:=H;have ab:=decide_eq_true c3;have ac:=decide_eq_true c4;have ad:=eq_true c3;have ae:=eq_true c4;have X:=bt_at a (wrap64 (wrap64 (d+1) - 1));clear c2;go_enter Tryz.func153,Tryz.ntmps153;go_wp2;go_quiet ((go_at_call 101;exact u _ _));go_wp2;go_quiet (fail);go_wp2;go_ret;have af:=Zm hg;exact⟨by first|rfl|(simp [X,c3,c4] <;> rfl),bZ,Zbn (Zbs (bk c.out) hg) _,bO.drewN (bO.set_ (bO.drewN HK.out _) 1 _) _⟩
  have I:decide ((a.size:Int)≤d)=true:=decide_eq_true c2;rw [if_pos (by simpa using c2)] at H;replace H:=cU H;obtain⟨⟨L,M,O,P,T⟩,r,H⟩:=H;(try dsimp only at H);simp only [Option.some.injEq,Prod.mk.injEq] at H;obtain⟨rfl,rfl,rfl,rfl,rfl,rfl⟩:=H;clear b c2;go_enter Tryz.func153,Tryz.ntmps153;go_wp2;go_quiet ((go_at_call 101;exact u _ _));go_wp2_with (first|((with_reducible refine gk_ 101 rfl ?_);refine gW (some 25) Tryz.func101 #[.string a] ?_;refine eV (cC.calls _ _ _ rfl) ?_;rintro e w' ⟨rfl,⟨U,rfl⟩⟩;refine⟨_,rfl,?_⟩)|((with_reducible refine gk_ 154 rfl ?_);refine gW (some 26) Tryz.func154 #[.pointer (some ⟨g,0,none⟩),.int .i64 4,.int .i64 (a.size:Int)] ?_;refine eV (aZ.calls g _ _ _ _ _ _ _ _ _ _ _ _ w0 _ bZ (bk c.out) r.out) ?_;rintro e G ⟨rfl,j,b,o⟩;refine⟨_,rfl,?_⟩;replace HK:=Zm (bO.trans cA o);replace c:=Zm b;replace i:=Zm j;clear b o j));go_ret;exact⟨rfl,i.out,c.out,HK.out⟩
def cM.l0:Nat→List Int→Int→Int→ByteArray→Int→List ByteArray→Int→Int→Option (ByteArray×Int×List ByteArray×Int×Int)
 | 0,_,_,_,_,_,_,_,_=>none
 | k+1,e,o,c,i,d,j,m,n=>if c < o then (if 0≤c then (if c < (e.length:Int) then ((aQ.f k i d j m n).bind fun a=>(if a.1=(rd e c) then (cM.l0 k e o (wrap64 (c+1)) a.2.1 a.2.2.1 a.2.2.2.1 a.2.2.2.2.1 a.2.2.2.2.2) else ((aZ.f a.2.1 a.2.2.1 a.2.2.2.1 a.2.2.2.2.1 a.2.2.2.2.2 3 d).bind fun b=>(some (b.1,b.2.1,b.2.2.1,b.2.2.2.1,b.2.2.2.2))))) else (none)) else (none)) else (some (i,d,j,m,n))
def cM.f (k:Nat) (b:ByteArray) (c:Int) (d:List ByteArray) (e:Int) (i:Int):Option (ByteArray×Int×List ByteArray×Int×Int):=(some (([67,70,1]:List Int):List Int)).bind fun a=>(cM.l0 k a (a.length:Int) 0 b c d e i)
theorem cM.calls (k:Nat) (g:Nat) (r:ByteArray) (s:Int) (t:List ByteArray) (u:Int) (v:Int) (r1:ByteArray) (x:Int) (y:List ByteArray) (r4:Int) (z:Int) (w0 w:World) (X:bL w0 w g r s t u v) (A:Below w0.heap.size w0 w) (h:cM.f k r s t u v=some (r1,x,y,r4,z)):
 Calls Tryz.prog 98 #[.pointer (some ⟨g,0,none⟩)] w fun e w'=>e=.returned (.tuple #[])∧bL w0 w' g r1 x y r4 z∧Below w0.heap.size w0 w'∧bO w w' g:=by
 have n:=Zm X;have HK:=Zm (bO.refl w g);have HL:=Zm A.size;clear X;have aB:=Zm A.size;have a:=Zm A;clear A;have H:=h;clear h;unfold cM.f at H;obtain⟨d,hy_⟩:∃ y_:List Int,y_=(([67,70,1]:List Int)):=⟨_,rfl⟩;replace H:(cM.l0 k d (d.length:Int) 0 r s t u v)=some (r1,x,y,r4,z):=mE
 have L:=Zm hy_;clear hy_;have B:=Zm H;clear H;go_enter Tryz.func98,Tryz.ntmps98;go_wp2_with (first|((with_reducible refine gd_ 5 rfl ?_);refine Kd.R_lit (Kd.int .i64) _ 2 ?hg (N:=5) ?hd (xs:=([67,70,1]:List Int)) (inner:=[.int .i64 67,.int .i64 70,.int .i64 1]) (ok:=fun _=>True) (okp:=fun _=>True) ?hr ?hp (fun _ c=>c) trivial (Below.refl _ _) (Nat.le_refl _) (by simp) ?_;(case hd=>rfl);(case hg=>rfl);(case hr=>exact jZ);(case hp=>exact(Reps.one (show Kd.M (Kd.int .i64) _ _ _ 67 [.int .i64 67] from rfl) (Reps.one (show Kd.M (Kd.int .i64) _ _ _ 70 [.int .i64 70] from rfl) (Reps.one (show Kd.M (Kd.int .i64) _ _ _ 1 [.int .i64 1] from rfl) (Reps.none _ _)))));intro ar w2 o b ai Z;clear ai Z;(first|rw [← L.out] at o|(simp only [Int.reduceToNat] at o;rw [← L.out] at o));have O:=Zm (Kd.R_lower o (bO.size cA));replace n:=Zm (bL.below bZ b);replace HK:=Zm (bO.trans cA (bO.of_below b g));replace a:=dJ a b;clear b o;obtain⟨aj,ak,al⟩:=Kd.R_slice O.out;subst al));go_loopg [7] k (fun Y v7 w'=>∃ (i:Int) (D:ByteArray) (q:Int) (E:List ByteArray) (G:Int) (I:Int),v7=.int .i64 i∧Aside0 (cM.l0 Y d (d.length:Int) i D q E G I=some (r1,x,y,r4,z))∧Aside0 (Y≤k)∧Aside0 (Kd.R (Kd.int .i64) 2 w' w.heap.size (fun _=>True) (.slice aj d.length ak) d)∧Aside0 (bL w0 w' g D q E G I)∧Aside0 (bO w w' g)∧Aside0 (Below w0.heap.size w0 w'))
 case atStart=>exact⟨(0),(r),(s),(t),(u),(v),dX,B,⟨Nat.le_refl _⟩,⟨pr O.out⟩,⟨by exact bZ⟩,⟨cA⟩,⟨bk a.out⟩⟩
 case round=>
  clear B;obtain⟨i,D,q,E,G,I,rfl,HA,T,j,n,HK,a⟩:=hrel
  cases gk with
  | zero=>exact absurd HA.out (by simp [cM.l0])
  | succ k1=>
   have H:=HA.out;clear HA;simp only [cM.l0] at H;replace H:=iY H;rcases H with ⟨ab,H⟩|⟨ab,H⟩
   · simp only [Option.some.injEq,Prod.mk.injEq] at H;obtain⟨rfl,rfl,rfl,rfl,rfl⟩:=H;go_wp2
     first|go_end0|((try simp only [Exit.inBlock,Exit.then]);refine bodyPost_ret (results_none rfl _ _ _) rfl ?_)
     exact⟨iO,by exact bZ,by exact bk a.out,cA⟩
   replace H:=eZ H;obtain⟨c6b0,H⟩:=H;replace H:=eZ H;obtain⟨c7b0,H⟩:=H;replace H:=cU H;obtain⟨⟨au,ac,ad,ae,af,ag⟩,A8,H⟩:=H;(try dsimp only at H);have U:=Zm H;clear H;have J:0≤(i:Int):=dT;have K:i < (d.length:Int):=dT;obtain⟨ap,ah,an⟩:=Kd.at_int (Kd.R_reads' j.out).2.2 i J K;cases ah;replace J:=eq_true J;replace K:=eq_true K;obtain⟨ao,P,-,-⟩:=n.out;have aq:=jT P;clear P;go_upto_if 18 with (first|((with_reducible refine gk_ 153 rfl ?_);refine gW (some 16) Tryz.func153 #[.pointer (some ⟨g,0,none⟩)] ?_;refine eV (aQ.calls _ g _ _ _ _ _ _ _ _ _ _ _ w0 _ bZ (bk a.out) A8.out) ?_;rintro e aF ⟨rfl,p,b,c⟩;refine⟨_,rfl,?_⟩;replace j:=jM j c;replace HK:=Zm (bO.trans cA c);replace a:=Zm b;replace n:=Zm p;clear b c p));have H:=U.out;clear U;replace H:=fB H;rcases H with ⟨W,m,aa,H⟩|⟨W,m,aa,H⟩
   · (first|rw [m]|(simp only [i64_w,i32_w];rw [m])|skip);replace H:=cU H;obtain⟨⟨av,aw,ax,ay,az⟩,am,H⟩:=H;(try dsimp only at H);simp only [Option.some.injEq,Prod.mk.injEq] at H;obtain⟨rfl,rfl,rfl,rfl,rfl⟩:=H;go_wp2_with (first|((with_reducible refine gk_ 154 rfl ?_);refine gW (some 21) Tryz.func154 #[.pointer (some ⟨g,0,none⟩),.int .i64 3,.int .i64 q] ?_;refine eV (aZ.calls g _ _ _ _ _ _ _ _ _ _ _ _ w0 _ bZ (bk a.out) am.out) ?_;rintro e aL ⟨rfl,p,b,c⟩;refine⟨_,rfl,?_⟩;replace j:=jM j c;replace HK:=Zm (bO.trans cA c);replace a:=Zm b;replace n:=Zm p;clear b c p))
     first|go_end0|((try simp only [Exit.inBlock,Exit.then]);refine bodyPost_ret (results_none rfl _ _ _) rfl ?_)
     exact⟨iO,by exact bZ,by exact bk a.out,cA⟩
   clear W;(first|rw [m]|(simp only [i64_w,i32_w];rw [m])|skip);have B:=Zm H;clear H;go_wp2;go_roundg k1
   case measure=>have:=T.out;omega
   case rel=>exact⟨(wrap64 (i+1)),(ac),(ad),(ae),(af),(ag),dX,B,⟨by have:=T.out;omega⟩,⟨pr j.out⟩,⟨by exact bZ⟩,⟨cA⟩,⟨bk a.out⟩⟩
def cN.l0:Nat→ByteArray→Int→Int→Option (Bool)
 | 0,_,_,_=>none
 | k+1,b,c,a=>if a < c then (if 0≤a then (if a < (b.size:Int) then (if (bt b a) < 32 then (some false) else (if (bt b a) > 126 then (some false) else (cN.l0 k b c (wrap64 (a+1))))) else (none)) else (none)) else (some true)
def cN.f (k:Nat) (a:ByteArray):Option (Bool):=cN.l0 k a (a.size:Int) 0
theorem cN.mono_l:∀ k,(∀ a b c,LeO (cN.l0 k a b c) (cN.l0 (k+1) a b c))
 | 0=>by intros;intro r h;simp [cN.l0] at h
 | k+1=>by
  have ih0:=cN.mono_l k;intros;unfold cN.l0;exact mT
theorem cN.mono:∀ a k,LeO (cN.f k a) (cN.f (k+1) a):=by
 intro a k;have ih0:=cN.mono_l k;unfold cN.f;exact mT
theorem cN.calls (k:Nat) (b:ByteArray) (r:Bool) (w:World) (h:cN.f k b=some r):
 Calls Tryz.prog 155 #[.string b] w fun e w'=>e=.returned (.bool r)∧Drawn0 w w':=by
 have H:=h;clear h;unfold cN.f at H;have n:=Zm H;clear H;go_enter Tryz.func155,Tryz.ntmps155;go_wp2;go_loopg [6] k (fun q x w'=>∃ (a:Int),x=.int .i64 a∧Aside0 (cN.l0 q b (b.size:Int) a=some r)∧Aside0 (q≤k)∧Drawn0 w w')
 case atStart=>exact⟨(0),dX,n,⟨Nat.le_refl _⟩,pD⟩
 case round=>
  clear n;obtain⟨a,rfl,HA,o,⟨m1,rfl⟩⟩:=hrel
  cases gk with
  | zero=>exact absurd HA.out (by simp [cN.l0])
  | succ y=>
   have H:=HA.out;clear HA;simp only [cN.l0] at H;replace H:=iY H;rcases H with ⟨s,H⟩|⟨s,H⟩
   · obtain rfl:=Option.some.inj H;go_wp2;go_ret;exact jH
   replace H:=eZ H;obtain⟨c3b0,H⟩:=H;replace H:=eZ H;obtain⟨c4b0,H⟩:=H;replace H:=iY H;rcases H with ⟨t,H⟩|⟨t,H⟩
   · replace H:=jF H;rcases H with ⟨i,H⟩|⟨i,H⟩
     · have u:decide (126 < (bt b a))=false:=decide_eq_false i;clear i;have n:=Zm H;clear H;have c:0≤(a:Int):=dT;have d:a < (b.size:Int):=dT;have p:=bt_at b a;replace c:=eq_true c;replace d:=eq_true d;have j:0≤(a:Int):=dT;have m:a < (b.size:Int):=dT;have v:=bt_at b a;replace j:=eq_true j;replace m:=eq_true m;go_wp2;go_roundg y
       case measure=>have:=o.out;omega
       case rel=>exact⟨(wrap64 (a+1)),dX,n,⟨by have:=o.out;omega⟩,pD⟩
     have u:decide (126 < (bt b a))=true:=decide_eq_true i;clear i;obtain rfl:=Option.some.inj H;have c:0≤(a:Int):=dT;have d:a < (b.size:Int):=dT;have p:=bt_at b a;replace c:=eq_true c;replace d:=eq_true d;have j:0≤(a:Int):=dT;have m:a < (b.size:Int):=dT;have v:=bt_at b a;replace j:=eq_true j;replace m:=eq_true m;go_wp2;go_ret;exact jH
   obtain rfl:=Option.some.inj H;have c:0≤(a:Int):=dT;have d:a < (b.size:Int):=dT;have p:=bt_at b a;replace c:=eq_true c;replace d:=eq_true d;go_wp2;go_ret;exact jH
def bT.l (k:Nat):Nat→Int→ByteArray→Int→List ByteArray→Int→Int→Option (ByteArray×Int×List ByteArray×Int×Int)
 | 0,_,d,a,e,i,c=>some (d,a,e,i,c)
 | n+1,many,d,a,e,i,c=>if c=0 then ((aQ.f k d a e i c).bind fun t=>if t.2.2.2.2.2=0 then (if (t.2.1.size:Int) < wrap64 (t.2.2.1+t.1) then aZ.f t.2.1 t.2.2.1 t.2.2.2.1 t.2.2.2.2.1 t.2.2.2.2.2 4 (t.2.1.size:Int) else (if 0≤t.2.2.1 then (if t.2.2.1≤wrap64 (t.2.2.1+t.1) then ((cN.f k (t.2.1.extract t.2.2.1.toNat (wrap64 (t.2.2.1+t.1)).toNat)).bind fun b=>if t.2.2.2.1.length < 1099511627776 then (if b=true then bT.l k n many t.2.1 (wrap64 (t.2.2.1+t.1)) (t.2.2.2.1++[t.2.1.extract t.2.2.1.toNat (wrap64 (t.2.2.1+t.1)).toNat]) t.2.2.2.2.1 t.2.2.2.2.2 else ((aZ.f t.2.1 (wrap64 (t.2.2.1+t.1)) t.2.2.2.1 t.2.2.2.2.1 t.2.2.2.2.2 3 a).bind fun u=>bT.l k n many u.1 u.2.1 (u.2.2.1++[t.2.1.extract t.2.2.1.toNat (wrap64 (t.2.2.1+t.1)).toNat]) u.2.2.2.1 u.2.2.2.2)) else none) else none) else none)) else some t.2) else some (d,a,e,i,c)
def bT.f (k:Nat) (b:ByteArray) (a:Int) (c:List ByteArray) (d:Int) (e:Int):Option (ByteArray×Int×List ByteArray×Int×Int):=(aQ.f k b a c d e).bind fun t=>if t.1 > 200 then ((aZ.f t.2.1 t.2.2.1 t.2.2.2.1 t.2.2.2.2.1 t.2.2.2.2.2 5 a).bind fun u=>bT.l k t.1.toNat t.1 u.1 u.2.1 u.2.2.1 u.2.2.2.1 u.2.2.2.2) else bT.l k t.1.toNat t.1 t.2.1 t.2.2.1 t.2.2.2.1 t.2.2.2.2.1 t.2.2.2.2.2
theorem zH {k:Nat} {c:ByteArray} {d:Int} {e:List ByteArray} {i m a:Int} {n:ByteArray} {o:Int} {p:List ByteArray} {q r:Int} (h:aQ.f k c d e i m=some (a,n,o,p,q,r)):a≤9223372036854775807:=by
 unfold aQ.f at h
 have j:∀ b,aQ.j0 k b c d e i m=some (a,n,o,p,q,r)→a≤9223372036854775807:=by
  intro b h
  cases k with
  | zero=>simp [aQ.j0] at h
  | succ k=>
   simp only [aQ.j0] at h;split at h
   · obtain⟨_,_,h⟩:=Option.bind_eq_some_iff.mp h;obtain⟨_,_,h⟩:=Option.bind_eq_some_iff.mp h;simp only [Option.some.injEq,Prod.mk.injEq] at h;omega
   · split at h
     · split at h
       · simp only [Option.some.injEq,Prod.mk.injEq] at h;have:=h.1;unfold wrap64 at this;omega
       · cases h
     · cases h
 split at h
 · obtain⟨_,_,h⟩:=Option.bind_eq_some_iff.mp h;exact j _ h
 · exact j _ h
theorem bT.calls (k:Nat) (g:Nat) (ad:ByteArray) (aa:Int) (ae:List ByteArray) (af:Int) (ag:Int) (r1:ByteArray) (r2:Int) (r3:List ByteArray) (r4:Int) (r5:Int) (w0 w:World) (hI:bL w0 w g ad aa ae af ag) (hB:Below w0.heap.size w0 w) (h:bT.f k ad aa ae af ag=some (r1,r2,r3,r4,r5)):
 Calls Tryz.prog 99 #[.pointer (some ⟨g,0,none⟩)] w fun e w'=>e=.returned (.tuple #[])∧bL w0 w' g r1 r2 r3 r4 r5∧Below w0.heap.size w0 w'∧bO w w' g:=by
 have ap:=Tryz.underlying124;have am:∀ (s:ByteArray) (W:World),Calls Tryz.prog 101 #[.string s] W fun e W'=>e=.returned (.int .i64 (s.size:Int))∧Drawn0 W W':=fun s W=>cC.calls s (s.size:Int) W rfl
 have ah:∀ (s:ByteArray) (W:World) (n:Nat),Calls Tryz.prog 101 #[.string s] (W.drewN n) fun e an=>e=.returned (.int .i64 (s.size:Int))∧∃ m,an=W.drewN m:=fun s W n=>Calls.quiet_of ((am s (W.drewN n)).mono fun e W' ⟨he,⟨m,hm⟩⟩=>⟨he,m,hm⟩)
 have o:=Zm hI;have HK:=Zm (bO.refl w g);have d:=Zm hB;clear hI hB;unfold bT.f at h;replace h:=cU h;obtain⟨⟨t,t1,t2,t3,t4,t5⟩,A1,h⟩:=h;dsimp only at h;have H:=Zm h;clear h;have HM:Aside0 (t≤9223372036854775807):=Zm (zH A1.out);obtain⟨v2,a,D,hr⟩:=o.out;have A:=iZ a;clear a hr v2;have P:=Zm D;clear D;go_enter Tryz.func99,Tryz.ntmps99;go_upto_if 15 with (first|((with_reducible refine gk_ 153 rfl ?_);refine gW (some 13) Tryz.func153 #[.pointer (some ⟨g,0,none⟩)] ?_;refine eV (aQ.calls _ g _ _ _ _ _ _ _ _ _ _ _ w0 _ bZ (bk d.out) A1.out) ?_;rintro e w2 ⟨rfl,r,a,j⟩;refine⟨_,rfl,?_⟩;replace HK:=Zm (bO.trans cA j);replace d:=Zm a;replace o:=Zm r;clear a j r;clear A));have h:=H.out;clear H;by_cases c1:t > 200
 case' pos=>
   rw [if_pos c1] at h;have ab:decide (200 < t)=true:=decide_eq_true c1;clear c1;rw [ab];replace h:=cU h;obtain⟨⟨z1,z2,z3,z4,z5⟩,A2,h⟩:=h;(try dsimp only at h);have H:=Zm h;clear h;go_wp2_with (first|((with_reducible refine gk_ 154 rfl ?_);refine gW (some 18) Tryz.func154 #[.pointer (some ⟨g,0,none⟩),.int .i64 5,.int .i64 aa] ?_;refine eV (aZ.calls g _ _ _ _ _ _ _ _ _ _ _ _ w0 _ bZ (bk d.out) A2.out) ?_;rintro e w3 ⟨rfl,r,a,j⟩;refine⟨_,rfl,?_⟩;replace HK:=Zm (bO.trans cA j);replace d:=Zm a;replace o:=Zm r;clear a j r))
 case' neg=>
   rw [if_neg c1] at h;have ab:decide (200 < t)=false:=decide_eq_false c1;clear c1;rw [ab];obtain⟨z1,e⟩:∃ u,u=t1:=⟨_,rfl⟩;subst e;obtain⟨z2,e⟩:∃ u,u=t2:=⟨_,rfl⟩;subst e;obtain⟨z3,e⟩:∃ u,u=t3:=⟨_,rfl⟩;subst e;obtain⟨z4,e⟩:∃ u,u=t4:=⟨_,rfl⟩;subst e;obtain⟨z5,e⟩:∃ u,u=t5:=⟨_,rfl⟩;subst e;have H:=Zm h;clear h;go_wp2
 all_goals
  go_loopg [4] (t.toNat+1) (fun kq v4 w'=>∃ (i:Int) (x0:ByteArray) (x1:Int) (x2:List ByteArray) (x3 T:Int),v4=.int .i64 i∧Aside0 (0≤i∧(t - i).toNat+1≤kq∧bT.l k (t - i).toNat t x0 x1 x2 x3 T=some (r1,r2,r3,r4,r5))∧Aside0 (bL w0 w' g x0 x1 x2 x3 T)∧Aside0 (bO w w' g)∧Aside0 (Below w0.heap.size w0 w'))
  case atStart=>exact⟨0,z1,z2,z3,z4,z5,rfl,⟨Int.le_refl _,by simp,by simpa using H.out⟩,o,HK,d⟩
  case round=>
   clear o HK d H;obtain⟨i,x0,x1,x2,x3,T,rfl,HX,o,HK,d⟩:=hrel
   cases gk with
   | zero=>exact absurd HX.out.2.1 (by omega)
   | succ k1=>
    obtain⟨ai,aj,c⟩:=HX.out;clear HX;obtain⟨v3,a,-,hr⟩:=o.out;by_cases c2:i < t;rotate_left
    · have ak:=decide_eq_false c2;rw [show (t - i).toNat=0 by omega] at c;simp only [bT.l,Option.some.injEq,Prod.mk.injEq] at c;obtain⟨rfl,rfl,rfl,rfl,rfl⟩:=c;have z:=iJ a;clear a hr;go_wp2;(first|go_end0|((try simp only [Exit.inBlock,Exit.then]);refine bodyPost_ret (results_none rfl _ _ _) rfl ?_));exact⟨rfl,o.out,d.out,HK.out⟩
    have ak:=decide_eq_true c2;obtain⟨n,U⟩:∃ n,(t - i).toNat=n+1:=⟨(t - i).toNat - 1,by omega⟩;rw [U] at c;simp only [bT.l] at c;by_cases c3:T=0;rotate_left
    · rw [if_neg c3] at c;simp only [Option.some.injEq,Prod.mk.injEq] at c;obtain⟨rfl,rfl,rfl,rfl,rfl⟩:=c;have aq:(T == 0)=false:=beq_eq_false_iff_ne.mpr c3;have z:=iJ a;clear a hr;go_wp2;(first|go_end0|((try simp only [Exit.inBlock,Exit.then]);refine bodyPost_ret (results_none rfl _ _ _) rfl ?_));exact⟨rfl,o.out,d.out,HK.out⟩
    rw [if_pos c3] at c;subst c3;replace c:=cU c;obtain⟨⟨y,v,p,y2,y3,y4⟩,A3,c⟩:=c;dsimp only at c;have E:=Zm c;clear c;have Y:=Zm U;have al:=Zm ai;have Z:=Zm aj;have HT_:=Zm c2;clear U ai aj c2;have A:=iZ a;have z:=iJ a;clear a hr v3;go_wp2_with (first|((with_reducible refine gk_ 153 rfl ?_);refine gW (some 36) Tryz.func153 #[.pointer (some ⟨g,0,none⟩)] ?_;refine eV (aQ.calls _ g _ _ _ _ _ _ _ _ _ _ _ w0 _ bZ (bk d.out) A3.out) ?_;rintro e w2 ⟨rfl,r,a,j⟩;refine⟨_,rfl,?_⟩;replace HK:=Zm (bO.trans cA j);replace d:=Zm a;replace o:=Zm r;clear a j r;clear A z;obtain⟨v4,a,-,hr⟩:=o.out;have K:=mH a;have A:=iZ a;have G:=kG a;have z:=iJ a;have L:=Zkf a 1;have B:=Zm a;have x:=Zm hr;clear a hr));clear ak;have c:=E.out;clear E;by_cases c4:y4=0;rotate_left
    · rw [if_neg c4] at c;simp only [Option.some.injEq,Prod.mk.injEq] at c;obtain⟨rfl,rfl,rfl,rfl,rfl⟩:=c;have ar:(y4 == 0)=false:=beq_eq_false_iff_ne.mpr c4;have au:(y4 != 0)=true:=bne_iff_ne.mpr c4;go_quiet (fail);go_wp2;(first|go_end0|((try simp only [Exit.inBlock,Exit.then]);refine bodyPost_ret (results_none rfl _ _ _) rfl ?_));exact⟨rfl,bZ,bk d.out,cA⟩
    rw [if_pos c4] at c;subst c4;by_cases c5:(v.size:Int) < wrap64 (p+y)
    · rw [if_pos c5] at c;have ao:decide ((v.size:Int) < wrap64 (p+y))=true:=decide_eq_true c5;have A4:=Zm c;simp only [aZ.f,↓reduceIte,Option.some.injEq,Prod.mk.injEq] at c;obtain⟨rfl,rfl,rfl,rfl,rfl⟩:=c;go_quiet ((go_at_call 101;exact ah _ _ _));go_wp2_with (first|((with_reducible refine gk_ 101 rfl ?_);refine gW (some 61) Tryz.func101 #[.string v] ?_;refine eV (cC.calls _ _ _ rfl) ?_;rintro e w5 ⟨rfl,⟨nd,rfl⟩⟩;refine⟨_,rfl,?_⟩)|((with_reducible refine gk_ 154 rfl ?_);refine gW (some 62) Tryz.func154 #[.pointer (some ⟨g,0,none⟩),.int .i64 4,.int .i64 (v.size:Int)] ?_;refine eV (aZ.calls g _ _ _ _ _ _ _ _ _ _ _ _ w0 _ bZ (bk d.out) A4.out) ?_;rintro e w3 ⟨rfl,r,a,j⟩;refine⟨_,rfl,?_⟩;replace HK:=Zm (bO.trans cA j);replace d:=Zm a;replace o:=Zm r;clear a j r;clear K A G z L B x;obtain⟨X,a,-,hr⟩:=o.out;have z:=iJ a;clear a hr));(first|go_end0|((try simp only [Exit.inBlock,Exit.then]);refine bodyPost_ret (results_none rfl _ _ _) rfl ?_));exact⟨rfl,o.out,d.out,HK.out⟩
    rw [if_neg c5] at c;have ao:decide ((v.size:Int) < wrap64 (p+y))=false:=decide_eq_false c5;replace c:=jQ c;obtain⟨c6,c⟩:=c;replace c:=jQ c;obtain⟨c7,c⟩:=c;have av:=eq_true c6;have aw:=decide_eq_true c6;have ax:=eq_true c7;have ay:=decide_eq_true c7;have c8:wrap64 (p+y)≤(v.size:Int):=by omega
    have az:=eq_true c8;have aR:=decide_eq_true c8;clear c5;replace c:=cU c;obtain⟨b,A4,c⟩:=c;replace c:=jQ c;obtain⟨c9,c⟩:=c;have HN:=Zm c9;have E:=Zm c;clear c9 c;go_quiet ((go_at_call 101;exact ah _ _ _));go_wp2;go_quiet (fail);go_upto_if 93 with (first|((with_reducible refine gk_ 155 rfl ?_);refine gW (some 92) Tryz.func155 #[.string (v.extract p.toNat (wrap64 (p+y)).toNat)] ?_;refine eV (cN.calls _ _ _ _ A4.out) ?_;rintro e w6 ⟨rfl,⟨nd,hw⟩⟩;refine⟨_,rfl,?_⟩;replace o:=Zm (bL.at_ hw.symm (by exact bZ:bL w0 _ g v (wrap64 (p+y)) y2 y3 0));replace d:=Zm (show Below w0.heap.size w0 w6 from hw ▸ Zbn (Zbs (bk d.out) P.out) nd);replace HK:=Zm (show bO w w6 g from hw ▸ cA);clear hw K A G z L B x;obtain⟨X,a,-,hr⟩:=o.out;have K:=mH a;have A:=iZ a;have G:=kG a;have z:=iJ a;have L:=Zkf a 1;have B:=Zm a;have x:=Zm hr;clear a hr));have c:=E.out;clear E
    cases b with
    | true =>
      simp only [↓reduceIte] at c;obtain⟨q,hq⟩:∃ q,q=y2++[(v.extract p.toNat (wrap64 (p+y)).toNat)]:=⟨_,rfl⟩;rw [← hq] at c;have NQ:=Zm hq;have E:=Zm c;clear c hq;go_wp2_with (first|(at_builtin;refine Kd.R_append Kd.string (w0:=w0) w0.heap.size rfl (.tmp 101) (.tmp 103) 74 9 (.string ⟨#[]⟩) 16 rfl Tryz.underlying74 info9 rfl (by decide) (by omega) X y2 (v.extract p.toNat (wrap64 (p+y)).toNat) [.string (v.extract p.toNat (wrap64 (p+y)).toNat)] (fun k=>k≠g) (fun _=>False) rfl rfl ?aP (fun _ j=>j.elim) ?aF ?aO ?aB ?aS ?aL ?_;(case aP=>exact rfl);(case aF=>exact fun k j e_=>by have:=blk_lt B.out;omega);(case aO=>exact x.out);(case aB=>exact bk d.out);(case aS=>exact(bk d.out:Below w0.heap.size w0 _).size);(case aL=>have:=HN.out;omega);intro a1 w7 I a D ac;rw [← NQ.out] at I;obtain⟨Ao,co,eo⟩:=Kd.R_slice I;subst eo;obtain⟨J,O⟩:=bL.app B.out P.out x.out I D;replace o:=Zm O;replace HK:=Zm (bO.set_ (bO.grown cA D (fun k j=>⟨9,by decide,Kd.R_typed x.out k j⟩)) 2 (.slice Ao q.length co));replace d:=Zm (show Below w0.heap.size w0 (w7.setCell ⟨g,2,none⟩ (.slice Ao q.length co)) from Zbs a P.out);clear I a D ac O K A G z L;have G:=kG J;have g2:=Zkf J 2;clear J B x));go_roundg k1
      case measure=>have:=Y.out;have:=Z.out;omega
      case rel=>
       have U:=Y.out;have r:=al.out;have hj:=Z.out;have ht:=HT_.out;have hm:=HM.out;have M:wrap64 (i+1)=i+1:=by unfold wrap64;omega
       exact⟨wrap64 (i+1),_,_,_,_,_,rfl,⟨by rw [M];omega,by rw [M];omega,by rw [M,show (t - (i+1)).toNat=n by omega];exact E.out⟩,o,HK,d⟩
    | false =>
      simp only [Bool.false_eq_true,↓reduceIte] at c;replace c:=cU c;obtain⟨⟨p0,p1,p2,p3,p4⟩,A5,c⟩:=c;(try dsimp only at c);obtain rfl:p2=y2:=by have h:=A5.out;simp only [aZ.f] at h;split at h <;> (simp only [Option.some.injEq,Prod.mk.injEq] at h;exact h.2.2.1.symm)
      obtain⟨q,hq⟩:∃ q,q=p2++[(v.extract p.toNat (wrap64 (p+y)).toNat)]:=⟨_,rfl⟩;rw [← hq] at c;have NQ:=Zm hq;have E:=Zm c;clear c hq;go_wp2_with (first|((with_reducible refine gk_ 154 rfl ?_);refine gW (some 96) Tryz.func154 #[.pointer (some ⟨g,0,none⟩),.int .i64 3,.int .i64 x1] ?_;refine eV (aZ.calls g _ _ _ _ _ _ _ _ _ _ _ _ w0 _ bZ (bk d.out) A5.out) ?_;rintro e w3 ⟨rfl,r,a,j⟩;refine⟨_,rfl,?_⟩;replace HK:=Zm (bO.trans cA j);replace d:=Zm a;replace o:=Zm r;clear a j r;clear K A G z L B x X;obtain⟨X,a,-,hr⟩:=o.out;have K:=mH a;have A:=iZ a;have G:=kG a;have z:=iJ a;have L:=Zkf a 1;have B:=Zm a;have x:=Zm hr;clear a hr)|(at_builtin;refine Kd.R_append Kd.string (w0:=w0) w0.heap.size rfl (.tmp 101) (.tmp 103) 74 9 (.string ⟨#[]⟩) 16 rfl Tryz.underlying74 info9 rfl (by decide) (by omega) X p2 (v.extract p.toNat (wrap64 (p+y)).toNat) [.string (v.extract p.toNat (wrap64 (p+y)).toNat)] (fun k=>k≠g) (fun _=>False) rfl rfl ?aP (fun _ j=>j.elim) ?aF ?aO ?aB ?aS ?aL ?_;(case aP=>exact rfl);(case aF=>exact fun k j e_=>by have:=blk_lt B.out;omega);(case aO=>exact x.out);(case aB=>exact bk d.out);(case aS=>exact(bk d.out:Below w0.heap.size w0 _).size);(case aL=>have:=HN.out;omega);intro a1 w7 I a D ac;rw [← NQ.out] at I;obtain⟨Ao,co,eo⟩:=Kd.R_slice I;subst eo;obtain⟨J,O⟩:=bL.app B.out P.out x.out I D;replace o:=Zm O;replace HK:=Zm (bO.set_ (bO.grown cA D (fun k j=>⟨9,by decide,Kd.R_typed x.out k j⟩)) 2 (.slice Ao q.length co));replace d:=Zm (show Below w0.heap.size w0 (w7.setCell ⟨g,2,none⟩ (.slice Ao q.length co)) from Zbs a P.out);clear I a D ac O K A G z L;have G:=kG J;have g2:=Zkf J 2;clear J B x));go_roundg k1
      case measure=>have:=Y.out;have:=Z.out;omega
      case rel=>
       have U:=Y.out;have r:=al.out;have hj:=Z.out;have ht:=HT_.out;have hm:=HM.out;have M:wrap64 (i+1)=i+1:=by unfold wrap64;omega
       exact⟨wrap64 (i+1),_,_,_,_,_,rfl,⟨by rw [M];omega,by rw [M];omega,by rw [M,show (t - (i+1)).toNat=n by omega];exact E.out⟩,o,HK,d⟩
def gG.f (l0:List ByteArray):Option (Int):=some (l0.length:Int)
theorem gG.calls (c:Option Addr) (d:Nat) (l0:List ByteArray) (r:Int) (w:World) (a:Kd.C Kd.string w c l0.length l0) (b:l0.length≤d) (h:gG.f l0=some r):
 Calls Tryz.prog 164 #[.slice c l0.length d] w fun e w'=>e=.returned (.int .i64 r)∧Drawn0 w w':=by
 have i:=Zm a;have j:=Zm b;clear a b;have H:=h;clear h;unfold gG.f at H;obtain rfl:=Option.some.inj H;go_enter Tryz.func164,Tryz.ntmps164;go_wp2;go_ret;exact jH
def bM.f (k:Nat) (b:ByteArray) (a:Int) (c:List ByteArray) (d:Int) (e:Int):Option (ByteArray×ByteArray×Int×List ByteArray×Int×Int):=(aQ.f k b a c d e).bind fun t=>if t.1 ≥ (t.2.2.2.1.length:Int) then ((aZ.f t.2.1 t.2.2.1 t.2.2.2.1 t.2.2.2.2.1 t.2.2.2.2.2 5 a).bind fun u=>some ((⟨#[]⟩:ByteArray),u)) else if 0≤t.1 then some (rdOf ByteArray.empty t.2.2.2.1 t.1,t.2) else none
theorem bM.calls (k:Nat) (g:Nat) (s:ByteArray) (o:Int) (t:List ByteArray) (u:Int) (v:Int) (r1:ByteArray) (x:ByteArray) (y:Int) (r4:List ByteArray) (z:Int) (A:Int) (w0 w:World) (B:bL w0 w g s o t u v) (D:Below w0.heap.size w0 w) (h:bM.f k s o t u v=some (r1,x,y,r4,z,A)):
 Calls Tryz.prog 156 #[.pointer (some ⟨g,0,none⟩)] w fun e w'=>e=.returned (.string r1)∧bL w0 w' g x y r4 z A∧Below w0.heap.size w0 w'∧bO w w' g:=by
 have J:=Tryz.underlying124;have i:=Zm B;have HK:=Zm (bO.refl w g);have c:=Zm D;clear B D;unfold bM.f at h;replace h:=cU h;obtain⟨⟨d,L,M,b,O,P⟩,E,h⟩:=h;dsimp only at h;have H:=Zm h;clear h;obtain⟨G,a,hg,hr⟩:=i.out;have q:=iZ a;clear a hr;go_enter Tryz.func156,Tryz.ntmps156;go_upto_if 17 with (first|((with_reducible refine gk_ 153 rfl ?_);refine gW (some 10) Tryz.func153 #[.pointer (some ⟨g,0,none⟩)] ?_;refine eV (aQ.calls _ g _ _ _ _ _ _ _ _ _ _ _ w0 _ bZ (bk c.out) E.out) ?_;rintro e T ⟨rfl,j,a,m⟩;refine⟨_,rfl,?_⟩;replace HK:=Zm (bO.trans cA m);replace c:=Zm a;replace i:=Zm j;clear a m j;clear q hg;obtain⟨G,a,hg,hr⟩:=i.out;obtain⟨Ap,cp,ep⟩:=Kd.R_slice hr;subst ep;have q:=kG a;have n:=Zm hr;clear a hr)|((with_reducible refine gk_ 164 rfl ?_);refine gW (some 16) Tryz.func164 #[.slice Ap b.length cp] ?_;refine eV (gG.calls _ _ b (b.length:Int) _ (Kd.R_reads' n.out).2.2 (Kd.R_reads' n.out).2.1 rfl) ?_;rintro e w' ⟨rfl,⟨U,rfl⟩⟩;refine⟨_,rfl,?_⟩));have h:=H.out;clear H;by_cases c1:d ≥ (b.length:Int)
 · rw [if_pos c1] at h;have p:decide ((b.length:Int)≤d)=true:=decide_eq_true c1;clear c1;rw [p];replace h:=cU h;obtain⟨⟨u1,u2,u3,u4,u5⟩,I,h⟩:=h;simp only [Option.some.injEq,Prod.mk.injEq] at h;obtain⟨rfl,rfl,rfl,rfl,rfl,rfl⟩:=h;go_wp2_with (first|((with_reducible refine gk_ 154 rfl ?_);refine gW (some 20) Tryz.func154 #[.pointer (some ⟨g,0,none⟩),.int .i64 5,.int .i64 o] ?_;refine eV (aZ.calls g _ _ _ _ _ _ _ _ _ _ _ _ w0 _ bZ (bk c.out) I.out) ?_;rintro e W ⟨rfl,j,a,m⟩;refine⟨_,rfl,?_⟩;replace HK:=Zm (bO.trans cA m);replace c:=Zm a;replace i:=Zm j;clear a m j q n));go_ret;exact⟨rfl,i.out,c.out,HK.out⟩
 rw [if_neg c1] at h;have p:decide ((b.length:Int)≤d)=false:=decide_eq_false c1;rw [p];by_cases c2:0≤d;rotate_left
 · rw [if_neg c2] at h;cases h
 rw [if_pos c2] at h;simp only [Option.some.injEq,Prod.mk.injEq] at h;obtain⟨rfl,rfl,rfl,rfl,rfl,rfl⟩:=h;have r:d < (b.length:Int):=by omega
 obtain⟨ad,eA,K⟩:=Kd.at_string (Kd.R_reads' n.out).2.2 d c2 r;cases eA;have X:=eq_true c2;have Y:=eq_true r;clear c1 c2 r;go_wp2;go_ret;exact⟨rfl,bZ,bk c.out,cA⟩
end Go.Proofs.YtkbebmifpccofaaGreat.PFnExactClassRead
