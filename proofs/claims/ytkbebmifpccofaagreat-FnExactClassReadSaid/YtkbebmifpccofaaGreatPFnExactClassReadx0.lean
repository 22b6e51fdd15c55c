/- Functions of the program as plain Lean functions, each with its proof; no condition. -/
import Derived.Test.YtkbebmifpccofaaGreatProg
import Derived.Below
import Derived.Deep.Draws
import Derived.Deep.AppendLies
import Derived.Maps.AppendAt
import Derived.OwnWalk
import Derived.Laws.BytesArg
import Derived.Laws.MakeOwn
import Derived.Laws.OwnMore
import Derived.Deep.OwnRows
import Derived.Tactics
import Derived.Lib.ConvBytes
import Derived.Laws.Slices
import Derived.WalkKit
import Derived.KernelRfl
import Derived.RowKit3
import Derived.Deep.LoopGhost
import Derived.Deep.QuietTactic
import Derived.BigQuiet
import Derived.WideLaws
import Derived.Deep.DeepCutAuto
import Derived.Deep.CutBlock
import Derived.Deep.RegionHeld3
import Derived.Laws.Rows
import Derived.Lib.AppendStr
import Derived.ArgAppend
import Derived.Laws.IdiomCopy
import Derived.OrdersHeld
import Derived.Laws.BitsLemmas
import Derived.RowKit
import Derived.BigRegion
import Derived.RegionTactic
import Derived.ChangeAlike
import Derived.Test.YtkbebmifpccofaaGreatVFnExactClassReadShelf
import Derived.Test.YtkbebmifpccofaaGreatVFnExactClassReadWords
import Derived.Test.YtkbebmifpccofaaGreatVFnExactClassReadLast
import Derived.Test.YtkbebmifpccofaaGreatVFnExactClassReadTab
import Derived.Test.YtkbebmifpccofaaGreatVFnExactClassReadApart
import Derived.Test.YtkbebmifpccofaaGreatVFnExactClassReadFoot
import Derived.Test.YtkbebmifpccofaaGreatVFnExactClassReadKept
import Derived.Test.YtkbebmifpccofaaGreatVFnExactClassReadShare
import Derived.Test.YtkbebmifpccofaaGreatVFnExactClassReadN
import Derived.Test.YtkbebmifpccofaaGreatVFnExactClassReadRepsOne
import Derived.Test.YtkbebmifpccofaaGreatVFnExactClassReadInv
import Derived.Test.YtkbebmifpccofaaGreatVFnExactClassReadInvWords
import Derived.Test.YtkbebmifpccofaaGreatVFnExactClassReadGuard
import Derived.Test.YtkbebmifpccofaaGreatVFnExactClassReadMore
namespace Go.Proofs.YtkbebmifpccofaaGreat.PFnExactClassRead
open Go.RowKit Go.Proofs.YtkbebmifpccofaaGreatW.PrintWords Go.Proofs.YtkbebmifpccofaaGreatW.PrintLast Go.Proofs.YtkbebmifpccofaaGreatW.PrintMore
open Go.Proofs.YtkbebmifpccofaaGreatW.PrintWords renaming below_alloc→Zba,pw_below_drewN→Zbn,below_drew1→Zbd,blk_drewN→Zkn,blk_drew→Zkd,blk_alloc→Zka,blk_cell→Zkc,blk_far→Zkr
attribute [local go_sem] max2_int min2_int max_two min_two max_three min_three max_four min_four
set_option linter.unusedVariables false
set_option linter.unusedSimpArgs false
def zP:Option Int→Value
  | none=>.nilIface
  | some c=>.iface 0 (.int .i64 c)
theorem fW:zP none=.nilIface:=rfl
theorem fX (c:Int):zP (some c)=.iface 0 (.int .i64 c):=rfl
structure Pl (W W':World):Prop where
  blk:∀ {g:Nat} {o:Obj},W.heap[g]?=some o→W'.heap[g]?=some o
  bel:∀ {w:World},Below w.heap.size w W→Below w.heap.size w W'
  cc:∀ {α:Type} {d:Kd α} {A:Option Addr} {n:Nat} {xs:List α},d.C W A n xs→d.C W' A n xs
  rr:∀ {α:Type} {d:Kd α} {e base:Nat} {ok:Nat→Prop} {v:Value} {xs:List α},Kd.R d e W base ok v xs→Kd.R d e W' base ok v xs
  ss:∀ {α:Type} {d:Kd α} {e base:Nat} {ok:Nat→Prop} {v:Value} {xs:List α},Kd.S d e W base ok v xs→Kd.S d e W' base ok v xs
instance aAj (W:World):Nonempty (Pl W W):=⟨⟨fun h=>h,fun h=>h,fun h=>h,fun h=>h,fun h=>h⟩⟩
instance aAm (W W':World) (n:Nat) [h:Nonempty (Pl W W')]:Nonempty (Pl W (W'.drewN n)):=h.elim fun p=>⟨⟨fun x=>Zkn (p.blk x) n,fun x=>Zbn (p.bel x) n,fun x=>Kd.C_drewN (p.cc x) n,fun x=>Kd.R_drewN (p.rr x) n,fun x=>Kd.S_drewN (p.ss x) n⟩⟩
instance aAl (W W':World) [h:Nonempty (Pl W W')]:Nonempty (Pl W W'.drew):=h.elim fun p=>⟨⟨fun x=>Zkd (p.blk x),fun x=>Zbd (p.bel x),fun x=>Kd.C_drew (p.cc x),fun x=>Kd.R_drew (p.rr x),fun x=>Kd.S_drew (p.ss x)⟩⟩
instance aAk (W W':World) (o:Obj) [h:Nonempty (Pl W W')]:Nonempty (Pl W (W'.alloc o)):=h.elim fun p=>⟨⟨fun x=>Zka (p.blk x) o,fun x=>Zba (p.bel x) o,fun x=>Kd.C_alloc (p.cc x) o,fun x=>Kd.R_alloc (p.rr x) o,fun x=>Kd.S_alloc (p.ss x) o⟩⟩
theorem pk {W W':World} [h:Nonempty (Pl W W')] {g:Nat} {o:Obj} (x:W.heap[g]?=some o):W'.heap[g]?=some o:=h.elim fun p=>p.blk x
theorem bk {W W':World} [h:Nonempty (Pl W W')] {w:World} (x:Below w.heap.size w W):Below w.heap.size w W':=h.elim fun p=>p.bel x
theorem zf_ {w:World} {g:Nat} {t:TypeId} {cs:Array Value} {p:Addr} {u:Value} (zq_:Aside0 (g≠p.block)) (h:w.heap[g]?=some (.cells cs t (0,0))):(w.setCell p u).heap[g]?=some (.cells cs t (0,0)):=Zkr h zq_.out u
theorem zs_ {w:World} {g i:Nat} {u:Value} {t:TypeId} {cs:Array Value} (h:w.heap[g]?=some (.cells cs t (0,0))):(w.setCell ⟨g,i,none⟩ u).heap[g]?=some (.cells (cs.setIfInBounds i u) t (0,0)):=blk_set h i u
theorem eY {W:World} {g:Nat} {cs cs':Array Value} {t:TypeId} (h:W.heap[g]?=some (.cells cs t (0,0)):=by (with_reducible repeat (first|apply Go.Proofs.YtkbebmifpccofaaGreat.PFnExactClassRead.zs_|apply Go.Proofs.YtkbebmifpccofaaGreatW.PrintWords.blk_drewN|apply Go.Proofs.YtkbebmifpccofaaGreatW.PrintWords.blk_drew|apply Go.Proofs.YtkbebmifpccofaaGreatW.PrintWords.blk_alloc|(apply Go.Proofs.YtkbebmifpccofaaGreat.PFnExactClassRead.zf_;assumption)));with_reducible (apply Go.Proofs.YtkbebmifpccofaaGreatW.PrintWords.Aside0.out;assumption)) (e:cs=cs':=by first|rfl|(simp only [List.drop_one];rfl)):W.heap[g]?=some (.cells cs' t (0,0)):=e ▸ h
theorem hU {w W:World} (h:Below w.heap.size w W:=by repeat (first|(with_reducible first|(refine Go.Proofs.YtkbebmifpccofaaGreatW.PrintWords.Aside0.out ?_;assumption)|apply Go.Proofs.YtkbebmifpccofaaGreatW.PrintWords.below_alloc|apply Go.Proofs.YtkbebmifpccofaaGreatW.PrintWords.pw_below_drewN|apply Go.Proofs.YtkbebmifpccofaaGreatW.PrintWords.below_drew1|refine Go.Proofs.YtkbebmifpccofaaGreatW.PrintWords.below_set ?_ (Go.Proofs.YtkbebmifpccofaaGreatW.PrintWords.Aside0.out (by assumption)))|(refine Go.Proofs.YtkbebmifpccofaaGreatW.PrintWords.Aside0.out ?_;assumption))):Below w.heap.size w W:=h
theorem gk_ {P:Program} {ops:Array Oper} {rest:List Oper} {o:Oper} {a:Act} {Q:Exit→Act→World→Prop} {W:World} (f:FuncId) {as_:Array Operand} {ts:Array TypeId} (_ho:o.op=.call { callee:=.value (.func f),args:=as_,argTypes:=ts }) (h:wpList P ops Q (o :: rest) a W):wpList P ops Q (o :: rest) a W:=h
theorem gd_ {P:Program} {ops:Array Oper} {rest:List Oper} {o:Oper} {a:Act} {Q:Exit→Act→World→Prop} {W:World} (N:Tmp) (_hN:o.dst=some N) (h:wpList P ops Q (o :: rest) a W):wpList P ops Q (o :: rest) a W:=h
theorem lP {w0 w:World} {gb:Nat} (h:Aside0 (w0.heap.size≤w.heap.size)) (k:Aside0 (w.heap.size≤gb)):Aside0 (w0.heap.size≤gb):=⟨Nat.le_trans h.out k.out⟩
theorem pU {α:Type} {a b:α} (h:Aside0 (a≠b)):Aside0 (b≠a):=⟨h.out.symm⟩
theorem lQ {W w1:World} (g':Nat) (cs:Array Value) (t:TypeId) (hb:Below W.heap.size W w1) (h:W.heap[g']?=some (.cells cs t (0,0)):=by exact eY):Aside0 (w1.heap[g']?=some (.cells cs t (0,0))):=⟨Go.Proofs.YtkbebmifpccofaaGreatW.PrintWords.blk_below h hb⟩
theorem dK {α:Type} {a b:α} (h:Aside0 (a≠b)):a≠b∧b≠a:=⟨h.out,h.out.symm⟩
theorem jI {W0 W:World} {α:Type} {d:Kd α} {e base:Nat} {ok0 ok:Nat→Prop} {v:Value} {xs:List α} (_ho:Aside0 (Kd.R d e W0 base ok0 v xs)) (h:Kd.R d e W base ok0 v xs:=by repeat (first|(with_reducible first|(refine Go.Proofs.YtkbebmifpccofaaGreatW.PrintWords.Aside0.out ?_;assumption)|apply Go.Proofs.YtkbebmifpccofaaGreatW.PrintWords.Kd.R_alloc|apply Go.Proofs.YtkbebmifpccofaaGreatW.PrintWords.Kd.R_drewN|apply Go.Proofs.YtkbebmifpccofaaGreatW.PrintWords.Kd.R_drew)|refine Go.Proofs.YtkbebmifpccofaaGreatW.PrintWords.Kd.R_set ?_ eY (by decide) _ _)) (hk:∀ k,ok0 k→ok k:=by first|exact fun _ h=>h|exact fun _ _=>trivial|exact fun _ h=>h.1):Kd.R d e W base ok v xs:=Go.Proofs.YtkbebmifpccofaaGreatW.PrintWords.Kd.R_mono h hk
theorem rL {W0 W:World} {α:Type} {d:Kd α} {e base:Nat} {ok0 ok:Nat→Prop} {v:Value} {xs:List α} (_ho:Aside0 (Kd.S d e W0 base ok0 v xs)) (h:Kd.S d e W base ok0 v xs:=by repeat (first|(with_reducible first|(refine Go.Proofs.YtkbebmifpccofaaGreatW.PrintWords.Aside0.out ?_;assumption)|apply Go.Proofs.YtkbebmifpccofaaGreatW.PrintWords.Kd.S_alloc|apply Go.Proofs.YtkbebmifpccofaaGreatW.PrintWords.Kd.S_drewN|apply Go.Proofs.YtkbebmifpccofaaGreatW.PrintWords.Kd.S_drew)|refine Go.Proofs.YtkbebmifpccofaaGreatW.PrintWords.Kd.S_set ?_ eY (by decide) _ _)) (hk:∀ k,ok0 k→ok k:=by first|exact fun _ h=>h|exact fun _ _=>trivial|exact fun _ h=>h.1):Kd.S d e W base ok v xs:=Go.Proofs.YtkbebmifpccofaaGreatW.PrintWords.Kd.S_mono h hk
theorem bU {P:Prop} {w W W':World} [Nonempty (Pl W W')] (hb:Aside0 (Below w.heap.size w W)) (h:P:=by first|rfl|(simp [*] <;> rfl)):P∧Below w.heap.size w W':=⟨h,bk hb.out⟩
theorem sP {w:World} {k e g j:Nat} {u:Value} (h:∃ cells,w.heap[k]?=some (.cells cells e (0,0))):∃ cells,(w.setCell ⟨g,j,none⟩ u).heap[k]?=some (.cells cells e (0,0)):=by
  obtain⟨c,h⟩:=h
  by_cases q:k=g
  · subst q;exact⟨_,Go.Proofs.YtkbebmifpccofaaGreatW.PrintWords.blk_set h j u⟩
  · exact⟨c,Go.Proofs.YtkbebmifpccofaaGreatW.PrintWords.blk_far h q u⟩
theorem sO {w:World} {k e n:Nat} (h:∃ cells,w.heap[k]?=some (.cells cells e (0,0))):∃ cells,(w.drewN n).heap[k]?=some (.cells cells e (0,0)):=h
theorem gW {P:Program} {ops:Array Oper} {Q:Exit→Act→World→Prop} {rest:List Oper} {oi:Oper} {a:Act} {w:World} (N:Option Tmp) {f:FuncId} {fn:Func} {as_:Array Operand} {ts:Array TypeId} (hf:P.funcs[f]?=some fn) (args:Array Value)
    (h:Calls P f args w fun e w'=>∃ v,e=.returned v∧wpList P ops Q rest (a.put N v) w') (hd:oi.dst=N:=by rfl) (hg:oi.guard=none:=by rfl) (hname:(fn.name == "runtime.NumGoroutine")=false:=by kernel_rfl) (hb:fn.body.isSome=true:=by rfl)
    (hop:oi.op=.call { callee:=.value (.func f),args:=as_,argTypes:=ts }:=by rfl) (hargs:as_.map a.eval=args:=by (try simp only [List.map_toArray,List.map_cons,List.map_nil]);first|done|rfl|(simp only [List.length_drop,List.length_take];rfl)):wpList P ops Q (oi :: rest) a w:=
  goesL_ N hd hg hf hname hb args hop hargs h
theorem dE {w W:World} {b:Nat} {p:Addr} {v:Value} (hb:Aside0 (Below b w W)) (h:w.cell? p=some v) (hl:p.block < b):W.cell? p=some v:=(hb.out.cell hl).trans h
theorem zJ {l:List UInt8} {b:Bool} (h:(l == ([]:List UInt8))=b):l.isEmpty=b:=by cases l <;> exact h
theorem pX {α:Type} [BEq α] {a b:α} {c:Bool} (h:(a != b)=c):(!(a == b))=c:=h
theorem pc {W W':World} [h:Nonempty (Pl W W')] {α:Type} {d:Kd α} {A:Option Addr} {n:Nat} {xs:List α} (x:d.C W A n xs):d.C W' A n xs:=h.elim fun p=>p.cc x
theorem pS {W:World} {g:Nat} {v0 v1:Value} {t:TypeId} (h:W.heap[g]?=some (.cells #[v0,v1] t (0,0))):W.cell? ⟨g,0,none⟩=some v0∧W.cell? ⟨g,1,none⟩=some v1:=⟨(Zkc h 0).trans rfl,(Zkc h 1).trans rfl⟩
theorem sU {W:World} {g:Nat} {v0 v1:Value} {t:TypeId} (h:W.heap[g]?=some (.cells #[v0,v1] t (0,0))):W.cell? ⟨g,0,none⟩=some v0∧W.cell? ⟨g,1,none⟩=some v1∧W.frozen? ⟨g,0,none⟩=false∧W.frozen? ⟨g,1,none⟩=false:=by
  obtain⟨h0,h1⟩:=pS h
  exact⟨h0,h1,(by simp [World.frozen?,h]),(by simp [World.frozen?,h])⟩
theorem yF {W:World} {g:Nat} {v0 v1 v2:Value} {t:TypeId} (h:W.heap[g]?=some (.cells #[v0,v1,v2] t (0,0))):W.cell? ⟨g,0,none⟩=some v0∧W.cell? ⟨g,1,none⟩=some v1∧W.cell? ⟨g,2,none⟩=some v2:=⟨(Zkc h 0).trans rfl,(Zkc h 1).trans rfl,(Zkc h 2).trans rfl⟩
theorem cf3 {W:World} {g:Nat} {v0 v1 v2:Value} {t:TypeId} (h:W.heap[g]?=some (.cells #[v0,v1,v2] t (0,0))):W.cell? ⟨g,0,none⟩=some v0∧W.cell? ⟨g,1,none⟩=some v1∧W.cell? ⟨g,2,none⟩=some v2∧W.frozen? ⟨g,0,none⟩=false∧W.frozen? ⟨g,1,none⟩=false∧W.frozen? ⟨g,2,none⟩=false:=by
  obtain⟨h0,h1,h2⟩:=yF h
  exact⟨h0,h1,h2,(by simp [World.frozen?,h]),(by simp [World.frozen?,h]),(by simp [World.frozen?,h])⟩
theorem pT {W:World} {g:Nat} {v0 v1 v2 v3:Value} {t:TypeId} (h:W.heap[g]?=some (.cells #[v0,v1,v2,v3] t (0,0))):W.cell? ⟨g,0,none⟩=some v0∧W.cell? ⟨g,1,none⟩=some v1∧W.cell? ⟨g,2,none⟩=some v2∧W.cell? ⟨g,3,none⟩=some v3:=⟨(Zkc h 0).trans rfl,(Zkc h 1).trans rfl,(Zkc h 2).trans rfl,(Zkc h 3).trans rfl⟩
theorem lA {W:World} {g:Nat} {v0 v1 v2 v3:Value} {t:TypeId} (h:W.heap[g]?=some (.cells #[v0,v1,v2,v3] t (0,0))):W.cell? ⟨g,0,none⟩=some v0∧W.cell? ⟨g,1,none⟩=some v1∧W.cell? ⟨g,2,none⟩=some v2∧W.cell? ⟨g,3,none⟩=some v3∧W.frozen? ⟨g,0,none⟩=false∧W.frozen? ⟨g,1,none⟩=false∧W.frozen? ⟨g,2,none⟩=false∧W.frozen? ⟨g,3,none⟩=false:=by
  obtain⟨h0,h1,h2,h3⟩:=pT h
  exact⟨h0,h1,h2,h3,(by simp [World.frozen?,h]),(by simp [World.frozen?,h]),(by simp [World.frozen?,h]),(by simp [World.frozen?,h])⟩
theorem hY {W:World} {g:Nat} {v0 v1 v2 v3 v4:Value} {t:TypeId} (h:W.heap[g]?=some (.cells #[v0,v1,v2,v3,v4] t (0,0))):W.cell? ⟨g,0,none⟩=some v0∧W.cell? ⟨g,1,none⟩=some v1∧W.cell? ⟨g,2,none⟩=some v2∧W.cell? ⟨g,3,none⟩=some v3∧W.cell? ⟨g,4,none⟩=some v4:=⟨(Zkc h 0).trans rfl,(Zkc h 1).trans rfl,(Zkc h 2).trans rfl,(Zkc h 3).trans rfl,(Zkc h 4).trans rfl⟩
theorem jT {W:World} {g:Nat} {v0 v1 v2 v3 v4:Value} {t:TypeId} (h:W.heap[g]?=some (.cells #[v0,v1,v2,v3,v4] t (0,0))):W.cell? ⟨g,0,none⟩=some v0∧W.cell? ⟨g,1,none⟩=some v1∧W.cell? ⟨g,2,none⟩=some v2∧W.cell? ⟨g,3,none⟩=some v3∧W.cell? ⟨g,4,none⟩=some v4∧W.frozen? ⟨g,0,none⟩=false∧W.frozen? ⟨g,1,none⟩=false∧W.frozen? ⟨g,2,none⟩=false∧W.frozen? ⟨g,3,none⟩=false∧W.frozen? ⟨g,4,none⟩=false:=by
  obtain⟨h0,h1,h2,h3,h4⟩:=hY h
  exact⟨h0,h1,h2,h3,h4,(by simp [World.frozen?,h]),(by simp [World.frozen?,h]),(by simp [World.frozen?,h]),(by simp [World.frozen?,h]),(by simp [World.frozen?,h])⟩
theorem jJ {W:World} {g:Nat} {v0 v1 v2 v3 v4 v5:Value} {t:TypeId} (h:W.heap[g]?=some (.cells #[v0,v1,v2,v3,v4,v5] t (0,0))):W.cell? ⟨g,0,none⟩=some v0∧W.cell? ⟨g,1,none⟩=some v1∧W.cell? ⟨g,2,none⟩=some v2∧W.cell? ⟨g,3,none⟩=some v3∧W.cell? ⟨g,4,none⟩=some v4∧W.cell? ⟨g,5,none⟩=some v5:=⟨(Zkc h 0).trans rfl,(Zkc h 1).trans rfl,(Zkc h 2).trans rfl,(Zkc h 3).trans rfl,(Zkc h 4).trans rfl,(Zkc h 5).trans rfl⟩
theorem nO {W:World} {g:Nat} {v0 v1 v2 v3 v4 v5:Value} {t:TypeId} (h:W.heap[g]?=some (.cells #[v0,v1,v2,v3,v4,v5] t (0,0))):W.cell? ⟨g,0,none⟩=some v0∧W.cell? ⟨g,1,none⟩=some v1∧W.cell? ⟨g,2,none⟩=some v2∧W.cell? ⟨g,3,none⟩=some v3∧W.cell? ⟨g,4,none⟩=some v4∧W.cell? ⟨g,5,none⟩=some v5∧W.frozen? ⟨g,0,none⟩=false∧W.frozen? ⟨g,1,none⟩=false∧W.frozen? ⟨g,2,none⟩=false∧W.frozen? ⟨g,3,none⟩=false∧W.frozen? ⟨g,4,none⟩=false∧W.frozen? ⟨g,5,none⟩=false:=by
  obtain⟨h0,h1,h2,h3,h4,h5⟩:=jJ h
  exact⟨h0,h1,h2,h3,h4,h5,(by simp [World.frozen?,h]),(by simp [World.frozen?,h]),(by simp [World.frozen?,h]),(by simp [World.frozen?,h]),(by simp [World.frozen?,h]),(by simp [World.frozen?,h])⟩
theorem wX {W:World} {g:Nat} {v0 v1 v2 v3 v4 v5 v6 v7:Value} {t:TypeId} (h:W.heap[g]?=some (.cells #[v0,v1,v2,v3,v4,v5,v6,v7] t (0,0))):W.cell? ⟨g,0,none⟩=some v0∧W.cell? ⟨g,1,none⟩=some v1∧W.cell? ⟨g,2,none⟩=some v2∧W.cell? ⟨g,3,none⟩=some v3∧W.cell? ⟨g,4,none⟩=some v4∧W.cell? ⟨g,5,none⟩=some v5∧W.cell? ⟨g,6,none⟩=some v6∧W.cell? ⟨g,7,none⟩=some v7:=⟨(Zkc h 0).trans rfl,(Zkc h 1).trans rfl,(Zkc h 2).trans rfl,(Zkc h 3).trans rfl,(Zkc h 4).trans rfl,(Zkc h 5).trans rfl,(Zkc h 6).trans rfl,(Zkc h 7).trans rfl⟩
theorem rK {W:World} {g:Nat} {v0 v1 v2 v3 v4 v5 v6 v7:Value} {t:TypeId} (h:W.heap[g]?=some (.cells #[v0,v1,v2,v3,v4,v5,v6,v7] t (0,0))):W.cell? ⟨g,0,none⟩=some v0∧W.cell? ⟨g,1,none⟩=some v1∧W.cell? ⟨g,2,none⟩=some v2∧W.cell? ⟨g,3,none⟩=some v3∧W.cell? ⟨g,4,none⟩=some v4∧W.cell? ⟨g,5,none⟩=some v5∧W.cell? ⟨g,6,none⟩=some v6∧W.cell? ⟨g,7,none⟩=some v7∧W.frozen? ⟨g,0,none⟩=false∧W.frozen? ⟨g,1,none⟩=false∧W.frozen? ⟨g,2,none⟩=false∧W.frozen? ⟨g,3,none⟩=false∧W.frozen? ⟨g,4,none⟩=false∧W.frozen? ⟨g,5,none⟩=false∧W.frozen? ⟨g,6,none⟩=false∧W.frozen? ⟨g,7,none⟩=false:=by
  obtain⟨h0,h1,h2,h3,h4,h5,h6,h7⟩:=wX h
  exact⟨h0,h1,h2,h3,h4,h5,h6,h7,(by simp [World.frozen?,h]),(by simp [World.frozen?,h]),(by simp [World.frozen?,h]),(by simp [World.frozen?,h]),(by simp [World.frozen?,h]),(by simp [World.frozen?,h]),(by simp [World.frozen?,h]),(by simp [World.frozen?,h])⟩
theorem iP {W:World} {g:Nat} {v0 v1 v2 v3 v4 v5 v6 v7 v8:Value} {t:TypeId} (h:W.heap[g]?=some (.cells #[v0,v1,v2,v3,v4,v5,v6,v7,v8] t (0,0))):W.cell? ⟨g,0,none⟩=some v0∧W.cell? ⟨g,1,none⟩=some v1∧W.cell? ⟨g,2,none⟩=some v2∧W.cell? ⟨g,3,none⟩=some v3∧W.cell? ⟨g,4,none⟩=some v4∧W.cell? ⟨g,5,none⟩=some v5∧W.cell? ⟨g,6,none⟩=some v6∧W.cell? ⟨g,7,none⟩=some v7∧W.cell? ⟨g,8,none⟩=some v8:=⟨(Zkc h 0).trans rfl,(Zkc h 1).trans rfl,(Zkc h 2).trans rfl,(Zkc h 3).trans rfl,(Zkc h 4).trans rfl,(Zkc h 5).trans rfl,(Zkc h 6).trans rfl,(Zkc h 7).trans rfl,(Zkc h 8).trans rfl⟩
theorem lB {W:World} {g:Nat} {v0 v1 v2 v3 v4 v5 v6 v7 v8:Value} {t:TypeId} (h:W.heap[g]?=some (.cells #[v0,v1,v2,v3,v4,v5,v6,v7,v8] t (0,0))):W.cell? ⟨g,0,none⟩=some v0∧W.cell? ⟨g,1,none⟩=some v1∧W.cell? ⟨g,2,none⟩=some v2∧W.cell? ⟨g,3,none⟩=some v3∧W.cell? ⟨g,4,none⟩=some v4∧W.cell? ⟨g,5,none⟩=some v5∧W.cell? ⟨g,6,none⟩=some v6∧W.cell? ⟨g,7,none⟩=some v7∧W.cell? ⟨g,8,none⟩=some v8∧W.frozen? ⟨g,0,none⟩=false∧W.frozen? ⟨g,1,none⟩=false∧W.frozen? ⟨g,2,none⟩=false∧W.frozen? ⟨g,3,none⟩=false∧W.frozen? ⟨g,4,none⟩=false∧W.frozen? ⟨g,5,none⟩=false∧W.frozen? ⟨g,6,none⟩=false∧W.frozen? ⟨g,7,none⟩=false∧W.frozen? ⟨g,8,none⟩=false:=by
  obtain⟨h0,h1,h2,h3,h4,h5,h6,h7,h8⟩:=iP h
  exact⟨h0,h1,h2,h3,h4,h5,h6,h7,h8,(by simp [World.frozen?,h]),(by simp [World.frozen?,h]),(by simp [World.frozen?,h]),(by simp [World.frozen?,h]),(by simp [World.frozen?,h]),(by simp [World.frozen?,h]),(by simp [World.frozen?,h]),(by simp [World.frozen?,h]),(by simp [World.frozen?,h])⟩
theorem info5:(Tryz.prog.info? 5).map (fun i=>(i.zero,i.size,i.bytes))=some (some (.int .u8 0),1,1):=by kernel_rfl
theorem info9:(Tryz.prog.info? 9).map (fun i=>(i.zero,i.size,i.bytes))=some (some (.string ⟨#[]⟩),1,16):=by kernel_rfl
theorem wA:(Tryz.prog.info? 50).map (fun i=>(i.zero,i.size,i.bytes))=some (some (.agg #[(.string ⟨#[]⟩),(.string ⟨#[]⟩),(.bool false),(.bool false),(.bool false),(.int .i64 0),(.int .i64 0),(.slice none 0 0),(.slice none 0 0)]),9,104):=by kernel_rfl
theorem wB:(Tryz.prog.info? 67).map (fun i=>(i.zero,i.size,i.bytes))=some (some (.agg #[(.string ⟨#[]⟩),(.string ⟨#[]⟩),(.bool false)]),3,40):=by kernel_rfl
theorem tV:(Tryz.prog.info? 159).map (fun i=>(i.zero,i.size,i.bytes))=some (some (.agg #[(.int .i64 0),(.int .i64 0),(.string ⟨#[]⟩),(.string ⟨#[]⟩),(.string ⟨#[]⟩)]),5,64):=by kernel_rfl
theorem tW:(Tryz.prog.info? 162).map (fun i=>(i.zero,i.size,i.bytes))=some (some (.agg #[(.int .i64 0),(.int .i64 0),(.int .i64 0),(.string ⟨#[]⟩)]),4,40):=by kernel_rfl
-- the values' own types
structure cP where
  f0:Int
  f1:Int
  f2:ByteArray
  f3:ByteArray
  f4:ByteArray
def oQ:cP:=⟨(0:Int),(0:Int),(⟨#[]⟩:ByteArray),(⟨#[]⟩:ByteArray),(⟨#[]⟩:ByteArray)⟩
def gZ:Kd cP:=Kd.iso (Kd.pair (Kd.int .i64) (Kd.pair (Kd.int .i64) (Kd.pair Kd.string (Kd.pair Kd.string Kd.string)))) (fun x:cP=>(x.f0,x.f1,x.f2,x.f3,x.f4))
theorem uU {w:World} {x:cP} {cs:List Value} (h:gZ.K w x cs):cs=[.int .i64 x.f0,.int .i64 x.f1,.string x.f2,.string x.f3,.string x.f4]:=by
  obtain⟨_,_,rfl,rfl,⟨_,_,rfl,rfl,⟨_,_,rfl,rfl,⟨_,_,rfl,rfl,rfl⟩⟩⟩⟩:=h
  exact rfl
theorem lK {w:World} {base:Nat} {ok:Nat→Prop} {x:cP} {cs:List Value} (h:gZ.M w base ok x cs):cs=[.int .i64 x.f0,.int .i64 x.f1,.string x.f2,.string x.f3,.string x.f4]:=by
  obtain⟨_,_,rfl,rfl,⟨_,_,rfl,rfl,⟨_,_,rfl,rfl,⟨_,_,rfl,rfl,rfl⟩⟩⟩⟩:=h
  exact rfl
theorem lJ (w:World) (base:Nat) (ok:Nat→Prop) (x:cP)  : gZ.M w base ok x [.int .i64 x.f0,.int .i64 x.f1,.string x.f2,.string x.f3,.string x.f4]:=⟨[.int .i64 x.f0],[.int .i64 x.f1,.string x.f2,.string x.f3,.string x.f4],rfl,rfl,⟨[.int .i64 x.f1],[.string x.f2,.string x.f3,.string x.f4],rfl,rfl,⟨[.string x.f2],[.string x.f3,.string x.f4],rfl,rfl,⟨[.string x.f3],[.string x.f4],rfl,rfl,rfl⟩⟩⟩⟩
def aG (xs:List cP) (i:Int):cP:=xs.getD i.toNat oQ
theorem jX {w:World} {A:Option Addr} {n:Nat} {xs:List cP} (h:Kd.C gZ w A n xs) (i:Int) (h0:0≤i) (h1:i < n):∃ ad ,A=some ad∧w.cell? (ad.add (i.toNat*5))=some (.int .i64 (aG xs i).f0)∧w.cell? ⟨(ad.add (i.toNat*5)).block,(ad.add (i.toNat*5)).off+1,none⟩=some (.int .i64 (aG xs i).f1)∧w.cell? ⟨(ad.add (i.toNat*5)).block,(ad.add (i.toNat*5)).off+2,none⟩=some (.string (aG xs i).f2)∧w.cell? ⟨(ad.add (i.toNat*5)).block,(ad.add (i.toNat*5)).off+3,none⟩=some (.string (aG xs i).f3)∧w.cell? ⟨(ad.add (i.toNat*5)).block,(ad.add (i.toNat*5)).off+4,none⟩=some (.string (aG xs i).f4):=by
  obtain⟨ad,c,e,_,hK,hc0⟩:=Kd.C_get h oQ i h0 h1
  have hc:∀ j u,c[j]?=some u→w.cell? (ad.add (i.toNat*5+j))=some u:=hc0
  obtain rfl:=uU hK
  exact⟨ad,e,hc 0 _ rfl,by rw [← add_field _ _ 1 (by omega)];exact hc 1 _ rfl,by rw [← add_field _ _ 2 (by omega)];exact hc 2 _ rfl,by rw [← add_field _ _ 3 (by omega)];exact hc 3 _ rfl,by rw [← add_field _ _ 4 (by omega)];exact hc 4 _ rfl⟩
structure dB where
  f0:Int
  f1:Int
  f2:Int
  f3:ByteArray
def pR:dB:=⟨(0:Int),(0:Int),(0:Int),(⟨#[]⟩:ByteArray)⟩
def iE:Kd dB:=Kd.iso (Kd.pair (Kd.int .i64) (Kd.pair (Kd.int .i64) (Kd.pair (Kd.int .i64) Kd.string))) (fun x:dB=>(x.f0,x.f1,x.f2,x.f3))
theorem uV {w:World} {x:dB} {cs:List Value} (h:iE.K w x cs):cs=[.int .i64 x.f0,.int .i64 x.f1,.int .i64 x.f2,.string x.f3]:=by
  obtain⟨_,_,rfl,rfl,⟨_,_,rfl,rfl,⟨_,_,rfl,rfl,rfl⟩⟩⟩:=h
  exact rfl
theorem mI {w:World} {base:Nat} {ok:Nat→Prop} {x:dB} {cs:List Value} (h:iE.M w base ok x cs):cs=[.int .i64 x.f0,.int .i64 x.f1,.int .i64 x.f2,.string x.f3]:=by
  obtain⟨_,_,rfl,rfl,⟨_,_,rfl,rfl,⟨_,_,rfl,rfl,rfl⟩⟩⟩:=h
  exact rfl
theorem mA (w:World) (base:Nat) (ok:Nat→Prop) (x:dB)  : iE.M w base ok x [.int .i64 x.f0,.int .i64 x.f1,.int .i64 x.f2,.string x.f3]:=⟨[.int .i64 x.f0],[.int .i64 x.f1,.int .i64 x.f2,.string x.f3],rfl,rfl,⟨[.int .i64 x.f1],[.int .i64 x.f2,.string x.f3],rfl,rfl,⟨[.int .i64 x.f2],[.string x.f3],rfl,rfl,rfl⟩⟩⟩
def aX (xs:List dB) (i:Int):dB:=xs.getD i.toNat pR
theorem nA {w:World} {A:Option Addr} {n:Nat} {xs:List dB} (h:Kd.C iE w A n xs) (i:Int) (h0:0≤i) (h1:i < n):∃ ad ,A=some ad∧w.cell? (ad.add (i.toNat*4))=some (.int .i64 (aX xs i).f0)∧w.cell? ⟨(ad.add (i.toNat*4)).block,(ad.add (i.toNat*4)).off+1,none⟩=some (.int .i64 (aX xs i).f1)∧w.cell? ⟨(ad.add (i.toNat*4)).block,(ad.add (i.toNat*4)).off+2,none⟩=some (.int .i64 (aX xs i).f2)∧w.cell? ⟨(ad.add (i.toNat*4)).block,(ad.add (i.toNat*4)).off+3,none⟩=some (.string (aX xs i).f3):=by
  obtain⟨ad,c,e,_,hK,hc0⟩:=Kd.C_get h pR i h0 h1
  have hc:∀ j u,c[j]?=some u→w.cell? (ad.add (i.toNat*4+j))=some u:=hc0
  obtain rfl:=uV hK
  exact⟨ad,e,hc 0 _ rfl,by rw [← add_field _ _ 1 (by omega)];exact hc 1 _ rfl,by rw [← add_field _ _ 2 (by omega)];exact hc 2 _ rfl,by rw [← add_field _ _ 3 (by omega)];exact hc 3 _ rfl⟩
structure eM where
  f0:ByteArray
  f1:ByteArray
  f2:Bool
def nM:eM:=⟨(⟨#[]⟩:ByteArray),(⟨#[]⟩:ByteArray),false⟩
def kD:Kd eM:=Kd.iso (Kd.pair Kd.string (Kd.pair Kd.string Kd.bool)) (fun x:eM=>(x.f0,x.f1,x.f2))
theorem wH {w:World} {x:eM} {cs:List Value} (h:kD.K w x cs):cs=[.string x.f0,.string x.f1,.bool x.f2]:=by
  obtain⟨_,_,rfl,rfl,⟨_,_,rfl,rfl,rfl⟩⟩:=h
  exact rfl
theorem nZ {w:World} {base:Nat} {ok:Nat→Prop} {x:eM} {cs:List Value} (h:kD.M w base ok x cs):cs=[.string x.f0,.string x.f1,.bool x.f2]:=by
  obtain⟨_,_,rfl,rfl,⟨_,_,rfl,rfl,rfl⟩⟩:=h
  exact rfl
theorem nP (w:World) (base:Nat) (ok:Nat→Prop) (x:eM)  : kD.M w base ok x [.string x.f0,.string x.f1,.bool x.f2]:=⟨[.string x.f0],[.string x.f1,.bool x.f2],rfl,rfl,⟨[.string x.f1],[.bool x.f2],rfl,rfl,rfl⟩⟩
def bP (xs:List eM) (i:Int):eM:=xs.getD i.toNat nM
theorem lH {w:World} {A:Option Addr} {n:Nat} {xs:List eM} (h:Kd.C kD w A n xs) (i:Int) (h0:0≤i) (h1:i < n):∃ ad ,A=some ad∧w.cell? (ad.add (i.toNat*3))=some (.string (bP xs i).f0)∧w.cell? ⟨(ad.add (i.toNat*3)).block,(ad.add (i.toNat*3)).off+1,none⟩=some (.string (bP xs i).f1)∧w.cell? ⟨(ad.add (i.toNat*3)).block,(ad.add (i.toNat*3)).off+2,none⟩=some (.bool (bP xs i).f2):=by
  obtain⟨ad,c,e,_,hK,hc0⟩:=Kd.C_get h nM i h0 h1
  have hc:∀ j u,c[j]?=some u→w.cell? (ad.add (i.toNat*3+j))=some u:=hc0
  obtain rfl:=wH hK
  exact⟨ad,e,hc 0 _ rfl,by rw [← add_field _ _ 1 (by omega)];exact hc 1 _ rfl,by rw [← add_field _ _ 2 (by omega)];exact hc 2 _ rfl⟩
structure dS where
  f0:ByteArray
  f1:ByteArray
  f2:Bool
  f3:Bool
  f4:Bool
  f5:Int
  f6:Int
  f7:(List cP)
  f8:(List dB)
def mO:dS:=⟨(⟨#[]⟩:ByteArray),(⟨#[]⟩:ByteArray),false,false,false,(0:Int),(0:Int),([]:List cP),([]:List dB)⟩
def aAh {α:Type} (i j:Nat) (d:Kd α):Kd α where
  sz:=d.sz
  E:=d.E
  K:=d.K
  M:=fun w base ok x cs=>d.M w base ok x cs∧∀ u v,cs[i]?=some u→cs[j]?=some v→∀ k,u.ownBlock=some k→v.ownBlock≠some k
  K_len:=d.K_len
  K_one:=d.K_one
  K_below:=d.K_below
  K_of_M:=fun h=>d.K_of_M h.1
  M_mono:=fun hk h=>⟨d.M_mono hk h.1,h.2⟩
  M_bound:=fun h=>⟨d.M_bound h.1,h.2⟩
  M_move:=fun hm h=>⟨d.M_move hm h.1,h.2⟩
  M_lower:=fun hb h=>⟨d.M_lower hb h.1,h.2⟩
def jP:Kd dS:=aAh 7 8 (Kd.iso (Kd.pair Kd.string (Kd.pair Kd.string (Kd.pair Kd.bool (Kd.pair Kd.bool (Kd.pair Kd.bool (Kd.pair (Kd.int .i64) (Kd.pair (Kd.int .i64) (Kd.pair (Kd.slice 159 gZ) (Kd.slice 162 iE))))))))) (fun x:dS=>(x.f0,x.f1,x.f2,x.f3,x.f4,x.f5,x.f6,x.f7,x.f8)))
theorem wG {w:World} {x:dS} {cs:List Value} (h:jP.K w x cs):∃ A7 c7 A8 c8,cs=[.string x.f0,.string x.f1,.bool x.f2,.bool x.f3,.bool x.f4,.int .i64 x.f5,.int .i64 x.f6,.slice A7 x.f7.length c7,.slice A8 x.f8.length c8]∧x.f7.length≤c7∧gZ.C w A7 x.f7.length x.f7∧x.f8.length≤c8∧iE.C w A8 x.f8.length x.f8:=by
  obtain⟨_,_,rfl,rfl,⟨_,_,rfl,rfl,⟨_,_,rfl,rfl,⟨_,_,rfl,rfl,⟨_,_,rfl,rfl,⟨_,_,rfl,rfl,⟨_,_,rfl,rfl,⟨_,_,rfl,⟨A7,c7,rfl,l7,g7⟩,⟨A8,c8,rfl,l8,g8⟩⟩⟩⟩⟩⟩⟩⟩⟩:=h
  exact⟨A7,c7,A8,c8,rfl,l7,g7,l8,g8⟩
theorem iQ {w:World} {base:Nat} {ok:Nat→Prop} {x:dS} {cs:List Value} (h:jP.M w base ok x cs):∃ v7 v8,cs=[.string x.f0,.string x.f1,.bool x.f2,.bool x.f3,.bool x.f4,.int .i64 x.f5,.int .i64 x.f6,v7,v8]∧gZ.R 159 w base ok v7 x.f7∧iE.R 162 w base ok v8 x.f8:=by
  obtain⟨h,-⟩:=h
  obtain⟨_,_,rfl,rfl,⟨_,_,rfl,rfl,⟨_,_,rfl,rfl,⟨_,_,rfl,rfl,⟨_,_,rfl,rfl,⟨_,_,rfl,rfl,⟨_,_,rfl,rfl,⟨_,_,rfl,⟨v7,rfl,g7⟩,⟨v8,rfl,g8⟩⟩⟩⟩⟩⟩⟩⟩⟩:=h
  exact⟨v7,v8,rfl,g7,g8⟩
theorem uC {w:World} {base:Nat} {ok:Nat→Prop} {x:dS} {c0 c1 c2 c3 c4 c5 c6 c7 c8:Value} (h:jP.M w base ok x [c0,c1,c2,c3,c4,c5,c6,c7,c8]):∀ k,c7.ownBlock=some k→c8.ownBlock≠some k:=by
  obtain⟨-,h⟩:=h
  exact h _ _ rfl rfl
theorem zB {w:World} {base:Nat} {ok:Nat→Prop} {x:dS} {v7:Value} (g7:gZ.R 159 w base ok v7 x.f7) {v8:Value} (g8:iE.R 162 w base ok v8 x.f8):∀ k,v7.ownBlock=some k→v8.ownBlock≠some k:=by
  intro k e1 e2
  obtain⟨_,h1⟩:=Kd.R_typed g7 k e1
  obtain⟨_,h2⟩:=Kd.R_typed g8 k e2
  rw [h1] at h2
  cases h2
theorem kA (w:World) (base:Nat) (ok:Nat→Prop) (x:dS) {v7:Value} (g7:gZ.R 159 w base ok v7 x.f7) {v8:Value} (g8:iE.R 162 w base ok v8 x.f8) {hP:Prop} (_hs:hP:=by exact trivial):jP.M w base ok x [.string x.f0,.string x.f1,.bool x.f2,.bool x.f3,.bool x.f4,.int .i64 x.f5,.int .i64 x.f6,v7,v8]:=⟨⟨[.string x.f0],[.string x.f1,.bool x.f2,.bool x.f3,.bool x.f4,.int .i64 x.f5,.int .i64 x.f6,v7,v8],rfl,rfl,⟨[.string x.f1],[.bool x.f2,.bool x.f3,.bool x.f4,.int .i64 x.f5,.int .i64 x.f6,v7,v8],rfl,rfl,⟨[.bool x.f2],[.bool x.f3,.bool x.f4,.int .i64 x.f5,.int .i64 x.f6,v7,v8],rfl,rfl,⟨[.bool x.f3],[.bool x.f4,.int .i64 x.f5,.int .i64 x.f6,v7,v8],rfl,rfl,⟨[.bool x.f4],[.int .i64 x.f5,.int .i64 x.f6,v7,v8],rfl,rfl,⟨[.int .i64 x.f5],[.int .i64 x.f6,v7,v8],rfl,rfl,⟨[.int .i64 x.f6],[v7,v8],rfl,rfl,⟨[v7],[v8],rfl,⟨v7,rfl,g7⟩,⟨v8,rfl,g8⟩⟩⟩⟩⟩⟩⟩⟩⟩,fun u v hu hv=>by cases hu;cases hv;exact zB g7 g8⟩
def aA (xs:List dS) (i:Int):dS:=xs.getD i.toNat mO
theorem hX {w:World} {A:Option Addr} {n:Nat} {xs:List dS} (h:Kd.C jP w A n xs) (i:Int) (h0:0≤i) (h1:i < n):∃ ad A7 c7 A8 c8,A=some ad∧w.cell? (ad.add (i.toNat*9))=some (.string (aA xs i).f0)∧w.cell? ⟨(ad.add (i.toNat*9)).block,(ad.add (i.toNat*9)).off+1,none⟩=some (.string (aA xs i).f1)∧w.cell? ⟨(ad.add (i.toNat*9)).block,(ad.add (i.toNat*9)).off+2,none⟩=some (.bool (aA xs i).f2)∧w.cell? ⟨(ad.add (i.toNat*9)).block,(ad.add (i.toNat*9)).off+3,none⟩=some (.bool (aA xs i).f3)∧w.cell? ⟨(ad.add (i.toNat*9)).block,(ad.add (i.toNat*9)).off+4,none⟩=some (.bool (aA xs i).f4)∧w.cell? ⟨(ad.add (i.toNat*9)).block,(ad.add (i.toNat*9)).off+5,none⟩=some (.int .i64 (aA xs i).f5)∧w.cell? ⟨(ad.add (i.toNat*9)).block,(ad.add (i.toNat*9)).off+6,none⟩=some (.int .i64 (aA xs i).f6)∧w.cell? ⟨(ad.add (i.toNat*9)).block,(ad.add (i.toNat*9)).off+7,none⟩=some (.slice A7 (aA xs i).f7.length c7)∧w.cell? ⟨(ad.add (i.toNat*9)).block,(ad.add (i.toNat*9)).off+8,none⟩=some (.slice A8 (aA xs i).f8.length c8)∧(aA xs i).f7.length≤c7∧gZ.C w A7 (aA xs i).f7.length (aA xs i).f7∧(aA xs i).f8.length≤c8∧iE.C w A8 (aA xs i).f8.length (aA xs i).f8:=by
  obtain⟨ad,c,e,_,hK,hc0⟩:=Kd.C_get h mO i h0 h1
  have hc:∀ j u,c[j]?=some u→w.cell? (ad.add (i.toNat*9+j))=some u:=hc0
  obtain⟨A7,c7,A8,c8,rfl,l7,g7,l8,g8⟩:=wG hK
  exact⟨ad,A7,c7,A8,c8,e,hc 0 _ rfl,by rw [← add_field _ _ 1 (by omega)];exact hc 1 _ rfl,by rw [← add_field _ _ 2 (by omega)];exact hc 2 _ rfl,by rw [← add_field _ _ 3 (by omega)];exact hc 3 _ rfl,by rw [← add_field _ _ 4 (by omega)];exact hc 4 _ rfl,by rw [← add_field _ _ 5 (by omega)];exact hc 5 _ rfl,by rw [← add_field _ _ 6 (by omega)];exact hc 6 _ rfl,by rw [← add_field _ _ 7 (by omega)];exact hc 7 _ rfl,by rw [← add_field _ _ 8 (by omega)];exact hc 8 _ rfl,l7,g7,l8,g8⟩
structure sS where
  f0:ByteArray
  f1:ByteArray
  f2:Bool
  f3:Bool
  f4:(List eM)
  f5:(List dS)
structure fF where
  f0:sS
  f1:Int
  f2:Int
theorem dT {p:Prop} [Decidable p] (h:decide p=true:=by first|(with_reducible assumption)|assumption):p:=of_decide_eq_true h
theorem dX {P:Prop} (h:P:=by first|rfl|(simp;done)|(simp [*];first|done|fail)):P:=h
theorem iO {P:Prop} (h:P:=by first|rfl|(simp [*] <;> rfl)):P:=h
theorem kU {P:Prop} (h:P:=by first|omega|exact Nat.le_refl _):P:=h
theorem mM {P:Prop} (h:P:=by first|exact⟨rfl,_,World.drewN_drewN _ _ _⟩|exact⟨rfl,_,Eq.trans (World.drewN_drewN _ _ _) (congrArg (World.drewN _) (Nat.add_assoc _ _ _))⟩):P:=h
theorem pD {P:Prop} (h:P:=by repeat (first|exact Drawn0.refl _|apply Drawn0.step)):P:=h
theorem jH {P:Prop} {w W:World} (h:P:=by first|rfl|(simp;done)|(simp [*];first|done|fail)) (hd:Drawn0 w W:=by repeat (first|exact Drawn0.refl _|apply Drawn0.step)):P∧Drawn0 w W:=⟨h,hd⟩
theorem jZ {P:Prop} (h:P:=by first|(go_simp;done)|(go_simp;rfl)):P:=h
theorem mD {P:Prop} (h:P:=by repeat (first|(with_reducible first|exact HK.out|apply KeepBut.set_|apply keep_drewN|apply keep_drew|apply keep_alloc)|exact HK.out)):P:=h
theorem jF {α:Type} {c:Prop} [Decidable c] {A B r:α} (H:(if c then A else B)=r):(¬ c∧B=r)∨(c∧A=r):=by
  by_cases h:c
  · exact .inr ⟨h,by rwa [if_pos h] at H⟩
  · exact .inl ⟨h,by rwa [if_neg h] at H⟩
theorem iY {α:Type} {c:Prop} [Decidable c] {A B r:α} (H:(if c then A else B)=r):(decide c=false∧B=r)∨(decide c=true∧A=r):=(jF H).imp (fun h=>⟨decide_eq_false h.1,h.2⟩) (fun h=>⟨decide_eq_true h.1,h.2⟩)
theorem fM {α:Type} {c:Bool} {A B r:α} (H:(if c=true then A else B)=r):(c=false∧B=r)∨(c=true∧A=r):=(jF H).imp (fun h=>⟨Bool.eq_false_iff.mpr h.1,h.2⟩) (fun h=>h)
theorem fB {α β:Type} [BEq β] [LawfulBEq β] {x y:β} [Decidable (x=y)] {A B r:α} (H:(if x=y then A else B)=r):(¬ x=y∧(x == y)=false∧(x != y)=true∧B=r)∨(x=y∧(x == y)=true∧(x != y)=false∧A=r):=
  (jF H).imp (fun h=>⟨h.1,beq_eq_false_iff_ne.mpr h.1,bne_iff_ne.mpr h.1,h.2⟩) (fun h=>⟨h.1,beq_iff_eq.mpr h.1,bne_eq_false_iff_eq.mpr h.1,h.2⟩)
theorem jQ {α:Type} {c:Prop} [Decidable c] {A:Option α} {r:α} (H:(if c then A else none)=some r):c∧A=some r:=(jF H).elim (fun h=>nomatch h.2) (fun h=>h)
theorem eZ {α:Type} {c:Prop} [Decidable c] {A:Option α} {r:α} (H:(if c then A else none)=some r):decide c=true∧A=some r:=⟨decide_eq_true (jQ H).1,(jQ H).2⟩
theorem cU {α β:Type} {x:Option α} {f:α→Option β} {r:β} (H:x.bind f=some r):∃ t,Aside0 (x=some t)∧f t=some r:=(Option.bind_eq_some_iff.mp H).elim fun t h=>⟨t,⟨h.1⟩,h.2⟩
theorem pr {W W':World} [h:Nonempty (Pl W W')] {α:Type} {d:Kd α} {e base:Nat} {ok:Nat→Prop} {v:Value} {xs:List α} (x:Kd.R d e W base ok v xs):Kd.R d e W' base ok v xs:=h.elim fun p=>p.rr x
theorem ps {W W':World} [h:Nonempty (Pl W W')] {α:Type} {d:Kd α} {e base:Nat} {ok:Nat→Prop} {v:Value} {xs:List α} (x:Kd.S d e W base ok v xs):Kd.S d e W' base ok v xs:=h.elim fun p=>p.ss x
theorem pd {w W W':World} [Nonempty (Pl W W')] {α:Type} {d:Kd α} {A:Option Addr} {n:Nat} {xs:List α} (h:Aside0 (d.C w A n xs)) (hb:Aside0 (Below w.heap.size w W)):d.C W' A n xs:=pc (Kd.C_below h.out hb.out)
theorem kb {W W' w1:World} [Nonempty (Pl W W')] {g:Nat} {o:Obj} (h:Aside0 (W.heap[g]?=some o)) (hb:Below W'.heap.size W' w1):Aside0 (w1.heap[g]?=some o):=⟨blk_below (pk h.out) hb⟩
theorem dJ {w W W' w1:World} [Nonempty (Pl W W')] (h:Aside0 (Below w.heap.size w W)) (hb:Below W'.heap.size W' w1):Aside0 (Below w.heap.size w w1):=⟨below_step (bk h.out) hb⟩
theorem bz {w W W':World} [Nonempty (Pl W W')] {g:Nat} (h:Aside0 (Below w.heap.size w W)) (hg:g=W'.heap.size):Aside0 (w.heap.size≤g):=⟨by rw [hg];exact below_size (bk h.out)⟩
theorem bl {W W':World} [Nonempty (Pl W W')] {g g':Nat} {o:Obj} (h:Aside0 (W.heap[g']?=some o)) (hg:g=W'.heap.size):Aside0 (g'≠g):=⟨by rw [hg];exact Nat.ne_of_lt (blk_lt (pk h.out))⟩
theorem bg {W W':World} [Nonempty (Pl W W')] {g g':Nat} {o:Obj} (h:Aside0 (W.heap[g']?=some o)) (hg:g=W'.heap.size):Aside0 (g≠g'):=⟨fun e=>(bl h hg).out e.symm⟩
theorem eV {P:Program} {f:FuncId} {args args':Array Value} {w:World} {Q Q':Ending→World→Prop} (c:Calls P f args w Q) (h:∀ e w',Q e w'→Q' e w') (ha:args'=args:=by first|(with_reducible rfl)|(simp [*];first|done|fail)):Calls P f args' w Q':=calls_of_args ha (c.mono h)
theorem wY {w:World} {base:Nat} {ok:Nat→Prop} (xs:List ByteArray):Reps (Kd.M Kd.string w base ok) 1 xs (xs.map Value.string):=Kd.reps_scalar xs
theorem fQ {P:Program} {ops:Array Oper} {rest:List Oper} {o:Oper} {a:Act} {Q:Exit→Act→World→Prop} {W:World} (N:Tmp) (t:TypeId) (cs:Array Value)
    (h:∀ g,g=W.heap.size→∀ w1,w1.heap[g]?=some (.cells cs t (0,0))→Below W.heap.size W w1→wpList P ops Q rest (a.put o.dst (.pointer (some ⟨g,0,none⟩))) w1) (hd:o.dst=some N:=by rfl) (hg:o.guard=none:=by rfl)
    (hr:(execOp a.eval o).run P W=.ok (.value (.pointer (some ⟨W.heap.size,0,none⟩))) (W.alloc (.cells cs t (0,0))):=by first|(go_simp;done)|(go_simp;rfl)):wpList P ops Q (o :: rest) a W:=box_event hg hd hr h
section
variable {P:Program} {ops:Array Oper} {Q:Exit→Act→World→Prop} {md:Region.Mode} {S:World→Prop} {ds:List Nat} {T:Bool×List (List Nat×List Nat)} {B:List Nat}
theorem eG (i:Nat) (N:Tmp) {oi:Oper} {v:Value} {fuel:Nat} {l l':Array Bool} {a a':Act} {w:World} (h:wpAnyLast P md ops Q S ds fuel l' a' w) (hi:ops[i]?=some oi:=by rfl) (hN:oi.dst=some N:=by rfl)
    (hl:l.setIfInBounds i true=l':=by simp only [List.setIfInBounds_toArray,List.set_cons_zero,List.set_cons_succ];rfl) (hT:rtab md ops=T:=by exact HT_.out) (hc:anyT T l.toList l'.toList i=true:=by kernel_rfl)
    (hw:Region.wanted oi (yielded ops a.tmps)=true:=by rfl) (hr:∀ w,(execOp a.eval oi).run P w=.ok (.value v) w:=by intro w';go_simp;with_reducible rfl)
    (hQ:∀ c a w,Q (.panic c) (a.put oi.dst v) w→Q (.panic c) a w:=by exact fun _ _ _ h=>h)
    (ha:a.put (some N) v=a':=by simp only [Act.put,List.setIfInBounds_toArray,List.set_cons_zero,List.set_cons_succ,i64_w,i32_w];rfl):wpAnyLast P md ops Q S ds (fuel+1) l a w:=
  pure_ l' hi hN (any_of hT hc) hQ (Or.inl ⟨hw,hr⟩) ha h
theorem oN (i:Nat) (N:Tmp) {oi:Oper} {fuel:Nat} {l l':Array Bool} {a a':Act} {w:World} (h:wpAnyLast P md ops Q S ds fuel l' a' w) (hi:ops[i]?=some oi:=by rfl) (hN:oi.dst=some N:=by rfl)
    (hl:l.setIfInBounds i true=l':=by simp only [List.setIfInBounds_toArray,List.set_cons_zero,List.set_cons_succ];rfl) (hT:rtab md ops=T:=by exact HT_.out) (hc:anyT T l.toList l'.toList i=true:=by kernel_rfl)
    (hw:Region.wanted oi (yielded ops a.tmps)=false:=by rfl) (hQ:∀ c a w,Q (.panic c) (a.put oi.dst undef) w→Q (.panic c) a w:=by exact fun _ _ _ h=>h)
    (ha:a.put (some N) undef=a':=by simp only [Act.put,List.setIfInBounds_toArray,List.set_cons_zero,List.set_cons_succ,i64_w,i32_w];rfl):wpAnyLast P md ops Q S ds (fuel+1) l a w:=
  pure_ l' hi hN (any_of hT hc) hQ (Or.inr ⟨hw,rfl⟩) ha h
theorem kO (i:Nat) (N:Tmp) {oi:Oper} {v:Value} {fuel:Nat} {l l':Array Bool} {a a':Act} {w:World} (h:wpAnyLast P md ops Q S ds fuel l' a' w) (hi:ops[i]?=some oi:=by rfl) (hN:oi.dst=some N:=by rfl)
    (hl:l.setIfInBounds i true=l':=by simp only [List.setIfInBounds_toArray,List.set_cons_zero,List.set_cons_succ];rfl) (hT:rtab md ops=T:=by exact HT_.out) (hB:waitsOk T.2 B=true:=by exact HW_.out) (hc:takeW T B ds l.toList l'.toList i=true:=by kernel_rfl)
    (hw:Region.wanted oi (yielded ops a.tmps)=true:=by rfl) (hr:∀ w,S w→(execOp a.eval oi).run P w=.ok (.value v) w:=by intro w' hs;(try dsimp only at hs);go_simp;with_reducible rfl)
    (hQ:∀ c a w,Q (.panic c) (a.put oi.dst v) w→Q (.panic c) a w:=by exact fun _ _ _ h=>h) (hS:S w:=by exact hHeld)
    (ha:a.put (some N) v=a':=by simp only [Act.put,List.setIfInBounds_toArray,List.set_cons_zero,List.set_cons_succ,i64_w,i32_w];rfl):wpAnyLast P md ops Q S ds (fuel+1) l a w:=
  take_ l' hi hN (take_ofW hT hB hc) hQ (Or.inl ⟨hw,hr⟩) hS ha h
theorem kR {fuel:Nat} {l:Array Bool} {a a':Act} {w:World} (N:Tmp) {v:Value} (h:wpAnyLast P md ops Q S ds fuel l a' w) (ha:Act.put a (some N) v=a':=by simp only [Act.put,List.setIfInBounds_toArray,List.set_cons_zero,List.set_cons_succ,i64_w,i32_w];rfl):wpAnyLast P md ops Q S ds fuel l (Act.put a (some N) v) w:=norm_ ha h
end
theorem mT {P:Prop} (h:P:=by repeat' first|(with_reducible first|exact LeO.refl _|apply ih0|apply ih1|apply ih2|apply ih3|apply ih4|apply ih5|apply ih6|apply ih7|apply ih8|apply ih9|apply ih10|apply ih11|apply m0|apply m1|apply m2|apply m3|apply m4|apply m5|apply m6|apply m7|apply m8|apply m9|apply m10|apply m11|apply m12|apply m13|apply m14|apply m15|exact LeO.none _|refine LeO.ite ?_ ?_|refine LeO.bind ?_ (fun _=>?_))|apply ih0|apply ih1|apply ih2|apply ih3|apply ih4|apply ih5|apply ih6|apply ih7|apply ih8|apply ih9|apply ih10|apply ih11|apply m0|apply m1|apply m2|apply m3|apply m4|apply m5|apply m6|apply m7|apply m8|apply m9|apply m10|apply m11|apply m12|apply m13|apply m14|apply m15|exact LeO.none _|refine LeO.ite ?_ ?_|refine LeO.bind ?_ (fun _=>?_)):P:=h
theorem qP {w:World} {A:Option Addr} {n:Nat} {xs:List ByteArray} (h:Aside0 (Kd.C Kd.string w A n xs)) (i:Int) (h0:0≤i:=by exact dT) (h1:i < n:=by exact dT):∃ ad,A=some ad∧((0≤i)=True∧(i < n)=True∧w.cell? (ad.add i.toNat)=some (.string (rdOf ByteArray.empty xs i))):=by
  obtain⟨ad,e_,x⟩:=Kd.at_string h.out i h0 h1
  exact⟨ad,e_,eq_true h0,eq_true h1,x⟩
theorem kZ {w W:World} {A:Option Addr} {n:Nat} {xs:List cP} (h:Aside0 (Kd.C gZ w A n xs)) (hb:Aside0 (Below w.heap.size w W)) (i:Int) (h0:0≤i:=by exact dT) (h1:i < n:=by exact dT):∃ ad ,A=some ad∧((0≤i)=True∧(i < n)=True∧W.cell? (ad.add (i.toNat*5))=some (.int .i64 (aG xs i).f0)∧W.cell? ⟨(ad.add (i.toNat*5)).block,(ad.add (i.toNat*5)).off+1,none⟩=some (.int .i64 (aG xs i).f1)∧W.cell? ⟨(ad.add (i.toNat*5)).block,(ad.add (i.toNat*5)).off+2,none⟩=some (.string (aG xs i).f2)∧W.cell? ⟨(ad.add (i.toNat*5)).block,(ad.add (i.toNat*5)).off+3,none⟩=some (.string (aG xs i).f3)∧W.cell? ⟨(ad.add (i.toNat*5)).block,(ad.add (i.toNat*5)).off+4,none⟩=some (.string (aG xs i).f4)):=by
  obtain⟨ad,e_,x0_,x1_,x2_,x3_,x4_⟩:=jX h.out i h0 h1
  exact⟨ad,e_,⟨eq_true h0,eq_true h1,dE hb x0_ (World.block_lt_of_cell? _ _ x0_),dE hb x1_ (World.block_lt_of_cell? _ _ x1_),dE hb x2_ (World.block_lt_of_cell? _ _ x2_),dE hb x3_ (World.block_lt_of_cell? _ _ x3_),dE hb x4_ (World.block_lt_of_cell? _ _ x4_)⟩⟩
theorem mG {w W:World} {A:Option Addr} {n:Nat} {xs:List dB} (h:Aside0 (Kd.C iE w A n xs)) (hb:Aside0 (Below w.heap.size w W)) (i:Int) (h0:0≤i:=by exact dT) (h1:i < n:=by exact dT):∃ ad ,A=some ad∧((0≤i)=True∧(i < n)=True∧W.cell? (ad.add (i.toNat*4))=some (.int .i64 (aX xs i).f0)∧W.cell? ⟨(ad.add (i.toNat*4)).block,(ad.add (i.toNat*4)).off+1,none⟩=some (.int .i64 (aX xs i).f1)∧W.cell? ⟨(ad.add (i.toNat*4)).block,(ad.add (i.toNat*4)).off+2,none⟩=some (.int .i64 (aX xs i).f2)∧W.cell? ⟨(ad.add (i.toNat*4)).block,(ad.add (i.toNat*4)).off+3,none⟩=some (.string (aX xs i).f3)):=by
  obtain⟨ad,e_,x0_,x1_,x2_,x3_⟩:=nA h.out i h0 h1
  exact⟨ad,e_,⟨eq_true h0,eq_true h1,dE hb x0_ (World.block_lt_of_cell? _ _ x0_),dE hb x1_ (World.block_lt_of_cell? _ _ x1_),dE hb x2_ (World.block_lt_of_cell? _ _ x2_),dE hb x3_ (World.block_lt_of_cell? _ _ x3_)⟩⟩
theorem kV {w W:World} {A:Option Addr} {n:Nat} {xs:List eM} (h:Aside0 (Kd.C kD w A n xs)) (hb:Aside0 (Below w.heap.size w W)) (i:Int) (h0:0≤i:=by exact dT) (h1:i < n:=by exact dT):∃ ad ,A=some ad∧((0≤i)=True∧(i < n)=True∧W.cell? (ad.add (i.toNat*3))=some (.string (bP xs i).f0)∧W.cell? ⟨(ad.add (i.toNat*3)).block,(ad.add (i.toNat*3)).off+1,none⟩=some (.string (bP xs i).f1)∧W.cell? ⟨(ad.add (i.toNat*3)).block,(ad.add (i.toNat*3)).off+2,none⟩=some (.bool (bP xs i).f2)):=by
  obtain⟨ad,e_,x0_,x1_,x2_⟩:=lH h.out i h0 h1
  exact⟨ad,e_,⟨eq_true h0,eq_true h1,dE hb x0_ (World.block_lt_of_cell? _ _ x0_),dE hb x1_ (World.block_lt_of_cell? _ _ x1_),dE hb x2_ (World.block_lt_of_cell? _ _ x2_)⟩⟩
theorem qQ {w W:World} {A:Option Addr} {n:Nat} {xs:List dS} (h:Aside0 (Kd.C jP w A n xs)) (hb:Aside0 (Below w.heap.size w W)) (i:Int) (h0:0≤i:=by exact dT) (h1:i < n:=by exact dT):∃ ad A7 c7 A8 c8,A=some ad∧((0≤i)=True∧(i < n)=True∧W.cell? (ad.add (i.toNat*9))=some (.string (aA xs i).f0)∧W.cell? ⟨(ad.add (i.toNat*9)).block,(ad.add (i.toNat*9)).off+1,none⟩=some (.string (aA xs i).f1)∧W.cell? ⟨(ad.add (i.toNat*9)).block,(ad.add (i.toNat*9)).off+2,none⟩=some (.bool (aA xs i).f2)∧W.cell? ⟨(ad.add (i.toNat*9)).block,(ad.add (i.toNat*9)).off+3,none⟩=some (.bool (aA xs i).f3)∧W.cell? ⟨(ad.add (i.toNat*9)).block,(ad.add (i.toNat*9)).off+4,none⟩=some (.bool (aA xs i).f4)∧W.cell? ⟨(ad.add (i.toNat*9)).block,(ad.add (i.toNat*9)).off+5,none⟩=some (.int .i64 (aA xs i).f5)∧W.cell? ⟨(ad.add (i.toNat*9)).block,(ad.add (i.toNat*9)).off+6,none⟩=some (.int .i64 (aA xs i).f6)∧W.cell? ⟨(ad.add (i.toNat*9)).block,(ad.add (i.toNat*9)).off+7,none⟩=some (.slice A7 (aA xs i).f7.length c7)∧W.cell? ⟨(ad.add (i.toNat*9)).block,(ad.add (i.toNat*9)).off+8,none⟩=some (.slice A8 (aA xs i).f8.length c8))∧Aside0 ((aA xs i).f7.length≤c7)∧Aside0 (gZ.C w A7 (aA xs i).f7.length (aA xs i).f7)∧Aside0 ((aA xs i).f8.length≤c8)∧Aside0 (iE.C w A8 (aA xs i).f8.length (aA xs i).f8):=by
  obtain⟨ad,A7,c7,A8,c8,e_,x0_,x1_,x2_,x3_,x4_,x5_,x6_,x7_,x8_,y0_,y1_,y2_,y3_⟩:=hX h.out i h0 h1
  exact⟨ad,A7,c7,A8,c8,e_,⟨eq_true h0,eq_true h1,dE hb x0_ (World.block_lt_of_cell? _ _ x0_),dE hb x1_ (World.block_lt_of_cell? _ _ x1_),dE hb x2_ (World.block_lt_of_cell? _ _ x2_),dE hb x3_ (World.block_lt_of_cell? _ _ x3_),dE hb x4_ (World.block_lt_of_cell? _ _ x4_),dE hb x5_ (World.block_lt_of_cell? _ _ x5_),dE hb x6_ (World.block_lt_of_cell? _ _ x6_),dE hb x7_ (World.block_lt_of_cell? _ _ x7_),dE hb x8_ (World.block_lt_of_cell? _ _ x8_)⟩,⟨y0_⟩,⟨y1_⟩,⟨y2_⟩,⟨y3_⟩⟩
theorem mE {P:Prop} (h:P:=by first|(rw [hy_];with_reducible exact H)|(have H2_:=(Option.bind_some _ _).symm.trans H;rw [hy_];with_reducible exact H2_)|(have H2_:=(Option.bind_some _ _).symm.trans H;with_reducible exact H2_)|with_reducible exact H|(rw [hy_];exact H)|exact H):P:=h
theorem eL {P:Program} {ops:Array Oper} {Q:Exit→Act→World→Prop} {md:Region.Mode} {S:World→Prop} {ds:List Nat} {fuel:Nat} {l:Array Bool} {a a':Act} {w:World} (h:wpAnyLast P md ops Q S ds fuel l a' w) (ha:a=a':=by first|(simp only [putAll,Act.put,List.setIfInBounds_toArray,List.set_cons_zero,List.set_cons_succ];done)|(simp only [putAll,Act.put,List.setIfInBounds_toArray,List.set_cons_zero,List.set_cons_succ];rfl)):wpAnyLast P md ops Q S ds fuel l a w:=norm_ ha h
section
variable {P:Program} {ops:Array Oper} {Q:Exit→Act→World→Prop} {md:Region.Mode} {S:World→Prop} {ds:List Nat} {T:Bool×List (List Nat×List Nat)}
end
end Go.Proofs.YtkbebmifpccofaaGreat.PFnExactClassRead
