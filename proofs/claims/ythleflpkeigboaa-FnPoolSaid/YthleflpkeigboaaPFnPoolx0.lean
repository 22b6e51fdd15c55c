/- Functions of the program as plain Lean functions, each with a proof that the program's call comes to the same; no condition. Written by a program of this session. -/
import Derived.Test.YthleflpkeigboaaProg
import Derived.Below
import Derived.Deep.Draws
import Derived.Deep.AppendLies
import Derived.Maps.AppendAt
import Derived.OwnWalk
import Derived.Laws.BytesArg
import Derived.Laws.MakeOwn
import Derived.Laws.OwnMore
import Derived.Deep.OwnRows
import Derived.Tactics
import Derived.Lib.ConvBytes
import Derived.Laws.Slices
import Derived.WalkKit
import Derived.KernelRfl
import Derived.RowKit3
import Derived.Deep.LoopGhost
import Derived.Deep.QuietTactic
import Derived.BigQuiet
import Derived.WideLaws
import Derived.Deep.DeepCutAuto
import Derived.Deep.CutBlock
import Derived.Deep.RegionHeld3
import Derived.Laws.Rows
import Derived.Lib.AppendStr
import Derived.ArgAppend
import Derived.Laws.IdiomCopy
import Derived.OrdersHeld
import Derived.Laws.BitsLemmas
import Derived.RowKit
import Derived.BigRegion
import Derived.RegionTactic
import Derived.ChangeAlike
import Derived.Test.YthleflpkeigboaaVFnPoolShelf
import Derived.Test.YthleflpkeigboaaVFnPoolWords
import Derived.Test.YthleflpkeigboaaVFnPoolLast
import Derived.Test.YthleflpkeigboaaVFnPoolTab
import Derived.Test.YthleflpkeigboaaVFnPoolApart
import Derived.Test.YthleflpkeigboaaVFnPoolFoot
import Derived.Test.YthleflpkeigboaaVFnPoolKept
import Derived.Test.YthleflpkeigboaaVFnPoolShare
import Derived.Test.YthleflpkeigboaaVFnPoolN
import Derived.Test.YthleflpkeigboaaVFnPoolRepsOne
import Derived.Test.YthleflpkeigboaaVFnPoolInv
import Derived.Test.YthleflpkeigboaaVFnPoolInvWords
import Derived.Test.YthleflpkeigboaaVFnPoolGuard
import Derived.Test.YthleflpkeigboaaVFnPoolMore
namespace Go.Proofs.Ythleflpkeigboaa.PFnPool
open Go.RowKit Go.Proofs.YthleflpkeigboaaW.PrintWords Go.Proofs.YthleflpkeigboaaW.PrintLast Go.Proofs.YthleflpkeigboaaW.PrintMore
open Go.Proofs.YthleflpkeigboaaW.PrintWords renaming below_alloc→Zba,pw_below_drewN→Zbn,below_drew1→Zbd,blk_drewN→Zkn,blk_drew→Zkd,blk_alloc→Zka,blk_cell→Zkc,blk_far→Zkr
attribute [local go_sem] max2_int min2_int max_two min_two max_three min_three max_four min_four   -- for this text's walks alone
set_option linter.unusedVariables false
set_option linter.unusedSimpArgs false
def errW:Option Int→Value
  | none=>.nilIface
  | some c=>.iface 0 (.int .i64 c)
theorem errW_none:errW none=.nilIface:=rfl
theorem errW_some (c:Int):errW (some c)=.iface 0 (.int .i64 c):=rfl
structure Pl (W W':World):Prop where
  blk:∀ {g:Nat} {o:Obj},W.heap[g]?=some o→W'.heap[g]?=some o
  bel:∀ {w:World},Below w.heap.size w W→Below w.heap.size w W'
  cc:∀ {α:Type} {d:Kd α} {A:Option Addr} {n:Nat} {xs:List α},d.C W A n xs→d.C W' A n xs
  rr:∀ {α:Type} {d:Kd α} {e base:Nat} {ok:Nat→Prop} {v:Value} {xs:List α},Kd.R d e W base ok v xs→Kd.R d e W' base ok v xs
  ss:∀ {α:Type} {d:Kd α} {e base:Nat} {ok:Nat→Prop} {v:Value} {xs:List α},Kd.S d e W base ok v xs→Kd.S d e W' base ok v xs
instance pl_0 (W:World):Nonempty (Pl W W):=⟨⟨fun h=>h,fun h=>h,fun h=>h,fun h=>h,fun h=>h⟩⟩
instance pl_n (W W':World) (n:Nat) [h:Nonempty (Pl W W')]:Nonempty (Pl W (W'.drewN n)):=h.elim fun p=>⟨⟨fun x=>Zkn (p.blk x) n,fun x=>Zbn (p.bel x) n,fun x=>Kd.C_drewN (p.cc x) n,fun x=>Kd.R_drewN (p.rr x) n,fun x=>Kd.S_drewN (p.ss x) n⟩⟩
instance pl_d (W W':World) [h:Nonempty (Pl W W')]:Nonempty (Pl W W'.drew):=h.elim fun p=>⟨⟨fun x=>Zkd (p.blk x),fun x=>Zbd (p.bel x),fun x=>Kd.C_drew (p.cc x),fun x=>Kd.R_drew (p.rr x),fun x=>Kd.S_drew (p.ss x)⟩⟩
instance pl_a (W W':World) (o:Obj) [h:Nonempty (Pl W W')]:Nonempty (Pl W (W'.alloc o)):=h.elim fun p=>⟨⟨fun x=>Zka (p.blk x) o,fun x=>Zba (p.bel x) o,fun x=>Kd.C_alloc (p.cc x) o,fun x=>Kd.R_alloc (p.rr x) o,fun x=>Kd.S_alloc (p.ss x) o⟩⟩
theorem pk {W W':World} [h:Nonempty (Pl W W')] {g:Nat} {o:Obj} (x:W.heap[g]?=some o):W'.heap[g]?=some o:=h.elim fun p=>p.blk x
theorem bk {W W':World} [h:Nonempty (Pl W W')] {w:World} (x:Below w.heap.size w W):Below w.heap.size w W':=h.elim fun p=>p.bel x
theorem zf_ {w:World} {g:Nat} {t:TypeId} {cs:Array Value} {p:Addr} {u:Value} (zq_:Aside0 (g≠p.block)) (h:w.heap[g]?=some (.cells cs t (0,0))):(w.setCell p u).heap[g]?=some (.cells cs t (0,0)):=Zkr h zq_.out u
theorem zs_ {w:World} {g i:Nat} {u:Value} {t:TypeId} {cs:Array Value} (h:w.heap[g]?=some (.cells cs t (0,0))):(w.setCell ⟨g,i,none⟩ u).heap[g]?=some (.cells (cs.setIfInBounds i u) t (0,0)):=blk_set h i u
theorem zc_ {W:World} {g:Nat} {cs cs':Array Value} {t:TypeId} (h:W.heap[g]?=some (.cells cs t (0,0)):=by (with_reducible repeat (first|apply Go.Proofs.Ythleflpkeigboaa.PFnPool.zs_|apply Go.Proofs.YthleflpkeigboaaW.PrintWords.blk_drewN|apply Go.Proofs.YthleflpkeigboaaW.PrintWords.blk_drew|apply Go.Proofs.YthleflpkeigboaaW.PrintWords.blk_alloc|(apply Go.Proofs.Ythleflpkeigboaa.PFnPool.zf_;assumption)));with_reducible (apply Go.Proofs.YthleflpkeigboaaW.PrintWords.Aside0.out;assumption)) (e:cs=cs':=by first|rfl|(simp only [List.drop_one];rfl)):W.heap[g]?=some (.cells cs' t (0,0)):=e ▸ h
theorem hb_ {w W:World} (h:Below w.heap.size w W:=by repeat (first|(with_reducible first|(refine Go.Proofs.YthleflpkeigboaaW.PrintWords.Aside0.out ?_;assumption)|apply Go.Proofs.YthleflpkeigboaaW.PrintWords.below_alloc|apply Go.Proofs.YthleflpkeigboaaW.PrintWords.pw_below_drewN|apply Go.Proofs.YthleflpkeigboaaW.PrintWords.below_drew1|refine Go.Proofs.YthleflpkeigboaaW.PrintWords.below_set ?_ (Go.Proofs.YthleflpkeigboaaW.PrintWords.Aside0.out (by assumption)))|(refine Go.Proofs.YthleflpkeigboaaW.PrintWords.Aside0.out ?_;assumption))):Below w.heap.size w W:=h
theorem fin_ {P:Prop} {w W W':World} [Nonempty (Pl W W')] (hb:Aside0 (Below w.heap.size w W)) (h:P:=by first|rfl|(simp [*] <;> rfl)):P∧Below w.heap.size w W':=⟨h,bk hb.out⟩
theorem ge_ {P:Program} {ops:Array Oper} {Q:Exit→Act→World→Prop} {rest:List Oper} {oi:Oper} {a:Act} {w:World} (N:Option Tmp) {f:FuncId} {fn:Func} {as_:Array Operand} {ts:Array TypeId} (hf:P.funcs[f]?=some fn) (args:Array Value)
    (h:Calls P f args w fun e w'=>∃ v,e=.returned v∧wpList P ops Q rest (a.put N v) w') (hd:oi.dst=N:=by rfl) (hg:oi.guard=none:=by rfl) (hname:(fn.name == "runtime.NumGoroutine")=false:=by kernel_rfl) (hb:fn.body.isSome=true:=by rfl)
    (hop:oi.op=.call { callee:=.value (.func f),args:=as_,argTypes:=ts }:=by rfl) (hargs:as_.map a.eval=args:=by (try simp only [List.map_toArray,List.map_cons,List.map_nil]);first|done|rfl|(simp only [List.length_drop,List.length_take];rfl)):wpList P ops Q (oi :: rest) a w:=
  goesL_ N hd hg hf hname hb args hop hargs h
theorem hx_ {w W:World} {b:Nat} {p:Addr} {v:Value} (hb:Aside0 (Below b w W)) (h:w.cell? p=some v) (hl:p.block < b):W.cell? p=some v:=(hb.out.cell hl).trans h
theorem ie_ {l:List UInt8} {b:Bool} (h:(l == ([]:List UInt8))=b):l.isEmpty=b:=by cases l <;> exact h
theorem bne_ {α:Type} [BEq α] {a b:α} {c:Bool} (h:(a != b)=c):(!(a == b))=c:=h
theorem pc {W W':World} [h:Nonempty (Pl W W')] {α:Type} {d:Kd α} {A:Option Addr} {n:Nat} {xs:List α} (x:d.C W A n xs):d.C W' A n xs:=h.elim fun p=>p.cc x
theorem cz2 {W:World} {g:Nat} {v0 v1:Value} {t:TypeId} (h:W.heap[g]?=some (.cells #[v0,v1] t (0,0))):W.cell? ⟨g,0,none⟩=some v0∧W.cell? ⟨g,1,none⟩=some v1:=⟨(Zkc h 0).trans rfl,(Zkc h 1).trans rfl⟩
theorem cf2 {W:World} {g:Nat} {v0 v1:Value} {t:TypeId} (h:W.heap[g]?=some (.cells #[v0,v1] t (0,0))):W.cell? ⟨g,0,none⟩=some v0∧W.cell? ⟨g,1,none⟩=some v1∧W.frozen? ⟨g,0,none⟩=false∧W.frozen? ⟨g,1,none⟩=false:=by
  obtain ⟨h0,h1⟩:=cz2 h
  exact ⟨h0,h1,(by simp [World.frozen?,h]),(by simp [World.frozen?,h])⟩
theorem cz3 {W:World} {g:Nat} {v0 v1 v2:Value} {t:TypeId} (h:W.heap[g]?=some (.cells #[v0,v1,v2] t (0,0))):W.cell? ⟨g,0,none⟩=some v0∧W.cell? ⟨g,1,none⟩=some v1∧W.cell? ⟨g,2,none⟩=some v2:=⟨(Zkc h 0).trans rfl,(Zkc h 1).trans rfl,(Zkc h 2).trans rfl⟩
theorem cf3 {W:World} {g:Nat} {v0 v1 v2:Value} {t:TypeId} (h:W.heap[g]?=some (.cells #[v0,v1,v2] t (0,0))):W.cell? ⟨g,0,none⟩=some v0∧W.cell? ⟨g,1,none⟩=some v1∧W.cell? ⟨g,2,none⟩=some v2∧W.frozen? ⟨g,0,none⟩=false∧W.frozen? ⟨g,1,none⟩=false∧W.frozen? ⟨g,2,none⟩=false:=by
  obtain ⟨h0,h1,h2⟩:=cz3 h
  exact ⟨h0,h1,h2,(by simp [World.frozen?,h]),(by simp [World.frozen?,h]),(by simp [World.frozen?,h])⟩
theorem cz4 {W:World} {g:Nat} {v0 v1 v2 v3:Value} {t:TypeId} (h:W.heap[g]?=some (.cells #[v0,v1,v2,v3] t (0,0))):W.cell? ⟨g,0,none⟩=some v0∧W.cell? ⟨g,1,none⟩=some v1∧W.cell? ⟨g,2,none⟩=some v2∧W.cell? ⟨g,3,none⟩=some v3:=⟨(Zkc h 0).trans rfl,(Zkc h 1).trans rfl,(Zkc h 2).trans rfl,(Zkc h 3).trans rfl⟩
theorem cf4 {W:World} {g:Nat} {v0 v1 v2 v3:Value} {t:TypeId} (h:W.heap[g]?=some (.cells #[v0,v1,v2,v3] t (0,0))):W.cell? ⟨g,0,none⟩=some v0∧W.cell? ⟨g,1,none⟩=some v1∧W.cell? ⟨g,2,none⟩=some v2∧W.cell? ⟨g,3,none⟩=some v3∧W.frozen? ⟨g,0,none⟩=false∧W.frozen? ⟨g,1,none⟩=false∧W.frozen? ⟨g,2,none⟩=false∧W.frozen? ⟨g,3,none⟩=false:=by
  obtain ⟨h0,h1,h2,h3⟩:=cz4 h
  exact ⟨h0,h1,h2,h3,(by simp [World.frozen?,h]),(by simp [World.frozen?,h]),(by simp [World.frozen?,h]),(by simp [World.frozen?,h])⟩
theorem cz5 {W:World} {g:Nat} {v0 v1 v2 v3 v4:Value} {t:TypeId} (h:W.heap[g]?=some (.cells #[v0,v1,v2,v3,v4] t (0,0))):W.cell? ⟨g,0,none⟩=some v0∧W.cell? ⟨g,1,none⟩=some v1∧W.cell? ⟨g,2,none⟩=some v2∧W.cell? ⟨g,3,none⟩=some v3∧W.cell? ⟨g,4,none⟩=some v4:=⟨(Zkc h 0).trans rfl,(Zkc h 1).trans rfl,(Zkc h 2).trans rfl,(Zkc h 3).trans rfl,(Zkc h 4).trans rfl⟩
theorem cf5 {W:World} {g:Nat} {v0 v1 v2 v3 v4:Value} {t:TypeId} (h:W.heap[g]?=some (.cells #[v0,v1,v2,v3,v4] t (0,0))):W.cell? ⟨g,0,none⟩=some v0∧W.cell? ⟨g,1,none⟩=some v1∧W.cell? ⟨g,2,none⟩=some v2∧W.cell? ⟨g,3,none⟩=some v3∧W.cell? ⟨g,4,none⟩=some v4∧W.frozen? ⟨g,0,none⟩=false∧W.frozen? ⟨g,1,none⟩=false∧W.frozen? ⟨g,2,none⟩=false∧W.frozen? ⟨g,3,none⟩=false∧W.frozen? ⟨g,4,none⟩=false:=by
  obtain ⟨h0,h1,h2,h3,h4⟩:=cz5 h
  exact ⟨h0,h1,h2,h3,h4,(by simp [World.frozen?,h]),(by simp [World.frozen?,h]),(by simp [World.frozen?,h]),(by simp [World.frozen?,h]),(by simp [World.frozen?,h])⟩
theorem cz6 {W:World} {g:Nat} {v0 v1 v2 v3 v4 v5:Value} {t:TypeId} (h:W.heap[g]?=some (.cells #[v0,v1,v2,v3,v4,v5] t (0,0))):W.cell? ⟨g,0,none⟩=some v0∧W.cell? ⟨g,1,none⟩=some v1∧W.cell? ⟨g,2,none⟩=some v2∧W.cell? ⟨g,3,none⟩=some v3∧W.cell? ⟨g,4,none⟩=some v4∧W.cell? ⟨g,5,none⟩=some v5:=⟨(Zkc h 0).trans rfl,(Zkc h 1).trans rfl,(Zkc h 2).trans rfl,(Zkc h 3).trans rfl,(Zkc h 4).trans rfl,(Zkc h 5).trans rfl⟩
theorem cf6 {W:World} {g:Nat} {v0 v1 v2 v3 v4 v5:Value} {t:TypeId} (h:W.heap[g]?=some (.cells #[v0,v1,v2,v3,v4,v5] t (0,0))):W.cell? ⟨g,0,none⟩=some v0∧W.cell? ⟨g,1,none⟩=some v1∧W.cell? ⟨g,2,none⟩=some v2∧W.cell? ⟨g,3,none⟩=some v3∧W.cell? ⟨g,4,none⟩=some v4∧W.cell? ⟨g,5,none⟩=some v5∧W.frozen? ⟨g,0,none⟩=false∧W.frozen? ⟨g,1,none⟩=false∧W.frozen? ⟨g,2,none⟩=false∧W.frozen? ⟨g,3,none⟩=false∧W.frozen? ⟨g,4,none⟩=false∧W.frozen? ⟨g,5,none⟩=false:=by
  obtain ⟨h0,h1,h2,h3,h4,h5⟩:=cz6 h
  exact ⟨h0,h1,h2,h3,h4,h5,(by simp [World.frozen?,h]),(by simp [World.frozen?,h]),(by simp [World.frozen?,h]),(by simp [World.frozen?,h]),(by simp [World.frozen?,h]),(by simp [World.frozen?,h])⟩
theorem cz9 {W:World} {g:Nat} {v0 v1 v2 v3 v4 v5 v6 v7 v8:Value} {t:TypeId} (h:W.heap[g]?=some (.cells #[v0,v1,v2,v3,v4,v5,v6,v7,v8] t (0,0))):W.cell? ⟨g,0,none⟩=some v0∧W.cell? ⟨g,1,none⟩=some v1∧W.cell? ⟨g,2,none⟩=some v2∧W.cell? ⟨g,3,none⟩=some v3∧W.cell? ⟨g,4,none⟩=some v4∧W.cell? ⟨g,5,none⟩=some v5∧W.cell? ⟨g,6,none⟩=some v6∧W.cell? ⟨g,7,none⟩=some v7∧W.cell? ⟨g,8,none⟩=some v8:=⟨(Zkc h 0).trans rfl,(Zkc h 1).trans rfl,(Zkc h 2).trans rfl,(Zkc h 3).trans rfl,(Zkc h 4).trans rfl,(Zkc h 5).trans rfl,(Zkc h 6).trans rfl,(Zkc h 7).trans rfl,(Zkc h 8).trans rfl⟩
theorem cf9 {W:World} {g:Nat} {v0 v1 v2 v3 v4 v5 v6 v7 v8:Value} {t:TypeId} (h:W.heap[g]?=some (.cells #[v0,v1,v2,v3,v4,v5,v6,v7,v8] t (0,0))):W.cell? ⟨g,0,none⟩=some v0∧W.cell? ⟨g,1,none⟩=some v1∧W.cell? ⟨g,2,none⟩=some v2∧W.cell? ⟨g,3,none⟩=some v3∧W.cell? ⟨g,4,none⟩=some v4∧W.cell? ⟨g,5,none⟩=some v5∧W.cell? ⟨g,6,none⟩=some v6∧W.cell? ⟨g,7,none⟩=some v7∧W.cell? ⟨g,8,none⟩=some v8∧W.frozen? ⟨g,0,none⟩=false∧W.frozen? ⟨g,1,none⟩=false∧W.frozen? ⟨g,2,none⟩=false∧W.frozen? ⟨g,3,none⟩=false∧W.frozen? ⟨g,4,none⟩=false∧W.frozen? ⟨g,5,none⟩=false∧W.frozen? ⟨g,6,none⟩=false∧W.frozen? ⟨g,7,none⟩=false∧W.frozen? ⟨g,8,none⟩=false:=by
  obtain ⟨h0,h1,h2,h3,h4,h5,h6,h7,h8⟩:=cz9 h
  exact ⟨h0,h1,h2,h3,h4,h5,h6,h7,h8,(by simp [World.frozen?,h]),(by simp [World.frozen?,h]),(by simp [World.frozen?,h]),(by simp [World.frozen?,h]),(by simp [World.frozen?,h]),(by simp [World.frozen?,h]),(by simp [World.frozen?,h]),(by simp [World.frozen?,h]),(by simp [World.frozen?,h])⟩
theorem info2:(Try.prog.info? 2).map (fun i=>(i.zero,i.size,i.bytes))=some (some (.int .i64 0),1,8):=by kernel_rfl
theorem info4:(Try.prog.info? 4).map (fun i=>(i.zero,i.size,i.bytes))=some (some (.bool false),1,1):=by kernel_rfl
theorem info5:(Try.prog.info? 5).map (fun i=>(i.zero,i.size,i.bytes))=some (some (.int .u8 0),1,1):=by kernel_rfl
theorem info9:(Try.prog.info? 9).map (fun i=>(i.zero,i.size,i.bytes))=some (some (.string ⟨#[]⟩),1,16):=by kernel_rfl
theorem info34:(Try.prog.info? 34).map (fun i=>(i.zero,i.size,i.bytes))=some (some (.agg #[(.string ⟨#[]⟩),(.string ⟨#[]⟩),(.bool false),(.bool false),(.bool false),(.int .i64 0),(.int .i64 0),(.slice none 0 0),(.slice none 0 0)]),9,104):=by kernel_rfl
theorem info45:(Try.prog.info? 45).map (fun i=>(i.zero,i.size,i.bytes))=some (some (.agg #[(.string ⟨#[]⟩),(.string ⟨#[]⟩),(.bool false)]),3,40):=by kernel_rfl
theorem info77:(Try.prog.info? 77).map (fun i=>(i.zero,i.size,i.bytes))=some (some (.agg #[(.int .i64 0),(.int .i64 0),(.string ⟨#[]⟩),(.string ⟨#[]⟩),(.string ⟨#[]⟩)]),5,64):=by kernel_rfl
theorem info81:(Try.prog.info? 81).map (fun i=>(i.zero,i.size,i.bytes))=some (some (.agg #[(.int .i64 0),(.int .i64 0),(.int .i64 0),(.string ⟨#[]⟩)]),4,40):=by kernel_rfl
-- the values' own types
structure S77 where
  f0:Int
  f1:Int
  f2:ByteArray
  f3:ByteArray
  f4:ByteArray
def z77:S77:=⟨(0:Int),(0:Int),(⟨#[]⟩:ByteArray),(⟨#[]⟩:ByteArray),(⟨#[]⟩:ByteArray)⟩
def k77:Kd S77:=Kd.iso (Kd.pair (Kd.int .i64) (Kd.pair (Kd.int .i64) (Kd.pair Kd.string (Kd.pair Kd.string Kd.string)))) (fun x:S77=>(x.f0,x.f1,x.f2,x.f3,x.f4))
theorem k77_heap:Kd.Heap k77:=Kd.heap_iso _ (Kd.heap_pair (Kd.heap_int .i64) (Kd.heap_pair (Kd.heap_int .i64) (Kd.heap_pair Kd.heap_string (Kd.heap_pair Kd.heap_string Kd.heap_string))))
theorem k77_open {w:World} {x:S77} {cs:List Value} (h:k77.K w x cs):cs=[.int .i64 x.f0,.int .i64 x.f1,.string x.f2,.string x.f3,.string x.f4]:=by
  obtain ⟨_,_,rfl,rfl,⟨_,_,rfl,rfl,⟨_,_,rfl,rfl,⟨_,_,rfl,rfl,rfl⟩⟩⟩⟩:=h
  exact rfl
theorem k77_openM {w:World} {base:Nat} {ok:Nat→Prop} {x:S77} {cs:List Value} (h:k77.M w base ok x cs):cs=[.int .i64 x.f0,.int .i64 x.f1,.string x.f2,.string x.f3,.string x.f4]:=by
  obtain ⟨_,_,rfl,rfl,⟨_,_,rfl,rfl,⟨_,_,rfl,rfl,⟨_,_,rfl,rfl,rfl⟩⟩⟩⟩:=h
  exact rfl
theorem k77_mk (w:World) (x:S77)  : k77.K w x [.int .i64 x.f0,.int .i64 x.f1,.string x.f2,.string x.f3,.string x.f4]:=⟨[.int .i64 x.f0],[.int .i64 x.f1,.string x.f2,.string x.f3,.string x.f4],rfl,rfl,⟨[.int .i64 x.f1],[.string x.f2,.string x.f3,.string x.f4],rfl,rfl,⟨[.string x.f2],[.string x.f3,.string x.f4],rfl,rfl,⟨[.string x.f3],[.string x.f4],rfl,rfl,rfl⟩⟩⟩⟩
theorem k77_mkM (w:World) (base:Nat) (ok:Nat→Prop) (x:S77)  : k77.M w base ok x [.int .i64 x.f0,.int .i64 x.f1,.string x.f2,.string x.f3,.string x.f4]:=⟨[.int .i64 x.f0],[.int .i64 x.f1,.string x.f2,.string x.f3,.string x.f4],rfl,rfl,⟨[.int .i64 x.f1],[.string x.f2,.string x.f3,.string x.f4],rfl,rfl,⟨[.string x.f2],[.string x.f3,.string x.f4],rfl,rfl,⟨[.string x.f3],[.string x.f4],rfl,rfl,rfl⟩⟩⟩⟩
def rd_T77 (xs:List S77) (i:Int):S77:=xs.getD i.toNat z77
theorem at_T77 {w:World} {A:Option Addr} {n:Nat} {xs:List S77} (h:Kd.C k77 w A n xs) (i:Int) (h0:0≤i) (h1:i < n):∃ ad ,A=some ad∧w.cell? (ad.add (i.toNat*5))=some (.int .i64 (rd_T77 xs i).f0)∧w.cell? ⟨(ad.add (i.toNat*5)).block,(ad.add (i.toNat*5)).off+1,none⟩=some (.int .i64 (rd_T77 xs i).f1)∧w.cell? ⟨(ad.add (i.toNat*5)).block,(ad.add (i.toNat*5)).off+2,none⟩=some (.string (rd_T77 xs i).f2)∧w.cell? ⟨(ad.add (i.toNat*5)).block,(ad.add (i.toNat*5)).off+3,none⟩=some (.string (rd_T77 xs i).f3)∧w.cell? ⟨(ad.add (i.toNat*5)).block,(ad.add (i.toNat*5)).off+4,none⟩=some (.string (rd_T77 xs i).f4):=by
  obtain ⟨ad,c,e,_,hK,hc0⟩:=Kd.C_get h z77 i h0 h1
  have hc:∀ j u,c[j]?=some u→w.cell? (ad.add (i.toNat*5+j))=some u:=hc0
  obtain rfl:=k77_open hK
  exact ⟨ad,e,hc 0 _ rfl,by rw [← add_field _ _ 1 (by omega)];exact hc 1 _ rfl,by rw [← add_field _ _ 2 (by omega)];exact hc 2 _ rfl,by rw [← add_field _ _ 3 (by omega)];exact hc 3 _ rfl,by rw [← add_field _ _ 4 (by omega)];exact hc 4 _ rfl⟩
structure S81 where
  f0:Int
  f1:Int
  f2:Int
  f3:ByteArray
def z81:S81:=⟨(0:Int),(0:Int),(0:Int),(⟨#[]⟩:ByteArray)⟩
def k81:Kd S81:=Kd.iso (Kd.pair (Kd.int .i64) (Kd.pair (Kd.int .i64) (Kd.pair (Kd.int .i64) Kd.string))) (fun x:S81=>(x.f0,x.f1,x.f2,x.f3))
theorem k81_heap:Kd.Heap k81:=Kd.heap_iso _ (Kd.heap_pair (Kd.heap_int .i64) (Kd.heap_pair (Kd.heap_int .i64) (Kd.heap_pair (Kd.heap_int .i64) Kd.heap_string)))
theorem k81_open {w:World} {x:S81} {cs:List Value} (h:k81.K w x cs):cs=[.int .i64 x.f0,.int .i64 x.f1,.int .i64 x.f2,.string x.f3]:=by
  obtain ⟨_,_,rfl,rfl,⟨_,_,rfl,rfl,⟨_,_,rfl,rfl,rfl⟩⟩⟩:=h
  exact rfl
theorem k81_openM {w:World} {base:Nat} {ok:Nat→Prop} {x:S81} {cs:List Value} (h:k81.M w base ok x cs):cs=[.int .i64 x.f0,.int .i64 x.f1,.int .i64 x.f2,.string x.f3]:=by
  obtain ⟨_,_,rfl,rfl,⟨_,_,rfl,rfl,⟨_,_,rfl,rfl,rfl⟩⟩⟩:=h
  exact rfl
theorem k81_mk (w:World) (x:S81)  : k81.K w x [.int .i64 x.f0,.int .i64 x.f1,.int .i64 x.f2,.string x.f3]:=⟨[.int .i64 x.f0],[.int .i64 x.f1,.int .i64 x.f2,.string x.f3],rfl,rfl,⟨[.int .i64 x.f1],[.int .i64 x.f2,.string x.f3],rfl,rfl,⟨[.int .i64 x.f2],[.string x.f3],rfl,rfl,rfl⟩⟩⟩
theorem k81_mkM (w:World) (base:Nat) (ok:Nat→Prop) (x:S81)  : k81.M w base ok x [.int .i64 x.f0,.int .i64 x.f1,.int .i64 x.f2,.string x.f3]:=⟨[.int .i64 x.f0],[.int .i64 x.f1,.int .i64 x.f2,.string x.f3],rfl,rfl,⟨[.int .i64 x.f1],[.int .i64 x.f2,.string x.f3],rfl,rfl,⟨[.int .i64 x.f2],[.string x.f3],rfl,rfl,rfl⟩⟩⟩
def rd_T81 (xs:List S81) (i:Int):S81:=xs.getD i.toNat z81
theorem at_T81 {w:World} {A:Option Addr} {n:Nat} {xs:List S81} (h:Kd.C k81 w A n xs) (i:Int) (h0:0≤i) (h1:i < n):∃ ad ,A=some ad∧w.cell? (ad.add (i.toNat*4))=some (.int .i64 (rd_T81 xs i).f0)∧w.cell? ⟨(ad.add (i.toNat*4)).block,(ad.add (i.toNat*4)).off+1,none⟩=some (.int .i64 (rd_T81 xs i).f1)∧w.cell? ⟨(ad.add (i.toNat*4)).block,(ad.add (i.toNat*4)).off+2,none⟩=some (.int .i64 (rd_T81 xs i).f2)∧w.cell? ⟨(ad.add (i.toNat*4)).block,(ad.add (i.toNat*4)).off+3,none⟩=some (.string (rd_T81 xs i).f3):=by
  obtain ⟨ad,c,e,_,hK,hc0⟩:=Kd.C_get h z81 i h0 h1
  have hc:∀ j u,c[j]?=some u→w.cell? (ad.add (i.toNat*4+j))=some u:=hc0
  obtain rfl:=k81_open hK
  exact ⟨ad,e,hc 0 _ rfl,by rw [← add_field _ _ 1 (by omega)];exact hc 1 _ rfl,by rw [← add_field _ _ 2 (by omega)];exact hc 2 _ rfl,by rw [← add_field _ _ 3 (by omega)];exact hc 3 _ rfl⟩
structure S45 where
  f0:ByteArray
  f1:ByteArray
  f2:Bool
def z45:S45:=⟨(⟨#[]⟩:ByteArray),(⟨#[]⟩:ByteArray),false⟩
def k45:Kd S45:=Kd.iso (Kd.pair Kd.string (Kd.pair Kd.string Kd.bool)) (fun x:S45=>(x.f0,x.f1,x.f2))
theorem k45_heap:Kd.Heap k45:=Kd.heap_iso _ (Kd.heap_pair Kd.heap_string (Kd.heap_pair Kd.heap_string Kd.heap_bool))
theorem k45_open {w:World} {x:S45} {cs:List Value} (h:k45.K w x cs):cs=[.string x.f0,.string x.f1,.bool x.f2]:=by
  obtain ⟨_,_,rfl,rfl,⟨_,_,rfl,rfl,rfl⟩⟩:=h
  exact rfl
theorem k45_openM {w:World} {base:Nat} {ok:Nat→Prop} {x:S45} {cs:List Value} (h:k45.M w base ok x cs):cs=[.string x.f0,.string x.f1,.bool x.f2]:=by
  obtain ⟨_,_,rfl,rfl,⟨_,_,rfl,rfl,rfl⟩⟩:=h
  exact rfl
theorem k45_mk (w:World) (x:S45)  : k45.K w x [.string x.f0,.string x.f1,.bool x.f2]:=⟨[.string x.f0],[.string x.f1,.bool x.f2],rfl,rfl,⟨[.string x.f1],[.bool x.f2],rfl,rfl,rfl⟩⟩
theorem k45_mkM (w:World) (base:Nat) (ok:Nat→Prop) (x:S45)  : k45.M w base ok x [.string x.f0,.string x.f1,.bool x.f2]:=⟨[.string x.f0],[.string x.f1,.bool x.f2],rfl,rfl,⟨[.string x.f1],[.bool x.f2],rfl,rfl,rfl⟩⟩
def rd_T45 (xs:List S45) (i:Int):S45:=xs.getD i.toNat z45
theorem at_T45 {w:World} {A:Option Addr} {n:Nat} {xs:List S45} (h:Kd.C k45 w A n xs) (i:Int) (h0:0≤i) (h1:i < n):∃ ad ,A=some ad∧w.cell? (ad.add (i.toNat*3))=some (.string (rd_T45 xs i).f0)∧w.cell? ⟨(ad.add (i.toNat*3)).block,(ad.add (i.toNat*3)).off+1,none⟩=some (.string (rd_T45 xs i).f1)∧w.cell? ⟨(ad.add (i.toNat*3)).block,(ad.add (i.toNat*3)).off+2,none⟩=some (.bool (rd_T45 xs i).f2):=by
  obtain ⟨ad,c,e,_,hK,hc0⟩:=Kd.C_get h z45 i h0 h1
  have hc:∀ j u,c[j]?=some u→w.cell? (ad.add (i.toNat*3+j))=some u:=hc0
  obtain rfl:=k45_open hK
  exact ⟨ad,e,hc 0 _ rfl,by rw [← add_field _ _ 1 (by omega)];exact hc 1 _ rfl,by rw [← add_field _ _ 2 (by omega)];exact hc 2 _ rfl⟩
def rd_L7 (xs:List (List S77)) (i:Int):(List S77):=xs.getD i.toNat ([]:List S77)
theorem at_L7 {w:World} {A:Option Addr} {n:Nat} {xs:List (List S77)} (h:Kd.C (Kd.slice 77 k77) w A n xs) (i:Int) (h0:0≤i) (h1:i < n):∃ ad A0 c0,A=some ad∧w.cell? (ad.add i.toNat)=some (.slice A0 (rd_L7 xs i).length c0)∧(rd_L7 xs i).length≤c0∧k77.C w A0 (rd_L7 xs i).length (rd_L7 xs i):=by
  obtain ⟨ad,c,e,_,hK,hc0⟩:=Kd.C_get h ([]:List S77) i h0 h1
  have hc:∀ j u,c[j]?=some u→w.cell? (ad.add (i.toNat*1+j))=some u:=hc0
  obtain ⟨A0,c0,rfl,l0,g0⟩:=hK
  exact ⟨ad,A0,c0,e,by have hq:=hc 0 _ rfl;rwa [Nat.mul_one,Nat.add_zero] at hq,l0,g0⟩
def rd_L8 (xs:List (List S81)) (i:Int):(List S81):=xs.getD i.toNat ([]:List S81)
theorem at_L8 {w:World} {A:Option Addr} {n:Nat} {xs:List (List S81)} (h:Kd.C (Kd.slice 81 k81) w A n xs) (i:Int) (h0:0≤i) (h1:i < n):∃ ad A0 c0,A=some ad∧w.cell? (ad.add i.toNat)=some (.slice A0 (rd_L8 xs i).length c0)∧(rd_L8 xs i).length≤c0∧k81.C w A0 (rd_L8 xs i).length (rd_L8 xs i):=by
  obtain ⟨ad,c,e,_,hK,hc0⟩:=Kd.C_get h ([]:List S81) i h0 h1
  have hc:∀ j u,c[j]?=some u→w.cell? (ad.add (i.toNat*1+j))=some u:=hc0
  obtain ⟨A0,c0,rfl,l0,g0⟩:=hK
  exact ⟨ad,A0,c0,e,by have hq:=hc 0 _ rfl;rwa [Nat.mul_one,Nat.add_zero] at hq,l0,g0⟩
structure S34 where
  f0:ByteArray
  f1:ByteArray
  f2:Bool
  f3:Bool
  f4:Bool
  f5:Int
  f6:Int
  f7:(List S77)
  f8:(List S81)
def z34:S34:=⟨(⟨#[]⟩:ByteArray),(⟨#[]⟩:ByteArray),false,false,false,(0:Int),(0:Int),([]:List S77),([]:List S81)⟩
def k34:Kd S34:=Kd.iso (Kd.pair Kd.string (Kd.pair Kd.string (Kd.pair Kd.bool (Kd.pair Kd.bool (Kd.pair Kd.bool (Kd.pair (Kd.int .i64) (Kd.pair (Kd.int .i64) (Kd.pair (Kd.slice 77 k77) (Kd.slice 81 k81))))))))) (fun x:S34=>(x.f0,x.f1,x.f2,x.f3,x.f4,x.f5,x.f6,x.f7,x.f8))
theorem k34_heap:Kd.Heap k34:=Kd.heap_iso _ (Kd.heap_pair Kd.heap_string (Kd.heap_pair Kd.heap_string (Kd.heap_pair Kd.heap_bool (Kd.heap_pair Kd.heap_bool (Kd.heap_pair Kd.heap_bool (Kd.heap_pair (Kd.heap_int .i64) (Kd.heap_pair (Kd.heap_int .i64) (Kd.heap_pair (Kd.heap_slice 77 k77_heap) (Kd.heap_slice 81 k81_heap)))))))))
theorem k34_open {w:World} {x:S34} {cs:List Value} (h:k34.K w x cs):∃ A7 c7 A8 c8,cs=[.string x.f0,.string x.f1,.bool x.f2,.bool x.f3,.bool x.f4,.int .i64 x.f5,.int .i64 x.f6,.slice A7 x.f7.length c7,.slice A8 x.f8.length c8]∧x.f7.length≤c7∧k77.C w A7 x.f7.length x.f7∧x.f8.length≤c8∧k81.C w A8 x.f8.length x.f8:=by
  obtain ⟨_,_,rfl,rfl,⟨_,_,rfl,rfl,⟨_,_,rfl,rfl,⟨_,_,rfl,rfl,⟨_,_,rfl,rfl,⟨_,_,rfl,rfl,⟨_,_,rfl,rfl,⟨_,_,rfl,⟨A7,c7,rfl,l7,g7⟩,⟨A8,c8,rfl,l8,g8⟩⟩⟩⟩⟩⟩⟩⟩⟩:=h
  exact ⟨A7,c7,A8,c8,rfl,l7,g7,l8,g8⟩
theorem k34_openM {w:World} {base:Nat} {ok:Nat→Prop} {x:S34} {cs:List Value} (h:k34.M w base ok x cs):∃ v7 v8,cs=[.string x.f0,.string x.f1,.bool x.f2,.bool x.f3,.bool x.f4,.int .i64 x.f5,.int .i64 x.f6,v7,v8]∧k77.R 77 w base ok v7 x.f7∧k81.R 81 w base ok v8 x.f8:=by
  obtain ⟨_,_,rfl,rfl,⟨_,_,rfl,rfl,⟨_,_,rfl,rfl,⟨_,_,rfl,rfl,⟨_,_,rfl,rfl,⟨_,_,rfl,rfl,⟨_,_,rfl,rfl,⟨_,_,rfl,⟨v7,rfl,g7⟩,⟨v8,rfl,g8⟩⟩⟩⟩⟩⟩⟩⟩⟩:=h
  exact ⟨v7,v8,rfl,g7,g8⟩
theorem k34_mk (w:World) (x:S34) {A7:Option Addr} {c7:Nat} (l7:x.f7.length≤c7) (g7:k77.C w A7 x.f7.length x.f7) {A8:Option Addr} {c8:Nat} (l8:x.f8.length≤c8) (g8:k81.C w A8 x.f8.length x.f8):k34.K w x [.string x.f0,.string x.f1,.bool x.f2,.bool x.f3,.bool x.f4,.int .i64 x.f5,.int .i64 x.f6,.slice A7 x.f7.length c7,.slice A8 x.f8.length c8]:=⟨[.string x.f0],[.string x.f1,.bool x.f2,.bool x.f3,.bool x.f4,.int .i64 x.f5,.int .i64 x.f6,.slice A7 x.f7.length c7,.slice A8 x.f8.length c8],rfl,rfl,⟨[.string x.f1],[.bool x.f2,.bool x.f3,.bool x.f4,.int .i64 x.f5,.int .i64 x.f6,.slice A7 x.f7.length c7,.slice A8 x.f8.length c8],rfl,rfl,⟨[.bool x.f2],[.bool x.f3,.bool x.f4,.int .i64 x.f5,.int .i64 x.f6,.slice A7 x.f7.length c7,.slice A8 x.f8.length c8],rfl,rfl,⟨[.bool x.f3],[.bool x.f4,.int .i64 x.f5,.int .i64 x.f6,.slice A7 x.f7.length c7,.slice A8 x.f8.length c8],rfl,rfl,⟨[.bool x.f4],[.int .i64 x.f5,.int .i64 x.f6,.slice A7 x.f7.length c7,.slice A8 x.f8.length c8],rfl,rfl,⟨[.int .i64 x.f5],[.int .i64 x.f6,.slice A7 x.f7.length c7,.slice A8 x.f8.length c8],rfl,rfl,⟨[.int .i64 x.f6],[.slice A7 x.f7.length c7,.slice A8 x.f8.length c8],rfl,rfl,⟨[.slice A7 x.f7.length c7],[.slice A8 x.f8.length c8],rfl,⟨A7,c7,rfl,l7,g7⟩,⟨A8,c8,rfl,l8,g8⟩⟩⟩⟩⟩⟩⟩⟩⟩
theorem k34_mkM (w:World) (base:Nat) (ok:Nat→Prop) (x:S34) {v7:Value} (g7:k77.R 77 w base ok v7 x.f7) {v8:Value} (g8:k81.R 81 w base ok v8 x.f8):k34.M w base ok x [.string x.f0,.string x.f1,.bool x.f2,.bool x.f3,.bool x.f4,.int .i64 x.f5,.int .i64 x.f6,v7,v8]:=⟨[.string x.f0],[.string x.f1,.bool x.f2,.bool x.f3,.bool x.f4,.int .i64 x.f5,.int .i64 x.f6,v7,v8],rfl,rfl,⟨[.string x.f1],[.bool x.f2,.bool x.f3,.bool x.f4,.int .i64 x.f5,.int .i64 x.f6,v7,v8],rfl,rfl,⟨[.bool x.f2],[.bool x.f3,.bool x.f4,.int .i64 x.f5,.int .i64 x.f6,v7,v8],rfl,rfl,⟨[.bool x.f3],[.bool x.f4,.int .i64 x.f5,.int .i64 x.f6,v7,v8],rfl,rfl,⟨[.bool x.f4],[.int .i64 x.f5,.int .i64 x.f6,v7,v8],rfl,rfl,⟨[.int .i64 x.f5],[.int .i64 x.f6,v7,v8],rfl,rfl,⟨[.int .i64 x.f6],[v7,v8],rfl,rfl,⟨[v7],[v8],rfl,⟨v7,rfl,g7⟩,⟨v8,rfl,g8⟩⟩⟩⟩⟩⟩⟩⟩⟩
def rd_T34 (xs:List S34) (i:Int):S34:=xs.getD i.toNat z34
theorem at_T34 {w:World} {A:Option Addr} {n:Nat} {xs:List S34} (h:Kd.C k34 w A n xs) (i:Int) (h0:0≤i) (h1:i < n):∃ ad A7 c7 A8 c8,A=some ad∧w.cell? (ad.add (i.toNat*9))=some (.string (rd_T34 xs i).f0)∧w.cell? ⟨(ad.add (i.toNat*9)).block,(ad.add (i.toNat*9)).off+1,none⟩=some (.string (rd_T34 xs i).f1)∧w.cell? ⟨(ad.add (i.toNat*9)).block,(ad.add (i.toNat*9)).off+2,none⟩=some (.bool (rd_T34 xs i).f2)∧w.cell? ⟨(ad.add (i.toNat*9)).block,(ad.add (i.toNat*9)).off+3,none⟩=some (.bool (rd_T34 xs i).f3)∧w.cell? ⟨(ad.add (i.toNat*9)).block,(ad.add (i.toNat*9)).off+4,none⟩=some (.bool (rd_T34 xs i).f4)∧w.cell? ⟨(ad.add (i.toNat*9)).block,(ad.add (i.toNat*9)).off+5,none⟩=some (.int .i64 (rd_T34 xs i).f5)∧w.cell? ⟨(ad.add (i.toNat*9)).block,(ad.add (i.toNat*9)).off+6,none⟩=some (.int .i64 (rd_T34 xs i).f6)∧w.cell? ⟨(ad.add (i.toNat*9)).block,(ad.add (i.toNat*9)).off+7,none⟩=some (.slice A7 (rd_T34 xs i).f7.length c7)∧w.cell? ⟨(ad.add (i.toNat*9)).block,(ad.add (i.toNat*9)).off+8,none⟩=some (.slice A8 (rd_T34 xs i).f8.length c8)∧(rd_T34 xs i).f7.length≤c7∧k77.C w A7 (rd_T34 xs i).f7.length (rd_T34 xs i).f7∧(rd_T34 xs i).f8.length≤c8∧k81.C w A8 (rd_T34 xs i).f8.length (rd_T34 xs i).f8:=by
  obtain ⟨ad,c,e,_,hK,hc0⟩:=Kd.C_get h z34 i h0 h1
  have hc:∀ j u,c[j]?=some u→w.cell? (ad.add (i.toNat*9+j))=some u:=hc0
  obtain ⟨A7,c7,A8,c8,rfl,l7,g7,l8,g8⟩:=k34_open hK
  exact ⟨ad,A7,c7,A8,c8,e,hc 0 _ rfl,by rw [← add_field _ _ 1 (by omega)];exact hc 1 _ rfl,by rw [← add_field _ _ 2 (by omega)];exact hc 2 _ rfl,by rw [← add_field _ _ 3 (by omega)];exact hc 3 _ rfl,by rw [← add_field _ _ 4 (by omega)];exact hc 4 _ rfl,by rw [← add_field _ _ 5 (by omega)];exact hc 5 _ rfl,by rw [← add_field _ _ 6 (by omega)];exact hc 6 _ rfl,by rw [← add_field _ _ 7 (by omega)];exact hc 7 _ rfl,by rw [← add_field _ _ 8 (by omega)];exact hc 8 _ rfl,l7,g7,l8,g8⟩
def rd_L10 (xs:List (List ByteArray)) (i:Int):(List ByteArray):=xs.getD i.toNat ([]:List ByteArray)
theorem at_L10 {w:World} {A:Option Addr} {n:Nat} {xs:List (List ByteArray)} (h:Kd.C (Kd.slice 9 Kd.string) w A n xs) (i:Int) (h0:0≤i) (h1:i < n):∃ ad A0 c0,A=some ad∧w.cell? (ad.add i.toNat)=some (.slice A0 (rd_L10 xs i).length c0)∧(rd_L10 xs i).length≤c0∧Kd.string.C w A0 (rd_L10 xs i).length (rd_L10 xs i):=by
  obtain ⟨ad,c,e,_,hK,hc0⟩:=Kd.C_get h ([]:List ByteArray) i h0 h1
  have hc:∀ j u,c[j]?=some u→w.cell? (ad.add (i.toNat*1+j))=some u:=hc0
  obtain ⟨A0,c0,rfl,l0,g0⟩:=hK
  exact ⟨ad,A0,c0,e,by have hq:=hc 0 _ rfl;rwa [Nat.mul_one,Nat.add_zero] at hq,l0,g0⟩
def rd_L11 (xs:List (List Int)) (i:Int):(List Int):=xs.getD i.toNat ([]:List Int)
theorem at_L11 {w:World} {A:Option Addr} {n:Nat} {xs:List (List Int)} (h:Kd.C (Kd.slice 2 (Kd.int .i64)) w A n xs) (i:Int) (h0:0≤i) (h1:i < n):∃ ad A0 c0,A=some ad∧w.cell? (ad.add i.toNat)=some (.slice A0 (rd_L11 xs i).length c0)∧(rd_L11 xs i).length≤c0∧(Kd.int .i64).C w A0 (rd_L11 xs i).length (rd_L11 xs i):=by
  obtain ⟨ad,c,e,_,hK,hc0⟩:=Kd.C_get h ([]:List Int) i h0 h1
  have hc:∀ j u,c[j]?=some u→w.cell? (ad.add (i.toNat*1+j))=some u:=hc0
  obtain ⟨A0,c0,rfl,l0,g0⟩:=hK
  exact ⟨ad,A0,c0,e,by have hq:=hc 0 _ rfl;rwa [Nat.mul_one,Nat.add_zero] at hq,l0,g0⟩
def rd_L12 (xs:List (List S45)) (i:Int):(List S45):=xs.getD i.toNat ([]:List S45)
theorem at_L12 {w:World} {A:Option Addr} {n:Nat} {xs:List (List S45)} (h:Kd.C (Kd.slice 45 k45) w A n xs) (i:Int) (h0:0≤i) (h1:i < n):∃ ad A0 c0,A=some ad∧w.cell? (ad.add i.toNat)=some (.slice A0 (rd_L12 xs i).length c0)∧(rd_L12 xs i).length≤c0∧k45.C w A0 (rd_L12 xs i).length (rd_L12 xs i):=by
  obtain ⟨ad,c,e,_,hK,hc0⟩:=Kd.C_get h ([]:List S45) i h0 h1
  have hc:∀ j u,c[j]?=some u→w.cell? (ad.add (i.toNat*1+j))=some u:=hc0
  obtain ⟨A0,c0,rfl,l0,g0⟩:=hK
  exact ⟨ad,A0,c0,e,by have hq:=hc 0 _ rfl;rwa [Nat.mul_one,Nat.add_zero] at hq,l0,g0⟩
def rd_L13 (xs:List (List S34)) (i:Int):(List S34):=xs.getD i.toNat ([]:List S34)
theorem at_L13 {w:World} {A:Option Addr} {n:Nat} {xs:List (List S34)} (h:Kd.C (Kd.slice 34 k34) w A n xs) (i:Int) (h0:0≤i) (h1:i < n):∃ ad A0 c0,A=some ad∧w.cell? (ad.add i.toNat)=some (.slice A0 (rd_L13 xs i).length c0)∧(rd_L13 xs i).length≤c0∧k34.C w A0 (rd_L13 xs i).length (rd_L13 xs i):=by
  obtain ⟨ad,c,e,_,hK,hc0⟩:=Kd.C_get h ([]:List S34) i h0 h1
  have hc:∀ j u,c[j]?=some u→w.cell? (ad.add (i.toNat*1+j))=some u:=hc0
  obtain ⟨A0,c0,rfl,l0,g0⟩:=hK
  exact ⟨ad,A0,c0,e,by have hq:=hc 0 _ rfl;rwa [Nat.mul_one,Nat.add_zero] at hq,l0,g0⟩
structure S26 where
  f0:ByteArray
  f1:ByteArray
  f2:Bool
  f3:Bool
  f4:(List S45)
  f5:(List S34)
def z26:S26:=⟨(⟨#[]⟩:ByteArray),(⟨#[]⟩:ByteArray),false,false,([]:List S45),([]:List S34)⟩
def k26:Kd S26:=Kd.iso (Kd.pair Kd.string (Kd.pair Kd.string (Kd.pair Kd.bool (Kd.pair Kd.bool (Kd.pair (Kd.slice 45 k45) (Kd.slice 34 k34)))))) (fun x:S26=>(x.f0,x.f1,x.f2,x.f3,x.f4,x.f5))
theorem k26_heap:Kd.Heap k26:=Kd.heap_iso _ (Kd.heap_pair Kd.heap_string (Kd.heap_pair Kd.heap_string (Kd.heap_pair Kd.heap_bool (Kd.heap_pair Kd.heap_bool (Kd.heap_pair (Kd.heap_slice 45 k45_heap) (Kd.heap_slice 34 k34_heap))))))
theorem k26_open {w:World} {x:S26} {cs:List Value} (h:k26.K w x cs):∃ A4 c4 A5 c5,cs=[.string x.f0,.string x.f1,.bool x.f2,.bool x.f3,.slice A4 x.f4.length c4,.slice A5 x.f5.length c5]∧x.f4.length≤c4∧k45.C w A4 x.f4.length x.f4∧x.f5.length≤c5∧k34.C w A5 x.f5.length x.f5:=by
  obtain ⟨_,_,rfl,rfl,⟨_,_,rfl,rfl,⟨_,_,rfl,rfl,⟨_,_,rfl,rfl,⟨_,_,rfl,⟨A4,c4,rfl,l4,g4⟩,⟨A5,c5,rfl,l5,g5⟩⟩⟩⟩⟩⟩:=h
  exact ⟨A4,c4,A5,c5,rfl,l4,g4,l5,g5⟩
theorem k26_openM {w:World} {base:Nat} {ok:Nat→Prop} {x:S26} {cs:List Value} (h:k26.M w base ok x cs):∃ v4 v5,cs=[.string x.f0,.string x.f1,.bool x.f2,.bool x.f3,v4,v5]∧k45.R 45 w base ok v4 x.f4∧k34.R 34 w base ok v5 x.f5:=by
  obtain ⟨_,_,rfl,rfl,⟨_,_,rfl,rfl,⟨_,_,rfl,rfl,⟨_,_,rfl,rfl,⟨_,_,rfl,⟨v4,rfl,g4⟩,⟨v5,rfl,g5⟩⟩⟩⟩⟩⟩:=h
  exact ⟨v4,v5,rfl,g4,g5⟩
theorem k26_mk (w:World) (x:S26) {A4:Option Addr} {c4:Nat} (l4:x.f4.length≤c4) (g4:k45.C w A4 x.f4.length x.f4) {A5:Option Addr} {c5:Nat} (l5:x.f5.length≤c5) (g5:k34.C w A5 x.f5.length x.f5):k26.K w x [.string x.f0,.string x.f1,.bool x.f2,.bool x.f3,.slice A4 x.f4.length c4,.slice A5 x.f5.length c5]:=⟨[.string x.f0],[.string x.f1,.bool x.f2,.bool x.f3,.slice A4 x.f4.length c4,.slice A5 x.f5.length c5],rfl,rfl,⟨[.string x.f1],[.bool x.f2,.bool x.f3,.slice A4 x.f4.length c4,.slice A5 x.f5.length c5],rfl,rfl,⟨[.bool x.f2],[.bool x.f3,.slice A4 x.f4.length c4,.slice A5 x.f5.length c5],rfl,rfl,⟨[.bool x.f3],[.slice A4 x.f4.length c4,.slice A5 x.f5.length c5],rfl,rfl,⟨[.slice A4 x.f4.length c4],[.slice A5 x.f5.length c5],rfl,⟨A4,c4,rfl,l4,g4⟩,⟨A5,c5,rfl,l5,g5⟩⟩⟩⟩⟩⟩
theorem k26_mkM (w:World) (base:Nat) (ok:Nat→Prop) (x:S26) {v4:Value} (g4:k45.R 45 w base ok v4 x.f4) {v5:Value} (g5:k34.R 34 w base ok v5 x.f5):k26.M w base ok x [.string x.f0,.string x.f1,.bool x.f2,.bool x.f3,v4,v5]:=⟨[.string x.f0],[.string x.f1,.bool x.f2,.bool x.f3,v4,v5],rfl,rfl,⟨[.string x.f1],[.bool x.f2,.bool x.f3,v4,v5],rfl,rfl,⟨[.bool x.f2],[.bool x.f3,v4,v5],rfl,rfl,⟨[.bool x.f3],[v4,v5],rfl,rfl,⟨[v4],[v5],rfl,⟨v4,rfl,g4⟩,⟨v5,rfl,g5⟩⟩⟩⟩⟩⟩
def rd_T26 (xs:List S26) (i:Int):S26:=xs.getD i.toNat z26
theorem at_T26 {w:World} {A:Option Addr} {n:Nat} {xs:List S26} (h:Kd.C k26 w A n xs) (i:Int) (h0:0≤i) (h1:i < n):∃ ad A4 c4 A5 c5,A=some ad∧w.cell? (ad.add (i.toNat*6))=some (.string (rd_T26 xs i).f0)∧w.cell? ⟨(ad.add (i.toNat*6)).block,(ad.add (i.toNat*6)).off+1,none⟩=some (.string (rd_T26 xs i).f1)∧w.cell? ⟨(ad.add (i.toNat*6)).block,(ad.add (i.toNat*6)).off+2,none⟩=some (.bool (rd_T26 xs i).f2)∧w.cell? ⟨(ad.add (i.toNat*6)).block,(ad.add (i.toNat*6)).off+3,none⟩=some (.bool (rd_T26 xs i).f3)∧w.cell? ⟨(ad.add (i.toNat*6)).block,(ad.add (i.toNat*6)).off+4,none⟩=some (.slice A4 (rd_T26 xs i).f4.length c4)∧w.cell? ⟨(ad.add (i.toNat*6)).block,(ad.add (i.toNat*6)).off+5,none⟩=some (.slice A5 (rd_T26 xs i).f5.length c5)∧(rd_T26 xs i).f4.length≤c4∧k45.C w A4 (rd_T26 xs i).f4.length (rd_T26 xs i).f4∧(rd_T26 xs i).f5.length≤c5∧k34.C w A5 (rd_T26 xs i).f5.length (rd_T26 xs i).f5:=by
  obtain ⟨ad,c,e,_,hK,hc0⟩:=Kd.C_get h z26 i h0 h1
  have hc:∀ j u,c[j]?=some u→w.cell? (ad.add (i.toNat*6+j))=some u:=hc0
  obtain ⟨A4,c4,A5,c5,rfl,l4,g4,l5,g5⟩:=k26_open hK
  exact ⟨ad,A4,c4,A5,c5,e,hc 0 _ rfl,by rw [← add_field _ _ 1 (by omega)];exact hc 1 _ rfl,by rw [← add_field _ _ 2 (by omega)];exact hc 2 _ rfl,by rw [← add_field _ _ 3 (by omega)];exact hc 3 _ rfl,by rw [← add_field _ _ 4 (by omega)];exact hc 4 _ rfl,by rw [← add_field _ _ 5 (by omega)];exact hc 5 _ rfl,l4,g4,l5,g5⟩
theorem da_ {p:Prop} [Decidable p] (h:decide p=true:=by first|(with_reducible assumption)|assumption):p:=of_decide_eq_true h
theorem s1_ {P:Prop} (h:P:=by first|rfl|(simp;done)|(simp [*];first|done|fail)):P:=h
theorem s2_ {P:Prop} (h:P:=by first|rfl|(simp [*] <;> rfl)):P:=h
theorem o1_ {P:Prop} (h:P:=by first|omega|exact Nat.le_refl _):P:=h
theorem dr_ {P:Prop} (h:P:=by first|exact ⟨rfl,_,World.drewN_drewN _ _ _⟩|exact ⟨rfl,_,Eq.trans (World.drewN_drewN _ _ _) (congrArg (World.drewN _) (Nat.add_assoc _ _ _))⟩):P:=h
theorem dn_ {P:Prop} (h:P:=by repeat (first|exact Drawn0.refl _|apply Drawn0.step)):P:=h
theorem fd_ {P:Prop} {w W:World} (h:P:=by first|rfl|(simp;done)|(simp [*];first|done|fail)) (hd:Drawn0 w W:=by repeat (first|exact Drawn0.refl _|apply Drawn0.step)):P∧Drawn0 w W:=⟨h,hd⟩
theorem gs_ {P:Prop} (h:P:=by first|(go_simp;done)|(go_simp;rfl)):P:=h
theorem hK_ {P:Prop} (h:P:=by repeat (first|(with_reducible first|exact HK.out|apply KeepBut.set_|apply keep_drewN|apply keep_drew|apply keep_alloc)|exact HK.out)):P:=h
theorem sp_ {α:Type} {c:Prop} [Decidable c] {A B r:α} (H:(if c then A else B)=r):(¬ c∧B=r)∨(c∧A=r):=by
  by_cases h:c
  · exact .inr ⟨h,by rwa [if_pos h] at H⟩
  · exact .inl ⟨h,by rwa [if_neg h] at H⟩
theorem sd_ {α:Type} {c:Prop} [Decidable c] {A B r:α} (H:(if c then A else B)=r):(decide c=false∧B=r)∨(decide c=true∧A=r):=(sp_ H).imp (fun h=>⟨decide_eq_false h.1,h.2⟩) (fun h=>⟨decide_eq_true h.1,h.2⟩)
theorem sb_ {α:Type} {c:Bool} {A B r:α} (H:(if c=true then A else B)=r):(c=false∧B=r)∨(c=true∧A=r):=(sp_ H).imp (fun h=>⟨Bool.eq_false_iff.mpr h.1,h.2⟩) (fun h=>h)
theorem se_ {α β:Type} [BEq β] [LawfulBEq β] {x y:β} [Decidable (x=y)] {A B r:α} (H:(if x=y then A else B)=r):(¬ x=y∧(x == y)=false∧(x != y)=true∧B=r)∨(x=y∧(x == y)=true∧(x != y)=false∧A=r):=
  (sp_ H).imp (fun h=>⟨h.1,beq_eq_false_iff_ne.mpr h.1,bne_iff_ne.mpr h.1,h.2⟩) (fun h=>⟨h.1,beq_iff_eq.mpr h.1,bne_eq_false_iff_eq.mpr h.1,h.2⟩)
theorem sn_ {α:Type} {c:Prop} [Decidable c] {A:Option α} {r:α} (H:(if c then A else none)=some r):c∧A=some r:=(sp_ H).elim (fun h=>nomatch h.2) (fun h=>h)
theorem sm_ {α:Type} {c:Prop} [Decidable c] {A:Option α} {r:α} (H:(if c then none else A)=some r):¬ c∧A=some r:=(sp_ H).elim (fun h=>h) (fun h=>nomatch h.2)
theorem snd_ {α:Type} {c:Prop} [Decidable c] {A:Option α} {r:α} (H:(if c then A else none)=some r):decide c=true∧A=some r:=⟨decide_eq_true (sn_ H).1,(sn_ H).2⟩
theorem sq_ {α β:Type} {x:Option α} {f:α→Option β} {r:β} (H:x.bind f=some r):∃ t,Aside0 (x=some t)∧f t=some r:=(Option.bind_eq_some_iff.mp H).elim fun t h=>⟨t,⟨h.1⟩,h.2⟩
theorem pr {W W':World} [h:Nonempty (Pl W W')] {α:Type} {d:Kd α} {e base:Nat} {ok:Nat→Prop} {v:Value} {xs:List α} (x:Kd.R d e W base ok v xs):Kd.R d e W' base ok v xs:=h.elim fun p=>p.rr x
theorem ps {W W':World} [h:Nonempty (Pl W W')] {α:Type} {d:Kd α} {e base:Nat} {ok:Nat→Prop} {v:Value} {xs:List α} (x:Kd.S d e W base ok v xs):Kd.S d e W' base ok v xs:=h.elim fun p=>p.ss x
theorem pd {w W W':World} [Nonempty (Pl W W')] {α:Type} {d:Kd α} {A:Option Addr} {n:Nat} {xs:List α} (h:Aside0 (d.C w A n xs)) (hb:Aside0 (Below w.heap.size w W)):d.C W' A n xs:=pc (Kd.C_below h.out hb.out)
theorem kb {W W' w1:World} [Nonempty (Pl W W')] {g:Nat} {o:Obj} (h:Aside0 (W.heap[g]?=some o)) (hb:Below W'.heap.size W' w1):Aside0 (w1.heap[g]?=some o):=⟨blk_below (pk h.out) hb⟩
theorem bt_ {w W W' w1:World} [Nonempty (Pl W W')] (h:Aside0 (Below w.heap.size w W)) (hb:Below W'.heap.size W' w1):Aside0 (Below w.heap.size w w1):=⟨below_step (bk h.out) hb⟩
theorem bz {w W W':World} [Nonempty (Pl W W')] {g:Nat} (h:Aside0 (Below w.heap.size w W)) (hg:g=W'.heap.size):Aside0 (w.heap.size≤g):=⟨by rw [hg];exact below_size (bk h.out)⟩
theorem bl {W W':World} [Nonempty (Pl W W')] {g g':Nat} {o:Obj} (h:Aside0 (W.heap[g']?=some o)) (hg:g=W'.heap.size):Aside0 (g'≠g):=⟨by rw [hg];exact Nat.ne_of_lt (blk_lt (pk h.out))⟩
theorem bg {W W':World} [Nonempty (Pl W W')] {g g':Nat} {o:Obj} (h:Aside0 (W.heap[g']?=some o)) (hg:g=W'.heap.size):Aside0 (g≠g'):=⟨fun e=>(bl h hg).out e.symm⟩
theorem ca_ {P:Program} {f:FuncId} {args args':Array Value} {w:World} {Q Q':Ending→World→Prop} (c:Calls P f args w Q) (h:∀ e w',Q e w'→Q' e w') (ha:args'=args:=by first|(with_reducible rfl)|(simp [*];first|done|fail)):Calls P f args' w Q':=calls_of_args ha (c.mono h)
theorem rs_ {w:World} {base:Nat} {ok:Nat→Prop} (xs:List ByteArray):Reps (Kd.M Kd.string w base ok) 1 xs (xs.map Value.string):=Kd.reps_scalar xs
theorem bx_ {P:Program} {ops:Array Oper} {rest:List Oper} {o:Oper} {a:Act} {Q:Exit→Act→World→Prop} {W:World} (N:Tmp) (t:TypeId) (cs:Array Value)
    (h:∀ g,g=W.heap.size→∀ w1,w1.heap[g]?=some (.cells cs t (0,0))→Below W.heap.size W w1→wpList P ops Q rest (a.put o.dst (.pointer (some ⟨g,0,none⟩))) w1) (hd:o.dst=some N:=by rfl) (hg:o.guard=none:=by rfl)
    (hr:(execOp a.eval o).run P W=.ok (.value (.pointer (some ⟨W.heap.size,0,none⟩))) (W.alloc (.cells cs t (0,0))):=by first|(go_simp;done)|(go_simp;rfl)):wpList P ops Q (o :: rest) a W:=box_event hg hd hr h
section
variable {P:Program} {ops:Array Oper} {Q:Exit→Act→World→Prop} {md:Region.Mode} {S:World→Prop} {ds:List Nat} {T:Bool×List (List Nat×List Nat)} {B:List Nat}
theorem px_ (i:Nat) (N:Tmp) {oi:Oper} {v:Value} {fuel:Nat} {l l':Array Bool} {a a':Act} {w:World} (h:wpAnyLast P md ops Q S ds fuel l' a' w) (hi:ops[i]?=some oi:=by rfl) (hN:oi.dst=some N:=by rfl)
    (hl:l.setIfInBounds i true=l':=by simp only [List.setIfInBounds_toArray,List.set_cons_zero,List.set_cons_succ];rfl) (hT:rtab md ops=T:=by exact HT_.out) (hc:anyT T l.toList l'.toList i=true:=by kernel_rfl)
    (hw:Region.wanted oi (yielded ops a.tmps)=true:=by rfl) (hr:∀ w,(execOp a.eval oi).run P w=.ok (.value v) w:=by intro w';go_simp;with_reducible rfl)
    (hQ:∀ c a w,Q (.panic c) (a.put oi.dst v) w→Q (.panic c) a w:=by exact fun _ _ _ h=>h)
    (ha:a.put (some N) v=a':=by simp only [Act.put,List.setIfInBounds_toArray,List.set_cons_zero,List.set_cons_succ,i64_w,i32_w];rfl):wpAnyLast P md ops Q S ds (fuel+1) l a w:=
  pure_ l' hi hN (any_of hT hc) hQ (Or.inl ⟨hw,hr⟩) ha h
theorem pu_ (i:Nat) (N:Tmp) {oi:Oper} {fuel:Nat} {l l':Array Bool} {a a':Act} {w:World} (h:wpAnyLast P md ops Q S ds fuel l' a' w) (hi:ops[i]?=some oi:=by rfl) (hN:oi.dst=some N:=by rfl)
    (hl:l.setIfInBounds i true=l':=by simp only [List.setIfInBounds_toArray,List.set_cons_zero,List.set_cons_succ];rfl) (hT:rtab md ops=T:=by exact HT_.out) (hc:anyT T l.toList l'.toList i=true:=by kernel_rfl)
    (hw:Region.wanted oi (yielded ops a.tmps)=false:=by rfl) (hQ:∀ c a w,Q (.panic c) (a.put oi.dst undef) w→Q (.panic c) a w:=by exact fun _ _ _ h=>h)
    (ha:a.put (some N) undef=a':=by simp only [Act.put,List.setIfInBounds_toArray,List.set_cons_zero,List.set_cons_succ,i64_w,i32_w];rfl):wpAnyLast P md ops Q S ds (fuel+1) l a w:=
  pure_ l' hi hN (any_of hT hc) hQ (Or.inr ⟨hw,rfl⟩) ha h
theorem tk_ (i:Nat) (N:Tmp) {oi:Oper} {v:Value} {fuel:Nat} {l l':Array Bool} {a a':Act} {w:World} (h:wpAnyLast P md ops Q S ds fuel l' a' w) (hi:ops[i]?=some oi:=by rfl) (hN:oi.dst=some N:=by rfl)
    (hl:l.setIfInBounds i true=l':=by simp only [List.setIfInBounds_toArray,List.set_cons_zero,List.set_cons_succ];rfl) (hT:rtab md ops=T:=by exact HT_.out) (hB:waitsOk T.2 B=true:=by exact HW_.out) (hc:takeW T B ds l.toList l'.toList i=true:=by kernel_rfl)
    (hw:Region.wanted oi (yielded ops a.tmps)=true:=by rfl) (hr:∀ w,S w→(execOp a.eval oi).run P w=.ok (.value v) w:=by intro w' hs;(try dsimp only at hs);go_simp;with_reducible rfl)
    (hQ:∀ c a w,Q (.panic c) (a.put oi.dst v) w→Q (.panic c) a w:=by exact fun _ _ _ h=>h) (hS:S w:=by exact hHeld)
    (ha:a.put (some N) v=a':=by simp only [Act.put,List.setIfInBounds_toArray,List.set_cons_zero,List.set_cons_succ,i64_w,i32_w];rfl):wpAnyLast P md ops Q S ds (fuel+1) l a w:=
  take_ l' hi hN (take_ofW hT hB hc) hQ (Or.inl ⟨hw,hr⟩) hS ha h
theorem nm_ {fuel:Nat} {l:Array Bool} {a a':Act} {w:World} (N:Tmp) {v:Value} (h:wpAnyLast P md ops Q S ds fuel l a' w) (ha:Act.put a (some N) v=a':=by simp only [Act.put,List.setIfInBounds_toArray,List.set_cons_zero,List.set_cons_succ,i64_w,i32_w];rfl):wpAnyLast P md ops Q S ds fuel l (Act.put a (some N) v) w:=norm_ ha h
end
theorem mo_ {P:Prop} (h:P:=by repeat' first|(with_reducible first|exact LeO.refl _|apply ih0|apply ih1|apply ih2|apply ih3|apply ih4|apply ih5|apply ih6|apply ih7|apply ih8|apply ih9|apply ih10|apply ih11|apply m0|apply m1|apply m2|apply m3|apply m4|apply m5|apply m6|apply m7|apply m8|apply m9|apply m10|apply m11|apply m12|apply m13|apply m14|apply m15|exact LeO.none _|refine LeO.ite ?_ ?_|refine LeO.bind ?_ (fun _=>?_))|apply ih0|apply ih1|apply ih2|apply ih3|apply ih4|apply ih5|apply ih6|apply ih7|apply ih8|apply ih9|apply ih10|apply ih11|apply m0|apply m1|apply m2|apply m3|apply m4|apply m5|apply m6|apply m7|apply m8|apply m9|apply m10|apply m11|apply m12|apply m13|apply m14|apply m15|exact LeO.none _|refine LeO.ite ?_ ?_|refine LeO.bind ?_ (fun _=>?_)):P:=h
theorem an_str {w W:World} {A:Option Addr} {n:Nat} {xs:List ByteArray} (h:Aside0 (Kd.C Kd.string w A n xs)) (hb:Aside0 (Below w.heap.size w W)) (i:Int) (h0:0≤i:=by exact da_) (h1:i < n:=by exact da_):∃ ad,A=some ad∧((0≤i)=True∧(i < n)=True∧W.cell? (ad.add i.toNat)=some (.string (rdOf ByteArray.empty xs i))):=by
  obtain ⟨ad,e_,x⟩:=Kd.at_string h.out i h0 h1
  exact ⟨ad,e_,eq_true h0,eq_true h1,hx_ hb x (World.block_lt_of_cell? _ _ x)⟩
theorem am_str {w:World} {A:Option Addr} {n:Nat} {xs:List ByteArray} (h:Aside0 (Kd.C Kd.string w A n xs)) (i:Int) (h0:0≤i:=by exact da_) (h1:i < n:=by exact da_):∃ ad,A=some ad∧((0≤i)=True∧(i < n)=True∧w.cell? (ad.add i.toNat)=some (.string (rdOf ByteArray.empty xs i))):=by
  obtain ⟨ad,e_,x⟩:=Kd.at_string h.out i h0 h1
  exact ⟨ad,e_,eq_true h0,eq_true h1,x⟩
theorem an_T77 {w W:World} {A:Option Addr} {n:Nat} {xs:List S77} (h:Aside0 (Kd.C k77 w A n xs)) (hb:Aside0 (Below w.heap.size w W)) (i:Int) (h0:0≤i:=by exact da_) (h1:i < n:=by exact da_):∃ ad ,A=some ad∧((0≤i)=True∧(i < n)=True∧W.cell? (ad.add (i.toNat*5))=some (.int .i64 (rd_T77 xs i).f0)∧W.cell? ⟨(ad.add (i.toNat*5)).block,(ad.add (i.toNat*5)).off+1,none⟩=some (.int .i64 (rd_T77 xs i).f1)∧W.cell? ⟨(ad.add (i.toNat*5)).block,(ad.add (i.toNat*5)).off+2,none⟩=some (.string (rd_T77 xs i).f2)∧W.cell? ⟨(ad.add (i.toNat*5)).block,(ad.add (i.toNat*5)).off+3,none⟩=some (.string (rd_T77 xs i).f3)∧W.cell? ⟨(ad.add (i.toNat*5)).block,(ad.add (i.toNat*5)).off+4,none⟩=some (.string (rd_T77 xs i).f4)):=by
  obtain ⟨ad,e_,x0_,x1_,x2_,x3_,x4_⟩:=at_T77 h.out i h0 h1
  exact ⟨ad,e_,⟨eq_true h0,eq_true h1,hx_ hb x0_ (World.block_lt_of_cell? _ _ x0_),hx_ hb x1_ (World.block_lt_of_cell? _ _ x1_),hx_ hb x2_ (World.block_lt_of_cell? _ _ x2_),hx_ hb x3_ (World.block_lt_of_cell? _ _ x3_),hx_ hb x4_ (World.block_lt_of_cell? _ _ x4_)⟩⟩
theorem am_T77 {w:World} {A:Option Addr} {n:Nat} {xs:List S77} (h:Aside0 (Kd.C k77 w A n xs)) (i:Int) (h0:0≤i:=by exact da_) (h1:i < n:=by exact da_):∃ ad ,A=some ad∧((0≤i)=True∧(i < n)=True∧w.cell? (ad.add (i.toNat*5))=some (.int .i64 (rd_T77 xs i).f0)∧w.cell? ⟨(ad.add (i.toNat*5)).block,(ad.add (i.toNat*5)).off+1,none⟩=some (.int .i64 (rd_T77 xs i).f1)∧w.cell? ⟨(ad.add (i.toNat*5)).block,(ad.add (i.toNat*5)).off+2,none⟩=some (.string (rd_T77 xs i).f2)∧w.cell? ⟨(ad.add (i.toNat*5)).block,(ad.add (i.toNat*5)).off+3,none⟩=some (.string (rd_T77 xs i).f3)∧w.cell? ⟨(ad.add (i.toNat*5)).block,(ad.add (i.toNat*5)).off+4,none⟩=some (.string (rd_T77 xs i).f4)):=by
  obtain ⟨ad,e_,x0_,x1_,x2_,x3_,x4_⟩:=at_T77 h.out i h0 h1
  exact ⟨ad,e_,⟨eq_true h0,eq_true h1,x0_,x1_,x2_,x3_,x4_⟩⟩
theorem an_T81 {w W:World} {A:Option Addr} {n:Nat} {xs:List S81} (h:Aside0 (Kd.C k81 w A n xs)) (hb:Aside0 (Below w.heap.size w W)) (i:Int) (h0:0≤i:=by exact da_) (h1:i < n:=by exact da_):∃ ad ,A=some ad∧((0≤i)=True∧(i < n)=True∧W.cell? (ad.add (i.toNat*4))=some (.int .i64 (rd_T81 xs i).f0)∧W.cell? ⟨(ad.add (i.toNat*4)).block,(ad.add (i.toNat*4)).off+1,none⟩=some (.int .i64 (rd_T81 xs i).f1)∧W.cell? ⟨(ad.add (i.toNat*4)).block,(ad.add (i.toNat*4)).off+2,none⟩=some (.int .i64 (rd_T81 xs i).f2)∧W.cell? ⟨(ad.add (i.toNat*4)).block,(ad.add (i.toNat*4)).off+3,none⟩=some (.string (rd_T81 xs i).f3)):=by
  obtain ⟨ad,e_,x0_,x1_,x2_,x3_⟩:=at_T81 h.out i h0 h1
  exact ⟨ad,e_,⟨eq_true h0,eq_true h1,hx_ hb x0_ (World.block_lt_of_cell? _ _ x0_),hx_ hb x1_ (World.block_lt_of_cell? _ _ x1_),hx_ hb x2_ (World.block_lt_of_cell? _ _ x2_),hx_ hb x3_ (World.block_lt_of_cell? _ _ x3_)⟩⟩
theorem am_T81 {w:World} {A:Option Addr} {n:Nat} {xs:List S81} (h:Aside0 (Kd.C k81 w A n xs)) (i:Int) (h0:0≤i:=by exact da_) (h1:i < n:=by exact da_):∃ ad ,A=some ad∧((0≤i)=True∧(i < n)=True∧w.cell? (ad.add (i.toNat*4))=some (.int .i64 (rd_T81 xs i).f0)∧w.cell? ⟨(ad.add (i.toNat*4)).block,(ad.add (i.toNat*4)).off+1,none⟩=some (.int .i64 (rd_T81 xs i).f1)∧w.cell? ⟨(ad.add (i.toNat*4)).block,(ad.add (i.toNat*4)).off+2,none⟩=some (.int .i64 (rd_T81 xs i).f2)∧w.cell? ⟨(ad.add (i.toNat*4)).block,(ad.add (i.toNat*4)).off+3,none⟩=some (.string (rd_T81 xs i).f3)):=by
  obtain ⟨ad,e_,x0_,x1_,x2_,x3_⟩:=at_T81 h.out i h0 h1
  exact ⟨ad,e_,⟨eq_true h0,eq_true h1,x0_,x1_,x2_,x3_⟩⟩
theorem an_T45 {w W:World} {A:Option Addr} {n:Nat} {xs:List S45} (h:Aside0 (Kd.C k45 w A n xs)) (hb:Aside0 (Below w.heap.size w W)) (i:Int) (h0:0≤i:=by exact da_) (h1:i < n:=by exact da_):∃ ad ,A=some ad∧((0≤i)=True∧(i < n)=True∧W.cell? (ad.add (i.toNat*3))=some (.string (rd_T45 xs i).f0)∧W.cell? ⟨(ad.add (i.toNat*3)).block,(ad.add (i.toNat*3)).off+1,none⟩=some (.string (rd_T45 xs i).f1)∧W.cell? ⟨(ad.add (i.toNat*3)).block,(ad.add (i.toNat*3)).off+2,none⟩=some (.bool (rd_T45 xs i).f2)):=by
  obtain ⟨ad,e_,x0_,x1_,x2_⟩:=at_T45 h.out i h0 h1
  exact ⟨ad,e_,⟨eq_true h0,eq_true h1,hx_ hb x0_ (World.block_lt_of_cell? _ _ x0_),hx_ hb x1_ (World.block_lt_of_cell? _ _ x1_),hx_ hb x2_ (World.block_lt_of_cell? _ _ x2_)⟩⟩
theorem am_T45 {w:World} {A:Option Addr} {n:Nat} {xs:List S45} (h:Aside0 (Kd.C k45 w A n xs)) (i:Int) (h0:0≤i:=by exact da_) (h1:i < n:=by exact da_):∃ ad ,A=some ad∧((0≤i)=True∧(i < n)=True∧w.cell? (ad.add (i.toNat*3))=some (.string (rd_T45 xs i).f0)∧w.cell? ⟨(ad.add (i.toNat*3)).block,(ad.add (i.toNat*3)).off+1,none⟩=some (.string (rd_T45 xs i).f1)∧w.cell? ⟨(ad.add (i.toNat*3)).block,(ad.add (i.toNat*3)).off+2,none⟩=some (.bool (rd_T45 xs i).f2)):=by
  obtain ⟨ad,e_,x0_,x1_,x2_⟩:=at_T45 h.out i h0 h1
  exact ⟨ad,e_,⟨eq_true h0,eq_true h1,x0_,x1_,x2_⟩⟩
theorem an_L7 {w W:World} {A:Option Addr} {n:Nat} {xs:List (List S77)} (h:Aside0 (Kd.C (Kd.slice 77 k77) w A n xs)) (hb:Aside0 (Below w.heap.size w W)) (i:Int) (h0:0≤i:=by exact da_) (h1:i < n:=by exact da_):∃ ad A0 c0,A=some ad∧((0≤i)=True∧(i < n)=True∧W.cell? (ad.add i.toNat)=some (.slice A0 (rd_L7 xs i).length c0))∧Aside0 ((rd_L7 xs i).length≤c0)∧Aside0 (k77.C w A0 (rd_L7 xs i).length (rd_L7 xs i)):=by
  obtain ⟨ad,A0,c0,e_,x0_,y0_,y1_⟩:=at_L7 h.out i h0 h1
  exact ⟨ad,A0,c0,e_,⟨eq_true h0,eq_true h1,hx_ hb x0_ (World.block_lt_of_cell? _ _ x0_)⟩,⟨y0_⟩,⟨y1_⟩⟩
theorem am_L7 {w:World} {A:Option Addr} {n:Nat} {xs:List (List S77)} (h:Aside0 (Kd.C (Kd.slice 77 k77) w A n xs)) (i:Int) (h0:0≤i:=by exact da_) (h1:i < n:=by exact da_):∃ ad A0 c0,A=some ad∧((0≤i)=True∧(i < n)=True∧w.cell? (ad.add i.toNat)=some (.slice A0 (rd_L7 xs i).length c0))∧Aside0 ((rd_L7 xs i).length≤c0)∧Aside0 (k77.C w A0 (rd_L7 xs i).length (rd_L7 xs i)):=by
  obtain ⟨ad,A0,c0,e_,x0_,y0_,y1_⟩:=at_L7 h.out i h0 h1
  exact ⟨ad,A0,c0,e_,⟨eq_true h0,eq_true h1,x0_⟩,⟨y0_⟩,⟨y1_⟩⟩
theorem an_L8 {w W:World} {A:Option Addr} {n:Nat} {xs:List (List S81)} (h:Aside0 (Kd.C (Kd.slice 81 k81) w A n xs)) (hb:Aside0 (Below w.heap.size w W)) (i:Int) (h0:0≤i:=by exact da_) (h1:i < n:=by exact da_):∃ ad A0 c0,A=some ad∧((0≤i)=True∧(i < n)=True∧W.cell? (ad.add i.toNat)=some (.slice A0 (rd_L8 xs i).length c0))∧Aside0 ((rd_L8 xs i).length≤c0)∧Aside0 (k81.C w A0 (rd_L8 xs i).length (rd_L8 xs i)):=by
  obtain ⟨ad,A0,c0,e_,x0_,y0_,y1_⟩:=at_L8 h.out i h0 h1
  exact ⟨ad,A0,c0,e_,⟨eq_true h0,eq_true h1,hx_ hb x0_ (World.block_lt_of_cell? _ _ x0_)⟩,⟨y0_⟩,⟨y1_⟩⟩
theorem am_L8 {w:World} {A:Option Addr} {n:Nat} {xs:List (List S81)} (h:Aside0 (Kd.C (Kd.slice 81 k81) w A n xs)) (i:Int) (h0:0≤i:=by exact da_) (h1:i < n:=by exact da_):∃ ad A0 c0,A=some ad∧((0≤i)=True∧(i < n)=True∧w.cell? (ad.add i.toNat)=some (.slice A0 (rd_L8 xs i).length c0))∧Aside0 ((rd_L8 xs i).length≤c0)∧Aside0 (k81.C w A0 (rd_L8 xs i).length (rd_L8 xs i)):=by
  obtain ⟨ad,A0,c0,e_,x0_,y0_,y1_⟩:=at_L8 h.out i h0 h1
  exact ⟨ad,A0,c0,e_,⟨eq_true h0,eq_true h1,x0_⟩,⟨y0_⟩,⟨y1_⟩⟩
theorem an_T34 {w W:World} {A:Option Addr} {n:Nat} {xs:List S34} (h:Aside0 (Kd.C k34 w A n xs)) (hb:Aside0 (Below w.heap.size w W)) (i:Int) (h0:0≤i:=by exact da_) (h1:i < n:=by exact da_):∃ ad A7 c7 A8 c8,A=some ad∧((0≤i)=True∧(i < n)=True∧W.cell? (ad.add (i.toNat*9))=some (.string (rd_T34 xs i).f0)∧W.cell? ⟨(ad.add (i.toNat*9)).block,(ad.add (i.toNat*9)).off+1,none⟩=some (.string (rd_T34 xs i).f1)∧W.cell? ⟨(ad.add (i.toNat*9)).block,(ad.add (i.toNat*9)).off+2,none⟩=some (.bool (rd_T34 xs i).f2)∧W.cell? ⟨(ad.add (i.toNat*9)).block,(ad.add (i.toNat*9)).off+3,none⟩=some (.bool (rd_T34 xs i).f3)∧W.cell? ⟨(ad.add (i.toNat*9)).block,(ad.add (i.toNat*9)).off+4,none⟩=some (.bool (rd_T34 xs i).f4)∧W.cell? ⟨(ad.add (i.toNat*9)).block,(ad.add (i.toNat*9)).off+5,none⟩=some (.int .i64 (rd_T34 xs i).f5)∧W.cell? ⟨(ad.add (i.toNat*9)).block,(ad.add (i.toNat*9)).off+6,none⟩=some (.int .i64 (rd_T34 xs i).f6)∧W.cell? ⟨(ad.add (i.toNat*9)).block,(ad.add (i.toNat*9)).off+7,none⟩=some (.slice A7 (rd_T34 xs i).f7.length c7)∧W.cell? ⟨(ad.add (i.toNat*9)).block,(ad.add (i.toNat*9)).off+8,none⟩=some (.slice A8 (rd_T34 xs i).f8.length c8))∧Aside0 ((rd_T34 xs i).f7.length≤c7)∧Aside0 (k77.C w A7 (rd_T34 xs i).f7.length (rd_T34 xs i).f7)∧Aside0 ((rd_T34 xs i).f8.length≤c8)∧Aside0 (k81.C w A8 (rd_T34 xs i).f8.length (rd_T34 xs i).f8):=by
  obtain ⟨ad,A7,c7,A8,c8,e_,x0_,x1_,x2_,x3_,x4_,x5_,x6_,x7_,x8_,y0_,y1_,y2_,y3_⟩:=at_T34 h.out i h0 h1
  exact ⟨ad,A7,c7,A8,c8,e_,⟨eq_true h0,eq_true h1,hx_ hb x0_ (World.block_lt_of_cell? _ _ x0_),hx_ hb x1_ (World.block_lt_of_cell? _ _ x1_),hx_ hb x2_ (World.block_lt_of_cell? _ _ x2_),hx_ hb x3_ (World.block_lt_of_cell? _ _ x3_),hx_ hb x4_ (World.block_lt_of_cell? _ _ x4_),hx_ hb x5_ (World.block_lt_of_cell? _ _ x5_),hx_ hb x6_ (World.block_lt_of_cell? _ _ x6_),hx_ hb x7_ (World.block_lt_of_cell? _ _ x7_),hx_ hb x8_ (World.block_lt_of_cell? _ _ x8_)⟩,⟨y0_⟩,⟨y1_⟩,⟨y2_⟩,⟨y3_⟩⟩
theorem am_T34 {w:World} {A:Option Addr} {n:Nat} {xs:List S34} (h:Aside0 (Kd.C k34 w A n xs)) (i:Int) (h0:0≤i:=by exact da_) (h1:i < n:=by exact da_):∃ ad A7 c7 A8 c8,A=some ad∧((0≤i)=True∧(i < n)=True∧w.cell? (ad.add (i.toNat*9))=some (.string (rd_T34 xs i).f0)∧w.cell? ⟨(ad.add (i.toNat*9)).block,(ad.add (i.toNat*9)).off+1,none⟩=some (.string (rd_T34 xs i).f1)∧w.cell? ⟨(ad.add (i.toNat*9)).block,(ad.add (i.toNat*9)).off+2,none⟩=some (.bool (rd_T34 xs i).f2)∧w.cell? ⟨(ad.add (i.toNat*9)).block,(ad.add (i.toNat*9)).off+3,none⟩=some (.bool (rd_T34 xs i).f3)∧w.cell? ⟨(ad.add (i.toNat*9)).block,(ad.add (i.toNat*9)).off+4,none⟩=some (.bool (rd_T34 xs i).f4)∧w.cell? ⟨(ad.add (i.toNat*9)).block,(ad.add (i.toNat*9)).off+5,none⟩=some (.int .i64 (rd_T34 xs i).f5)∧w.cell? ⟨(ad.add (i.toNat*9)).block,(ad.add (i.toNat*9)).off+6,none⟩=some (.int .i64 (rd_T34 xs i).f6)∧w.cell? ⟨(ad.add (i.toNat*9)).block,(ad.add (i.toNat*9)).off+7,none⟩=some (.slice A7 (rd_T34 xs i).f7.length c7)∧w.cell? ⟨(ad.add (i.toNat*9)).block,(ad.add (i.toNat*9)).off+8,none⟩=some (.slice A8 (rd_T34 xs i).f8.length c8))∧Aside0 ((rd_T34 xs i).f7.length≤c7)∧Aside0 (k77.C w A7 (rd_T34 xs i).f7.length (rd_T34 xs i).f7)∧Aside0 ((rd_T34 xs i).f8.length≤c8)∧Aside0 (k81.C w A8 (rd_T34 xs i).f8.length (rd_T34 xs i).f8):=by
  obtain ⟨ad,A7,c7,A8,c8,e_,x0_,x1_,x2_,x3_,x4_,x5_,x6_,x7_,x8_,y0_,y1_,y2_,y3_⟩:=at_T34 h.out i h0 h1
  exact ⟨ad,A7,c7,A8,c8,e_,⟨eq_true h0,eq_true h1,x0_,x1_,x2_,x3_,x4_,x5_,x6_,x7_,x8_⟩,⟨y0_⟩,⟨y1_⟩,⟨y2_⟩,⟨y3_⟩⟩
theorem an_L10 {w W:World} {A:Option Addr} {n:Nat} {xs:List (List ByteArray)} (h:Aside0 (Kd.C (Kd.slice 9 Kd.string) w A n xs)) (hb:Aside0 (Below w.heap.size w W)) (i:Int) (h0:0≤i:=by exact da_) (h1:i < n:=by exact da_):∃ ad A0 c0,A=some ad∧((0≤i)=True∧(i < n)=True∧W.cell? (ad.add i.toNat)=some (.slice A0 (rd_L10 xs i).length c0))∧Aside0 ((rd_L10 xs i).length≤c0)∧Aside0 (Kd.string.C w A0 (rd_L10 xs i).length (rd_L10 xs i)):=by
  obtain ⟨ad,A0,c0,e_,x0_,y0_,y1_⟩:=at_L10 h.out i h0 h1
  exact ⟨ad,A0,c0,e_,⟨eq_true h0,eq_true h1,hx_ hb x0_ (World.block_lt_of_cell? _ _ x0_)⟩,⟨y0_⟩,⟨y1_⟩⟩
theorem am_L10 {w:World} {A:Option Addr} {n:Nat} {xs:List (List ByteArray)} (h:Aside0 (Kd.C (Kd.slice 9 Kd.string) w A n xs)) (i:Int) (h0:0≤i:=by exact da_) (h1:i < n:=by exact da_):∃ ad A0 c0,A=some ad∧((0≤i)=True∧(i < n)=True∧w.cell? (ad.add i.toNat)=some (.slice A0 (rd_L10 xs i).length c0))∧Aside0 ((rd_L10 xs i).length≤c0)∧Aside0 (Kd.string.C w A0 (rd_L10 xs i).length (rd_L10 xs i)):=by
  obtain ⟨ad,A0,c0,e_,x0_,y0_,y1_⟩:=at_L10 h.out i h0 h1
  exact ⟨ad,A0,c0,e_,⟨eq_true h0,eq_true h1,x0_⟩,⟨y0_⟩,⟨y1_⟩⟩
theorem an_L11 {w W:World} {A:Option Addr} {n:Nat} {xs:List (List Int)} (h:Aside0 (Kd.C (Kd.slice 2 (Kd.int .i64)) w A n xs)) (hb:Aside0 (Below w.heap.size w W)) (i:Int) (h0:0≤i:=by exact da_) (h1:i < n:=by exact da_):∃ ad A0 c0,A=some ad∧((0≤i)=True∧(i < n)=True∧W.cell? (ad.add i.toNat)=some (.slice A0 (rd_L11 xs i).length c0))∧Aside0 ((rd_L11 xs i).length≤c0)∧Aside0 ((Kd.int .i64).C w A0 (rd_L11 xs i).length (rd_L11 xs i)):=by
  obtain ⟨ad,A0,c0,e_,x0_,y0_,y1_⟩:=at_L11 h.out i h0 h1
  exact ⟨ad,A0,c0,e_,⟨eq_true h0,eq_true h1,hx_ hb x0_ (World.block_lt_of_cell? _ _ x0_)⟩,⟨y0_⟩,⟨y1_⟩⟩
theorem am_L11 {w:World} {A:Option Addr} {n:Nat} {xs:List (List Int)} (h:Aside0 (Kd.C (Kd.slice 2 (Kd.int .i64)) w A n xs)) (i:Int) (h0:0≤i:=by exact da_) (h1:i < n:=by exact da_):∃ ad A0 c0,A=some ad∧((0≤i)=True∧(i < n)=True∧w.cell? (ad.add i.toNat)=some (.slice A0 (rd_L11 xs i).length c0))∧Aside0 ((rd_L11 xs i).length≤c0)∧Aside0 ((Kd.int .i64).C w A0 (rd_L11 xs i).length (rd_L11 xs i)):=by
  obtain ⟨ad,A0,c0,e_,x0_,y0_,y1_⟩:=at_L11 h.out i h0 h1
  exact ⟨ad,A0,c0,e_,⟨eq_true h0,eq_true h1,x0_⟩,⟨y0_⟩,⟨y1_⟩⟩
theorem an_L12 {w W:World} {A:Option Addr} {n:Nat} {xs:List (List S45)} (h:Aside0 (Kd.C (Kd.slice 45 k45) w A n xs)) (hb:Aside0 (Below w.heap.size w W)) (i:Int) (h0:0≤i:=by exact da_) (h1:i < n:=by exact da_):∃ ad A0 c0,A=some ad∧((0≤i)=True∧(i < n)=True∧W.cell? (ad.add i.toNat)=some (.slice A0 (rd_L12 xs i).length c0))∧Aside0 ((rd_L12 xs i).length≤c0)∧Aside0 (k45.C w A0 (rd_L12 xs i).length (rd_L12 xs i)):=by
  obtain ⟨ad,A0,c0,e_,x0_,y0_,y1_⟩:=at_L12 h.out i h0 h1
  exact ⟨ad,A0,c0,e_,⟨eq_true h0,eq_true h1,hx_ hb x0_ (World.block_lt_of_cell? _ _ x0_)⟩,⟨y0_⟩,⟨y1_⟩⟩
theorem am_L12 {w:World} {A:Option Addr} {n:Nat} {xs:List (List S45)} (h:Aside0 (Kd.C (Kd.slice 45 k45) w A n xs)) (i:Int) (h0:0≤i:=by exact da_) (h1:i < n:=by exact da_):∃ ad A0 c0,A=some ad∧((0≤i)=True∧(i < n)=True∧w.cell? (ad.add i.toNat)=some (.slice A0 (rd_L12 xs i).length c0))∧Aside0 ((rd_L12 xs i).length≤c0)∧Aside0 (k45.C w A0 (rd_L12 xs i).length (rd_L12 xs i)):=by
  obtain ⟨ad,A0,c0,e_,x0_,y0_,y1_⟩:=at_L12 h.out i h0 h1
  exact ⟨ad,A0,c0,e_,⟨eq_true h0,eq_true h1,x0_⟩,⟨y0_⟩,⟨y1_⟩⟩
theorem an_L13 {w W:World} {A:Option Addr} {n:Nat} {xs:List (List S34)} (h:Aside0 (Kd.C (Kd.slice 34 k34) w A n xs)) (hb:Aside0 (Below w.heap.size w W)) (i:Int) (h0:0≤i:=by exact da_) (h1:i < n:=by exact da_):∃ ad A0 c0,A=some ad∧((0≤i)=True∧(i < n)=True∧W.cell? (ad.add i.toNat)=some (.slice A0 (rd_L13 xs i).length c0))∧Aside0 ((rd_L13 xs i).length≤c0)∧Aside0 (k34.C w A0 (rd_L13 xs i).length (rd_L13 xs i)):=by
  obtain ⟨ad,A0,c0,e_,x0_,y0_,y1_⟩:=at_L13 h.out i h0 h1
  exact ⟨ad,A0,c0,e_,⟨eq_true h0,eq_true h1,hx_ hb x0_ (World.block_lt_of_cell? _ _ x0_)⟩,⟨y0_⟩,⟨y1_⟩⟩
theorem am_L13 {w:World} {A:Option Addr} {n:Nat} {xs:List (List S34)} (h:Aside0 (Kd.C (Kd.slice 34 k34) w A n xs)) (i:Int) (h0:0≤i:=by exact da_) (h1:i < n:=by exact da_):∃ ad A0 c0,A=some ad∧((0≤i)=True∧(i < n)=True∧w.cell? (ad.add i.toNat)=some (.slice A0 (rd_L13 xs i).length c0))∧Aside0 ((rd_L13 xs i).length≤c0)∧Aside0 (k34.C w A0 (rd_L13 xs i).length (rd_L13 xs i)):=by
  obtain ⟨ad,A0,c0,e_,x0_,y0_,y1_⟩:=at_L13 h.out i h0 h1
  exact ⟨ad,A0,c0,e_,⟨eq_true h0,eq_true h1,x0_⟩,⟨y0_⟩,⟨y1_⟩⟩
theorem an_T26 {w W:World} {A:Option Addr} {n:Nat} {xs:List S26} (h:Aside0 (Kd.C k26 w A n xs)) (hb:Aside0 (Below w.heap.size w W)) (i:Int) (h0:0≤i:=by exact da_) (h1:i < n:=by exact da_):∃ ad A4 c4 A5 c5,A=some ad∧((0≤i)=True∧(i < n)=True∧W.cell? (ad.add (i.toNat*6))=some (.string (rd_T26 xs i).f0)∧W.cell? ⟨(ad.add (i.toNat*6)).block,(ad.add (i.toNat*6)).off+1,none⟩=some (.string (rd_T26 xs i).f1)∧W.cell? ⟨(ad.add (i.toNat*6)).block,(ad.add (i.toNat*6)).off+2,none⟩=some (.bool (rd_T26 xs i).f2)∧W.cell? ⟨(ad.add (i.toNat*6)).block,(ad.add (i.toNat*6)).off+3,none⟩=some (.bool (rd_T26 xs i).f3)∧W.cell? ⟨(ad.add (i.toNat*6)).block,(ad.add (i.toNat*6)).off+4,none⟩=some (.slice A4 (rd_T26 xs i).f4.length c4)∧W.cell? ⟨(ad.add (i.toNat*6)).block,(ad.add (i.toNat*6)).off+5,none⟩=some (.slice A5 (rd_T26 xs i).f5.length c5))∧Aside0 ((rd_T26 xs i).f4.length≤c4)∧Aside0 (k45.C w A4 (rd_T26 xs i).f4.length (rd_T26 xs i).f4)∧Aside0 ((rd_T26 xs i).f5.length≤c5)∧Aside0 (k34.C w A5 (rd_T26 xs i).f5.length (rd_T26 xs i).f5):=by
  obtain ⟨ad,A4,c4,A5,c5,e_,x0_,x1_,x2_,x3_,x4_,x5_,y0_,y1_,y2_,y3_⟩:=at_T26 h.out i h0 h1
  exact ⟨ad,A4,c4,A5,c5,e_,⟨eq_true h0,eq_true h1,hx_ hb x0_ (World.block_lt_of_cell? _ _ x0_),hx_ hb x1_ (World.block_lt_of_cell? _ _ x1_),hx_ hb x2_ (World.block_lt_of_cell? _ _ x2_),hx_ hb x3_ (World.block_lt_of_cell? _ _ x3_),hx_ hb x4_ (World.block_lt_of_cell? _ _ x4_),hx_ hb x5_ (World.block_lt_of_cell? _ _ x5_)⟩,⟨y0_⟩,⟨y1_⟩,⟨y2_⟩,⟨y3_⟩⟩
theorem am_T26 {w:World} {A:Option Addr} {n:Nat} {xs:List S26} (h:Aside0 (Kd.C k26 w A n xs)) (i:Int) (h0:0≤i:=by exact da_) (h1:i < n:=by exact da_):∃ ad A4 c4 A5 c5,A=some ad∧((0≤i)=True∧(i < n)=True∧w.cell? (ad.add (i.toNat*6))=some (.string (rd_T26 xs i).f0)∧w.cell? ⟨(ad.add (i.toNat*6)).block,(ad.add (i.toNat*6)).off+1,none⟩=some (.string (rd_T26 xs i).f1)∧w.cell? ⟨(ad.add (i.toNat*6)).block,(ad.add (i.toNat*6)).off+2,none⟩=some (.bool (rd_T26 xs i).f2)∧w.cell? ⟨(ad.add (i.toNat*6)).block,(ad.add (i.toNat*6)).off+3,none⟩=some (.bool (rd_T26 xs i).f3)∧w.cell? ⟨(ad.add (i.toNat*6)).block,(ad.add (i.toNat*6)).off+4,none⟩=some (.slice A4 (rd_T26 xs i).f4.length c4)∧w.cell? ⟨(ad.add (i.toNat*6)).block,(ad.add (i.toNat*6)).off+5,none⟩=some (.slice A5 (rd_T26 xs i).f5.length c5))∧Aside0 ((rd_T26 xs i).f4.length≤c4)∧Aside0 (k45.C w A4 (rd_T26 xs i).f4.length (rd_T26 xs i).f4)∧Aside0 ((rd_T26 xs i).f5.length≤c5)∧Aside0 (k34.C w A5 (rd_T26 xs i).f5.length (rd_T26 xs i).f5):=by
  obtain ⟨ad,A4,c4,A5,c5,e_,x0_,x1_,x2_,x3_,x4_,x5_,y0_,y1_,y2_,y3_⟩:=at_T26 h.out i h0 h1
  exact ⟨ad,A4,c4,A5,c5,e_,⟨eq_true h0,eq_true h1,x0_,x1_,x2_,x3_,x4_,x5_⟩,⟨y0_⟩,⟨y1_⟩,⟨y2_⟩,⟨y3_⟩⟩
theorem gw_ {P:Prop} (h:Aside0 P:=by assumption):P:=h.out
theorem kf_ {P:Prop} (h:P:=by (try show KeepBut w _ _ _);repeat (first|(with_reducible first|exact HK.out|apply KeepBut.set_|apply keep_drewN|apply keep_drew|apply keep_alloc|refine keep_far ?_ gw_ _)|exact HK.out)):P:=h
theorem ry_ {P:Prop} (h:P:=by first|(rw [hy_];with_reducible exact H)|(have H2_:=(Option.bind_some _ _).symm.trans H;rw [hy_];with_reducible exact H2_)|(have H2_:=(Option.bind_some _ _).symm.trans H;with_reducible exact H2_)|with_reducible exact H|(rw [hy_];exact H)|exact H):P:=h
theorem nq_ {P:Program} {ops:Array Oper} {Q:Exit→Act→World→Prop} {md:Region.Mode} {S:World→Prop} {ds:List Nat} {fuel:Nat} {l:Array Bool} {a a':Act} {w:World} (h:wpAnyLast P md ops Q S ds fuel l a' w) (ha:a=a':=by first|(simp only [putAll,Act.put,List.setIfInBounds_toArray,List.set_cons_zero,List.set_cons_succ];done)|(simp only [putAll,Act.put,List.setIfInBounds_toArray,List.set_cons_zero,List.set_cons_succ];rfl)):wpAnyLast P md ops Q S ds fuel l a w:=norm_ ha h
section
variable {P:Program} {ops:Array Oper} {Q:Exit→Act→World→Prop} {md:Region.Mode} {S:World→Prop} {ds:List Nat} {T:Bool×List (List Nat×List Nat)}
def Stp (P:Program) (md:Region.Mode) (ops:Array Oper) (Q:Exit→Act→World→Prop) (S:World→Prop) (ds:List Nat) (fuel:Nat) (l:Array Bool) (a:Act) (w:World) (i:Nat):Prop:=
  wpOp P ops Q i (fun a' w'=>(i ∉ ds→S w→S w')∧wpAnyLast P md ops Q S ds fuel (l.setIfInBounds i true) a' w') a w
theorem al_ {fuel:Nat} {l:Array Bool} {a:Act} {w:World} (hT:rtab md ops=T) (hne:(readyT T.2 l.toList).isEmpty=false)
    (h:∀ i,i∈readyT T.2 l.toList→Stp P md ops Q S ds fuel l a w i):wpAnyLast P md ops Q S ds (fuel+1) l a w:=by
  subst hT
  rw [← ready_eq] at hne h
  refine wpAnyLast_all rfl (fun e=>?_) h
  rw [e] at hne
  exact absurd hne (by simp)
theorem op_ {i:Nat} {N:Option Tmp} {oi:Oper} {fuel:Nat} {l:Array Bool} {a:Act} {w:World} 
    (h:∀ K:Act→World→Prop,Shut (∀ a' w',S w'→(S w'→wpAnyLast P md ops Q S ds fuel (l.setIfInBounds i true) a' w')→K a' w')→if Region.wanted oi (yielded ops a.tmps)=true then Oper.wp P oi a w K Q else K (a.put N undef) w) (hi:ops[i]?=some oi:=by rfl) (hN:oi.dst=N:=by rfl) (hd:i ∉ ds:=by decide):
    Stp P md ops Q S ds fuel l a w i:=by
  subst hN
  exact wpOp_step hi (fun K' hK=>h K' (fun a w hS hW=>hK a w ⟨fun _ _=>hS,hW hS⟩))
theorem rg_ {τ:Type} (L:τ→Array Bool) (A:τ→Act) (rk:τ→Nat) (F:τ→World→Prop) (h0:∀ s,0 < rk s)
    (h:∀ n s w,F s w→(∀ s' w',rk s'≤n→F s' w'→wpAnyLast P md ops Q S ds n (L s') (A s') w')→rk s≤n+1→wpAnyLast P md ops Q S ds (n+1) (L s) (A s) w):
    ∀ n s w,rk s≤n→F s w→wpAnyLast P md ops Q S ds n (L s) (A s) w
  | 0,s,_,hr,_=>absurd hr (by have:=h0 s;omega)
  | n+1,s,w,hr,hF=>h n s w hF (rg_ L A rk F h0 h n) hr
end
theorem abs_ {P:Program} {ops:Array Oper} {Q:Exit→Act→World→Prop} {md:Region.Mode} {S:World→Prop} {ds:List Nat} {fuel:Nat} {l:Array Bool} {a:Act} {w:World}
    (h:∀ (G:Nat→Array Bool→Act→World→Prop) (A:Act),G=wpAnyLast P md ops Q S ds→A=a→G fuel l A w):wpAnyLast P md ops Q S ds fuel l a w:=h _ _ rfl rfl
end Go.Proofs.Ythleflpkeigboaa.PFnPool
