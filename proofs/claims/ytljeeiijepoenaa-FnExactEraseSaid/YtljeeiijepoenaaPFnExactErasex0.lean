/- Functions of the program as plain Lean functions, each with a proof that the program's call comes to the same; no condition. Written by a program of this session. -/
import Derived.Test.YtljeeiijepoenaaProg
import Derived.Below
import Derived.Deep.Draws
import Derived.Deep.AppendLies
import Derived.Maps.AppendAt
import Derived.OwnWalk
import Derived.Laws.BytesArg
import Derived.Laws.MakeOwn
import Derived.Laws.OwnMore
import Derived.Deep.OwnRows
import Derived.Tactics
import Derived.Lib.ConvBytes
import Derived.Laws.Slices
import Derived.WalkKit
import Derived.KernelRfl
import Derived.RowKit3
import Derived.Deep.LoopGhost
import Derived.Deep.QuietTactic
import Derived.BigQuiet
import Derived.WideLaws
import Derived.Deep.DeepCutAuto
import Derived.Deep.CutBlock
import Derived.Deep.RegionHeld3
import Derived.Laws.Rows
import Derived.Lib.AppendStr
import Derived.ArgAppend
import Derived.Laws.IdiomCopy
import Derived.OrdersHeld
import Derived.Laws.BitsLemmas
import Derived.RowKit
import Derived.BigRegion
import Derived.RegionTactic
import Derived.ChangeAlike
import Derived.Test.YtljeeiijepoenaaShelf
import Derived.Test.YtljeeiijepoenaaWWords
import Derived.Test.YtljeeiijepoenaaWLast
import Derived.Test.YtljeeiijepoenaaWTab
import Derived.Test.YtljeeiijepoenaaWFour
import Derived.Test.YtljeeiijepoenaaWQPut
import Derived.Test.YtljeeiijepoenaaWApart
import Derived.Test.YtljeeiijepoenaaWArr
import Derived.Test.YtljeeiijepoenaaWZeros
import Derived.Test.YtljeeiijepoenaaWFoot
import Derived.Test.YtljeeiijepoenaaWKept
import Derived.Test.YtljeeiijepoenaaWShare
import Derived.Test.YtljeeiijepoenaaWN
import Derived.Test.YtljeeiijepoenaaWFootNe
import Derived.Test.YtljeeiijepoenaaWAt
import Derived.Test.YtljeeiijepoenaaWEqStruct
import Derived.Test.YtljeeiijepoenaaWRepsOne
import Derived.Test.YtljeeiijepoenaaWInv
import Derived.Test.YtljeeiijepoenaaWInvWords
import Derived.Test.YtljeeiijepoenaaWGuard
import Derived.Test.YtljeeiijepoenaaWNEv
import Derived.Test.YtljeeiijepoenaaWMore
namespace Go.Proofs.Ytljeeiijepoenaa.PFnExactErase
open Go.RowKit Go.Proofs.YtljeeiijepoenaaW.PrintWords Go.Proofs.YtljeeiijepoenaaW.PrintLast Go.Proofs.YtljeeiijepoenaaW.PrintMore
open Go.Proofs.YtljeeiijepoenaaW.PrintWords renaming below_alloc → Zba, pw_below_drewN → Zbn, below_drew1 → Zbd, blk_drewN → Zkn, blk_drew → Zkd, blk_alloc → Zka, blk_cell → Zkc, blk_far → Zkr
attribute [local go_sem] max2_int min2_int max_two min_two max_three min_three max_four min_four   -- for this text's walks alone
set_option linter.unusedVariables false
set_option linter.unusedSimpArgs false



def errW : Option Int → Value
  | none => .nilIface
  | some c => .iface 0 (.int .i64 c)
theorem errW_none : errW none = .nilIface := rfl
theorem errW_some (c : Int) : errW (some c) = .iface 0 (.int .i64 c) := rfl

/-- From W to W' there are only draws, and what is made. -/
structure Pl (W W' : World) : Prop where
  blk : ∀ {g : Nat} {o : Obj}, W.heap[g]? = some o → W'.heap[g]? = some o
  bel : ∀ {w : World}, Below w.heap.size w W → Below w.heap.size w W'
  cc : ∀ {α : Type} {d : Kd α} {A : Option Addr} {n : Nat} {xs : List α}, d.C W A n xs → d.C W' A n xs
  rr : ∀ {α : Type} {d : Kd α} {e base : Nat} {ok : Nat → Prop} {v : Value} {xs : List α}, Kd.R d e W base ok v xs → Kd.R d e W' base ok v xs
  ss : ∀ {α : Type} {d : Kd α} {e base : Nat} {ok : Nat → Prop} {v : Value} {xs : List α}, Kd.S d e W base ok v xs → Kd.S d e W' base ok v xs
instance pl_0 (W : World) : Nonempty (Pl W W) := ⟨⟨fun h => h, fun h => h, fun h => h, fun h => h, fun h => h⟩⟩
instance pl_n (W W' : World) (n : Nat) [h : Nonempty (Pl W W')] : Nonempty (Pl W (W'.drewN n)) := h.elim fun p => ⟨⟨fun x => Zkn (p.blk x) n, fun x => Zbn (p.bel x) n, fun x => Kd.C_drewN (p.cc x) n, fun x => Kd.R_drewN (p.rr x) n, fun x => Kd.S_drewN (p.ss x) n⟩⟩
instance pl_d (W W' : World) [h : Nonempty (Pl W W')] : Nonempty (Pl W W'.drew) := h.elim fun p => ⟨⟨fun x => Zkd (p.blk x), fun x => Zbd (p.bel x), fun x => Kd.C_drew (p.cc x), fun x => Kd.R_drew (p.rr x), fun x => Kd.S_drew (p.ss x)⟩⟩
instance pl_a (W W' : World) (o : Obj) [h : Nonempty (Pl W W')] : Nonempty (Pl W (W'.alloc o)) := h.elim fun p => ⟨⟨fun x => Zka (p.blk x) o, fun x => Zba (p.bel x) o, fun x => Kd.C_alloc (p.cc x) o, fun x => Kd.R_alloc (p.rr x) o, fun x => Kd.S_alloc (p.ss x) o⟩⟩
theorem pk {W W' : World} [h : Nonempty (Pl W W')] {g : Nat} {o : Obj} (x : W.heap[g]? = some o) : W'.heap[g]? = some o := h.elim fun p => p.blk x
theorem bk {W W' : World} [h : Nonempty (Pl W W')] {w : World} (x : Below w.heap.size w W) : Below w.heap.size w W' := h.elim fun p => p.bel x
theorem zf_ {w : World} {g : Nat} {t : TypeId} {cs : Array Value} {p : Addr} {u : Value} (zq_ : Aside0 (g ≠ p.block)) (h : w.heap[g]? = some (.cells cs t (0, 0))) : (w.setCell p u).heap[g]? = some (.cells cs t (0, 0)) := Zkr h zq_.out u
theorem zs_ {w : World} {g i : Nat} {u : Value} {t : TypeId} {cs : Array Value} (h : w.heap[g]? = some (.cells cs t (0, 0))) : (w.setCell ⟨g, i, none⟩ u).heap[g]? = some (.cells (cs.setIfInBounds i u) t (0, 0)) := blk_set h i u
/-- A block that is our own, behind stores: found by its place. -/
theorem zc_ {W : World} {g : Nat} {cs cs' : Array Value} {t : TypeId} (h : W.heap[g]? = some (.cells cs t (0, 0)) := by (with_reducible repeat (first | apply Go.Proofs.Ytljeeiijepoenaa.PFnExactErase.zs_ | apply Go.Proofs.YtljeeiijepoenaaW.PrintWords.blk_drewN | apply Go.Proofs.YtljeeiijepoenaaW.PrintWords.blk_drew | apply Go.Proofs.YtljeeiijepoenaaW.PrintWords.blk_alloc | (apply Go.Proofs.Ytljeeiijepoenaa.PFnExactErase.zf_; assumption))); with_reducible (apply Go.Proofs.YtljeeiijepoenaaW.PrintWords.Aside0.out; assumption)) (e : cs = cs' := by first | rfl | (simp only [List.drop_one]; rfl)) : W.heap[g]? = some (.cells cs' t (0, 0)) := e ▸ h
theorem hb_ {w W : World} (h : Below w.heap.size w W := by repeat (first | (with_reducible first | (refine Go.Proofs.YtljeeiijepoenaaW.PrintWords.Aside0.out ?_; assumption) | apply Go.Proofs.YtljeeiijepoenaaW.PrintWords.below_alloc | apply Go.Proofs.YtljeeiijepoenaaW.PrintWords.pw_below_drewN | apply Go.Proofs.YtljeeiijepoenaaW.PrintWords.below_drew1 | refine Go.Proofs.YtljeeiijepoenaaW.PrintWords.below_set ?_ (Go.Proofs.YtljeeiijepoenaaW.PrintWords.Aside0.out (by assumption))) | (refine Go.Proofs.YtljeeiijepoenaaW.PrintWords.Aside0.out ?_; assumption))) : Below w.heap.size w W := h
theorem fin_ {P : Prop} {w W W' : World} [Nonempty (Pl W W')] (hb : Aside0 (Below w.heap.size w W)) (h : P := by first | rfl | (simp [*] <;> rfl)) : P ∧ Below w.heap.size w W' := ⟨h, bk hb.out⟩
theorem ge_ {P : Program} {ops : Array Oper} {Q : Exit → Act → World → Prop} {rest : List Oper} {oi : Oper} {a : Act} {w : World} (N : Option Tmp) {f : FuncId} {fn : Func} {as_ : Array Operand} {ts : Array TypeId} (hf : P.funcs[f]? = some fn) (args : Array Value)
    (h : Calls P f args w fun e w' => ∃ v, e = .returned v ∧ wpList P ops Q rest (a.put N v) w') (hd : oi.dst = N := by rfl) (hg : oi.guard = none := by rfl) (hname : (fn.name == "runtime.NumGoroutine") = false := by kernel_rfl) (hb : fn.body.isSome = true := by rfl)
    (hop : oi.op = .call { callee := .value (.func f), args := as_, argTypes := ts } := by rfl) (hargs : as_.map a.eval = args := by (try simp only [List.map_toArray, List.map_cons, List.map_nil]); first | done | rfl | (simp only [List.length_drop, List.length_take]; rfl)) : wpList P ops Q (oi :: rest) a w :=
  goesL_ N hd hg hf hname hb args hop hargs h
theorem hx_ {w W : World} {b : Nat} {p : Addr} {v : Value} (hb : Aside0 (Below b w W)) (h : w.cell? p = some v) (hl : p.block < b) : W.cell? p = some v := (hb.out.cell hl).trans h
theorem ie_ {l : List UInt8} {b : Bool} (h : (l == ([] : List UInt8)) = b) : l.isEmpty = b := by cases l <;> exact h
theorem bne_ {α : Type} [BEq α] {a b : α} {c : Bool} (h : (a != b) = c) : (!(a == b)) = c := h
theorem pc {W W' : World} [h : Nonempty (Pl W W')] {α : Type} {d : Kd α} {A : Option Addr} {n : Nat} {xs : List α} (x : d.C W A n xs) : d.C W' A n xs := h.elim fun p => p.cc x
theorem cz2 {W : World} {g : Nat} {v0 v1 : Value} {t : TypeId} (h : W.heap[g]? = some (.cells #[v0, v1] t (0, 0))) : W.cell? ⟨g, 0, none⟩ = some v0 ∧ W.cell? ⟨g, 1, none⟩ = some v1 := ⟨(Zkc h 0).trans rfl, (Zkc h 1).trans rfl⟩
theorem cf2 {W : World} {g : Nat} {v0 v1 : Value} {t : TypeId} (h : W.heap[g]? = some (.cells #[v0, v1] t (0, 0))) : W.cell? ⟨g, 0, none⟩ = some v0 ∧ W.cell? ⟨g, 1, none⟩ = some v1 ∧ W.frozen? ⟨g, 0, none⟩ = false ∧ W.frozen? ⟨g, 1, none⟩ = false := by
  obtain ⟨h0, h1⟩ := cz2 h
  exact ⟨h0, h1, (by simp [World.frozen?, h]), (by simp [World.frozen?, h])⟩
theorem cz3 {W : World} {g : Nat} {v0 v1 v2 : Value} {t : TypeId} (h : W.heap[g]? = some (.cells #[v0, v1, v2] t (0, 0))) : W.cell? ⟨g, 0, none⟩ = some v0 ∧ W.cell? ⟨g, 1, none⟩ = some v1 ∧ W.cell? ⟨g, 2, none⟩ = some v2 := ⟨(Zkc h 0).trans rfl, (Zkc h 1).trans rfl, (Zkc h 2).trans rfl⟩
theorem cf3 {W : World} {g : Nat} {v0 v1 v2 : Value} {t : TypeId} (h : W.heap[g]? = some (.cells #[v0, v1, v2] t (0, 0))) : W.cell? ⟨g, 0, none⟩ = some v0 ∧ W.cell? ⟨g, 1, none⟩ = some v1 ∧ W.cell? ⟨g, 2, none⟩ = some v2 ∧ W.frozen? ⟨g, 0, none⟩ = false ∧ W.frozen? ⟨g, 1, none⟩ = false ∧ W.frozen? ⟨g, 2, none⟩ = false := by
  obtain ⟨h0, h1, h2⟩ := cz3 h
  exact ⟨h0, h1, h2, (by simp [World.frozen?, h]), (by simp [World.frozen?, h]), (by simp [World.frozen?, h])⟩
theorem cz4 {W : World} {g : Nat} {v0 v1 v2 v3 : Value} {t : TypeId} (h : W.heap[g]? = some (.cells #[v0, v1, v2, v3] t (0, 0))) : W.cell? ⟨g, 0, none⟩ = some v0 ∧ W.cell? ⟨g, 1, none⟩ = some v1 ∧ W.cell? ⟨g, 2, none⟩ = some v2 ∧ W.cell? ⟨g, 3, none⟩ = some v3 := ⟨(Zkc h 0).trans rfl, (Zkc h 1).trans rfl, (Zkc h 2).trans rfl, (Zkc h 3).trans rfl⟩
theorem cf4 {W : World} {g : Nat} {v0 v1 v2 v3 : Value} {t : TypeId} (h : W.heap[g]? = some (.cells #[v0, v1, v2, v3] t (0, 0))) : W.cell? ⟨g, 0, none⟩ = some v0 ∧ W.cell? ⟨g, 1, none⟩ = some v1 ∧ W.cell? ⟨g, 2, none⟩ = some v2 ∧ W.cell? ⟨g, 3, none⟩ = some v3 ∧ W.frozen? ⟨g, 0, none⟩ = false ∧ W.frozen? ⟨g, 1, none⟩ = false ∧ W.frozen? ⟨g, 2, none⟩ = false ∧ W.frozen? ⟨g, 3, none⟩ = false := by
  obtain ⟨h0, h1, h2, h3⟩ := cz4 h
  exact ⟨h0, h1, h2, h3, (by simp [World.frozen?, h]), (by simp [World.frozen?, h]), (by simp [World.frozen?, h]), (by simp [World.frozen?, h])⟩
theorem cz5 {W : World} {g : Nat} {v0 v1 v2 v3 v4 : Value} {t : TypeId} (h : W.heap[g]? = some (.cells #[v0, v1, v2, v3, v4] t (0, 0))) : W.cell? ⟨g, 0, none⟩ = some v0 ∧ W.cell? ⟨g, 1, none⟩ = some v1 ∧ W.cell? ⟨g, 2, none⟩ = some v2 ∧ W.cell? ⟨g, 3, none⟩ = some v3 ∧ W.cell? ⟨g, 4, none⟩ = some v4 := ⟨(Zkc h 0).trans rfl, (Zkc h 1).trans rfl, (Zkc h 2).trans rfl, (Zkc h 3).trans rfl, (Zkc h 4).trans rfl⟩
theorem cf5 {W : World} {g : Nat} {v0 v1 v2 v3 v4 : Value} {t : TypeId} (h : W.heap[g]? = some (.cells #[v0, v1, v2, v3, v4] t (0, 0))) : W.cell? ⟨g, 0, none⟩ = some v0 ∧ W.cell? ⟨g, 1, none⟩ = some v1 ∧ W.cell? ⟨g, 2, none⟩ = some v2 ∧ W.cell? ⟨g, 3, none⟩ = some v3 ∧ W.cell? ⟨g, 4, none⟩ = some v4 ∧ W.frozen? ⟨g, 0, none⟩ = false ∧ W.frozen? ⟨g, 1, none⟩ = false ∧ W.frozen? ⟨g, 2, none⟩ = false ∧ W.frozen? ⟨g, 3, none⟩ = false ∧ W.frozen? ⟨g, 4, none⟩ = false := by
  obtain ⟨h0, h1, h2, h3, h4⟩ := cz5 h
  exact ⟨h0, h1, h2, h3, h4, (by simp [World.frozen?, h]), (by simp [World.frozen?, h]), (by simp [World.frozen?, h]), (by simp [World.frozen?, h]), (by simp [World.frozen?, h])⟩
theorem cz8 {W : World} {g : Nat} {v0 v1 v2 v3 v4 v5 v6 v7 : Value} {t : TypeId} (h : W.heap[g]? = some (.cells #[v0, v1, v2, v3, v4, v5, v6, v7] t (0, 0))) : W.cell? ⟨g, 0, none⟩ = some v0 ∧ W.cell? ⟨g, 1, none⟩ = some v1 ∧ W.cell? ⟨g, 2, none⟩ = some v2 ∧ W.cell? ⟨g, 3, none⟩ = some v3 ∧ W.cell? ⟨g, 4, none⟩ = some v4 ∧ W.cell? ⟨g, 5, none⟩ = some v5 ∧ W.cell? ⟨g, 6, none⟩ = some v6 ∧ W.cell? ⟨g, 7, none⟩ = some v7 := ⟨(Zkc h 0).trans rfl, (Zkc h 1).trans rfl, (Zkc h 2).trans rfl, (Zkc h 3).trans rfl, (Zkc h 4).trans rfl, (Zkc h 5).trans rfl, (Zkc h 6).trans rfl, (Zkc h 7).trans rfl⟩
theorem cf8 {W : World} {g : Nat} {v0 v1 v2 v3 v4 v5 v6 v7 : Value} {t : TypeId} (h : W.heap[g]? = some (.cells #[v0, v1, v2, v3, v4, v5, v6, v7] t (0, 0))) : W.cell? ⟨g, 0, none⟩ = some v0 ∧ W.cell? ⟨g, 1, none⟩ = some v1 ∧ W.cell? ⟨g, 2, none⟩ = some v2 ∧ W.cell? ⟨g, 3, none⟩ = some v3 ∧ W.cell? ⟨g, 4, none⟩ = some v4 ∧ W.cell? ⟨g, 5, none⟩ = some v5 ∧ W.cell? ⟨g, 6, none⟩ = some v6 ∧ W.cell? ⟨g, 7, none⟩ = some v7 ∧ W.frozen? ⟨g, 0, none⟩ = false ∧ W.frozen? ⟨g, 1, none⟩ = false ∧ W.frozen? ⟨g, 2, none⟩ = false ∧ W.frozen? ⟨g, 3, none⟩ = false ∧ W.frozen? ⟨g, 4, none⟩ = false ∧ W.frozen? ⟨g, 5, none⟩ = false ∧ W.frozen? ⟨g, 6, none⟩ = false ∧ W.frozen? ⟨g, 7, none⟩ = false := by
  obtain ⟨h0, h1, h2, h3, h4, h5, h6, h7⟩ := cz8 h
  exact ⟨h0, h1, h2, h3, h4, h5, h6, h7, (by simp [World.frozen?, h]), (by simp [World.frozen?, h]), (by simp [World.frozen?, h]), (by simp [World.frozen?, h]), (by simp [World.frozen?, h]), (by simp [World.frozen?, h]), (by simp [World.frozen?, h]), (by simp [World.frozen?, h])⟩
theorem cz10 {W : World} {g : Nat} {v0 v1 v2 v3 v4 v5 v6 v7 v8 v9 : Value} {t : TypeId} (h : W.heap[g]? = some (.cells #[v0, v1, v2, v3, v4, v5, v6, v7, v8, v9] t (0, 0))) : W.cell? ⟨g, 0, none⟩ = some v0 ∧ W.cell? ⟨g, 1, none⟩ = some v1 ∧ W.cell? ⟨g, 2, none⟩ = some v2 ∧ W.cell? ⟨g, 3, none⟩ = some v3 ∧ W.cell? ⟨g, 4, none⟩ = some v4 ∧ W.cell? ⟨g, 5, none⟩ = some v5 ∧ W.cell? ⟨g, 6, none⟩ = some v6 ∧ W.cell? ⟨g, 7, none⟩ = some v7 ∧ W.cell? ⟨g, 8, none⟩ = some v8 ∧ W.cell? ⟨g, 9, none⟩ = some v9 := ⟨(Zkc h 0).trans rfl, (Zkc h 1).trans rfl, (Zkc h 2).trans rfl, (Zkc h 3).trans rfl, (Zkc h 4).trans rfl, (Zkc h 5).trans rfl, (Zkc h 6).trans rfl, (Zkc h 7).trans rfl, (Zkc h 8).trans rfl, (Zkc h 9).trans rfl⟩
theorem cf10 {W : World} {g : Nat} {v0 v1 v2 v3 v4 v5 v6 v7 v8 v9 : Value} {t : TypeId} (h : W.heap[g]? = some (.cells #[v0, v1, v2, v3, v4, v5, v6, v7, v8, v9] t (0, 0))) : W.cell? ⟨g, 0, none⟩ = some v0 ∧ W.cell? ⟨g, 1, none⟩ = some v1 ∧ W.cell? ⟨g, 2, none⟩ = some v2 ∧ W.cell? ⟨g, 3, none⟩ = some v3 ∧ W.cell? ⟨g, 4, none⟩ = some v4 ∧ W.cell? ⟨g, 5, none⟩ = some v5 ∧ W.cell? ⟨g, 6, none⟩ = some v6 ∧ W.cell? ⟨g, 7, none⟩ = some v7 ∧ W.cell? ⟨g, 8, none⟩ = some v8 ∧ W.cell? ⟨g, 9, none⟩ = some v9 ∧ W.frozen? ⟨g, 0, none⟩ = false ∧ W.frozen? ⟨g, 1, none⟩ = false ∧ W.frozen? ⟨g, 2, none⟩ = false ∧ W.frozen? ⟨g, 3, none⟩ = false ∧ W.frozen? ⟨g, 4, none⟩ = false ∧ W.frozen? ⟨g, 5, none⟩ = false ∧ W.frozen? ⟨g, 6, none⟩ = false ∧ W.frozen? ⟨g, 7, none⟩ = false ∧ W.frozen? ⟨g, 8, none⟩ = false ∧ W.frozen? ⟨g, 9, none⟩ = false := by
  obtain ⟨h0, h1, h2, h3, h4, h5, h6, h7, h8, h9⟩ := cz10 h
  exact ⟨h0, h1, h2, h3, h4, h5, h6, h7, h8, h9, (by simp [World.frozen?, h]), (by simp [World.frozen?, h]), (by simp [World.frozen?, h]), (by simp [World.frozen?, h]), (by simp [World.frozen?, h]), (by simp [World.frozen?, h]), (by simp [World.frozen?, h]), (by simp [World.frozen?, h]), (by simp [World.frozen?, h]), (by simp [World.frozen?, h])⟩
theorem info2 : (Try.prog.info? 2).map (fun i => (i.zero, i.size, i.bytes)) = some (some (.int .i64 0), 1, 8) := by kernel_rfl
theorem info5 : (Try.prog.info? 5).map (fun i => (i.zero, i.size, i.bytes)) = some (some (.int .u8 0), 1, 1) := by kernel_rfl
theorem info43 : (Try.prog.info? 43).map (fun i => (i.zero, i.size, i.bytes)) = some (some (.agg #[(.int .i64 0), (.int .i64 0)]), 2, 16) := by kernel_rfl
theorem info71 : (Try.prog.info? 71).map (fun i => (i.zero, i.size, i.bytes)) = some (some (.agg #[(.int .i64 0), (.string ⟨#[]⟩), (.bool false), (.slice none 0 0)]), 4, 56) := by kernel_rfl
theorem info73 : (Try.prog.info? 73).map (fun i => (i.zero, i.size, i.bytes)) = some (some (.agg #[(.string ⟨#[]⟩), (.int .i64 0), (.slice none 0 0)]), 3, 48) := by kernel_rfl
theorem info75 : (Try.prog.info? 75).map (fun i => (i.zero, i.size, i.bytes)) = some (some (.agg #[(.int .i64 0), (.int .i64 0), (.int .i64 0), (.slice none 0 0), (.slice none 0 0)]), 5, 72) := by kernel_rfl
theorem info77 : (Try.prog.info? 77).map (fun i => (i.zero, i.size, i.bytes)) = some (some (.agg #[(.int .i64 0), (.int .i64 0), (.int .i64 0), (.slice none 0 0), (.slice none 0 0)]), 5, 72) := by kernel_rfl
-- the values' own types
/-! #### struct type 28 -/
structure S28 where
  f0 : Int
  f1 : Int
def z28 : S28 := ⟨(0 : Int), (0 : Int)⟩
def k28 : Kd S28 := Kd.iso (Kd.pair (Kd.int .i64) (Kd.int .i64)) (fun x : S28 => (x.f0, x.f1))
theorem k28_open {w : World} {x : S28} {cs : List Value} (h : k28.K w x cs) : cs = [.int .i64 x.f0, .int .i64 x.f1] := by
  obtain ⟨_, _, rfl, rfl, rfl⟩ := h
  exact rfl
theorem k28_openM {w : World} {base : Nat} {ok : Nat → Prop} {x : S28} {cs : List Value} (h : k28.M w base ok x cs) : cs = [.int .i64 x.f0, .int .i64 x.f1] := by
  obtain ⟨_, _, rfl, rfl, rfl⟩ := h
  exact rfl
theorem k28_mk (w : World) (x : S28)  : k28.K w x [.int .i64 x.f0, .int .i64 x.f1] := ⟨[.int .i64 x.f0], [.int .i64 x.f1], rfl, rfl, rfl⟩
theorem k28_mkM (w : World) (base : Nat) (ok : Nat → Prop) (x : S28)  : k28.M w base ok x [.int .i64 x.f0, .int .i64 x.f1] := ⟨[.int .i64 x.f0], [.int .i64 x.f1], rfl, rfl, rfl⟩
def rd_T28 (xs : List S28) (i : Int) : S28 := xs.getD i.toNat z28
theorem at_T28 {w : World} {A : Option Addr} {n : Nat} {xs : List S28} (h : Kd.C k28 w A n xs) (i : Int) (h0 : 0 ≤ i) (h1 : i < n) : ∃ ad , A = some ad ∧ w.cell? (ad.add (i.toNat * 2)) = some (.int .i64 (rd_T28 xs i).f0) ∧ w.cell? ⟨(ad.add (i.toNat * 2)).block, (ad.add (i.toNat * 2)).off + 1, none⟩ = some (.int .i64 (rd_T28 xs i).f1) := by
  obtain ⟨ad, c, e, _, hK, hc0⟩ := Kd.C_get h z28 i h0 h1
  have hc : ∀ j u, c[j]? = some u → w.cell? (ad.add (i.toNat * 2 + j)) = some u := hc0
  obtain rfl := k28_open hK
  exact ⟨ad, e, hc 0 _ rfl, by rw [← add_field _ _ 1 (by omega)]; exact hc 1 _ rfl⟩

def rd_L4 (xs : List (List S28)) (i : Int) : (List S28) := xs.getD i.toNat ([] : List S28)
theorem at_L4 {w : World} {A : Option Addr} {n : Nat} {xs : List (List S28)} (h : Kd.C (Kd.slice 28 k28) w A n xs) (i : Int) (h0 : 0 ≤ i) (h1 : i < n) : ∃ ad A0 c0, A = some ad ∧ w.cell? (ad.add i.toNat) = some (.slice A0 (rd_L4 xs i).length c0) ∧ (rd_L4 xs i).length ≤ c0 ∧ k28.C w A0 (rd_L4 xs i).length (rd_L4 xs i) := by
  obtain ⟨ad, c, e, _, hK, hc0⟩ := Kd.C_get h ([] : List S28) i h0 h1
  have hc : ∀ j u, c[j]? = some u → w.cell? (ad.add (i.toNat * 1 + j)) = some u := hc0
  obtain ⟨A0, c0, rfl, l0, g0⟩ := hK
  exact ⟨ad, A0, c0, e, by have hq := hc 0 _ rfl; rwa [Nat.mul_one, Nat.add_zero] at hq, l0, g0⟩

/-! #### struct type 156 -/
structure S156 where
  f0 : Int
  f1 : ByteArray
  f2 : Bool
  f3 : (List S28)
def z156 : S156 := ⟨(0 : Int), (⟨#[]⟩ : ByteArray), false, ([] : List S28)⟩
def k156 : Kd S156 := Kd.iso (Kd.pair (Kd.int .i64) (Kd.pair Kd.string (Kd.pair Kd.bool (Kd.slice 28 k28)))) (fun x : S156 => (x.f0, x.f1, x.f2, x.f3))
theorem k156_open {w : World} {x : S156} {cs : List Value} (h : k156.K w x cs) : ∃ A3 c3, cs = [.int .i64 x.f0, .string x.f1, .bool x.f2, .slice A3 x.f3.length c3] ∧ x.f3.length ≤ c3 ∧ k28.C w A3 x.f3.length x.f3 := by
  obtain ⟨_, _, rfl, rfl, ⟨_, _, rfl, rfl, ⟨_, _, rfl, rfl, ⟨A3, c3, rfl, l3, g3⟩⟩⟩⟩ := h
  exact ⟨A3, c3, rfl, l3, g3⟩
theorem k156_openM {w : World} {base : Nat} {ok : Nat → Prop} {x : S156} {cs : List Value} (h : k156.M w base ok x cs) : ∃ v3, cs = [.int .i64 x.f0, .string x.f1, .bool x.f2, v3] ∧ k28.R 28 w base ok v3 x.f3 := by
  obtain ⟨_, _, rfl, rfl, ⟨_, _, rfl, rfl, ⟨_, _, rfl, rfl, ⟨v3, rfl, g3⟩⟩⟩⟩ := h
  exact ⟨v3, rfl, g3⟩
theorem k156_mk (w : World) (x : S156) {A3 : Option Addr} {c3 : Nat} (l3 : x.f3.length ≤ c3) (g3 : k28.C w A3 x.f3.length x.f3) : k156.K w x [.int .i64 x.f0, .string x.f1, .bool x.f2, .slice A3 x.f3.length c3] := ⟨[.int .i64 x.f0], [.string x.f1, .bool x.f2, .slice A3 x.f3.length c3], rfl, rfl, ⟨[.string x.f1], [.bool x.f2, .slice A3 x.f3.length c3], rfl, rfl, ⟨[.bool x.f2], [.slice A3 x.f3.length c3], rfl, rfl, ⟨A3, c3, rfl, l3, g3⟩⟩⟩⟩
theorem k156_mkM (w : World) (base : Nat) (ok : Nat → Prop) (x : S156) {v3 : Value} (g3 : k28.R 28 w base ok v3 x.f3) : k156.M w base ok x [.int .i64 x.f0, .string x.f1, .bool x.f2, v3] := ⟨[.int .i64 x.f0], [.string x.f1, .bool x.f2, v3], rfl, rfl, ⟨[.string x.f1], [.bool x.f2, v3], rfl, rfl, ⟨[.bool x.f2], [v3], rfl, rfl, ⟨v3, rfl, g3⟩⟩⟩⟩
def rd_T156 (xs : List S156) (i : Int) : S156 := xs.getD i.toNat z156
theorem at_T156 {w : World} {A : Option Addr} {n : Nat} {xs : List S156} (h : Kd.C k156 w A n xs) (i : Int) (h0 : 0 ≤ i) (h1 : i < n) : ∃ ad A3 c3, A = some ad ∧ w.cell? (ad.add (i.toNat * 4)) = some (.int .i64 (rd_T156 xs i).f0) ∧ w.cell? ⟨(ad.add (i.toNat * 4)).block, (ad.add (i.toNat * 4)).off + 1, none⟩ = some (.string (rd_T156 xs i).f1) ∧ w.cell? ⟨(ad.add (i.toNat * 4)).block, (ad.add (i.toNat * 4)).off + 2, none⟩ = some (.bool (rd_T156 xs i).f2) ∧ w.cell? ⟨(ad.add (i.toNat * 4)).block, (ad.add (i.toNat * 4)).off + 3, none⟩ = some (.slice A3 (rd_T156 xs i).f3.length c3) ∧ (rd_T156 xs i).f3.length ≤ c3 ∧ k28.C w A3 (rd_T156 xs i).f3.length (rd_T156 xs i).f3 := by
  obtain ⟨ad, c, e, _, hK, hc0⟩ := Kd.C_get h z156 i h0 h1
  have hc : ∀ j u, c[j]? = some u → w.cell? (ad.add (i.toNat * 4 + j)) = some u := hc0
  obtain ⟨A3, c3, rfl, l3, g3⟩ := k156_open hK
  exact ⟨ad, A3, c3, e, hc 0 _ rfl, by rw [← add_field _ _ 1 (by omega)]; exact hc 1 _ rfl, by rw [← add_field _ _ 2 (by omega)]; exact hc 2 _ rfl, by rw [← add_field _ _ 3 (by omega)]; exact hc 3 _ rfl, l3, g3⟩

/-! #### struct type 113 -/
structure S113 where
  f0 : Int
  f1 : Int
  f2 : Int
  f3 : (List S28)
  f4 : (List S28)
def z113 : S113 := ⟨(0 : Int), (0 : Int), (0 : Int), ([] : List S28), ([] : List S28)⟩
def k113 : Kd S113 := Kd.iso (Kd.pair (Kd.int .i64) (Kd.pair (Kd.int .i64) (Kd.pair (Kd.int .i64) (Kd.pair (Kd.slice 28 k28) (Kd.slice 28 k28))))) (fun x : S113 => (x.f0, x.f1, x.f2, x.f3, x.f4))
theorem k113_open {w : World} {x : S113} {cs : List Value} (h : k113.K w x cs) : ∃ A3 c3 A4 c4, cs = [.int .i64 x.f0, .int .i64 x.f1, .int .i64 x.f2, .slice A3 x.f3.length c3, .slice A4 x.f4.length c4] ∧ x.f3.length ≤ c3 ∧ k28.C w A3 x.f3.length x.f3 ∧ x.f4.length ≤ c4 ∧ k28.C w A4 x.f4.length x.f4 := by
  obtain ⟨_, _, rfl, rfl, ⟨_, _, rfl, rfl, ⟨_, _, rfl, rfl, ⟨_, _, rfl, ⟨A3, c3, rfl, l3, g3⟩, ⟨A4, c4, rfl, l4, g4⟩⟩⟩⟩⟩ := h
  exact ⟨A3, c3, A4, c4, rfl, l3, g3, l4, g4⟩
theorem k113_openM {w : World} {base : Nat} {ok : Nat → Prop} {x : S113} {cs : List Value} (h : k113.M w base ok x cs) : ∃ v3 v4, cs = [.int .i64 x.f0, .int .i64 x.f1, .int .i64 x.f2, v3, v4] ∧ k28.R 28 w base ok v3 x.f3 ∧ k28.R 28 w base ok v4 x.f4 := by
  obtain ⟨_, _, rfl, rfl, ⟨_, _, rfl, rfl, ⟨_, _, rfl, rfl, ⟨_, _, rfl, ⟨v3, rfl, g3⟩, ⟨v4, rfl, g4⟩⟩⟩⟩⟩ := h
  exact ⟨v3, v4, rfl, g3, g4⟩
theorem k113_mk (w : World) (x : S113) {A3 : Option Addr} {c3 : Nat} (l3 : x.f3.length ≤ c3) (g3 : k28.C w A3 x.f3.length x.f3) {A4 : Option Addr} {c4 : Nat} (l4 : x.f4.length ≤ c4) (g4 : k28.C w A4 x.f4.length x.f4) : k113.K w x [.int .i64 x.f0, .int .i64 x.f1, .int .i64 x.f2, .slice A3 x.f3.length c3, .slice A4 x.f4.length c4] := ⟨[.int .i64 x.f0], [.int .i64 x.f1, .int .i64 x.f2, .slice A3 x.f3.length c3, .slice A4 x.f4.length c4], rfl, rfl, ⟨[.int .i64 x.f1], [.int .i64 x.f2, .slice A3 x.f3.length c3, .slice A4 x.f4.length c4], rfl, rfl, ⟨[.int .i64 x.f2], [.slice A3 x.f3.length c3, .slice A4 x.f4.length c4], rfl, rfl, ⟨[.slice A3 x.f3.length c3], [.slice A4 x.f4.length c4], rfl, ⟨A3, c3, rfl, l3, g3⟩, ⟨A4, c4, rfl, l4, g4⟩⟩⟩⟩⟩
theorem k113_mkM (w : World) (base : Nat) (ok : Nat → Prop) (x : S113) {v3 : Value} (g3 : k28.R 28 w base ok v3 x.f3) {v4 : Value} (g4 : k28.R 28 w base ok v4 x.f4) : k113.M w base ok x [.int .i64 x.f0, .int .i64 x.f1, .int .i64 x.f2, v3, v4] := ⟨[.int .i64 x.f0], [.int .i64 x.f1, .int .i64 x.f2, v3, v4], rfl, rfl, ⟨[.int .i64 x.f1], [.int .i64 x.f2, v3, v4], rfl, rfl, ⟨[.int .i64 x.f2], [v3, v4], rfl, rfl, ⟨[v3], [v4], rfl, ⟨v3, rfl, g3⟩, ⟨v4, rfl, g4⟩⟩⟩⟩⟩
def rd_T113 (xs : List S113) (i : Int) : S113 := xs.getD i.toNat z113
theorem at_T113 {w : World} {A : Option Addr} {n : Nat} {xs : List S113} (h : Kd.C k113 w A n xs) (i : Int) (h0 : 0 ≤ i) (h1 : i < n) : ∃ ad A3 c3 A4 c4, A = some ad ∧ w.cell? (ad.add (i.toNat * 5)) = some (.int .i64 (rd_T113 xs i).f0) ∧ w.cell? ⟨(ad.add (i.toNat * 5)).block, (ad.add (i.toNat * 5)).off + 1, none⟩ = some (.int .i64 (rd_T113 xs i).f1) ∧ w.cell? ⟨(ad.add (i.toNat * 5)).block, (ad.add (i.toNat * 5)).off + 2, none⟩ = some (.int .i64 (rd_T113 xs i).f2) ∧ w.cell? ⟨(ad.add (i.toNat * 5)).block, (ad.add (i.toNat * 5)).off + 3, none⟩ = some (.slice A3 (rd_T113 xs i).f3.length c3) ∧ w.cell? ⟨(ad.add (i.toNat * 5)).block, (ad.add (i.toNat * 5)).off + 4, none⟩ = some (.slice A4 (rd_T113 xs i).f4.length c4) ∧ (rd_T113 xs i).f3.length ≤ c3 ∧ k28.C w A3 (rd_T113 xs i).f3.length (rd_T113 xs i).f3 ∧ (rd_T113 xs i).f4.length ≤ c4 ∧ k28.C w A4 (rd_T113 xs i).f4.length (rd_T113 xs i).f4 := by
  obtain ⟨ad, c, e, _, hK, hc0⟩ := Kd.C_get h z113 i h0 h1
  have hc : ∀ j u, c[j]? = some u → w.cell? (ad.add (i.toNat * 5 + j)) = some u := hc0
  obtain ⟨A3, c3, A4, c4, rfl, l3, g3, l4, g4⟩ := k113_open hK
  exact ⟨ad, A3, c3, A4, c4, e, hc 0 _ rfl, by rw [← add_field _ _ 1 (by omega)]; exact hc 1 _ rfl, by rw [← add_field _ _ 2 (by omega)]; exact hc 2 _ rfl, by rw [← add_field _ _ 3 (by omega)]; exact hc 3 _ rfl, by rw [← add_field _ _ 4 (by omega)]; exact hc 4 _ rfl, l3, g3, l4, g4⟩

/-! #### struct type 43 -/
structure S43 where
  f0 : Int
  f1 : Int
def z43 : S43 := ⟨(0 : Int), (0 : Int)⟩
def k43 : Kd S43 := Kd.iso (Kd.pair (Kd.int .i64) (Kd.int .i64)) (fun x : S43 => (x.f0, x.f1))
theorem k43_open {w : World} {x : S43} {cs : List Value} (h : k43.K w x cs) : cs = [.int .i64 x.f0, .int .i64 x.f1] := by
  obtain ⟨_, _, rfl, rfl, rfl⟩ := h
  exact rfl
theorem k43_openM {w : World} {base : Nat} {ok : Nat → Prop} {x : S43} {cs : List Value} (h : k43.M w base ok x cs) : cs = [.int .i64 x.f0, .int .i64 x.f1] := by
  obtain ⟨_, _, rfl, rfl, rfl⟩ := h
  exact rfl
theorem k43_mk (w : World) (x : S43)  : k43.K w x [.int .i64 x.f0, .int .i64 x.f1] := ⟨[.int .i64 x.f0], [.int .i64 x.f1], rfl, rfl, rfl⟩
theorem k43_mkM (w : World) (base : Nat) (ok : Nat → Prop) (x : S43)  : k43.M w base ok x [.int .i64 x.f0, .int .i64 x.f1] := ⟨[.int .i64 x.f0], [.int .i64 x.f1], rfl, rfl, rfl⟩
def rd_T43 (xs : List S43) (i : Int) : S43 := xs.getD i.toNat z43
theorem at_T43 {w : World} {A : Option Addr} {n : Nat} {xs : List S43} (h : Kd.C k43 w A n xs) (i : Int) (h0 : 0 ≤ i) (h1 : i < n) : ∃ ad , A = some ad ∧ w.cell? (ad.add (i.toNat * 2)) = some (.int .i64 (rd_T43 xs i).f0) ∧ w.cell? ⟨(ad.add (i.toNat * 2)).block, (ad.add (i.toNat * 2)).off + 1, none⟩ = some (.int .i64 (rd_T43 xs i).f1) := by
  obtain ⟨ad, c, e, _, hK, hc0⟩ := Kd.C_get h z43 i h0 h1
  have hc : ∀ j u, c[j]? = some u → w.cell? (ad.add (i.toNat * 2 + j)) = some u := hc0
  obtain rfl := k43_open hK
  exact ⟨ad, e, hc 0 _ rfl, by rw [← add_field _ _ 1 (by omega)]; exact hc 1 _ rfl⟩

def rd_L8 (xs : List (List S43)) (i : Int) : (List S43) := xs.getD i.toNat ([] : List S43)
theorem at_L8 {w : World} {A : Option Addr} {n : Nat} {xs : List (List S43)} (h : Kd.C (Kd.slice 43 k43) w A n xs) (i : Int) (h0 : 0 ≤ i) (h1 : i < n) : ∃ ad A0 c0, A = some ad ∧ w.cell? (ad.add i.toNat) = some (.slice A0 (rd_L8 xs i).length c0) ∧ (rd_L8 xs i).length ≤ c0 ∧ k43.C w A0 (rd_L8 xs i).length (rd_L8 xs i) := by
  obtain ⟨ad, c, e, _, hK, hc0⟩ := Kd.C_get h ([] : List S43) i h0 h1
  have hc : ∀ j u, c[j]? = some u → w.cell? (ad.add (i.toNat * 1 + j)) = some u := hc0
  obtain ⟨A0, c0, rfl, l0, g0⟩ := hK
  exact ⟨ad, A0, c0, e, by have hq := hc 0 _ rfl; rwa [Nat.mul_one, Nat.add_zero] at hq, l0, g0⟩

/-! #### struct type 71 -/
structure S71 where
  f0 : Int
  f1 : ByteArray
  f2 : Bool
  f3 : (List S43)
def z71 : S71 := ⟨(0 : Int), (⟨#[]⟩ : ByteArray), false, ([] : List S43)⟩
def k71 : Kd S71 := Kd.iso (Kd.pair (Kd.int .i64) (Kd.pair Kd.string (Kd.pair Kd.bool (Kd.slice 43 k43)))) (fun x : S71 => (x.f0, x.f1, x.f2, x.f3))
theorem k71_open {w : World} {x : S71} {cs : List Value} (h : k71.K w x cs) : ∃ A3 c3, cs = [.int .i64 x.f0, .string x.f1, .bool x.f2, .slice A3 x.f3.length c3] ∧ x.f3.length ≤ c3 ∧ k43.C w A3 x.f3.length x.f3 := by
  obtain ⟨_, _, rfl, rfl, ⟨_, _, rfl, rfl, ⟨_, _, rfl, rfl, ⟨A3, c3, rfl, l3, g3⟩⟩⟩⟩ := h
  exact ⟨A3, c3, rfl, l3, g3⟩
theorem k71_openM {w : World} {base : Nat} {ok : Nat → Prop} {x : S71} {cs : List Value} (h : k71.M w base ok x cs) : ∃ v3, cs = [.int .i64 x.f0, .string x.f1, .bool x.f2, v3] ∧ k43.R 43 w base ok v3 x.f3 := by
  obtain ⟨_, _, rfl, rfl, ⟨_, _, rfl, rfl, ⟨_, _, rfl, rfl, ⟨v3, rfl, g3⟩⟩⟩⟩ := h
  exact ⟨v3, rfl, g3⟩
theorem k71_mk (w : World) (x : S71) {A3 : Option Addr} {c3 : Nat} (l3 : x.f3.length ≤ c3) (g3 : k43.C w A3 x.f3.length x.f3) : k71.K w x [.int .i64 x.f0, .string x.f1, .bool x.f2, .slice A3 x.f3.length c3] := ⟨[.int .i64 x.f0], [.string x.f1, .bool x.f2, .slice A3 x.f3.length c3], rfl, rfl, ⟨[.string x.f1], [.bool x.f2, .slice A3 x.f3.length c3], rfl, rfl, ⟨[.bool x.f2], [.slice A3 x.f3.length c3], rfl, rfl, ⟨A3, c3, rfl, l3, g3⟩⟩⟩⟩
theorem k71_mkM (w : World) (base : Nat) (ok : Nat → Prop) (x : S71) {v3 : Value} (g3 : k43.R 43 w base ok v3 x.f3) : k71.M w base ok x [.int .i64 x.f0, .string x.f1, .bool x.f2, v3] := ⟨[.int .i64 x.f0], [.string x.f1, .bool x.f2, v3], rfl, rfl, ⟨[.string x.f1], [.bool x.f2, v3], rfl, rfl, ⟨[.bool x.f2], [v3], rfl, rfl, ⟨v3, rfl, g3⟩⟩⟩⟩
def rd_T71 (xs : List S71) (i : Int) : S71 := xs.getD i.toNat z71
theorem at_T71 {w : World} {A : Option Addr} {n : Nat} {xs : List S71} (h : Kd.C k71 w A n xs) (i : Int) (h0 : 0 ≤ i) (h1 : i < n) : ∃ ad A3 c3, A = some ad ∧ w.cell? (ad.add (i.toNat * 4)) = some (.int .i64 (rd_T71 xs i).f0) ∧ w.cell? ⟨(ad.add (i.toNat * 4)).block, (ad.add (i.toNat * 4)).off + 1, none⟩ = some (.string (rd_T71 xs i).f1) ∧ w.cell? ⟨(ad.add (i.toNat * 4)).block, (ad.add (i.toNat * 4)).off + 2, none⟩ = some (.bool (rd_T71 xs i).f2) ∧ w.cell? ⟨(ad.add (i.toNat * 4)).block, (ad.add (i.toNat * 4)).off + 3, none⟩ = some (.slice A3 (rd_T71 xs i).f3.length c3) ∧ (rd_T71 xs i).f3.length ≤ c3 ∧ k43.C w A3 (rd_T71 xs i).f3.length (rd_T71 xs i).f3 := by
  obtain ⟨ad, c, e, _, hK, hc0⟩ := Kd.C_get h z71 i h0 h1
  have hc : ∀ j u, c[j]? = some u → w.cell? (ad.add (i.toNat * 4 + j)) = some u := hc0
  obtain ⟨A3, c3, rfl, l3, g3⟩ := k71_open hK
  exact ⟨ad, A3, c3, e, hc 0 _ rfl, by rw [← add_field _ _ 1 (by omega)]; exact hc 1 _ rfl, by rw [← add_field _ _ 2 (by omega)]; exact hc 2 _ rfl, by rw [← add_field _ _ 3 (by omega)]; exact hc 3 _ rfl, l3, g3⟩

/-! #### struct type 75 -/
structure S75 where
  f0 : Int
  f1 : Int
  f2 : Int
  f3 : (List S43)
  f4 : (List S43)
def z75 : S75 := ⟨(0 : Int), (0 : Int), (0 : Int), ([] : List S43), ([] : List S43)⟩
/-- An element two rows of which are two. -/
def sepK {α : Type} (i j : Nat) (d : Kd α) : Kd α where
  sz := d.sz
  E := d.E
  K := d.K
  M := fun w base ok x cs => d.M w base ok x cs ∧ ∀ u v, cs[i]? = some u → cs[j]? = some v → ∀ k, u.ownBlock = some k → v.ownBlock ≠ some k
  K_len := d.K_len
  K_one := d.K_one
  K_below := d.K_below
  K_of_M := fun h => d.K_of_M h.1
  M_mono := fun hk h => ⟨d.M_mono hk h.1, h.2⟩
  M_bound := fun h => ⟨d.M_bound h.1, h.2⟩
  M_move := fun hm h => ⟨d.M_move hm h.1, h.2⟩
  M_lower := fun hb h => ⟨d.M_lower hb h.1, h.2⟩
theorem sepK_heap {α : Type} {i j : Nat} {d : Kd α} (h : Kd.Heap d) : Kd.Heap (sepK i j d) := ⟨fun hb x => h.K hb x⟩
def k75 : Kd S75 := sepK 3 4 (Kd.iso (Kd.pair (Kd.int .i64) (Kd.pair (Kd.int .i64) (Kd.pair (Kd.int .i64) (Kd.pair (Kd.slice 43 k43) (Kd.slice 43 k43))))) (fun x : S75 => (x.f0, x.f1, x.f2, x.f3, x.f4)))
theorem k75_open {w : World} {x : S75} {cs : List Value} (h : k75.K w x cs) : ∃ A3 c3 A4 c4, cs = [.int .i64 x.f0, .int .i64 x.f1, .int .i64 x.f2, .slice A3 x.f3.length c3, .slice A4 x.f4.length c4] ∧ x.f3.length ≤ c3 ∧ k43.C w A3 x.f3.length x.f3 ∧ x.f4.length ≤ c4 ∧ k43.C w A4 x.f4.length x.f4 := by
  obtain ⟨_, _, rfl, rfl, ⟨_, _, rfl, rfl, ⟨_, _, rfl, rfl, ⟨_, _, rfl, ⟨A3, c3, rfl, l3, g3⟩, ⟨A4, c4, rfl, l4, g4⟩⟩⟩⟩⟩ := h
  exact ⟨A3, c3, A4, c4, rfl, l3, g3, l4, g4⟩
theorem k75_openM {w : World} {base : Nat} {ok : Nat → Prop} {x : S75} {cs : List Value} (h : k75.M w base ok x cs) : ∃ v3 v4, cs = [.int .i64 x.f0, .int .i64 x.f1, .int .i64 x.f2, v3, v4] ∧ k43.R 43 w base ok v3 x.f3 ∧ k43.R 43 w base ok v4 x.f4 := by
  obtain ⟨h, -⟩ := h
  obtain ⟨_, _, rfl, rfl, ⟨_, _, rfl, rfl, ⟨_, _, rfl, rfl, ⟨_, _, rfl, ⟨v3, rfl, g3⟩, ⟨v4, rfl, g4⟩⟩⟩⟩⟩ := h
  exact ⟨v3, v4, rfl, g3, g4⟩
theorem k75_mk (w : World) (x : S75) {A3 : Option Addr} {c3 : Nat} (l3 : x.f3.length ≤ c3) (g3 : k43.C w A3 x.f3.length x.f3) {A4 : Option Addr} {c4 : Nat} (l4 : x.f4.length ≤ c4) (g4 : k43.C w A4 x.f4.length x.f4) : k75.K w x [.int .i64 x.f0, .int .i64 x.f1, .int .i64 x.f2, .slice A3 x.f3.length c3, .slice A4 x.f4.length c4] := ⟨[.int .i64 x.f0], [.int .i64 x.f1, .int .i64 x.f2, .slice A3 x.f3.length c3, .slice A4 x.f4.length c4], rfl, rfl, ⟨[.int .i64 x.f1], [.int .i64 x.f2, .slice A3 x.f3.length c3, .slice A4 x.f4.length c4], rfl, rfl, ⟨[.int .i64 x.f2], [.slice A3 x.f3.length c3, .slice A4 x.f4.length c4], rfl, rfl, ⟨[.slice A3 x.f3.length c3], [.slice A4 x.f4.length c4], rfl, ⟨A3, c3, rfl, l3, g3⟩, ⟨A4, c4, rfl, l4, g4⟩⟩⟩⟩⟩
theorem k75_sep {w : World} {base : Nat} {ok : Nat → Prop} {x : S75} {c0 c1 c2 c3 c4 : Value} (h : k75.M w base ok x [c0, c1, c2, c3, c4]) : ∀ k, c3.ownBlock = some k → c4.ownBlock ≠ some k := by
  obtain ⟨-, h⟩ := h
  exact h _ _ rfl rfl
theorem k75_mkM (w : World) (base : Nat) (ok : Nat → Prop) (x : S75) {v3 : Value} (g3 : k43.R 43 w base ok v3 x.f3) {v4 : Value} (g4 : k43.R 43 w base ok v4 x.f4) (hs : ∀ k, v3.ownBlock = some k → v4.ownBlock ≠ some k := by first | (with_reducible assumption) | exact k75_sep (by assumption)) : k75.M w base ok x [.int .i64 x.f0, .int .i64 x.f1, .int .i64 x.f2, v3, v4] := ⟨⟨[.int .i64 x.f0], [.int .i64 x.f1, .int .i64 x.f2, v3, v4], rfl, rfl, ⟨[.int .i64 x.f1], [.int .i64 x.f2, v3, v4], rfl, rfl, ⟨[.int .i64 x.f2], [v3, v4], rfl, rfl, ⟨[v3], [v4], rfl, ⟨v3, rfl, g3⟩, ⟨v4, rfl, g4⟩⟩⟩⟩⟩, fun u v hu hv => by cases hu; cases hv; exact hs⟩
def rd_T75 (xs : List S75) (i : Int) : S75 := xs.getD i.toNat z75
theorem at_T75 {w : World} {A : Option Addr} {n : Nat} {xs : List S75} (h : Kd.C k75 w A n xs) (i : Int) (h0 : 0 ≤ i) (h1 : i < n) : ∃ ad A3 c3 A4 c4, A = some ad ∧ w.cell? (ad.add (i.toNat * 5)) = some (.int .i64 (rd_T75 xs i).f0) ∧ w.cell? ⟨(ad.add (i.toNat * 5)).block, (ad.add (i.toNat * 5)).off + 1, none⟩ = some (.int .i64 (rd_T75 xs i).f1) ∧ w.cell? ⟨(ad.add (i.toNat * 5)).block, (ad.add (i.toNat * 5)).off + 2, none⟩ = some (.int .i64 (rd_T75 xs i).f2) ∧ w.cell? ⟨(ad.add (i.toNat * 5)).block, (ad.add (i.toNat * 5)).off + 3, none⟩ = some (.slice A3 (rd_T75 xs i).f3.length c3) ∧ w.cell? ⟨(ad.add (i.toNat * 5)).block, (ad.add (i.toNat * 5)).off + 4, none⟩ = some (.slice A4 (rd_T75 xs i).f4.length c4) ∧ (rd_T75 xs i).f3.length ≤ c3 ∧ k43.C w A3 (rd_T75 xs i).f3.length (rd_T75 xs i).f3 ∧ (rd_T75 xs i).f4.length ≤ c4 ∧ k43.C w A4 (rd_T75 xs i).f4.length (rd_T75 xs i).f4 := by
  obtain ⟨ad, c, e, _, hK, hc0⟩ := Kd.C_get h z75 i h0 h1
  have hc : ∀ j u, c[j]? = some u → w.cell? (ad.add (i.toNat * 5 + j)) = some u := hc0
  obtain ⟨A3, c3, A4, c4, rfl, l3, g3, l4, g4⟩ := k75_open hK
  exact ⟨ad, A3, c3, A4, c4, e, hc 0 _ rfl, by rw [← add_field _ _ 1 (by omega)]; exact hc 1 _ rfl, by rw [← add_field _ _ 2 (by omega)]; exact hc 2 _ rfl, by rw [← add_field _ _ 3 (by omega)]; exact hc 3 _ rfl, by rw [← add_field _ _ 4 (by omega)]; exact hc 4 _ rfl, l3, g3, l4, g4⟩

def rd_L11 (xs : List (List Int)) (i : Int) : (List Int) := xs.getD i.toNat ([] : List Int)
theorem at_L11 {w : World} {A : Option Addr} {n : Nat} {xs : List (List Int)} (h : Kd.C (Kd.slice 2 (Kd.int .i64)) w A n xs) (i : Int) (h0 : 0 ≤ i) (h1 : i < n) : ∃ ad A0 c0, A = some ad ∧ w.cell? (ad.add i.toNat) = some (.slice A0 (rd_L11 xs i).length c0) ∧ (rd_L11 xs i).length ≤ c0 ∧ (Kd.int .i64).C w A0 (rd_L11 xs i).length (rd_L11 xs i) := by
  obtain ⟨ad, c, e, _, hK, hc0⟩ := Kd.C_get h ([] : List Int) i h0 h1
  have hc : ∀ j u, c[j]? = some u → w.cell? (ad.add (i.toNat * 1 + j)) = some u := hc0
  obtain ⟨A0, c0, rfl, l0, g0⟩ := hK
  exact ⟨ad, A0, c0, e, by have hq := hc 0 _ rfl; rwa [Nat.mul_one, Nat.add_zero] at hq, l0, g0⟩

/-! #### struct type 73 -/
structure S73 where
  f0 : ByteArray
  f1 : Int
  f2 : (List Int)
def z73 : S73 := ⟨(⟨#[]⟩ : ByteArray), (0 : Int), ([] : List Int)⟩
def k73 : Kd S73 := Kd.iso (Kd.pair Kd.string (Kd.pair (Kd.int .i64) (Kd.slice 2 (Kd.int .i64)))) (fun x : S73 => (x.f0, x.f1, x.f2))
theorem k73_open {w : World} {x : S73} {cs : List Value} (h : k73.K w x cs) : ∃ A2 c2, cs = [.string x.f0, .int .i64 x.f1, .slice A2 x.f2.length c2] ∧ x.f2.length ≤ c2 ∧ (Kd.int .i64).C w A2 x.f2.length x.f2 := by
  obtain ⟨_, _, rfl, rfl, ⟨_, _, rfl, rfl, ⟨A2, c2, rfl, l2, g2⟩⟩⟩ := h
  exact ⟨A2, c2, rfl, l2, g2⟩
theorem k73_openM {w : World} {base : Nat} {ok : Nat → Prop} {x : S73} {cs : List Value} (h : k73.M w base ok x cs) : ∃ v2, cs = [.string x.f0, .int .i64 x.f1, v2] ∧ (Kd.int .i64).R 2 w base ok v2 x.f2 := by
  obtain ⟨_, _, rfl, rfl, ⟨_, _, rfl, rfl, ⟨v2, rfl, g2⟩⟩⟩ := h
  exact ⟨v2, rfl, g2⟩
theorem k73_mk (w : World) (x : S73) {A2 : Option Addr} {c2 : Nat} (l2 : x.f2.length ≤ c2) (g2 : (Kd.int .i64).C w A2 x.f2.length x.f2) : k73.K w x [.string x.f0, .int .i64 x.f1, .slice A2 x.f2.length c2] := ⟨[.string x.f0], [.int .i64 x.f1, .slice A2 x.f2.length c2], rfl, rfl, ⟨[.int .i64 x.f1], [.slice A2 x.f2.length c2], rfl, rfl, ⟨A2, c2, rfl, l2, g2⟩⟩⟩
theorem k73_mkM (w : World) (base : Nat) (ok : Nat → Prop) (x : S73) {v2 : Value} (g2 : (Kd.int .i64).R 2 w base ok v2 x.f2) : k73.M w base ok x [.string x.f0, .int .i64 x.f1, v2] := ⟨[.string x.f0], [.int .i64 x.f1, v2], rfl, rfl, ⟨[.int .i64 x.f1], [v2], rfl, rfl, ⟨v2, rfl, g2⟩⟩⟩
def rd_T73 (xs : List S73) (i : Int) : S73 := xs.getD i.toNat z73
theorem at_T73 {w : World} {A : Option Addr} {n : Nat} {xs : List S73} (h : Kd.C k73 w A n xs) (i : Int) (h0 : 0 ≤ i) (h1 : i < n) : ∃ ad A2 c2, A = some ad ∧ w.cell? (ad.add (i.toNat * 3)) = some (.string (rd_T73 xs i).f0) ∧ w.cell? ⟨(ad.add (i.toNat * 3)).block, (ad.add (i.toNat * 3)).off + 1, none⟩ = some (.int .i64 (rd_T73 xs i).f1) ∧ w.cell? ⟨(ad.add (i.toNat * 3)).block, (ad.add (i.toNat * 3)).off + 2, none⟩ = some (.slice A2 (rd_T73 xs i).f2.length c2) ∧ (rd_T73 xs i).f2.length ≤ c2 ∧ (Kd.int .i64).C w A2 (rd_T73 xs i).f2.length (rd_T73 xs i).f2 := by
  obtain ⟨ad, c, e, _, hK, hc0⟩ := Kd.C_get h z73 i h0 h1
  have hc : ∀ j u, c[j]? = some u → w.cell? (ad.add (i.toNat * 3 + j)) = some u := hc0
  obtain ⟨A2, c2, rfl, l2, g2⟩ := k73_open hK
  exact ⟨ad, A2, c2, e, hc 0 _ rfl, by rw [← add_field _ _ 1 (by omega)]; exact hc 1 _ rfl, by rw [← add_field _ _ 2 (by omega)]; exact hc 2 _ rfl, l2, g2⟩

/-! #### struct type 77 -/
structure S77 where
  f0 : Int
  f1 : Int
  f2 : Int
  f3 : (List Int)
  f4 : (List Int)
def z77 : S77 := ⟨(0 : Int), (0 : Int), (0 : Int), ([] : List Int), ([] : List Int)⟩
def k77 : Kd S77 := sepK 3 4 (Kd.iso (Kd.pair (Kd.int .i64) (Kd.pair (Kd.int .i64) (Kd.pair (Kd.int .i64) (Kd.pair (Kd.slice 2 (Kd.int .i64)) (Kd.slice 2 (Kd.int .i64)))))) (fun x : S77 => (x.f0, x.f1, x.f2, x.f3, x.f4)))
theorem k77_open {w : World} {x : S77} {cs : List Value} (h : k77.K w x cs) : ∃ A3 c3 A4 c4, cs = [.int .i64 x.f0, .int .i64 x.f1, .int .i64 x.f2, .slice A3 x.f3.length c3, .slice A4 x.f4.length c4] ∧ x.f3.length ≤ c3 ∧ (Kd.int .i64).C w A3 x.f3.length x.f3 ∧ x.f4.length ≤ c4 ∧ (Kd.int .i64).C w A4 x.f4.length x.f4 := by
  obtain ⟨_, _, rfl, rfl, ⟨_, _, rfl, rfl, ⟨_, _, rfl, rfl, ⟨_, _, rfl, ⟨A3, c3, rfl, l3, g3⟩, ⟨A4, c4, rfl, l4, g4⟩⟩⟩⟩⟩ := h
  exact ⟨A3, c3, A4, c4, rfl, l3, g3, l4, g4⟩
theorem k77_openM {w : World} {base : Nat} {ok : Nat → Prop} {x : S77} {cs : List Value} (h : k77.M w base ok x cs) : ∃ v3 v4, cs = [.int .i64 x.f0, .int .i64 x.f1, .int .i64 x.f2, v3, v4] ∧ (Kd.int .i64).R 2 w base ok v3 x.f3 ∧ (Kd.int .i64).R 2 w base ok v4 x.f4 := by
  obtain ⟨h, -⟩ := h
  obtain ⟨_, _, rfl, rfl, ⟨_, _, rfl, rfl, ⟨_, _, rfl, rfl, ⟨_, _, rfl, ⟨v3, rfl, g3⟩, ⟨v4, rfl, g4⟩⟩⟩⟩⟩ := h
  exact ⟨v3, v4, rfl, g3, g4⟩
theorem k77_mk (w : World) (x : S77) {A3 : Option Addr} {c3 : Nat} (l3 : x.f3.length ≤ c3) (g3 : (Kd.int .i64).C w A3 x.f3.length x.f3) {A4 : Option Addr} {c4 : Nat} (l4 : x.f4.length ≤ c4) (g4 : (Kd.int .i64).C w A4 x.f4.length x.f4) : k77.K w x [.int .i64 x.f0, .int .i64 x.f1, .int .i64 x.f2, .slice A3 x.f3.length c3, .slice A4 x.f4.length c4] := ⟨[.int .i64 x.f0], [.int .i64 x.f1, .int .i64 x.f2, .slice A3 x.f3.length c3, .slice A4 x.f4.length c4], rfl, rfl, ⟨[.int .i64 x.f1], [.int .i64 x.f2, .slice A3 x.f3.length c3, .slice A4 x.f4.length c4], rfl, rfl, ⟨[.int .i64 x.f2], [.slice A3 x.f3.length c3, .slice A4 x.f4.length c4], rfl, rfl, ⟨[.slice A3 x.f3.length c3], [.slice A4 x.f4.length c4], rfl, ⟨A3, c3, rfl, l3, g3⟩, ⟨A4, c4, rfl, l4, g4⟩⟩⟩⟩⟩
theorem k77_sep {w : World} {base : Nat} {ok : Nat → Prop} {x : S77} {c0 c1 c2 c3 c4 : Value} (h : k77.M w base ok x [c0, c1, c2, c3, c4]) : ∀ k, c3.ownBlock = some k → c4.ownBlock ≠ some k := by
  obtain ⟨-, h⟩ := h
  exact h _ _ rfl rfl
theorem k77_mkM (w : World) (base : Nat) (ok : Nat → Prop) (x : S77) {v3 : Value} (g3 : (Kd.int .i64).R 2 w base ok v3 x.f3) {v4 : Value} (g4 : (Kd.int .i64).R 2 w base ok v4 x.f4) (hs : ∀ k, v3.ownBlock = some k → v4.ownBlock ≠ some k := by first | (with_reducible assumption) | exact k77_sep (by assumption)) : k77.M w base ok x [.int .i64 x.f0, .int .i64 x.f1, .int .i64 x.f2, v3, v4] := ⟨⟨[.int .i64 x.f0], [.int .i64 x.f1, .int .i64 x.f2, v3, v4], rfl, rfl, ⟨[.int .i64 x.f1], [.int .i64 x.f2, v3, v4], rfl, rfl, ⟨[.int .i64 x.f2], [v3, v4], rfl, rfl, ⟨[v3], [v4], rfl, ⟨v3, rfl, g3⟩, ⟨v4, rfl, g4⟩⟩⟩⟩⟩, fun u v hu hv => by cases hu; cases hv; exact hs⟩
def rd_T77 (xs : List S77) (i : Int) : S77 := xs.getD i.toNat z77
theorem at_T77 {w : World} {A : Option Addr} {n : Nat} {xs : List S77} (h : Kd.C k77 w A n xs) (i : Int) (h0 : 0 ≤ i) (h1 : i < n) : ∃ ad A3 c3 A4 c4, A = some ad ∧ w.cell? (ad.add (i.toNat * 5)) = some (.int .i64 (rd_T77 xs i).f0) ∧ w.cell? ⟨(ad.add (i.toNat * 5)).block, (ad.add (i.toNat * 5)).off + 1, none⟩ = some (.int .i64 (rd_T77 xs i).f1) ∧ w.cell? ⟨(ad.add (i.toNat * 5)).block, (ad.add (i.toNat * 5)).off + 2, none⟩ = some (.int .i64 (rd_T77 xs i).f2) ∧ w.cell? ⟨(ad.add (i.toNat * 5)).block, (ad.add (i.toNat * 5)).off + 3, none⟩ = some (.slice A3 (rd_T77 xs i).f3.length c3) ∧ w.cell? ⟨(ad.add (i.toNat * 5)).block, (ad.add (i.toNat * 5)).off + 4, none⟩ = some (.slice A4 (rd_T77 xs i).f4.length c4) ∧ (rd_T77 xs i).f3.length ≤ c3 ∧ (Kd.int .i64).C w A3 (rd_T77 xs i).f3.length (rd_T77 xs i).f3 ∧ (rd_T77 xs i).f4.length ≤ c4 ∧ (Kd.int .i64).C w A4 (rd_T77 xs i).f4.length (rd_T77 xs i).f4 := by
  obtain ⟨ad, c, e, _, hK, hc0⟩ := Kd.C_get h z77 i h0 h1
  have hc : ∀ j u, c[j]? = some u → w.cell? (ad.add (i.toNat * 5 + j)) = some u := hc0
  obtain ⟨A3, c3, A4, c4, rfl, l3, g3, l4, g4⟩ := k77_open hK
  exact ⟨ad, A3, c3, A4, c4, e, hc 0 _ rfl, by rw [← add_field _ _ 1 (by omega)]; exact hc 1 _ rfl, by rw [← add_field _ _ 2 (by omega)]; exact hc 2 _ rfl, by rw [← add_field _ _ 3 (by omega)]; exact hc 3 _ rfl, by rw [← add_field _ _ 4 (by omega)]; exact hc 4 _ rfl, l3, g3, l4, g4⟩

def rd_L15 (xs : List (List S156)) (i : Int) : (List S156) := xs.getD i.toNat ([] : List S156)
theorem at_L15 {w : World} {A : Option Addr} {n : Nat} {xs : List (List S156)} (h : Kd.C (Kd.slice 156 k156) w A n xs) (i : Int) (h0 : 0 ≤ i) (h1 : i < n) : ∃ ad A0 c0, A = some ad ∧ w.cell? (ad.add i.toNat) = some (.slice A0 (rd_L15 xs i).length c0) ∧ (rd_L15 xs i).length ≤ c0 ∧ k156.C w A0 (rd_L15 xs i).length (rd_L15 xs i) := by
  obtain ⟨ad, c, e, _, hK, hc0⟩ := Kd.C_get h ([] : List S156) i h0 h1
  have hc : ∀ j u, c[j]? = some u → w.cell? (ad.add (i.toNat * 1 + j)) = some u := hc0
  obtain ⟨A0, c0, rfl, l0, g0⟩ := hK
  exact ⟨ad, A0, c0, e, by have hq := hc 0 _ rfl; rwa [Nat.mul_one, Nat.add_zero] at hq, l0, g0⟩

/-! #### struct type 24 -/
structure S24 where
  f0 : (List S156)
  f1 : Int
def z24 : S24 := ⟨([] : List S156), (0 : Int)⟩
def k24 : Kd S24 := Kd.iso (Kd.pair (Kd.slice 156 k156) (Kd.int .i64)) (fun x : S24 => (x.f0, x.f1))
theorem k24_open {w : World} {x : S24} {cs : List Value} (h : k24.K w x cs) : ∃ A0 c0, cs = [.slice A0 x.f0.length c0, .int .i64 x.f1] ∧ x.f0.length ≤ c0 ∧ k156.C w A0 x.f0.length x.f0 := by
  obtain ⟨_, _, rfl, ⟨A0, c0, rfl, l0, g0⟩, rfl⟩ := h
  exact ⟨A0, c0, rfl, l0, g0⟩
theorem k24_openM {w : World} {base : Nat} {ok : Nat → Prop} {x : S24} {cs : List Value} (h : k24.M w base ok x cs) : ∃ v0, cs = [v0, .int .i64 x.f1] ∧ k156.R 156 w base ok v0 x.f0 := by
  obtain ⟨_, _, rfl, ⟨v0, rfl, g0⟩, rfl⟩ := h
  exact ⟨v0, rfl, g0⟩
theorem k24_mk (w : World) (x : S24) {A0 : Option Addr} {c0 : Nat} (l0 : x.f0.length ≤ c0) (g0 : k156.C w A0 x.f0.length x.f0) : k24.K w x [.slice A0 x.f0.length c0, .int .i64 x.f1] := ⟨[.slice A0 x.f0.length c0], [.int .i64 x.f1], rfl, ⟨A0, c0, rfl, l0, g0⟩, rfl⟩
theorem k24_mkM (w : World) (base : Nat) (ok : Nat → Prop) (x : S24) {v0 : Value} (g0 : k156.R 156 w base ok v0 x.f0) : k24.M w base ok x [v0, .int .i64 x.f1] := ⟨[v0], [.int .i64 x.f1], rfl, ⟨v0, rfl, g0⟩, rfl⟩
def rd_T24 (xs : List S24) (i : Int) : S24 := xs.getD i.toNat z24
theorem at_T24 {w : World} {A : Option Addr} {n : Nat} {xs : List S24} (h : Kd.C k24 w A n xs) (i : Int) (h0 : 0 ≤ i) (h1 : i < n) : ∃ ad A0 c0, A = some ad ∧ w.cell? (ad.add (i.toNat * 2)) = some (.slice A0 (rd_T24 xs i).f0.length c0) ∧ w.cell? ⟨(ad.add (i.toNat * 2)).block, (ad.add (i.toNat * 2)).off + 1, none⟩ = some (.int .i64 (rd_T24 xs i).f1) ∧ (rd_T24 xs i).f0.length ≤ c0 ∧ k156.C w A0 (rd_T24 xs i).f0.length (rd_T24 xs i).f0 := by
  obtain ⟨ad, c, e, _, hK, hc0⟩ := Kd.C_get h z24 i h0 h1
  have hc : ∀ j u, c[j]? = some u → w.cell? (ad.add (i.toNat * 2 + j)) = some u := hc0
  obtain ⟨A0, c0, rfl, l0, g0⟩ := k24_open hK
  exact ⟨ad, A0, c0, e, hc 0 _ rfl, by rw [← add_field _ _ 1 (by omega)]; exact hc 1 _ rfl, l0, g0⟩

def rd_L17 (xs : List (List S113)) (i : Int) : (List S113) := xs.getD i.toNat ([] : List S113)
theorem at_L17 {w : World} {A : Option Addr} {n : Nat} {xs : List (List S113)} (h : Kd.C (Kd.slice 113 k113) w A n xs) (i : Int) (h0 : 0 ≤ i) (h1 : i < n) : ∃ ad A0 c0, A = some ad ∧ w.cell? (ad.add i.toNat) = some (.slice A0 (rd_L17 xs i).length c0) ∧ (rd_L17 xs i).length ≤ c0 ∧ k113.C w A0 (rd_L17 xs i).length (rd_L17 xs i) := by
  obtain ⟨ad, c, e, _, hK, hc0⟩ := Kd.C_get h ([] : List S113) i h0 h1
  have hc : ∀ j u, c[j]? = some u → w.cell? (ad.add (i.toNat * 1 + j)) = some u := hc0
  obtain ⟨A0, c0, rfl, l0, g0⟩ := hK
  exact ⟨ad, A0, c0, e, by have hq := hc 0 _ rfl; rwa [Nat.mul_one, Nat.add_zero] at hq, l0, g0⟩

/-! #### struct type 30 -/
structure S30 where
  f0 : S24
  f1 : (List S28)
  f2 : (List S113)
  f3 : Bool
  f4 : S28
  f5 : ByteArray
  f6 : Bool
  f7 : Int
def z30 : S30 := ⟨z24, ([] : List S28), ([] : List S113), false, z28, (⟨#[]⟩ : ByteArray), false, (0 : Int)⟩
def k30 : Kd S30 := Kd.iso (Kd.pair k24 (Kd.pair (Kd.slice 28 k28) (Kd.pair (Kd.slice 113 k113) (Kd.pair Kd.bool (Kd.pair k28 (Kd.pair Kd.string (Kd.pair Kd.bool (Kd.int .i64)))))))) (fun x : S30 => (x.f0, x.f1, x.f2, x.f3, x.f4, x.f5, x.f6, x.f7))
theorem k30_open {w : World} {x : S30} {cs : List Value} (h : k30.K w x cs) : ∃ A0 c0 A2 c2 A3 c3, cs = [.slice A0 x.f0.f0.length c0, .int .i64 x.f0.f1, .slice A2 x.f1.length c2, .slice A3 x.f2.length c3, .bool x.f3, .int .i64 x.f4.f0, .int .i64 x.f4.f1, .string x.f5, .bool x.f6, .int .i64 x.f7] ∧ x.f0.f0.length ≤ c0 ∧ k156.C w A0 x.f0.f0.length x.f0.f0 ∧ x.f1.length ≤ c2 ∧ k28.C w A2 x.f1.length x.f1 ∧ x.f2.length ≤ c3 ∧ k113.C w A3 x.f2.length x.f2 := by
  obtain ⟨_, _, rfl, s0, ⟨_, _, rfl, ⟨A2, c2, rfl, l2, g2⟩, ⟨_, _, rfl, ⟨A3, c3, rfl, l3, g3⟩, ⟨_, _, rfl, rfl, ⟨_, _, rfl, s5, ⟨_, _, rfl, rfl, ⟨_, _, rfl, rfl, rfl⟩⟩⟩⟩⟩⟩⟩ := h
  obtain ⟨A0, c0, rfl, l0, g0⟩ := k24_open s0
  obtain rfl := k28_open s5
  exact ⟨A0, c0, A2, c2, A3, c3, rfl, l0, g0, l2, g2, l3, g3⟩
theorem k30_openM {w : World} {base : Nat} {ok : Nat → Prop} {x : S30} {cs : List Value} (h : k30.M w base ok x cs) : ∃ v0 v2 v3, cs = [v0, .int .i64 x.f0.f1, v2, v3, .bool x.f3, .int .i64 x.f4.f0, .int .i64 x.f4.f1, .string x.f5, .bool x.f6, .int .i64 x.f7] ∧ k156.R 156 w base ok v0 x.f0.f0 ∧ k28.R 28 w base ok v2 x.f1 ∧ k113.R 113 w base ok v3 x.f2 := by
  obtain ⟨_, _, rfl, s0, ⟨_, _, rfl, ⟨v2, rfl, g2⟩, ⟨_, _, rfl, ⟨v3, rfl, g3⟩, ⟨_, _, rfl, rfl, ⟨_, _, rfl, s5, ⟨_, _, rfl, rfl, ⟨_, _, rfl, rfl, rfl⟩⟩⟩⟩⟩⟩⟩ := h
  obtain ⟨v0, rfl, g0⟩ := k24_openM s0
  obtain rfl := k28_openM s5
  exact ⟨v0, v2, v3, rfl, g0, g2, g3⟩
theorem k30_mk (w : World) (x : S30) {A0 : Option Addr} {c0 : Nat} (l0 : x.f0.f0.length ≤ c0) (g0 : k156.C w A0 x.f0.f0.length x.f0.f0) {A2 : Option Addr} {c2 : Nat} (l2 : x.f1.length ≤ c2) (g2 : k28.C w A2 x.f1.length x.f1) {A3 : Option Addr} {c3 : Nat} (l3 : x.f2.length ≤ c3) (g3 : k113.C w A3 x.f2.length x.f2) : k30.K w x [.slice A0 x.f0.f0.length c0, .int .i64 x.f0.f1, .slice A2 x.f1.length c2, .slice A3 x.f2.length c3, .bool x.f3, .int .i64 x.f4.f0, .int .i64 x.f4.f1, .string x.f5, .bool x.f6, .int .i64 x.f7] := ⟨[.slice A0 x.f0.f0.length c0, .int .i64 x.f0.f1], [.slice A2 x.f1.length c2, .slice A3 x.f2.length c3, .bool x.f3, .int .i64 x.f4.f0, .int .i64 x.f4.f1, .string x.f5, .bool x.f6, .int .i64 x.f7], rfl, (k24_mk w x.f0 l0 g0), ⟨[.slice A2 x.f1.length c2], [.slice A3 x.f2.length c3, .bool x.f3, .int .i64 x.f4.f0, .int .i64 x.f4.f1, .string x.f5, .bool x.f6, .int .i64 x.f7], rfl, ⟨A2, c2, rfl, l2, g2⟩, ⟨[.slice A3 x.f2.length c3], [.bool x.f3, .int .i64 x.f4.f0, .int .i64 x.f4.f1, .string x.f5, .bool x.f6, .int .i64 x.f7], rfl, ⟨A3, c3, rfl, l3, g3⟩, ⟨[.bool x.f3], [.int .i64 x.f4.f0, .int .i64 x.f4.f1, .string x.f5, .bool x.f6, .int .i64 x.f7], rfl, rfl, ⟨[.int .i64 x.f4.f0, .int .i64 x.f4.f1], [.string x.f5, .bool x.f6, .int .i64 x.f7], rfl, (k28_mk w x.f4 ), ⟨[.string x.f5], [.bool x.f6, .int .i64 x.f7], rfl, rfl, ⟨[.bool x.f6], [.int .i64 x.f7], rfl, rfl, rfl⟩⟩⟩⟩⟩⟩⟩
theorem k30_mkM (w : World) (base : Nat) (ok : Nat → Prop) (x : S30) {v0 : Value} (g0 : k156.R 156 w base ok v0 x.f0.f0) {v2 : Value} (g2 : k28.R 28 w base ok v2 x.f1) {v3 : Value} (g3 : k113.R 113 w base ok v3 x.f2) : k30.M w base ok x [v0, .int .i64 x.f0.f1, v2, v3, .bool x.f3, .int .i64 x.f4.f0, .int .i64 x.f4.f1, .string x.f5, .bool x.f6, .int .i64 x.f7] := ⟨[v0, .int .i64 x.f0.f1], [v2, v3, .bool x.f3, .int .i64 x.f4.f0, .int .i64 x.f4.f1, .string x.f5, .bool x.f6, .int .i64 x.f7], rfl, (k24_mkM w base ok x.f0 g0), ⟨[v2], [v3, .bool x.f3, .int .i64 x.f4.f0, .int .i64 x.f4.f1, .string x.f5, .bool x.f6, .int .i64 x.f7], rfl, ⟨v2, rfl, g2⟩, ⟨[v3], [.bool x.f3, .int .i64 x.f4.f0, .int .i64 x.f4.f1, .string x.f5, .bool x.f6, .int .i64 x.f7], rfl, ⟨v3, rfl, g3⟩, ⟨[.bool x.f3], [.int .i64 x.f4.f0, .int .i64 x.f4.f1, .string x.f5, .bool x.f6, .int .i64 x.f7], rfl, rfl, ⟨[.int .i64 x.f4.f0, .int .i64 x.f4.f1], [.string x.f5, .bool x.f6, .int .i64 x.f7], rfl, (k28_mkM w base ok x.f4 ), ⟨[.string x.f5], [.bool x.f6, .int .i64 x.f7], rfl, rfl, ⟨[.bool x.f6], [.int .i64 x.f7], rfl, rfl, rfl⟩⟩⟩⟩⟩⟩⟩
def rd_T30 (xs : List S30) (i : Int) : S30 := xs.getD i.toNat z30
theorem at_T30 {w : World} {A : Option Addr} {n : Nat} {xs : List S30} (h : Kd.C k30 w A n xs) (i : Int) (h0 : 0 ≤ i) (h1 : i < n) : ∃ ad A0 c0 A2 c2 A3 c3, A = some ad ∧ w.cell? (ad.add (i.toNat * 10)) = some (.slice A0 (rd_T30 xs i).f0.f0.length c0) ∧ w.cell? ⟨(ad.add (i.toNat * 10)).block, (ad.add (i.toNat * 10)).off + 1, none⟩ = some (.int .i64 (rd_T30 xs i).f0.f1) ∧ w.cell? ⟨(ad.add (i.toNat * 10)).block, (ad.add (i.toNat * 10)).off + 2, none⟩ = some (.slice A2 (rd_T30 xs i).f1.length c2) ∧ w.cell? ⟨(ad.add (i.toNat * 10)).block, (ad.add (i.toNat * 10)).off + 3, none⟩ = some (.slice A3 (rd_T30 xs i).f2.length c3) ∧ w.cell? ⟨(ad.add (i.toNat * 10)).block, (ad.add (i.toNat * 10)).off + 4, none⟩ = some (.bool (rd_T30 xs i).f3) ∧ w.cell? ⟨(ad.add (i.toNat * 10)).block, (ad.add (i.toNat * 10)).off + 5, none⟩ = some (.int .i64 (rd_T30 xs i).f4.f0) ∧ w.cell? ⟨(ad.add (i.toNat * 10)).block, (ad.add (i.toNat * 10)).off + 6, none⟩ = some (.int .i64 (rd_T30 xs i).f4.f1) ∧ w.cell? ⟨(ad.add (i.toNat * 10)).block, (ad.add (i.toNat * 10)).off + 7, none⟩ = some (.string (rd_T30 xs i).f5) ∧ w.cell? ⟨(ad.add (i.toNat * 10)).block, (ad.add (i.toNat * 10)).off + 8, none⟩ = some (.bool (rd_T30 xs i).f6) ∧ w.cell? ⟨(ad.add (i.toNat * 10)).block, (ad.add (i.toNat * 10)).off + 9, none⟩ = some (.int .i64 (rd_T30 xs i).f7) ∧ (rd_T30 xs i).f0.f0.length ≤ c0 ∧ k156.C w A0 (rd_T30 xs i).f0.f0.length (rd_T30 xs i).f0.f0 ∧ (rd_T30 xs i).f1.length ≤ c2 ∧ k28.C w A2 (rd_T30 xs i).f1.length (rd_T30 xs i).f1 ∧ (rd_T30 xs i).f2.length ≤ c3 ∧ k113.C w A3 (rd_T30 xs i).f2.length (rd_T30 xs i).f2 := by
  obtain ⟨ad, c, e, _, hK, hc0⟩ := Kd.C_get h z30 i h0 h1
  have hc : ∀ j u, c[j]? = some u → w.cell? (ad.add (i.toNat * 10 + j)) = some u := hc0
  obtain ⟨A0, c0, A2, c2, A3, c3, rfl, l0, g0, l2, g2, l3, g3⟩ := k30_open hK
  exact ⟨ad, A0, c0, A2, c2, A3, c3, e, hc 0 _ rfl, by rw [← add_field _ _ 1 (by omega)]; exact hc 1 _ rfl, by rw [← add_field _ _ 2 (by omega)]; exact hc 2 _ rfl, by rw [← add_field _ _ 3 (by omega)]; exact hc 3 _ rfl, by rw [← add_field _ _ 4 (by omega)]; exact hc 4 _ rfl, by rw [← add_field _ _ 5 (by omega)]; exact hc 5 _ rfl, by rw [← add_field _ _ 6 (by omega)]; exact hc 6 _ rfl, by rw [← add_field _ _ 7 (by omega)]; exact hc 7 _ rfl, by rw [← add_field _ _ 8 (by omega)]; exact hc 8 _ rfl, by rw [← add_field _ _ 9 (by omega)]; exact hc 9 _ rfl, l0, g0, l2, g2, l3, g3⟩

/-! ### words that find for themselves what they need -/
theorem da_ {p : Prop} [Decidable p] (h : decide p = true := by first | (with_reducible assumption) | assumption) : p := of_decide_eq_true h
theorem s1_ {P : Prop} (h : P := by first | rfl | (simp; done) | (simp [*]; first | done | fail)) : P := h
theorem s2_ {P : Prop} (h : P := by first | rfl | (simp [*] <;> rfl)) : P := h
theorem o1_ {P : Prop} (h : P := by first | omega | exact Nat.le_refl _) : P := h
theorem dr_ {P : Prop} (h : P := by first | exact ⟨rfl, _, World.drewN_drewN _ _ _⟩ | exact ⟨rfl, _, Eq.trans (World.drewN_drewN _ _ _) (congrArg (World.drewN _) (Nat.add_assoc _ _ _))⟩) : P := h
theorem dn_ {P : Prop} (h : P := by repeat (first | exact Drawn0.refl _ | apply Drawn0.step)) : P := h
theorem fd_ {P : Prop} {w W : World} (h : P := by first | rfl | (simp; done) | (simp [*]; first | done | fail)) (hd : Drawn0 w W := by repeat (first | exact Drawn0.refl _ | apply Drawn0.step)) : P ∧ Drawn0 w W := ⟨h, hd⟩
theorem gs_ {P : Prop} (h : P := by first | (go_simp; done) | (go_simp; rfl)) : P := h
theorem hK_ {P : Prop} (h : P := by repeat (first | (with_reducible first | exact HK.out | apply KeepBut.set_ | apply keep_drewN | apply keep_drew | apply keep_alloc) | exact HK.out)) : P := h
theorem sp_ {α : Type} {c : Prop} [Decidable c] {A B r : α} (H : (if c then A else B) = r) : (¬ c ∧ B = r) ∨ (c ∧ A = r) := by
  by_cases h : c
  · exact .inr ⟨h, by rwa [if_pos h] at H⟩
  · exact .inl ⟨h, by rwa [if_neg h] at H⟩
theorem sd_ {α : Type} {c : Prop} [Decidable c] {A B r : α} (H : (if c then A else B) = r) : (decide c = false ∧ B = r) ∨ (decide c = true ∧ A = r) := (sp_ H).imp (fun h => ⟨decide_eq_false h.1, h.2⟩) (fun h => ⟨decide_eq_true h.1, h.2⟩)
theorem sb_ {α : Type} {c : Bool} {A B r : α} (H : (if c = true then A else B) = r) : (c = false ∧ B = r) ∨ (c = true ∧ A = r) := (sp_ H).imp (fun h => ⟨Bool.eq_false_iff.mpr h.1, h.2⟩) (fun h => h)
theorem se_ {α β : Type} [BEq β] [LawfulBEq β] {x y : β} [Decidable (x = y)] {A B r : α} (H : (if x = y then A else B) = r) : (¬ x = y ∧ (x == y) = false ∧ (x != y) = true ∧ B = r) ∨ (x = y ∧ (x == y) = true ∧ (x != y) = false ∧ A = r) :=
  (sp_ H).imp (fun h => ⟨h.1, beq_eq_false_iff_ne.mpr h.1, bne_iff_ne.mpr h.1, h.2⟩) (fun h => ⟨h.1, beq_iff_eq.mpr h.1, bne_eq_false_iff_eq.mpr h.1, h.2⟩)
theorem sn_ {α : Type} {c : Prop} [Decidable c] {A : Option α} {r : α} (H : (if c then A else none) = some r) : c ∧ A = some r := (sp_ H).elim (fun h => nomatch h.2) (fun h => h)
theorem sm_ {α : Type} {c : Prop} [Decidable c] {A : Option α} {r : α} (H : (if c then none else A) = some r) : ¬ c ∧ A = some r := (sp_ H).elim (fun h => h) (fun h => nomatch h.2)
theorem snd_ {α : Type} {c : Prop} [Decidable c] {A : Option α} {r : α} (H : (if c then A else none) = some r) : decide c = true ∧ A = some r := ⟨decide_eq_true (sn_ H).1, (sn_ H).2⟩
theorem sq_ {α β : Type} {x : Option α} {f : α → Option β} {r : β} (H : x.bind f = some r) : ∃ t, Aside0 (x = some t) ∧ f t = some r := (Option.bind_eq_some_iff.mp H).elim fun t h => ⟨t, ⟨h.1⟩, h.2⟩
theorem pr {W W' : World} [h : Nonempty (Pl W W')] {α : Type} {d : Kd α} {e base : Nat} {ok : Nat → Prop} {v : Value} {xs : List α} (x : Kd.R d e W base ok v xs) : Kd.R d e W' base ok v xs := h.elim fun p => p.rr x
theorem ps {W W' : World} [h : Nonempty (Pl W W')] {α : Type} {d : Kd α} {e base : Nat} {ok : Nat → Prop} {v : Value} {xs : List α} (x : Kd.S d e W base ok v xs) : Kd.S d e W' base ok v xs := h.elim fun p => p.ss x
theorem pd {w W W' : World} [Nonempty (Pl W W')] {α : Type} {d : Kd α} {A : Option Addr} {n : Nat} {xs : List α} (h : Aside0 (d.C w A n xs)) (hb : Aside0 (Below w.heap.size w W)) : d.C W' A n xs := pc (Kd.C_below h.out hb.out)
theorem kb {W W' w1 : World} [Nonempty (Pl W W')] {g : Nat} {o : Obj} (h : Aside0 (W.heap[g]? = some o)) (hb : Below W'.heap.size W' w1) : Aside0 (w1.heap[g]? = some o) := ⟨blk_below (pk h.out) hb⟩
theorem bt_ {w W W' w1 : World} [Nonempty (Pl W W')] (h : Aside0 (Below w.heap.size w W)) (hb : Below W'.heap.size W' w1) : Aside0 (Below w.heap.size w w1) := ⟨below_step (bk h.out) hb⟩
theorem bz {w W W' : World} [Nonempty (Pl W W')] {g : Nat} (h : Aside0 (Below w.heap.size w W)) (hg : g = W'.heap.size) : Aside0 (w.heap.size ≤ g) := ⟨by rw [hg]; exact below_size (bk h.out)⟩
theorem bl {W W' : World} [Nonempty (Pl W W')] {g g' : Nat} {o : Obj} (h : Aside0 (W.heap[g']? = some o)) (hg : g = W'.heap.size) : Aside0 (g' ≠ g) := ⟨by rw [hg]; exact Nat.ne_of_lt (blk_lt (pk h.out))⟩
theorem bg {W W' : World} [Nonempty (Pl W W')] {g g' : Nat} {o : Obj} (h : Aside0 (W.heap[g']? = some o)) (hg : g = W'.heap.size) : Aside0 (g ≠ g') := ⟨fun e => (bl h hg).out e.symm⟩
theorem ca_ {P : Program} {f : FuncId} {args args' : Array Value} {w : World} {Q Q' : Ending → World → Prop} (c : Calls P f args w Q) (h : ∀ e w', Q e w' → Q' e w') (ha : args' = args := by first | (with_reducible rfl) | (simp [*]; first | done | fail)) : Calls P f args' w Q' := calls_of_args ha (c.mono h)
theorem rs_ {w : World} {base : Nat} {ok : Nat → Prop} (xs : List ByteArray) : Reps (Kd.M Kd.string w base ok) 1 xs (xs.map Value.string) := Kd.reps_scalar xs
theorem bx_ {P : Program} {ops : Array Oper} {rest : List Oper} {o : Oper} {a : Act} {Q : Exit → Act → World → Prop} {W : World} (N : Tmp) (t : TypeId) (cs : Array Value)
    (h : ∀ g, g = W.heap.size → ∀ w1, w1.heap[g]? = some (.cells cs t (0, 0)) → Below W.heap.size W w1 → wpList P ops Q rest (a.put o.dst (.pointer (some ⟨g, 0, none⟩))) w1) (hd : o.dst = some N := by rfl) (hg : o.guard = none := by rfl)
    (hr : (execOp a.eval o).run P W = .ok (.value (.pointer (some ⟨W.heap.size, 0, none⟩))) (W.alloc (.cells cs t (0, 0))) := by first | (go_simp; done) | (go_simp; rfl)) : wpList P ops Q (o :: rest) a W := box_event hg hd hr h
section
variable {P : Program} {ops : Array Oper} {Q : Exit → Act → World → Prop} {md : Region.Mode} {S : World → Prop} {ds : List Nat} {T : Bool × List (List Nat × List Nat)} {B : List Nat}
theorem px_ (i : Nat) (N : Tmp) {oi : Oper} {v : Value} {fuel : Nat} {l l' : Array Bool} {a a' : Act} {w : World} (h : wpAnyLast P md ops Q S ds fuel l' a' w) (hi : ops[i]? = some oi := by rfl) (hN : oi.dst = some N := by rfl)
    (hl : l.setIfInBounds i true = l' := by simp only [List.setIfInBounds_toArray, List.set_cons_zero, List.set_cons_succ]; rfl) (hT : rtab md ops = T := by exact HT_.out) (hc : anyT T l.toList l'.toList i = true := by kernel_rfl)
    (hw : Region.wanted oi (yielded ops a.tmps) = true := by rfl) (hr : ∀ w, (execOp a.eval oi).run P w = .ok (.value v) w := by intro w'; go_simp; with_reducible rfl)
    (hQ : ∀ c a w, Q (.panic c) (a.put oi.dst v) w → Q (.panic c) a w := by exact fun _ _ _ h => h)
    (ha : a.put (some N) v = a' := by simp only [Act.put, List.setIfInBounds_toArray, List.set_cons_zero, List.set_cons_succ, i64_w, i32_w]; rfl) : wpAnyLast P md ops Q S ds (fuel + 1) l a w :=
  pure_ l' hi hN (any_of hT hc) hQ (Or.inl ⟨hw, hr⟩) ha h
theorem pu_ (i : Nat) (N : Tmp) {oi : Oper} {fuel : Nat} {l l' : Array Bool} {a a' : Act} {w : World} (h : wpAnyLast P md ops Q S ds fuel l' a' w) (hi : ops[i]? = some oi := by rfl) (hN : oi.dst = some N := by rfl)
    (hl : l.setIfInBounds i true = l' := by simp only [List.setIfInBounds_toArray, List.set_cons_zero, List.set_cons_succ]; rfl) (hT : rtab md ops = T := by exact HT_.out) (hc : anyT T l.toList l'.toList i = true := by kernel_rfl)
    (hw : Region.wanted oi (yielded ops a.tmps) = false := by rfl) (hQ : ∀ c a w, Q (.panic c) (a.put oi.dst undef) w → Q (.panic c) a w := by exact fun _ _ _ h => h)
    (ha : a.put (some N) undef = a' := by simp only [Act.put, List.setIfInBounds_toArray, List.set_cons_zero, List.set_cons_succ, i64_w, i32_w]; rfl) : wpAnyLast P md ops Q S ds (fuel + 1) l a w :=
  pure_ l' hi hN (any_of hT hc) hQ (Or.inr ⟨hw, rfl⟩) ha h
theorem tk_ (i : Nat) (N : Tmp) {oi : Oper} {v : Value} {fuel : Nat} {l l' : Array Bool} {a a' : Act} {w : World} (h : wpAnyLast P md ops Q S ds fuel l' a' w) (hi : ops[i]? = some oi := by rfl) (hN : oi.dst = some N := by rfl)
    (hl : l.setIfInBounds i true = l' := by simp only [List.setIfInBounds_toArray, List.set_cons_zero, List.set_cons_succ]; rfl) (hT : rtab md ops = T := by exact HT_.out) (hB : waitsOk T.2 B = true := by exact HW_.out) (hc : takeW T B ds l.toList l'.toList i = true := by kernel_rfl)
    (hw : Region.wanted oi (yielded ops a.tmps) = true := by rfl) (hr : ∀ w, S w → (execOp a.eval oi).run P w = .ok (.value v) w := by intro w' hs; (try dsimp only at hs); go_simp; with_reducible rfl)
    (hQ : ∀ c a w, Q (.panic c) (a.put oi.dst v) w → Q (.panic c) a w := by exact fun _ _ _ h => h) (hS : S w := by exact hHeld)
    (ha : a.put (some N) v = a' := by simp only [Act.put, List.setIfInBounds_toArray, List.set_cons_zero, List.set_cons_succ, i64_w, i32_w]; rfl) : wpAnyLast P md ops Q S ds (fuel + 1) l a w :=
  take_ l' hi hN (take_ofW hT hB hc) hQ (Or.inl ⟨hw, hr⟩) hS ha h
theorem nm_ {fuel : Nat} {l : Array Bool} {a a' : Act} {w : World} (N : Tmp) {v : Value} (h : wpAnyLast P md ops Q S ds fuel l a' w) (ha : Act.put a (some N) v = a' := by simp only [Act.put, List.setIfInBounds_toArray, List.set_cons_zero, List.set_cons_succ, i64_w, i32_w]; rfl) : wpAnyLast P md ops Q S ds fuel l (Act.put a (some N) v) w := norm_ ha h
end
theorem mo_ {P : Prop} (h : P := by repeat' first | (with_reducible first | exact LeO.refl _ | apply ih0 | apply ih1 | apply ih2 | apply ih3 | apply ih4 | apply ih5 | apply ih6 | apply ih7 | apply ih8 | apply ih9 | apply ih10 | apply ih11 | apply m0 | apply m1 | apply m2 | apply m3 | apply m4 | apply m5 | apply m6 | apply m7 | apply m8 | apply m9 | apply m10 | apply m11 | apply m12 | apply m13 | apply m14 | apply m15 | exact LeO.none _ | refine LeO.ite ?_ ?_ | refine LeO.bind ?_ (fun _ => ?_)) | apply ih0 | apply ih1 | apply ih2 | apply ih3 | apply ih4 | apply ih5 | apply ih6 | apply ih7 | apply ih8 | apply ih9 | apply ih10 | apply ih11 | apply m0 | apply m1 | apply m2 | apply m3 | apply m4 | apply m5 | apply m6 | apply m7 | apply m8 | apply m9 | apply m10 | apply m11 | apply m12 | apply m13 | apply m14 | apply m15 | exact LeO.none _ | refine LeO.ite ?_ ?_ | refine LeO.bind ?_ (fun _ => ?_)) : P := h
theorem an_str {w W : World} {A : Option Addr} {n : Nat} {xs : List ByteArray} (h : Aside0 (Kd.C Kd.string w A n xs)) (hb : Aside0 (Below w.heap.size w W)) (i : Int) (h0 : 0 ≤ i := by exact da_) (h1 : i < n := by exact da_) : ∃ ad, A = some ad ∧ ((0 ≤ i) = True ∧ (i < n) = True ∧ W.cell? (ad.add i.toNat) = some (.string (rdOf ByteArray.empty xs i))) := by
  obtain ⟨ad, e_, x⟩ := Kd.at_string h.out i h0 h1
  exact ⟨ad, e_, eq_true h0, eq_true h1, hx_ hb x (World.block_lt_of_cell? _ _ x)⟩
theorem am_str {w : World} {A : Option Addr} {n : Nat} {xs : List ByteArray} (h : Aside0 (Kd.C Kd.string w A n xs)) (i : Int) (h0 : 0 ≤ i := by exact da_) (h1 : i < n := by exact da_) : ∃ ad, A = some ad ∧ ((0 ≤ i) = True ∧ (i < n) = True ∧ w.cell? (ad.add i.toNat) = some (.string (rdOf ByteArray.empty xs i))) := by
  obtain ⟨ad, e_, x⟩ := Kd.at_string h.out i h0 h1
  exact ⟨ad, e_, eq_true h0, eq_true h1, x⟩
theorem an_T28 {w W : World} {A : Option Addr} {n : Nat} {xs : List S28} (h : Aside0 (Kd.C k28 w A n xs)) (hb : Aside0 (Below w.heap.size w W)) (i : Int) (h0 : 0 ≤ i := by exact da_) (h1 : i < n := by exact da_) : ∃ ad , A = some ad ∧ ((0 ≤ i) = True ∧ (i < n) = True ∧ W.cell? (ad.add (i.toNat * 2)) = some (.int .i64 (rd_T28 xs i).f0) ∧ W.cell? ⟨(ad.add (i.toNat * 2)).block, (ad.add (i.toNat * 2)).off + 1, none⟩ = some (.int .i64 (rd_T28 xs i).f1)) := by
  obtain ⟨ad, e_, x0_, x1_⟩ := at_T28 h.out i h0 h1
  exact ⟨ad, e_, ⟨eq_true h0, eq_true h1, hx_ hb x0_ (World.block_lt_of_cell? _ _ x0_), hx_ hb x1_ (World.block_lt_of_cell? _ _ x1_)⟩⟩
theorem am_T28 {w : World} {A : Option Addr} {n : Nat} {xs : List S28} (h : Aside0 (Kd.C k28 w A n xs)) (i : Int) (h0 : 0 ≤ i := by exact da_) (h1 : i < n := by exact da_) : ∃ ad , A = some ad ∧ ((0 ≤ i) = True ∧ (i < n) = True ∧ w.cell? (ad.add (i.toNat * 2)) = some (.int .i64 (rd_T28 xs i).f0) ∧ w.cell? ⟨(ad.add (i.toNat * 2)).block, (ad.add (i.toNat * 2)).off + 1, none⟩ = some (.int .i64 (rd_T28 xs i).f1)) := by
  obtain ⟨ad, e_, x0_, x1_⟩ := at_T28 h.out i h0 h1
  exact ⟨ad, e_, ⟨eq_true h0, eq_true h1, x0_, x1_⟩⟩
theorem an_L4 {w W : World} {A : Option Addr} {n : Nat} {xs : List (List S28)} (h : Aside0 (Kd.C (Kd.slice 28 k28) w A n xs)) (hb : Aside0 (Below w.heap.size w W)) (i : Int) (h0 : 0 ≤ i := by exact da_) (h1 : i < n := by exact da_) : ∃ ad A0 c0, A = some ad ∧ ((0 ≤ i) = True ∧ (i < n) = True ∧ W.cell? (ad.add i.toNat) = some (.slice A0 (rd_L4 xs i).length c0)) ∧ Aside0 ((rd_L4 xs i).length ≤ c0) ∧ Aside0 (k28.C w A0 (rd_L4 xs i).length (rd_L4 xs i)) := by
  obtain ⟨ad, A0, c0, e_, x0_, y0_, y1_⟩ := at_L4 h.out i h0 h1
  exact ⟨ad, A0, c0, e_, ⟨eq_true h0, eq_true h1, hx_ hb x0_ (World.block_lt_of_cell? _ _ x0_)⟩, ⟨y0_⟩, ⟨y1_⟩⟩
theorem am_L4 {w : World} {A : Option Addr} {n : Nat} {xs : List (List S28)} (h : Aside0 (Kd.C (Kd.slice 28 k28) w A n xs)) (i : Int) (h0 : 0 ≤ i := by exact da_) (h1 : i < n := by exact da_) : ∃ ad A0 c0, A = some ad ∧ ((0 ≤ i) = True ∧ (i < n) = True ∧ w.cell? (ad.add i.toNat) = some (.slice A0 (rd_L4 xs i).length c0)) ∧ Aside0 ((rd_L4 xs i).length ≤ c0) ∧ Aside0 (k28.C w A0 (rd_L4 xs i).length (rd_L4 xs i)) := by
  obtain ⟨ad, A0, c0, e_, x0_, y0_, y1_⟩ := at_L4 h.out i h0 h1
  exact ⟨ad, A0, c0, e_, ⟨eq_true h0, eq_true h1, x0_⟩, ⟨y0_⟩, ⟨y1_⟩⟩
theorem an_T156 {w W : World} {A : Option Addr} {n : Nat} {xs : List S156} (h : Aside0 (Kd.C k156 w A n xs)) (hb : Aside0 (Below w.heap.size w W)) (i : Int) (h0 : 0 ≤ i := by exact da_) (h1 : i < n := by exact da_) : ∃ ad A3 c3, A = some ad ∧ ((0 ≤ i) = True ∧ (i < n) = True ∧ W.cell? (ad.add (i.toNat * 4)) = some (.int .i64 (rd_T156 xs i).f0) ∧ W.cell? ⟨(ad.add (i.toNat * 4)).block, (ad.add (i.toNat * 4)).off + 1, none⟩ = some (.string (rd_T156 xs i).f1) ∧ W.cell? ⟨(ad.add (i.toNat * 4)).block, (ad.add (i.toNat * 4)).off + 2, none⟩ = some (.bool (rd_T156 xs i).f2) ∧ W.cell? ⟨(ad.add (i.toNat * 4)).block, (ad.add (i.toNat * 4)).off + 3, none⟩ = some (.slice A3 (rd_T156 xs i).f3.length c3)) ∧ Aside0 ((rd_T156 xs i).f3.length ≤ c3) ∧ Aside0 (k28.C w A3 (rd_T156 xs i).f3.length (rd_T156 xs i).f3) := by
  obtain ⟨ad, A3, c3, e_, x0_, x1_, x2_, x3_, y0_, y1_⟩ := at_T156 h.out i h0 h1
  exact ⟨ad, A3, c3, e_, ⟨eq_true h0, eq_true h1, hx_ hb x0_ (World.block_lt_of_cell? _ _ x0_), hx_ hb x1_ (World.block_lt_of_cell? _ _ x1_), hx_ hb x2_ (World.block_lt_of_cell? _ _ x2_), hx_ hb x3_ (World.block_lt_of_cell? _ _ x3_)⟩, ⟨y0_⟩, ⟨y1_⟩⟩
theorem am_T156 {w : World} {A : Option Addr} {n : Nat} {xs : List S156} (h : Aside0 (Kd.C k156 w A n xs)) (i : Int) (h0 : 0 ≤ i := by exact da_) (h1 : i < n := by exact da_) : ∃ ad A3 c3, A = some ad ∧ ((0 ≤ i) = True ∧ (i < n) = True ∧ w.cell? (ad.add (i.toNat * 4)) = some (.int .i64 (rd_T156 xs i).f0) ∧ w.cell? ⟨(ad.add (i.toNat * 4)).block, (ad.add (i.toNat * 4)).off + 1, none⟩ = some (.string (rd_T156 xs i).f1) ∧ w.cell? ⟨(ad.add (i.toNat * 4)).block, (ad.add (i.toNat * 4)).off + 2, none⟩ = some (.bool (rd_T156 xs i).f2) ∧ w.cell? ⟨(ad.add (i.toNat * 4)).block, (ad.add (i.toNat * 4)).off + 3, none⟩ = some (.slice A3 (rd_T156 xs i).f3.length c3)) ∧ Aside0 ((rd_T156 xs i).f3.length ≤ c3) ∧ Aside0 (k28.C w A3 (rd_T156 xs i).f3.length (rd_T156 xs i).f3) := by
  obtain ⟨ad, A3, c3, e_, x0_, x1_, x2_, x3_, y0_, y1_⟩ := at_T156 h.out i h0 h1
  exact ⟨ad, A3, c3, e_, ⟨eq_true h0, eq_true h1, x0_, x1_, x2_, x3_⟩, ⟨y0_⟩, ⟨y1_⟩⟩
theorem an_T113 {w W : World} {A : Option Addr} {n : Nat} {xs : List S113} (h : Aside0 (Kd.C k113 w A n xs)) (hb : Aside0 (Below w.heap.size w W)) (i : Int) (h0 : 0 ≤ i := by exact da_) (h1 : i < n := by exact da_) : ∃ ad A3 c3 A4 c4, A = some ad ∧ ((0 ≤ i) = True ∧ (i < n) = True ∧ W.cell? (ad.add (i.toNat * 5)) = some (.int .i64 (rd_T113 xs i).f0) ∧ W.cell? ⟨(ad.add (i.toNat * 5)).block, (ad.add (i.toNat * 5)).off + 1, none⟩ = some (.int .i64 (rd_T113 xs i).f1) ∧ W.cell? ⟨(ad.add (i.toNat * 5)).block, (ad.add (i.toNat * 5)).off + 2, none⟩ = some (.int .i64 (rd_T113 xs i).f2) ∧ W.cell? ⟨(ad.add (i.toNat * 5)).block, (ad.add (i.toNat * 5)).off + 3, none⟩ = some (.slice A3 (rd_T113 xs i).f3.length c3) ∧ W.cell? ⟨(ad.add (i.toNat * 5)).block, (ad.add (i.toNat * 5)).off + 4, none⟩ = some (.slice A4 (rd_T113 xs i).f4.length c4)) ∧ Aside0 ((rd_T113 xs i).f3.length ≤ c3) ∧ Aside0 (k28.C w A3 (rd_T113 xs i).f3.length (rd_T113 xs i).f3) ∧ Aside0 ((rd_T113 xs i).f4.length ≤ c4) ∧ Aside0 (k28.C w A4 (rd_T113 xs i).f4.length (rd_T113 xs i).f4) := by
  obtain ⟨ad, A3, c3, A4, c4, e_, x0_, x1_, x2_, x3_, x4_, y0_, y1_, y2_, y3_⟩ := at_T113 h.out i h0 h1
  exact ⟨ad, A3, c3, A4, c4, e_, ⟨eq_true h0, eq_true h1, hx_ hb x0_ (World.block_lt_of_cell? _ _ x0_), hx_ hb x1_ (World.block_lt_of_cell? _ _ x1_), hx_ hb x2_ (World.block_lt_of_cell? _ _ x2_), hx_ hb x3_ (World.block_lt_of_cell? _ _ x3_), hx_ hb x4_ (World.block_lt_of_cell? _ _ x4_)⟩, ⟨y0_⟩, ⟨y1_⟩, ⟨y2_⟩, ⟨y3_⟩⟩
theorem am_T113 {w : World} {A : Option Addr} {n : Nat} {xs : List S113} (h : Aside0 (Kd.C k113 w A n xs)) (i : Int) (h0 : 0 ≤ i := by exact da_) (h1 : i < n := by exact da_) : ∃ ad A3 c3 A4 c4, A = some ad ∧ ((0 ≤ i) = True ∧ (i < n) = True ∧ w.cell? (ad.add (i.toNat * 5)) = some (.int .i64 (rd_T113 xs i).f0) ∧ w.cell? ⟨(ad.add (i.toNat * 5)).block, (ad.add (i.toNat * 5)).off + 1, none⟩ = some (.int .i64 (rd_T113 xs i).f1) ∧ w.cell? ⟨(ad.add (i.toNat * 5)).block, (ad.add (i.toNat * 5)).off + 2, none⟩ = some (.int .i64 (rd_T113 xs i).f2) ∧ w.cell? ⟨(ad.add (i.toNat * 5)).block, (ad.add (i.toNat * 5)).off + 3, none⟩ = some (.slice A3 (rd_T113 xs i).f3.length c3) ∧ w.cell? ⟨(ad.add (i.toNat * 5)).block, (ad.add (i.toNat * 5)).off + 4, none⟩ = some (.slice A4 (rd_T113 xs i).f4.length c4)) ∧ Aside0 ((rd_T113 xs i).f3.length ≤ c3) ∧ Aside0 (k28.C w A3 (rd_T113 xs i).f3.length (rd_T113 xs i).f3) ∧ Aside0 ((rd_T113 xs i).f4.length ≤ c4) ∧ Aside0 (k28.C w A4 (rd_T113 xs i).f4.length (rd_T113 xs i).f4) := by
  obtain ⟨ad, A3, c3, A4, c4, e_, x0_, x1_, x2_, x3_, x4_, y0_, y1_, y2_, y3_⟩ := at_T113 h.out i h0 h1
  exact ⟨ad, A3, c3, A4, c4, e_, ⟨eq_true h0, eq_true h1, x0_, x1_, x2_, x3_, x4_⟩, ⟨y0_⟩, ⟨y1_⟩, ⟨y2_⟩, ⟨y3_⟩⟩
theorem an_T43 {w W : World} {A : Option Addr} {n : Nat} {xs : List S43} (h : Aside0 (Kd.C k43 w A n xs)) (hb : Aside0 (Below w.heap.size w W)) (i : Int) (h0 : 0 ≤ i := by exact da_) (h1 : i < n := by exact da_) : ∃ ad , A = some ad ∧ ((0 ≤ i) = True ∧ (i < n) = True ∧ W.cell? (ad.add (i.toNat * 2)) = some (.int .i64 (rd_T43 xs i).f0) ∧ W.cell? ⟨(ad.add (i.toNat * 2)).block, (ad.add (i.toNat * 2)).off + 1, none⟩ = some (.int .i64 (rd_T43 xs i).f1)) := by
  obtain ⟨ad, e_, x0_, x1_⟩ := at_T43 h.out i h0 h1
  exact ⟨ad, e_, ⟨eq_true h0, eq_true h1, hx_ hb x0_ (World.block_lt_of_cell? _ _ x0_), hx_ hb x1_ (World.block_lt_of_cell? _ _ x1_)⟩⟩
theorem am_T43 {w : World} {A : Option Addr} {n : Nat} {xs : List S43} (h : Aside0 (Kd.C k43 w A n xs)) (i : Int) (h0 : 0 ≤ i := by exact da_) (h1 : i < n := by exact da_) : ∃ ad , A = some ad ∧ ((0 ≤ i) = True ∧ (i < n) = True ∧ w.cell? (ad.add (i.toNat * 2)) = some (.int .i64 (rd_T43 xs i).f0) ∧ w.cell? ⟨(ad.add (i.toNat * 2)).block, (ad.add (i.toNat * 2)).off + 1, none⟩ = some (.int .i64 (rd_T43 xs i).f1)) := by
  obtain ⟨ad, e_, x0_, x1_⟩ := at_T43 h.out i h0 h1
  exact ⟨ad, e_, ⟨eq_true h0, eq_true h1, x0_, x1_⟩⟩
theorem an_L8 {w W : World} {A : Option Addr} {n : Nat} {xs : List (List S43)} (h : Aside0 (Kd.C (Kd.slice 43 k43) w A n xs)) (hb : Aside0 (Below w.heap.size w W)) (i : Int) (h0 : 0 ≤ i := by exact da_) (h1 : i < n := by exact da_) : ∃ ad A0 c0, A = some ad ∧ ((0 ≤ i) = True ∧ (i < n) = True ∧ W.cell? (ad.add i.toNat) = some (.slice A0 (rd_L8 xs i).length c0)) ∧ Aside0 ((rd_L8 xs i).length ≤ c0) ∧ Aside0 (k43.C w A0 (rd_L8 xs i).length (rd_L8 xs i)) := by
  obtain ⟨ad, A0, c0, e_, x0_, y0_, y1_⟩ := at_L8 h.out i h0 h1
  exact ⟨ad, A0, c0, e_, ⟨eq_true h0, eq_true h1, hx_ hb x0_ (World.block_lt_of_cell? _ _ x0_)⟩, ⟨y0_⟩, ⟨y1_⟩⟩
theorem am_L8 {w : World} {A : Option Addr} {n : Nat} {xs : List (List S43)} (h : Aside0 (Kd.C (Kd.slice 43 k43) w A n xs)) (i : Int) (h0 : 0 ≤ i := by exact da_) (h1 : i < n := by exact da_) : ∃ ad A0 c0, A = some ad ∧ ((0 ≤ i) = True ∧ (i < n) = True ∧ w.cell? (ad.add i.toNat) = some (.slice A0 (rd_L8 xs i).length c0)) ∧ Aside0 ((rd_L8 xs i).length ≤ c0) ∧ Aside0 (k43.C w A0 (rd_L8 xs i).length (rd_L8 xs i)) := by
  obtain ⟨ad, A0, c0, e_, x0_, y0_, y1_⟩ := at_L8 h.out i h0 h1
  exact ⟨ad, A0, c0, e_, ⟨eq_true h0, eq_true h1, x0_⟩, ⟨y0_⟩, ⟨y1_⟩⟩
theorem an_T71 {w W : World} {A : Option Addr} {n : Nat} {xs : List S71} (h : Aside0 (Kd.C k71 w A n xs)) (hb : Aside0 (Below w.heap.size w W)) (i : Int) (h0 : 0 ≤ i := by exact da_) (h1 : i < n := by exact da_) : ∃ ad A3 c3, A = some ad ∧ ((0 ≤ i) = True ∧ (i < n) = True ∧ W.cell? (ad.add (i.toNat * 4)) = some (.int .i64 (rd_T71 xs i).f0) ∧ W.cell? ⟨(ad.add (i.toNat * 4)).block, (ad.add (i.toNat * 4)).off + 1, none⟩ = some (.string (rd_T71 xs i).f1) ∧ W.cell? ⟨(ad.add (i.toNat * 4)).block, (ad.add (i.toNat * 4)).off + 2, none⟩ = some (.bool (rd_T71 xs i).f2) ∧ W.cell? ⟨(ad.add (i.toNat * 4)).block, (ad.add (i.toNat * 4)).off + 3, none⟩ = some (.slice A3 (rd_T71 xs i).f3.length c3)) ∧ Aside0 ((rd_T71 xs i).f3.length ≤ c3) ∧ Aside0 (k43.C w A3 (rd_T71 xs i).f3.length (rd_T71 xs i).f3) := by
  obtain ⟨ad, A3, c3, e_, x0_, x1_, x2_, x3_, y0_, y1_⟩ := at_T71 h.out i h0 h1
  exact ⟨ad, A3, c3, e_, ⟨eq_true h0, eq_true h1, hx_ hb x0_ (World.block_lt_of_cell? _ _ x0_), hx_ hb x1_ (World.block_lt_of_cell? _ _ x1_), hx_ hb x2_ (World.block_lt_of_cell? _ _ x2_), hx_ hb x3_ (World.block_lt_of_cell? _ _ x3_)⟩, ⟨y0_⟩, ⟨y1_⟩⟩
theorem am_T71 {w : World} {A : Option Addr} {n : Nat} {xs : List S71} (h : Aside0 (Kd.C k71 w A n xs)) (i : Int) (h0 : 0 ≤ i := by exact da_) (h1 : i < n := by exact da_) : ∃ ad A3 c3, A = some ad ∧ ((0 ≤ i) = True ∧ (i < n) = True ∧ w.cell? (ad.add (i.toNat * 4)) = some (.int .i64 (rd_T71 xs i).f0) ∧ w.cell? ⟨(ad.add (i.toNat * 4)).block, (ad.add (i.toNat * 4)).off + 1, none⟩ = some (.string (rd_T71 xs i).f1) ∧ w.cell? ⟨(ad.add (i.toNat * 4)).block, (ad.add (i.toNat * 4)).off + 2, none⟩ = some (.bool (rd_T71 xs i).f2) ∧ w.cell? ⟨(ad.add (i.toNat * 4)).block, (ad.add (i.toNat * 4)).off + 3, none⟩ = some (.slice A3 (rd_T71 xs i).f3.length c3)) ∧ Aside0 ((rd_T71 xs i).f3.length ≤ c3) ∧ Aside0 (k43.C w A3 (rd_T71 xs i).f3.length (rd_T71 xs i).f3) := by
  obtain ⟨ad, A3, c3, e_, x0_, x1_, x2_, x3_, y0_, y1_⟩ := at_T71 h.out i h0 h1
  exact ⟨ad, A3, c3, e_, ⟨eq_true h0, eq_true h1, x0_, x1_, x2_, x3_⟩, ⟨y0_⟩, ⟨y1_⟩⟩
theorem an_T75 {w W : World} {A : Option Addr} {n : Nat} {xs : List S75} (h : Aside0 (Kd.C k75 w A n xs)) (hb : Aside0 (Below w.heap.size w W)) (i : Int) (h0 : 0 ≤ i := by exact da_) (h1 : i < n := by exact da_) : ∃ ad A3 c3 A4 c4, A = some ad ∧ ((0 ≤ i) = True ∧ (i < n) = True ∧ W.cell? (ad.add (i.toNat * 5)) = some (.int .i64 (rd_T75 xs i).f0) ∧ W.cell? ⟨(ad.add (i.toNat * 5)).block, (ad.add (i.toNat * 5)).off + 1, none⟩ = some (.int .i64 (rd_T75 xs i).f1) ∧ W.cell? ⟨(ad.add (i.toNat * 5)).block, (ad.add (i.toNat * 5)).off + 2, none⟩ = some (.int .i64 (rd_T75 xs i).f2) ∧ W.cell? ⟨(ad.add (i.toNat * 5)).block, (ad.add (i.toNat * 5)).off + 3, none⟩ = some (.slice A3 (rd_T75 xs i).f3.length c3) ∧ W.cell? ⟨(ad.add (i.toNat * 5)).block, (ad.add (i.toNat * 5)).off + 4, none⟩ = some (.slice A4 (rd_T75 xs i).f4.length c4)) ∧ Aside0 ((rd_T75 xs i).f3.length ≤ c3) ∧ Aside0 (k43.C w A3 (rd_T75 xs i).f3.length (rd_T75 xs i).f3) ∧ Aside0 ((rd_T75 xs i).f4.length ≤ c4) ∧ Aside0 (k43.C w A4 (rd_T75 xs i).f4.length (rd_T75 xs i).f4) := by
  obtain ⟨ad, A3, c3, A4, c4, e_, x0_, x1_, x2_, x3_, x4_, y0_, y1_, y2_, y3_⟩ := at_T75 h.out i h0 h1
  exact ⟨ad, A3, c3, A4, c4, e_, ⟨eq_true h0, eq_true h1, hx_ hb x0_ (World.block_lt_of_cell? _ _ x0_), hx_ hb x1_ (World.block_lt_of_cell? _ _ x1_), hx_ hb x2_ (World.block_lt_of_cell? _ _ x2_), hx_ hb x3_ (World.block_lt_of_cell? _ _ x3_), hx_ hb x4_ (World.block_lt_of_cell? _ _ x4_)⟩, ⟨y0_⟩, ⟨y1_⟩, ⟨y2_⟩, ⟨y3_⟩⟩
theorem am_T75 {w : World} {A : Option Addr} {n : Nat} {xs : List S75} (h : Aside0 (Kd.C k75 w A n xs)) (i : Int) (h0 : 0 ≤ i := by exact da_) (h1 : i < n := by exact da_) : ∃ ad A3 c3 A4 c4, A = some ad ∧ ((0 ≤ i) = True ∧ (i < n) = True ∧ w.cell? (ad.add (i.toNat * 5)) = some (.int .i64 (rd_T75 xs i).f0) ∧ w.cell? ⟨(ad.add (i.toNat * 5)).block, (ad.add (i.toNat * 5)).off + 1, none⟩ = some (.int .i64 (rd_T75 xs i).f1) ∧ w.cell? ⟨(ad.add (i.toNat * 5)).block, (ad.add (i.toNat * 5)).off + 2, none⟩ = some (.int .i64 (rd_T75 xs i).f2) ∧ w.cell? ⟨(ad.add (i.toNat * 5)).block, (ad.add (i.toNat * 5)).off + 3, none⟩ = some (.slice A3 (rd_T75 xs i).f3.length c3) ∧ w.cell? ⟨(ad.add (i.toNat * 5)).block, (ad.add (i.toNat * 5)).off + 4, none⟩ = some (.slice A4 (rd_T75 xs i).f4.length c4)) ∧ Aside0 ((rd_T75 xs i).f3.length ≤ c3) ∧ Aside0 (k43.C w A3 (rd_T75 xs i).f3.length (rd_T75 xs i).f3) ∧ Aside0 ((rd_T75 xs i).f4.length ≤ c4) ∧ Aside0 (k43.C w A4 (rd_T75 xs i).f4.length (rd_T75 xs i).f4) := by
  obtain ⟨ad, A3, c3, A4, c4, e_, x0_, x1_, x2_, x3_, x4_, y0_, y1_, y2_, y3_⟩ := at_T75 h.out i h0 h1
  exact ⟨ad, A3, c3, A4, c4, e_, ⟨eq_true h0, eq_true h1, x0_, x1_, x2_, x3_, x4_⟩, ⟨y0_⟩, ⟨y1_⟩, ⟨y2_⟩, ⟨y3_⟩⟩
theorem an_L11 {w W : World} {A : Option Addr} {n : Nat} {xs : List (List Int)} (h : Aside0 (Kd.C (Kd.slice 2 (Kd.int .i64)) w A n xs)) (hb : Aside0 (Below w.heap.size w W)) (i : Int) (h0 : 0 ≤ i := by exact da_) (h1 : i < n := by exact da_) : ∃ ad A0 c0, A = some ad ∧ ((0 ≤ i) = True ∧ (i < n) = True ∧ W.cell? (ad.add i.toNat) = some (.slice A0 (rd_L11 xs i).length c0)) ∧ Aside0 ((rd_L11 xs i).length ≤ c0) ∧ Aside0 ((Kd.int .i64).C w A0 (rd_L11 xs i).length (rd_L11 xs i)) := by
  obtain ⟨ad, A0, c0, e_, x0_, y0_, y1_⟩ := at_L11 h.out i h0 h1
  exact ⟨ad, A0, c0, e_, ⟨eq_true h0, eq_true h1, hx_ hb x0_ (World.block_lt_of_cell? _ _ x0_)⟩, ⟨y0_⟩, ⟨y1_⟩⟩
theorem am_L11 {w : World} {A : Option Addr} {n : Nat} {xs : List (List Int)} (h : Aside0 (Kd.C (Kd.slice 2 (Kd.int .i64)) w A n xs)) (i : Int) (h0 : 0 ≤ i := by exact da_) (h1 : i < n := by exact da_) : ∃ ad A0 c0, A = some ad ∧ ((0 ≤ i) = True ∧ (i < n) = True ∧ w.cell? (ad.add i.toNat) = some (.slice A0 (rd_L11 xs i).length c0)) ∧ Aside0 ((rd_L11 xs i).length ≤ c0) ∧ Aside0 ((Kd.int .i64).C w A0 (rd_L11 xs i).length (rd_L11 xs i)) := by
  obtain ⟨ad, A0, c0, e_, x0_, y0_, y1_⟩ := at_L11 h.out i h0 h1
  exact ⟨ad, A0, c0, e_, ⟨eq_true h0, eq_true h1, x0_⟩, ⟨y0_⟩, ⟨y1_⟩⟩
theorem an_T73 {w W : World} {A : Option Addr} {n : Nat} {xs : List S73} (h : Aside0 (Kd.C k73 w A n xs)) (hb : Aside0 (Below w.heap.size w W)) (i : Int) (h0 : 0 ≤ i := by exact da_) (h1 : i < n := by exact da_) : ∃ ad A2 c2, A = some ad ∧ ((0 ≤ i) = True ∧ (i < n) = True ∧ W.cell? (ad.add (i.toNat * 3)) = some (.string (rd_T73 xs i).f0) ∧ W.cell? ⟨(ad.add (i.toNat * 3)).block, (ad.add (i.toNat * 3)).off + 1, none⟩ = some (.int .i64 (rd_T73 xs i).f1) ∧ W.cell? ⟨(ad.add (i.toNat * 3)).block, (ad.add (i.toNat * 3)).off + 2, none⟩ = some (.slice A2 (rd_T73 xs i).f2.length c2)) ∧ Aside0 ((rd_T73 xs i).f2.length ≤ c2) ∧ Aside0 ((Kd.int .i64).C w A2 (rd_T73 xs i).f2.length (rd_T73 xs i).f2) := by
  obtain ⟨ad, A2, c2, e_, x0_, x1_, x2_, y0_, y1_⟩ := at_T73 h.out i h0 h1
  exact ⟨ad, A2, c2, e_, ⟨eq_true h0, eq_true h1, hx_ hb x0_ (World.block_lt_of_cell? _ _ x0_), hx_ hb x1_ (World.block_lt_of_cell? _ _ x1_), hx_ hb x2_ (World.block_lt_of_cell? _ _ x2_)⟩, ⟨y0_⟩, ⟨y1_⟩⟩
theorem am_T73 {w : World} {A : Option Addr} {n : Nat} {xs : List S73} (h : Aside0 (Kd.C k73 w A n xs)) (i : Int) (h0 : 0 ≤ i := by exact da_) (h1 : i < n := by exact da_) : ∃ ad A2 c2, A = some ad ∧ ((0 ≤ i) = True ∧ (i < n) = True ∧ w.cell? (ad.add (i.toNat * 3)) = some (.string (rd_T73 xs i).f0) ∧ w.cell? ⟨(ad.add (i.toNat * 3)).block, (ad.add (i.toNat * 3)).off + 1, none⟩ = some (.int .i64 (rd_T73 xs i).f1) ∧ w.cell? ⟨(ad.add (i.toNat * 3)).block, (ad.add (i.toNat * 3)).off + 2, none⟩ = some (.slice A2 (rd_T73 xs i).f2.length c2)) ∧ Aside0 ((rd_T73 xs i).f2.length ≤ c2) ∧ Aside0 ((Kd.int .i64).C w A2 (rd_T73 xs i).f2.length (rd_T73 xs i).f2) := by
  obtain ⟨ad, A2, c2, e_, x0_, x1_, x2_, y0_, y1_⟩ := at_T73 h.out i h0 h1
  exact ⟨ad, A2, c2, e_, ⟨eq_true h0, eq_true h1, x0_, x1_, x2_⟩, ⟨y0_⟩, ⟨y1_⟩⟩
theorem an_T77 {w W : World} {A : Option Addr} {n : Nat} {xs : List S77} (h : Aside0 (Kd.C k77 w A n xs)) (hb : Aside0 (Below w.heap.size w W)) (i : Int) (h0 : 0 ≤ i := by exact da_) (h1 : i < n := by exact da_) : ∃ ad A3 c3 A4 c4, A = some ad ∧ ((0 ≤ i) = True ∧ (i < n) = True ∧ W.cell? (ad.add (i.toNat * 5)) = some (.int .i64 (rd_T77 xs i).f0) ∧ W.cell? ⟨(ad.add (i.toNat * 5)).block, (ad.add (i.toNat * 5)).off + 1, none⟩ = some (.int .i64 (rd_T77 xs i).f1) ∧ W.cell? ⟨(ad.add (i.toNat * 5)).block, (ad.add (i.toNat * 5)).off + 2, none⟩ = some (.int .i64 (rd_T77 xs i).f2) ∧ W.cell? ⟨(ad.add (i.toNat * 5)).block, (ad.add (i.toNat * 5)).off + 3, none⟩ = some (.slice A3 (rd_T77 xs i).f3.length c3) ∧ W.cell? ⟨(ad.add (i.toNat * 5)).block, (ad.add (i.toNat * 5)).off + 4, none⟩ = some (.slice A4 (rd_T77 xs i).f4.length c4)) ∧ Aside0 ((rd_T77 xs i).f3.length ≤ c3) ∧ Aside0 ((Kd.int .i64).C w A3 (rd_T77 xs i).f3.length (rd_T77 xs i).f3) ∧ Aside0 ((rd_T77 xs i).f4.length ≤ c4) ∧ Aside0 ((Kd.int .i64).C w A4 (rd_T77 xs i).f4.length (rd_T77 xs i).f4) := by
  obtain ⟨ad, A3, c3, A4, c4, e_, x0_, x1_, x2_, x3_, x4_, y0_, y1_, y2_, y3_⟩ := at_T77 h.out i h0 h1
  exact ⟨ad, A3, c3, A4, c4, e_, ⟨eq_true h0, eq_true h1, hx_ hb x0_ (World.block_lt_of_cell? _ _ x0_), hx_ hb x1_ (World.block_lt_of_cell? _ _ x1_), hx_ hb x2_ (World.block_lt_of_cell? _ _ x2_), hx_ hb x3_ (World.block_lt_of_cell? _ _ x3_), hx_ hb x4_ (World.block_lt_of_cell? _ _ x4_)⟩, ⟨y0_⟩, ⟨y1_⟩, ⟨y2_⟩, ⟨y3_⟩⟩
theorem am_T77 {w : World} {A : Option Addr} {n : Nat} {xs : List S77} (h : Aside0 (Kd.C k77 w A n xs)) (i : Int) (h0 : 0 ≤ i := by exact da_) (h1 : i < n := by exact da_) : ∃ ad A3 c3 A4 c4, A = some ad ∧ ((0 ≤ i) = True ∧ (i < n) = True ∧ w.cell? (ad.add (i.toNat * 5)) = some (.int .i64 (rd_T77 xs i).f0) ∧ w.cell? ⟨(ad.add (i.toNat * 5)).block, (ad.add (i.toNat * 5)).off + 1, none⟩ = some (.int .i64 (rd_T77 xs i).f1) ∧ w.cell? ⟨(ad.add (i.toNat * 5)).block, (ad.add (i.toNat * 5)).off + 2, none⟩ = some (.int .i64 (rd_T77 xs i).f2) ∧ w.cell? ⟨(ad.add (i.toNat * 5)).block, (ad.add (i.toNat * 5)).off + 3, none⟩ = some (.slice A3 (rd_T77 xs i).f3.length c3) ∧ w.cell? ⟨(ad.add (i.toNat * 5)).block, (ad.add (i.toNat * 5)).off + 4, none⟩ = some (.slice A4 (rd_T77 xs i).f4.length c4)) ∧ Aside0 ((rd_T77 xs i).f3.length ≤ c3) ∧ Aside0 ((Kd.int .i64).C w A3 (rd_T77 xs i).f3.length (rd_T77 xs i).f3) ∧ Aside0 ((rd_T77 xs i).f4.length ≤ c4) ∧ Aside0 ((Kd.int .i64).C w A4 (rd_T77 xs i).f4.length (rd_T77 xs i).f4) := by
  obtain ⟨ad, A3, c3, A4, c4, e_, x0_, x1_, x2_, x3_, x4_, y0_, y1_, y2_, y3_⟩ := at_T77 h.out i h0 h1
  exact ⟨ad, A3, c3, A4, c4, e_, ⟨eq_true h0, eq_true h1, x0_, x1_, x2_, x3_, x4_⟩, ⟨y0_⟩, ⟨y1_⟩, ⟨y2_⟩, ⟨y3_⟩⟩
theorem an_L15 {w W : World} {A : Option Addr} {n : Nat} {xs : List (List S156)} (h : Aside0 (Kd.C (Kd.slice 156 k156) w A n xs)) (hb : Aside0 (Below w.heap.size w W)) (i : Int) (h0 : 0 ≤ i := by exact da_) (h1 : i < n := by exact da_) : ∃ ad A0 c0, A = some ad ∧ ((0 ≤ i) = True ∧ (i < n) = True ∧ W.cell? (ad.add i.toNat) = some (.slice A0 (rd_L15 xs i).length c0)) ∧ Aside0 ((rd_L15 xs i).length ≤ c0) ∧ Aside0 (k156.C w A0 (rd_L15 xs i).length (rd_L15 xs i)) := by
  obtain ⟨ad, A0, c0, e_, x0_, y0_, y1_⟩ := at_L15 h.out i h0 h1
  exact ⟨ad, A0, c0, e_, ⟨eq_true h0, eq_true h1, hx_ hb x0_ (World.block_lt_of_cell? _ _ x0_)⟩, ⟨y0_⟩, ⟨y1_⟩⟩
theorem am_L15 {w : World} {A : Option Addr} {n : Nat} {xs : List (List S156)} (h : Aside0 (Kd.C (Kd.slice 156 k156) w A n xs)) (i : Int) (h0 : 0 ≤ i := by exact da_) (h1 : i < n := by exact da_) : ∃ ad A0 c0, A = some ad ∧ ((0 ≤ i) = True ∧ (i < n) = True ∧ w.cell? (ad.add i.toNat) = some (.slice A0 (rd_L15 xs i).length c0)) ∧ Aside0 ((rd_L15 xs i).length ≤ c0) ∧ Aside0 (k156.C w A0 (rd_L15 xs i).length (rd_L15 xs i)) := by
  obtain ⟨ad, A0, c0, e_, x0_, y0_, y1_⟩ := at_L15 h.out i h0 h1
  exact ⟨ad, A0, c0, e_, ⟨eq_true h0, eq_true h1, x0_⟩, ⟨y0_⟩, ⟨y1_⟩⟩
theorem an_T24 {w W : World} {A : Option Addr} {n : Nat} {xs : List S24} (h : Aside0 (Kd.C k24 w A n xs)) (hb : Aside0 (Below w.heap.size w W)) (i : Int) (h0 : 0 ≤ i := by exact da_) (h1 : i < n := by exact da_) : ∃ ad A0 c0, A = some ad ∧ ((0 ≤ i) = True ∧ (i < n) = True ∧ W.cell? (ad.add (i.toNat * 2)) = some (.slice A0 (rd_T24 xs i).f0.length c0) ∧ W.cell? ⟨(ad.add (i.toNat * 2)).block, (ad.add (i.toNat * 2)).off + 1, none⟩ = some (.int .i64 (rd_T24 xs i).f1)) ∧ Aside0 ((rd_T24 xs i).f0.length ≤ c0) ∧ Aside0 (k156.C w A0 (rd_T24 xs i).f0.length (rd_T24 xs i).f0) := by
  obtain ⟨ad, A0, c0, e_, x0_, x1_, y0_, y1_⟩ := at_T24 h.out i h0 h1
  exact ⟨ad, A0, c0, e_, ⟨eq_true h0, eq_true h1, hx_ hb x0_ (World.block_lt_of_cell? _ _ x0_), hx_ hb x1_ (World.block_lt_of_cell? _ _ x1_)⟩, ⟨y0_⟩, ⟨y1_⟩⟩
theorem am_T24 {w : World} {A : Option Addr} {n : Nat} {xs : List S24} (h : Aside0 (Kd.C k24 w A n xs)) (i : Int) (h0 : 0 ≤ i := by exact da_) (h1 : i < n := by exact da_) : ∃ ad A0 c0, A = some ad ∧ ((0 ≤ i) = True ∧ (i < n) = True ∧ w.cell? (ad.add (i.toNat * 2)) = some (.slice A0 (rd_T24 xs i).f0.length c0) ∧ w.cell? ⟨(ad.add (i.toNat * 2)).block, (ad.add (i.toNat * 2)).off + 1, none⟩ = some (.int .i64 (rd_T24 xs i).f1)) ∧ Aside0 ((rd_T24 xs i).f0.length ≤ c0) ∧ Aside0 (k156.C w A0 (rd_T24 xs i).f0.length (rd_T24 xs i).f0) := by
  obtain ⟨ad, A0, c0, e_, x0_, x1_, y0_, y1_⟩ := at_T24 h.out i h0 h1
  exact ⟨ad, A0, c0, e_, ⟨eq_true h0, eq_true h1, x0_, x1_⟩, ⟨y0_⟩, ⟨y1_⟩⟩
theorem an_L17 {w W : World} {A : Option Addr} {n : Nat} {xs : List (List S113)} (h : Aside0 (Kd.C (Kd.slice 113 k113) w A n xs)) (hb : Aside0 (Below w.heap.size w W)) (i : Int) (h0 : 0 ≤ i := by exact da_) (h1 : i < n := by exact da_) : ∃ ad A0 c0, A = some ad ∧ ((0 ≤ i) = True ∧ (i < n) = True ∧ W.cell? (ad.add i.toNat) = some (.slice A0 (rd_L17 xs i).length c0)) ∧ Aside0 ((rd_L17 xs i).length ≤ c0) ∧ Aside0 (k113.C w A0 (rd_L17 xs i).length (rd_L17 xs i)) := by
  obtain ⟨ad, A0, c0, e_, x0_, y0_, y1_⟩ := at_L17 h.out i h0 h1
  exact ⟨ad, A0, c0, e_, ⟨eq_true h0, eq_true h1, hx_ hb x0_ (World.block_lt_of_cell? _ _ x0_)⟩, ⟨y0_⟩, ⟨y1_⟩⟩
theorem am_L17 {w : World} {A : Option Addr} {n : Nat} {xs : List (List S113)} (h : Aside0 (Kd.C (Kd.slice 113 k113) w A n xs)) (i : Int) (h0 : 0 ≤ i := by exact da_) (h1 : i < n := by exact da_) : ∃ ad A0 c0, A = some ad ∧ ((0 ≤ i) = True ∧ (i < n) = True ∧ w.cell? (ad.add i.toNat) = some (.slice A0 (rd_L17 xs i).length c0)) ∧ Aside0 ((rd_L17 xs i).length ≤ c0) ∧ Aside0 (k113.C w A0 (rd_L17 xs i).length (rd_L17 xs i)) := by
  obtain ⟨ad, A0, c0, e_, x0_, y0_, y1_⟩ := at_L17 h.out i h0 h1
  exact ⟨ad, A0, c0, e_, ⟨eq_true h0, eq_true h1, x0_⟩, ⟨y0_⟩, ⟨y1_⟩⟩
theorem an_T30 {w W : World} {A : Option Addr} {n : Nat} {xs : List S30} (h : Aside0 (Kd.C k30 w A n xs)) (hb : Aside0 (Below w.heap.size w W)) (i : Int) (h0 : 0 ≤ i := by exact da_) (h1 : i < n := by exact da_) : ∃ ad A0 c0 A2 c2 A3 c3, A = some ad ∧ ((0 ≤ i) = True ∧ (i < n) = True ∧ W.cell? (ad.add (i.toNat * 10)) = some (.slice A0 (rd_T30 xs i).f0.f0.length c0) ∧ W.cell? ⟨(ad.add (i.toNat * 10)).block, (ad.add (i.toNat * 10)).off + 1, none⟩ = some (.int .i64 (rd_T30 xs i).f0.f1) ∧ W.cell? ⟨(ad.add (i.toNat * 10)).block, (ad.add (i.toNat * 10)).off + 2, none⟩ = some (.slice A2 (rd_T30 xs i).f1.length c2) ∧ W.cell? ⟨(ad.add (i.toNat * 10)).block, (ad.add (i.toNat * 10)).off + 3, none⟩ = some (.slice A3 (rd_T30 xs i).f2.length c3) ∧ W.cell? ⟨(ad.add (i.toNat * 10)).block, (ad.add (i.toNat * 10)).off + 4, none⟩ = some (.bool (rd_T30 xs i).f3) ∧ W.cell? ⟨(ad.add (i.toNat * 10)).block, (ad.add (i.toNat * 10)).off + 5, none⟩ = some (.int .i64 (rd_T30 xs i).f4.f0) ∧ W.cell? ⟨(ad.add (i.toNat * 10)).block, (ad.add (i.toNat * 10)).off + 6, none⟩ = some (.int .i64 (rd_T30 xs i).f4.f1) ∧ W.cell? ⟨(ad.add (i.toNat * 10)).block, (ad.add (i.toNat * 10)).off + 7, none⟩ = some (.string (rd_T30 xs i).f5) ∧ W.cell? ⟨(ad.add (i.toNat * 10)).block, (ad.add (i.toNat * 10)).off + 8, none⟩ = some (.bool (rd_T30 xs i).f6) ∧ W.cell? ⟨(ad.add (i.toNat * 10)).block, (ad.add (i.toNat * 10)).off + 9, none⟩ = some (.int .i64 (rd_T30 xs i).f7)) ∧ Aside0 ((rd_T30 xs i).f0.f0.length ≤ c0) ∧ Aside0 (k156.C w A0 (rd_T30 xs i).f0.f0.length (rd_T30 xs i).f0.f0) ∧ Aside0 ((rd_T30 xs i).f1.length ≤ c2) ∧ Aside0 (k28.C w A2 (rd_T30 xs i).f1.length (rd_T30 xs i).f1) ∧ Aside0 ((rd_T30 xs i).f2.length ≤ c3) ∧ Aside0 (k113.C w A3 (rd_T30 xs i).f2.length (rd_T30 xs i).f2) := by
  obtain ⟨ad, A0, c0, A2, c2, A3, c3, e_, x0_, x1_, x2_, x3_, x4_, x5_, x6_, x7_, x8_, x9_, y0_, y1_, y2_, y3_, y4_, y5_⟩ := at_T30 h.out i h0 h1
  exact ⟨ad, A0, c0, A2, c2, A3, c3, e_, ⟨eq_true h0, eq_true h1, hx_ hb x0_ (World.block_lt_of_cell? _ _ x0_), hx_ hb x1_ (World.block_lt_of_cell? _ _ x1_), hx_ hb x2_ (World.block_lt_of_cell? _ _ x2_), hx_ hb x3_ (World.block_lt_of_cell? _ _ x3_), hx_ hb x4_ (World.block_lt_of_cell? _ _ x4_), hx_ hb x5_ (World.block_lt_of_cell? _ _ x5_), hx_ hb x6_ (World.block_lt_of_cell? _ _ x6_), hx_ hb x7_ (World.block_lt_of_cell? _ _ x7_), hx_ hb x8_ (World.block_lt_of_cell? _ _ x8_), hx_ hb x9_ (World.block_lt_of_cell? _ _ x9_)⟩, ⟨y0_⟩, ⟨y1_⟩, ⟨y2_⟩, ⟨y3_⟩, ⟨y4_⟩, ⟨y5_⟩⟩
theorem am_T30 {w : World} {A : Option Addr} {n : Nat} {xs : List S30} (h : Aside0 (Kd.C k30 w A n xs)) (i : Int) (h0 : 0 ≤ i := by exact da_) (h1 : i < n := by exact da_) : ∃ ad A0 c0 A2 c2 A3 c3, A = some ad ∧ ((0 ≤ i) = True ∧ (i < n) = True ∧ w.cell? (ad.add (i.toNat * 10)) = some (.slice A0 (rd_T30 xs i).f0.f0.length c0) ∧ w.cell? ⟨(ad.add (i.toNat * 10)).block, (ad.add (i.toNat * 10)).off + 1, none⟩ = some (.int .i64 (rd_T30 xs i).f0.f1) ∧ w.cell? ⟨(ad.add (i.toNat * 10)).block, (ad.add (i.toNat * 10)).off + 2, none⟩ = some (.slice A2 (rd_T30 xs i).f1.length c2) ∧ w.cell? ⟨(ad.add (i.toNat * 10)).block, (ad.add (i.toNat * 10)).off + 3, none⟩ = some (.slice A3 (rd_T30 xs i).f2.length c3) ∧ w.cell? ⟨(ad.add (i.toNat * 10)).block, (ad.add (i.toNat * 10)).off + 4, none⟩ = some (.bool (rd_T30 xs i).f3) ∧ w.cell? ⟨(ad.add (i.toNat * 10)).block, (ad.add (i.toNat * 10)).off + 5, none⟩ = some (.int .i64 (rd_T30 xs i).f4.f0) ∧ w.cell? ⟨(ad.add (i.toNat * 10)).block, (ad.add (i.toNat * 10)).off + 6, none⟩ = some (.int .i64 (rd_T30 xs i).f4.f1) ∧ w.cell? ⟨(ad.add (i.toNat * 10)).block, (ad.add (i.toNat * 10)).off + 7, none⟩ = some (.string (rd_T30 xs i).f5) ∧ w.cell? ⟨(ad.add (i.toNat * 10)).block, (ad.add (i.toNat * 10)).off + 8, none⟩ = some (.bool (rd_T30 xs i).f6) ∧ w.cell? ⟨(ad.add (i.toNat * 10)).block, (ad.add (i.toNat * 10)).off + 9, none⟩ = some (.int .i64 (rd_T30 xs i).f7)) ∧ Aside0 ((rd_T30 xs i).f0.f0.length ≤ c0) ∧ Aside0 (k156.C w A0 (rd_T30 xs i).f0.f0.length (rd_T30 xs i).f0.f0) ∧ Aside0 ((rd_T30 xs i).f1.length ≤ c2) ∧ Aside0 (k28.C w A2 (rd_T30 xs i).f1.length (rd_T30 xs i).f1) ∧ Aside0 ((rd_T30 xs i).f2.length ≤ c3) ∧ Aside0 (k113.C w A3 (rd_T30 xs i).f2.length (rd_T30 xs i).f2) := by
  obtain ⟨ad, A0, c0, A2, c2, A3, c3, e_, x0_, x1_, x2_, x3_, x4_, x5_, x6_, x7_, x8_, x9_, y0_, y1_, y2_, y3_, y4_, y5_⟩ := at_T30 h.out i h0 h1
  exact ⟨ad, A0, c0, A2, c2, A3, c3, e_, ⟨eq_true h0, eq_true h1, x0_, x1_, x2_, x3_, x4_, x5_, x6_, x7_, x8_, x9_⟩, ⟨y0_⟩, ⟨y1_⟩, ⟨y2_⟩, ⟨y3_⟩, ⟨y4_⟩, ⟨y5_⟩⟩
theorem split_ {W w1 : World} (_ : Below W.heap.size W w1) : ∃ N : Nat, N = W.heap.size := ⟨_, rfl⟩
section
variable {α : Type} {d : Kd α} {e base N : Nat} {ok : Nat → Prop} {W w1 : World} {v : Value} {xs : List α}
theorem splitB_ {W : World} {g : Nat} {o : Obj} (_ : W.heap[g]? = some o) : ∃ N : Nat, N = W.heap.size := ⟨_, rfl⟩
theorem soC_ (h : Kd.S d e W base ok v xs) (hN : N = W.heap.size) : Kd.S d e W base (fun k => ok k ∧ k < N) v xs := by
  subst hN
  exact Kd.S_mono (Kd.S_bound h) (fun _ h => ⟨h.1, h.2.2.1⟩)
theorem soN_ (h : Kd.S d e W base ok v xs) (hb : Below W.heap.size W w1) (hN : N = W.heap.size) : Kd.S d e w1 base (fun k => ok k ∧ k < N) v xs := by
  subst hN
  exact Kd.S_mono (Kd.S_below (Kd.S_bound h) hb) (fun _ h => ⟨h.1, h.2.2.1⟩)
theorem roN_ (h : d.R e W base ok v xs) (hb : Below W.heap.size W w1) (hN : N = W.heap.size) : d.R e w1 base (fun k => ok k ∧ k < N) v xs := by
  subst hN
  exact Kd.R_mono (Kd.R_below (Kd.R_bound h) hb) (fun _ h => ⟨h.1, h.2.2.1⟩)
theorem snN_ (h : Kd.S d e w1 W.heap.size ok v xs) (hN : N = W.heap.size) : Kd.S d e w1 W.heap.size (fun k => ok k ∧ N ≤ k) v xs := by
  subst hN
  exact Kd.S_mono (Kd.S_bound h) (fun _ h => ⟨h.1, h.2.1⟩)
theorem rnN_ (h : d.R e w1 W.heap.size ok v xs) (hN : N = W.heap.size) : d.R e w1 W.heap.size (fun k => ok k ∧ N ≤ k) v xs := by
  subst hN
  exact Kd.R_mono (Kd.R_bound h) (fun _ h => ⟨h.1, h.2.1⟩)
end
end Go.Proofs.Ytljeeiijepoenaa.PFnExactErase
