/- Functions of the program as plain Lean functions, each with a proof that the program's call comes to the same; no condition. Written by a program of this session. -/
import Derived.Test.YtohiakbkkmmjeaaGreatDoorProg
import Derived.Below
import Derived.Deep.Draws
import Derived.Deep.AppendLies
import Derived.Maps.AppendAt
import Derived.OwnWalk
import Derived.Laws.BytesArg
import Derived.Laws.MakeOwn
import Derived.Laws.OwnMore
import Derived.Deep.OwnRows
import Derived.Tactics
import Derived.Lib.ConvBytes
import Derived.Laws.Slices
import Derived.WalkKit
import Derived.KernelRfl
import Derived.RowKit3
import Derived.Deep.LoopGhost
import Derived.Deep.QuietTactic
import Derived.BigQuiet
import Derived.WideLaws
import Derived.Deep.DeepCutAuto
import Derived.Deep.CutBlock
import Derived.Deep.RegionHeld3
import Derived.Laws.Rows
import Derived.Lib.AppendStr
import Derived.ArgAppend
import Derived.Laws.IdiomCopy
import Derived.OrdersHeld
import Derived.Laws.BitsLemmas
import Derived.RowKit
import Derived.BigRegion
import Derived.RegionTactic
import Derived.ChangeAlike
import Derived.Test.YtohiakbkkmmjeaaGreatDoorVFnExactWorldTextShelf
import Derived.Test.YtohiakbkkmmjeaaGreatDoorVFnExactWorldTextGivenB
import Derived.Test.YtohiakbkkmmjeaaGreatDoorVFnExactWorldTextWords
import Derived.Test.YtohiakbkkmmjeaaGreatDoorVFnExactWorldTextLast
import Derived.Test.YtohiakbkkmmjeaaGreatDoorVFnExactWorldTextTab
import Derived.Test.YtohiakbkkmmjeaaGreatDoorVFnExactWorldTextApart
import Derived.Test.YtohiakbkkmmjeaaGreatDoorVFnExactWorldTextFoot
import Derived.Test.YtohiakbkkmmjeaaGreatDoorVFnExactWorldTextKept
import Derived.Test.YtohiakbkkmmjeaaGreatDoorVFnExactWorldTextShare
import Derived.Test.YtohiakbkkmmjeaaGreatDoorVFnExactWorldTextN
import Derived.Test.YtohiakbkkmmjeaaGreatDoorVFnExactWorldTextRepsOne
import Derived.Test.YtohiakbkkmmjeaaGreatDoorVFnExactWorldTextInv
import Derived.Test.YtohiakbkkmmjeaaGreatDoorVFnExactWorldTextGuard
import Derived.Test.YtohiakbkkmmjeaaGreatDoorVFnExactWorldTextMore
namespace Go.Proofs.YtohiakbkkmmjeaaGreatDoor.PFnExactWorldText
open Go.RowKit Go.Proofs.YtohiakbkkmmjeaaGreatDoorW.PrintWords Go.Proofs.YtohiakbkkmmjeaaGreatDoorW.PrintLast Go.Proofs.YtohiakbkkmmjeaaGreatDoorW.PrintMore
open Go.Proofs.YtohiakbkkmmjeaaGreatDoorW.PrintWords renaming below_alloc → Zba, pw_below_drewN → Zbn, below_drew1 → Zbd, blk_drewN → Zkn, blk_drew → Zkd, blk_alloc → Zka, blk_cell → Zkc, blk_far → Zkr
attribute [local go_sem] max2_int min2_int max_two min_two max_three min_three max_four min_four   -- for this text's walks alone
set_option linter.unusedVariables false
set_option linter.unusedSimpArgs false



def errW : Option Int → Value
  | none => .nilIface
  | some c => .iface 0 (.int .i64 c)
theorem errW_none : errW none = .nilIface := rfl
theorem errW_some (c : Int) : errW (some c) = .iface 0 (.int .i64 c) := rfl

/-- From W to W' there are only draws, and what is made. -/
structure Pl (W W' : World) : Prop where
  blk : ∀ {g : Nat} {o : Obj}, W.heap[g]? = some o → W'.heap[g]? = some o
  bel : ∀ {w : World}, Below w.heap.size w W → Below w.heap.size w W'
  cc : ∀ {α : Type} {d : Kd α} {A : Option Addr} {n : Nat} {xs : List α}, d.C W A n xs → d.C W' A n xs
  rr : ∀ {α : Type} {d : Kd α} {e base : Nat} {ok : Nat → Prop} {v : Value} {xs : List α}, Kd.R d e W base ok v xs → Kd.R d e W' base ok v xs
  ss : ∀ {α : Type} {d : Kd α} {e base : Nat} {ok : Nat → Prop} {v : Value} {xs : List α}, Kd.S d e W base ok v xs → Kd.S d e W' base ok v xs
instance pl_0 (W : World) : Nonempty (Pl W W) := ⟨⟨fun h => h, fun h => h, fun h => h, fun h => h, fun h => h⟩⟩
instance pl_n (W W' : World) (n : Nat) [h : Nonempty (Pl W W')] : Nonempty (Pl W (W'.drewN n)) := h.elim fun p => ⟨⟨fun x => Zkn (p.blk x) n, fun x => Zbn (p.bel x) n, fun x => Kd.C_drewN (p.cc x) n, fun x => Kd.R_drewN (p.rr x) n, fun x => Kd.S_drewN (p.ss x) n⟩⟩
instance pl_d (W W' : World) [h : Nonempty (Pl W W')] : Nonempty (Pl W W'.drew) := h.elim fun p => ⟨⟨fun x => Zkd (p.blk x), fun x => Zbd (p.bel x), fun x => Kd.C_drew (p.cc x), fun x => Kd.R_drew (p.rr x), fun x => Kd.S_drew (p.ss x)⟩⟩
instance pl_a (W W' : World) (o : Obj) [h : Nonempty (Pl W W')] : Nonempty (Pl W (W'.alloc o)) := h.elim fun p => ⟨⟨fun x => Zka (p.blk x) o, fun x => Zba (p.bel x) o, fun x => Kd.C_alloc (p.cc x) o, fun x => Kd.R_alloc (p.rr x) o, fun x => Kd.S_alloc (p.ss x) o⟩⟩
theorem pk {W W' : World} [h : Nonempty (Pl W W')] {g : Nat} {o : Obj} (x : W.heap[g]? = some o) : W'.heap[g]? = some o := h.elim fun p => p.blk x
theorem bk {W W' : World} [h : Nonempty (Pl W W')] {w : World} (x : Below w.heap.size w W) : Below w.heap.size w W' := h.elim fun p => p.bel x
theorem zf_ {w : World} {g : Nat} {t : TypeId} {cs : Array Value} {p : Addr} {u : Value} (zq_ : Aside0 (g ≠ p.block)) (h : w.heap[g]? = some (.cells cs t (0, 0))) : (w.setCell p u).heap[g]? = some (.cells cs t (0, 0)) := Zkr h zq_.out u
theorem zs_ {w : World} {g i : Nat} {u : Value} {t : TypeId} {cs : Array Value} (h : w.heap[g]? = some (.cells cs t (0, 0))) : (w.setCell ⟨g, i, none⟩ u).heap[g]? = some (.cells (cs.setIfInBounds i u) t (0, 0)) := blk_set h i u
/-- A block that is our own, behind stores: found by its place. -/
theorem zc_ {W : World} {g : Nat} {cs cs' : Array Value} {t : TypeId} (h : W.heap[g]? = some (.cells cs t (0, 0)) := by (with_reducible repeat (first | apply Go.Proofs.YtohiakbkkmmjeaaGreatDoor.PFnExactWorldText.zs_ | apply Go.Proofs.YtohiakbkkmmjeaaGreatDoorW.PrintWords.blk_drewN | apply Go.Proofs.YtohiakbkkmmjeaaGreatDoorW.PrintWords.blk_drew | apply Go.Proofs.YtohiakbkkmmjeaaGreatDoorW.PrintWords.blk_alloc | (apply Go.Proofs.YtohiakbkkmmjeaaGreatDoor.PFnExactWorldText.zf_; assumption))); with_reducible (apply Go.Proofs.YtohiakbkkmmjeaaGreatDoorW.PrintWords.Aside0.out; assumption)) (e : cs = cs' := by first | rfl | (simp only [List.drop_one]; rfl)) : W.heap[g]? = some (.cells cs' t (0, 0)) := e ▸ h
theorem hb_ {w W : World} (h : Below w.heap.size w W := by repeat (first | (with_reducible first | (refine Go.Proofs.YtohiakbkkmmjeaaGreatDoorW.PrintWords.Aside0.out ?_; assumption) | apply Go.Proofs.YtohiakbkkmmjeaaGreatDoorW.PrintWords.below_alloc | apply Go.Proofs.YtohiakbkkmmjeaaGreatDoorW.PrintWords.pw_below_drewN | apply Go.Proofs.YtohiakbkkmmjeaaGreatDoorW.PrintWords.below_drew1 | refine Go.Proofs.YtohiakbkkmmjeaaGreatDoorW.PrintWords.below_set ?_ (Go.Proofs.YtohiakbkkmmjeaaGreatDoorW.PrintWords.Aside0.out (by assumption))) | (refine Go.Proofs.YtohiakbkkmmjeaaGreatDoorW.PrintWords.Aside0.out ?_; assumption))) : Below w.heap.size w W := h
theorem fin_ {P : Prop} {w W W' : World} [Nonempty (Pl W W')] (hb : Aside0 (Below w.heap.size w W)) (h : P := by first | rfl | (simp [*] <;> rfl)) : P ∧ Below w.heap.size w W' := ⟨h, bk hb.out⟩
theorem ge_ {P : Program} {ops : Array Oper} {Q : Exit → Act → World → Prop} {rest : List Oper} {oi : Oper} {a : Act} {w : World} (N : Option Tmp) {f : FuncId} {fn : Func} {as_ : Array Operand} {ts : Array TypeId} (hf : P.funcs[f]? = some fn) (args : Array Value)
    (h : Calls P f args w fun e w' => ∃ v, e = .returned v ∧ wpList P ops Q rest (a.put N v) w') (hd : oi.dst = N := by rfl) (hg : oi.guard = none := by rfl) (hname : (fn.name == "runtime.NumGoroutine") = false := by kernel_rfl) (hb : fn.body.isSome = true := by rfl)
    (hop : oi.op = .call { callee := .value (.func f), args := as_, argTypes := ts } := by rfl) (hargs : as_.map a.eval = args := by (try simp only [List.map_toArray, List.map_cons, List.map_nil]); first | done | rfl | (simp only [List.length_drop, List.length_take]; rfl)) : wpList P ops Q (oi :: rest) a w :=
  goesL_ N hd hg hf hname hb args hop hargs h
theorem hx_ {w W : World} {b : Nat} {p : Addr} {v : Value} (hb : Aside0 (Below b w W)) (h : w.cell? p = some v) (hl : p.block < b) : W.cell? p = some v := (hb.out.cell hl).trans h
theorem ie_ {l : List UInt8} {b : Bool} (h : (l == ([] : List UInt8)) = b) : l.isEmpty = b := by cases l <;> exact h
theorem bne_ {α : Type} [BEq α] {a b : α} {c : Bool} (h : (a != b) = c) : (!(a == b)) = c := h
theorem pc {W W' : World} [h : Nonempty (Pl W W')] {α : Type} {d : Kd α} {A : Option Addr} {n : Nat} {xs : List α} (x : d.C W A n xs) : d.C W' A n xs := h.elim fun p => p.cc x
theorem tabIs_below {P : Program} {w w' : World} {name : String} {cs : Array Value} (h : w.var? P name = some cs) (hb : Below w.heap.size w w') : w'.var? P name = some cs := by
  unfold World.var? at *
  cases hg : P.globalNamed name with
  | none => simp [hg] at h
  | some g =>
    simp only [hg, Option.bind_some] at h ⊢
    have hlt : g < w.heap.size := by
      rcases Nat.lt_or_ge g w.heap.size with h' | h'
      · exact h'
      · rw [Array.getElem?_eq_none h'] at h; simp at h
    rw [hb.block g hlt]
    exact h
/-- What the library's own variables hold. -/
structure Tabs (w : World) : Prop where
  tab : Go.Lib.TabIs Tryz.prog w "internal/strconv.uint64pow10" .u64 Go.Lib.pow10Tab
theorem tabs_below {w w' : World} (h : Tabs w) (hb : Below w.heap.size w w') : Tabs w' := ⟨tabIs_below h.tab hb⟩
/-- The same, behind what was made since: found by itself. -/
theorem tab_ {w W : World} (ht : Aside0 (Tabs w) := by (with_reducible assumption)) (hb : Below w.heap.size w W := by exact hb_) : Tabs W := tabs_below ht.out hb
theorem cz2 {W : World} {g : Nat} {v0 v1 : Value} {t : TypeId} (h : W.heap[g]? = some (.cells #[v0, v1] t (0, 0))) : W.cell? ⟨g, 0, none⟩ = some v0 ∧ W.cell? ⟨g, 1, none⟩ = some v1 := ⟨(Zkc h 0).trans rfl, (Zkc h 1).trans rfl⟩
theorem cf2 {W : World} {g : Nat} {v0 v1 : Value} {t : TypeId} (h : W.heap[g]? = some (.cells #[v0, v1] t (0, 0))) : W.cell? ⟨g, 0, none⟩ = some v0 ∧ W.cell? ⟨g, 1, none⟩ = some v1 ∧ W.frozen? ⟨g, 0, none⟩ = false ∧ W.frozen? ⟨g, 1, none⟩ = false := by
  obtain ⟨h0, h1⟩ := cz2 h
  exact ⟨h0, h1, (by simp [World.frozen?, h]), (by simp [World.frozen?, h])⟩
theorem cz3 {W : World} {g : Nat} {v0 v1 v2 : Value} {t : TypeId} (h : W.heap[g]? = some (.cells #[v0, v1, v2] t (0, 0))) : W.cell? ⟨g, 0, none⟩ = some v0 ∧ W.cell? ⟨g, 1, none⟩ = some v1 ∧ W.cell? ⟨g, 2, none⟩ = some v2 := ⟨(Zkc h 0).trans rfl, (Zkc h 1).trans rfl, (Zkc h 2).trans rfl⟩
theorem cf3 {W : World} {g : Nat} {v0 v1 v2 : Value} {t : TypeId} (h : W.heap[g]? = some (.cells #[v0, v1, v2] t (0, 0))) : W.cell? ⟨g, 0, none⟩ = some v0 ∧ W.cell? ⟨g, 1, none⟩ = some v1 ∧ W.cell? ⟨g, 2, none⟩ = some v2 ∧ W.frozen? ⟨g, 0, none⟩ = false ∧ W.frozen? ⟨g, 1, none⟩ = false ∧ W.frozen? ⟨g, 2, none⟩ = false := by
  obtain ⟨h0, h1, h2⟩ := cz3 h
  exact ⟨h0, h1, h2, (by simp [World.frozen?, h]), (by simp [World.frozen?, h]), (by simp [World.frozen?, h])⟩
theorem cz4 {W : World} {g : Nat} {v0 v1 v2 v3 : Value} {t : TypeId} (h : W.heap[g]? = some (.cells #[v0, v1, v2, v3] t (0, 0))) : W.cell? ⟨g, 0, none⟩ = some v0 ∧ W.cell? ⟨g, 1, none⟩ = some v1 ∧ W.cell? ⟨g, 2, none⟩ = some v2 ∧ W.cell? ⟨g, 3, none⟩ = some v3 := ⟨(Zkc h 0).trans rfl, (Zkc h 1).trans rfl, (Zkc h 2).trans rfl, (Zkc h 3).trans rfl⟩
theorem cf4 {W : World} {g : Nat} {v0 v1 v2 v3 : Value} {t : TypeId} (h : W.heap[g]? = some (.cells #[v0, v1, v2, v3] t (0, 0))) : W.cell? ⟨g, 0, none⟩ = some v0 ∧ W.cell? ⟨g, 1, none⟩ = some v1 ∧ W.cell? ⟨g, 2, none⟩ = some v2 ∧ W.cell? ⟨g, 3, none⟩ = some v3 ∧ W.frozen? ⟨g, 0, none⟩ = false ∧ W.frozen? ⟨g, 1, none⟩ = false ∧ W.frozen? ⟨g, 2, none⟩ = false ∧ W.frozen? ⟨g, 3, none⟩ = false := by
  obtain ⟨h0, h1, h2, h3⟩ := cz4 h
  exact ⟨h0, h1, h2, h3, (by simp [World.frozen?, h]), (by simp [World.frozen?, h]), (by simp [World.frozen?, h]), (by simp [World.frozen?, h])⟩
theorem cz5 {W : World} {g : Nat} {v0 v1 v2 v3 v4 : Value} {t : TypeId} (h : W.heap[g]? = some (.cells #[v0, v1, v2, v3, v4] t (0, 0))) : W.cell? ⟨g, 0, none⟩ = some v0 ∧ W.cell? ⟨g, 1, none⟩ = some v1 ∧ W.cell? ⟨g, 2, none⟩ = some v2 ∧ W.cell? ⟨g, 3, none⟩ = some v3 ∧ W.cell? ⟨g, 4, none⟩ = some v4 := ⟨(Zkc h 0).trans rfl, (Zkc h 1).trans rfl, (Zkc h 2).trans rfl, (Zkc h 3).trans rfl, (Zkc h 4).trans rfl⟩
theorem cf5 {W : World} {g : Nat} {v0 v1 v2 v3 v4 : Value} {t : TypeId} (h : W.heap[g]? = some (.cells #[v0, v1, v2, v3, v4] t (0, 0))) : W.cell? ⟨g, 0, none⟩ = some v0 ∧ W.cell? ⟨g, 1, none⟩ = some v1 ∧ W.cell? ⟨g, 2, none⟩ = some v2 ∧ W.cell? ⟨g, 3, none⟩ = some v3 ∧ W.cell? ⟨g, 4, none⟩ = some v4 ∧ W.frozen? ⟨g, 0, none⟩ = false ∧ W.frozen? ⟨g, 1, none⟩ = false ∧ W.frozen? ⟨g, 2, none⟩ = false ∧ W.frozen? ⟨g, 3, none⟩ = false ∧ W.frozen? ⟨g, 4, none⟩ = false := by
  obtain ⟨h0, h1, h2, h3, h4⟩ := cz5 h
  exact ⟨h0, h1, h2, h3, h4, (by simp [World.frozen?, h]), (by simp [World.frozen?, h]), (by simp [World.frozen?, h]), (by simp [World.frozen?, h]), (by simp [World.frozen?, h])⟩
theorem cz6 {W : World} {g : Nat} {v0 v1 v2 v3 v4 v5 : Value} {t : TypeId} (h : W.heap[g]? = some (.cells #[v0, v1, v2, v3, v4, v5] t (0, 0))) : W.cell? ⟨g, 0, none⟩ = some v0 ∧ W.cell? ⟨g, 1, none⟩ = some v1 ∧ W.cell? ⟨g, 2, none⟩ = some v2 ∧ W.cell? ⟨g, 3, none⟩ = some v3 ∧ W.cell? ⟨g, 4, none⟩ = some v4 ∧ W.cell? ⟨g, 5, none⟩ = some v5 := ⟨(Zkc h 0).trans rfl, (Zkc h 1).trans rfl, (Zkc h 2).trans rfl, (Zkc h 3).trans rfl, (Zkc h 4).trans rfl, (Zkc h 5).trans rfl⟩
theorem cf6 {W : World} {g : Nat} {v0 v1 v2 v3 v4 v5 : Value} {t : TypeId} (h : W.heap[g]? = some (.cells #[v0, v1, v2, v3, v4, v5] t (0, 0))) : W.cell? ⟨g, 0, none⟩ = some v0 ∧ W.cell? ⟨g, 1, none⟩ = some v1 ∧ W.cell? ⟨g, 2, none⟩ = some v2 ∧ W.cell? ⟨g, 3, none⟩ = some v3 ∧ W.cell? ⟨g, 4, none⟩ = some v4 ∧ W.cell? ⟨g, 5, none⟩ = some v5 ∧ W.frozen? ⟨g, 0, none⟩ = false ∧ W.frozen? ⟨g, 1, none⟩ = false ∧ W.frozen? ⟨g, 2, none⟩ = false ∧ W.frozen? ⟨g, 3, none⟩ = false ∧ W.frozen? ⟨g, 4, none⟩ = false ∧ W.frozen? ⟨g, 5, none⟩ = false := by
  obtain ⟨h0, h1, h2, h3, h4, h5⟩ := cz6 h
  exact ⟨h0, h1, h2, h3, h4, h5, (by simp [World.frozen?, h]), (by simp [World.frozen?, h]), (by simp [World.frozen?, h]), (by simp [World.frozen?, h]), (by simp [World.frozen?, h]), (by simp [World.frozen?, h])⟩
theorem cz9 {W : World} {g : Nat} {v0 v1 v2 v3 v4 v5 v6 v7 v8 : Value} {t : TypeId} (h : W.heap[g]? = some (.cells #[v0, v1, v2, v3, v4, v5, v6, v7, v8] t (0, 0))) : W.cell? ⟨g, 0, none⟩ = some v0 ∧ W.cell? ⟨g, 1, none⟩ = some v1 ∧ W.cell? ⟨g, 2, none⟩ = some v2 ∧ W.cell? ⟨g, 3, none⟩ = some v3 ∧ W.cell? ⟨g, 4, none⟩ = some v4 ∧ W.cell? ⟨g, 5, none⟩ = some v5 ∧ W.cell? ⟨g, 6, none⟩ = some v6 ∧ W.cell? ⟨g, 7, none⟩ = some v7 ∧ W.cell? ⟨g, 8, none⟩ = some v8 := ⟨(Zkc h 0).trans rfl, (Zkc h 1).trans rfl, (Zkc h 2).trans rfl, (Zkc h 3).trans rfl, (Zkc h 4).trans rfl, (Zkc h 5).trans rfl, (Zkc h 6).trans rfl, (Zkc h 7).trans rfl, (Zkc h 8).trans rfl⟩
theorem cf9 {W : World} {g : Nat} {v0 v1 v2 v3 v4 v5 v6 v7 v8 : Value} {t : TypeId} (h : W.heap[g]? = some (.cells #[v0, v1, v2, v3, v4, v5, v6, v7, v8] t (0, 0))) : W.cell? ⟨g, 0, none⟩ = some v0 ∧ W.cell? ⟨g, 1, none⟩ = some v1 ∧ W.cell? ⟨g, 2, none⟩ = some v2 ∧ W.cell? ⟨g, 3, none⟩ = some v3 ∧ W.cell? ⟨g, 4, none⟩ = some v4 ∧ W.cell? ⟨g, 5, none⟩ = some v5 ∧ W.cell? ⟨g, 6, none⟩ = some v6 ∧ W.cell? ⟨g, 7, none⟩ = some v7 ∧ W.cell? ⟨g, 8, none⟩ = some v8 ∧ W.frozen? ⟨g, 0, none⟩ = false ∧ W.frozen? ⟨g, 1, none⟩ = false ∧ W.frozen? ⟨g, 2, none⟩ = false ∧ W.frozen? ⟨g, 3, none⟩ = false ∧ W.frozen? ⟨g, 4, none⟩ = false ∧ W.frozen? ⟨g, 5, none⟩ = false ∧ W.frozen? ⟨g, 6, none⟩ = false ∧ W.frozen? ⟨g, 7, none⟩ = false ∧ W.frozen? ⟨g, 8, none⟩ = false := by
  obtain ⟨h0, h1, h2, h3, h4, h5, h6, h7, h8⟩ := cz9 h
  exact ⟨h0, h1, h2, h3, h4, h5, h6, h7, h8, (by simp [World.frozen?, h]), (by simp [World.frozen?, h]), (by simp [World.frozen?, h]), (by simp [World.frozen?, h]), (by simp [World.frozen?, h]), (by simp [World.frozen?, h]), (by simp [World.frozen?, h]), (by simp [World.frozen?, h]), (by simp [World.frozen?, h])⟩
theorem info4 : (Tryz.prog.info? 4).map (fun i => (i.zero, i.size, i.bytes)) = some (some (.bool false), 1, 1) := by kernel_rfl
theorem info5 : (Tryz.prog.info? 5).map (fun i => (i.zero, i.size, i.bytes)) = some (some (.int .u8 0), 1, 1) := by kernel_rfl
theorem info9 : (Tryz.prog.info? 9).map (fun i => (i.zero, i.size, i.bytes)) = some (some (.string ⟨#[]⟩), 1, 16) := by kernel_rfl
theorem info31 : (Tryz.prog.info? 31).map (fun i => (i.zero, i.size, i.bytes)) = some (some (.agg #[(.string ⟨#[]⟩), (.string ⟨#[]⟩), (.bool false), (.bool false), (.slice none 0 0), (.slice none 0 0)]), 6, 88) := by kernel_rfl
theorem info67 : (Tryz.prog.info? 67).map (fun i => (i.zero, i.size, i.bytes)) = some (some (.agg #[(.string ⟨#[]⟩), (.string ⟨#[]⟩), (.bool false)]), 3, 40) := by kernel_rfl
theorem info71 : (Tryz.prog.info? 71).map (fun i => (i.zero, i.size, i.bytes)) = some (some (.agg #[(.string ⟨#[]⟩), (.string ⟨#[]⟩), (.bool false), (.bool false), (.bool false), (.int .i64 0), (.int .i64 0), (.slice none 0 0), (.slice none 0 0)]), 9, 104) := by kernel_rfl
theorem info77 : (Tryz.prog.info? 77).map (fun i => (i.zero, i.size, i.bytes)) = some (some (.agg #[(.int .i64 0), (.int .i64 0), (.string ⟨#[]⟩), (.string ⟨#[]⟩), (.string ⟨#[]⟩)]), 5, 64) := by kernel_rfl
theorem info79 : (Tryz.prog.info? 79).map (fun i => (i.zero, i.size, i.bytes)) = some (some (.agg #[(.int .i64 0), (.int .i64 0), (.int .i64 0), (.string ⟨#[]⟩)]), 4, 40) := by kernel_rfl
-- the values' own types
/-! #### struct type 60 -/
structure S60 where
  f0 : ByteArray
  f1 : ByteArray
  f2 : Bool
def z60 : S60 := ⟨(⟨#[]⟩ : ByteArray), (⟨#[]⟩ : ByteArray), false⟩
def k60 : Kd S60 := Kd.iso (Kd.pair Kd.string (Kd.pair Kd.string Kd.bool)) (fun x : S60 => (x.f0, x.f1, x.f2))
theorem k60_open {w : World} {x : S60} {cs : List Value} (h : k60.K w x cs) : cs = [.string x.f0, .string x.f1, .bool x.f2] := by
  obtain ⟨_, _, rfl, rfl, ⟨_, _, rfl, rfl, rfl⟩⟩ := h
  exact rfl
theorem k60_openM {w : World} {base : Nat} {ok : Nat → Prop} {x : S60} {cs : List Value} (h : k60.M w base ok x cs) : cs = [.string x.f0, .string x.f1, .bool x.f2] := by
  obtain ⟨_, _, rfl, rfl, ⟨_, _, rfl, rfl, rfl⟩⟩ := h
  exact rfl
theorem k60_mk (w : World) (x : S60)  : k60.K w x [.string x.f0, .string x.f1, .bool x.f2] := ⟨[.string x.f0], [.string x.f1, .bool x.f2], rfl, rfl, ⟨[.string x.f1], [.bool x.f2], rfl, rfl, rfl⟩⟩
theorem k60_mkM (w : World) (base : Nat) (ok : Nat → Prop) (x : S60)  : k60.M w base ok x [.string x.f0, .string x.f1, .bool x.f2] := ⟨[.string x.f0], [.string x.f1, .bool x.f2], rfl, rfl, ⟨[.string x.f1], [.bool x.f2], rfl, rfl, rfl⟩⟩
def rd_T60 (xs : List S60) (i : Int) : S60 := xs.getD i.toNat z60
theorem at_T60 {w : World} {A : Option Addr} {n : Nat} {xs : List S60} (h : Kd.C k60 w A n xs) (i : Int) (h0 : 0 ≤ i) (h1 : i < n) : ∃ ad , A = some ad ∧ w.cell? (ad.add (i.toNat * 3)) = some (.string (rd_T60 xs i).f0) ∧ w.cell? ⟨(ad.add (i.toNat * 3)).block, (ad.add (i.toNat * 3)).off + 1, none⟩ = some (.string (rd_T60 xs i).f1) ∧ w.cell? ⟨(ad.add (i.toNat * 3)).block, (ad.add (i.toNat * 3)).off + 2, none⟩ = some (.bool (rd_T60 xs i).f2) := by
  obtain ⟨ad, c, e, _, hK, hc0⟩ := Kd.C_get h z60 i h0 h1
  have hc : ∀ j u, c[j]? = some u → w.cell? (ad.add (i.toNat * 3 + j)) = some u := hc0
  obtain rfl := k60_open hK
  exact ⟨ad, e, hc 0 _ rfl, by rw [← add_field _ _ 1 (by omega)]; exact hc 1 _ rfl, by rw [← add_field _ _ 2 (by omega)]; exact hc 2 _ rfl⟩

/-! #### struct type 121 -/
structure S121 where
  f0 : Int
  f1 : Int
  f2 : ByteArray
  f3 : ByteArray
  f4 : ByteArray
def z121 : S121 := ⟨(0 : Int), (0 : Int), (⟨#[]⟩ : ByteArray), (⟨#[]⟩ : ByteArray), (⟨#[]⟩ : ByteArray)⟩
def k121 : Kd S121 := Kd.iso (Kd.pair (Kd.int .i64) (Kd.pair (Kd.int .i64) (Kd.pair Kd.string (Kd.pair Kd.string Kd.string)))) (fun x : S121 => (x.f0, x.f1, x.f2, x.f3, x.f4))
theorem k121_open {w : World} {x : S121} {cs : List Value} (h : k121.K w x cs) : cs = [.int .i64 x.f0, .int .i64 x.f1, .string x.f2, .string x.f3, .string x.f4] := by
  obtain ⟨_, _, rfl, rfl, ⟨_, _, rfl, rfl, ⟨_, _, rfl, rfl, ⟨_, _, rfl, rfl, rfl⟩⟩⟩⟩ := h
  exact rfl
theorem k121_openM {w : World} {base : Nat} {ok : Nat → Prop} {x : S121} {cs : List Value} (h : k121.M w base ok x cs) : cs = [.int .i64 x.f0, .int .i64 x.f1, .string x.f2, .string x.f3, .string x.f4] := by
  obtain ⟨_, _, rfl, rfl, ⟨_, _, rfl, rfl, ⟨_, _, rfl, rfl, ⟨_, _, rfl, rfl, rfl⟩⟩⟩⟩ := h
  exact rfl
theorem k121_mk (w : World) (x : S121)  : k121.K w x [.int .i64 x.f0, .int .i64 x.f1, .string x.f2, .string x.f3, .string x.f4] := ⟨[.int .i64 x.f0], [.int .i64 x.f1, .string x.f2, .string x.f3, .string x.f4], rfl, rfl, ⟨[.int .i64 x.f1], [.string x.f2, .string x.f3, .string x.f4], rfl, rfl, ⟨[.string x.f2], [.string x.f3, .string x.f4], rfl, rfl, ⟨[.string x.f3], [.string x.f4], rfl, rfl, rfl⟩⟩⟩⟩
theorem k121_mkM (w : World) (base : Nat) (ok : Nat → Prop) (x : S121)  : k121.M w base ok x [.int .i64 x.f0, .int .i64 x.f1, .string x.f2, .string x.f3, .string x.f4] := ⟨[.int .i64 x.f0], [.int .i64 x.f1, .string x.f2, .string x.f3, .string x.f4], rfl, rfl, ⟨[.int .i64 x.f1], [.string x.f2, .string x.f3, .string x.f4], rfl, rfl, ⟨[.string x.f2], [.string x.f3, .string x.f4], rfl, rfl, ⟨[.string x.f3], [.string x.f4], rfl, rfl, rfl⟩⟩⟩⟩
def rd_T121 (xs : List S121) (i : Int) : S121 := xs.getD i.toNat z121
theorem at_T121 {w : World} {A : Option Addr} {n : Nat} {xs : List S121} (h : Kd.C k121 w A n xs) (i : Int) (h0 : 0 ≤ i) (h1 : i < n) : ∃ ad , A = some ad ∧ w.cell? (ad.add (i.toNat * 5)) = some (.int .i64 (rd_T121 xs i).f0) ∧ w.cell? ⟨(ad.add (i.toNat * 5)).block, (ad.add (i.toNat * 5)).off + 1, none⟩ = some (.int .i64 (rd_T121 xs i).f1) ∧ w.cell? ⟨(ad.add (i.toNat * 5)).block, (ad.add (i.toNat * 5)).off + 2, none⟩ = some (.string (rd_T121 xs i).f2) ∧ w.cell? ⟨(ad.add (i.toNat * 5)).block, (ad.add (i.toNat * 5)).off + 3, none⟩ = some (.string (rd_T121 xs i).f3) ∧ w.cell? ⟨(ad.add (i.toNat * 5)).block, (ad.add (i.toNat * 5)).off + 4, none⟩ = some (.string (rd_T121 xs i).f4) := by
  obtain ⟨ad, c, e, _, hK, hc0⟩ := Kd.C_get h z121 i h0 h1
  have hc : ∀ j u, c[j]? = some u → w.cell? (ad.add (i.toNat * 5 + j)) = some u := hc0
  obtain rfl := k121_open hK
  exact ⟨ad, e, hc 0 _ rfl, by rw [← add_field _ _ 1 (by omega)]; exact hc 1 _ rfl, by rw [← add_field _ _ 2 (by omega)]; exact hc 2 _ rfl, by rw [← add_field _ _ 3 (by omega)]; exact hc 3 _ rfl, by rw [← add_field _ _ 4 (by omega)]; exact hc 4 _ rfl⟩

/-! #### struct type 123 -/
structure S123 where
  f0 : Int
  f1 : Int
  f2 : Int
  f3 : ByteArray
def z123 : S123 := ⟨(0 : Int), (0 : Int), (0 : Int), (⟨#[]⟩ : ByteArray)⟩
def k123 : Kd S123 := Kd.iso (Kd.pair (Kd.int .i64) (Kd.pair (Kd.int .i64) (Kd.pair (Kd.int .i64) Kd.string))) (fun x : S123 => (x.f0, x.f1, x.f2, x.f3))
theorem k123_open {w : World} {x : S123} {cs : List Value} (h : k123.K w x cs) : cs = [.int .i64 x.f0, .int .i64 x.f1, .int .i64 x.f2, .string x.f3] := by
  obtain ⟨_, _, rfl, rfl, ⟨_, _, rfl, rfl, ⟨_, _, rfl, rfl, rfl⟩⟩⟩ := h
  exact rfl
theorem k123_openM {w : World} {base : Nat} {ok : Nat → Prop} {x : S123} {cs : List Value} (h : k123.M w base ok x cs) : cs = [.int .i64 x.f0, .int .i64 x.f1, .int .i64 x.f2, .string x.f3] := by
  obtain ⟨_, _, rfl, rfl, ⟨_, _, rfl, rfl, ⟨_, _, rfl, rfl, rfl⟩⟩⟩ := h
  exact rfl
theorem k123_mk (w : World) (x : S123)  : k123.K w x [.int .i64 x.f0, .int .i64 x.f1, .int .i64 x.f2, .string x.f3] := ⟨[.int .i64 x.f0], [.int .i64 x.f1, .int .i64 x.f2, .string x.f3], rfl, rfl, ⟨[.int .i64 x.f1], [.int .i64 x.f2, .string x.f3], rfl, rfl, ⟨[.int .i64 x.f2], [.string x.f3], rfl, rfl, rfl⟩⟩⟩
theorem k123_mkM (w : World) (base : Nat) (ok : Nat → Prop) (x : S123)  : k123.M w base ok x [.int .i64 x.f0, .int .i64 x.f1, .int .i64 x.f2, .string x.f3] := ⟨[.int .i64 x.f0], [.int .i64 x.f1, .int .i64 x.f2, .string x.f3], rfl, rfl, ⟨[.int .i64 x.f1], [.int .i64 x.f2, .string x.f3], rfl, rfl, ⟨[.int .i64 x.f2], [.string x.f3], rfl, rfl, rfl⟩⟩⟩
def rd_T123 (xs : List S123) (i : Int) : S123 := xs.getD i.toNat z123
theorem at_T123 {w : World} {A : Option Addr} {n : Nat} {xs : List S123} (h : Kd.C k123 w A n xs) (i : Int) (h0 : 0 ≤ i) (h1 : i < n) : ∃ ad , A = some ad ∧ w.cell? (ad.add (i.toNat * 4)) = some (.int .i64 (rd_T123 xs i).f0) ∧ w.cell? ⟨(ad.add (i.toNat * 4)).block, (ad.add (i.toNat * 4)).off + 1, none⟩ = some (.int .i64 (rd_T123 xs i).f1) ∧ w.cell? ⟨(ad.add (i.toNat * 4)).block, (ad.add (i.toNat * 4)).off + 2, none⟩ = some (.int .i64 (rd_T123 xs i).f2) ∧ w.cell? ⟨(ad.add (i.toNat * 4)).block, (ad.add (i.toNat * 4)).off + 3, none⟩ = some (.string (rd_T123 xs i).f3) := by
  obtain ⟨ad, c, e, _, hK, hc0⟩ := Kd.C_get h z123 i h0 h1
  have hc : ∀ j u, c[j]? = some u → w.cell? (ad.add (i.toNat * 4 + j)) = some u := hc0
  obtain rfl := k123_open hK
  exact ⟨ad, e, hc 0 _ rfl, by rw [← add_field _ _ 1 (by omega)]; exact hc 1 _ rfl, by rw [← add_field _ _ 2 (by omega)]; exact hc 2 _ rfl, by rw [← add_field _ _ 3 (by omega)]; exact hc 3 _ rfl⟩

def rd_L6 (xs : List (List S121)) (i : Int) : (List S121) := xs.getD i.toNat ([] : List S121)
theorem at_L6 {w : World} {A : Option Addr} {n : Nat} {xs : List (List S121)} (h : Kd.C (Kd.slice 121 k121) w A n xs) (i : Int) (h0 : 0 ≤ i) (h1 : i < n) : ∃ ad A0 c0, A = some ad ∧ w.cell? (ad.add i.toNat) = some (.slice A0 (rd_L6 xs i).length c0) ∧ (rd_L6 xs i).length ≤ c0 ∧ k121.C w A0 (rd_L6 xs i).length (rd_L6 xs i) := by
  obtain ⟨ad, c, e, _, hK, hc0⟩ := Kd.C_get h ([] : List S121) i h0 h1
  have hc : ∀ j u, c[j]? = some u → w.cell? (ad.add (i.toNat * 1 + j)) = some u := hc0
  obtain ⟨A0, c0, rfl, l0, g0⟩ := hK
  exact ⟨ad, A0, c0, e, by have hq := hc 0 _ rfl; rwa [Nat.mul_one, Nat.add_zero] at hq, l0, g0⟩

def rd_L7 (xs : List (List S123)) (i : Int) : (List S123) := xs.getD i.toNat ([] : List S123)
theorem at_L7 {w : World} {A : Option Addr} {n : Nat} {xs : List (List S123)} (h : Kd.C (Kd.slice 123 k123) w A n xs) (i : Int) (h0 : 0 ≤ i) (h1 : i < n) : ∃ ad A0 c0, A = some ad ∧ w.cell? (ad.add i.toNat) = some (.slice A0 (rd_L7 xs i).length c0) ∧ (rd_L7 xs i).length ≤ c0 ∧ k123.C w A0 (rd_L7 xs i).length (rd_L7 xs i) := by
  obtain ⟨ad, c, e, _, hK, hc0⟩ := Kd.C_get h ([] : List S123) i h0 h1
  have hc : ∀ j u, c[j]? = some u → w.cell? (ad.add (i.toNat * 1 + j)) = some u := hc0
  obtain ⟨A0, c0, rfl, l0, g0⟩ := hK
  exact ⟨ad, A0, c0, e, by have hq := hc 0 _ rfl; rwa [Nat.mul_one, Nat.add_zero] at hq, l0, g0⟩

/-! #### struct type 65 -/
structure S65 where
  f0 : ByteArray
  f1 : ByteArray
  f2 : Bool
  f3 : Bool
  f4 : Bool
  f5 : Int
  f6 : Int
  f7 : (List S121)
  f8 : (List S123)
def z65 : S65 := ⟨(⟨#[]⟩ : ByteArray), (⟨#[]⟩ : ByteArray), false, false, false, (0 : Int), (0 : Int), ([] : List S121), ([] : List S123)⟩
def k65 : Kd S65 := Kd.iso (Kd.pair Kd.string (Kd.pair Kd.string (Kd.pair Kd.bool (Kd.pair Kd.bool (Kd.pair Kd.bool (Kd.pair (Kd.int .i64) (Kd.pair (Kd.int .i64) (Kd.pair (Kd.slice 121 k121) (Kd.slice 123 k123))))))))) (fun x : S65 => (x.f0, x.f1, x.f2, x.f3, x.f4, x.f5, x.f6, x.f7, x.f8))
theorem k65_open {w : World} {x : S65} {cs : List Value} (h : k65.K w x cs) : ∃ A7 c7 A8 c8, cs = [.string x.f0, .string x.f1, .bool x.f2, .bool x.f3, .bool x.f4, .int .i64 x.f5, .int .i64 x.f6, .slice A7 x.f7.length c7, .slice A8 x.f8.length c8] ∧ x.f7.length ≤ c7 ∧ k121.C w A7 x.f7.length x.f7 ∧ x.f8.length ≤ c8 ∧ k123.C w A8 x.f8.length x.f8 := by
  obtain ⟨_, _, rfl, rfl, ⟨_, _, rfl, rfl, ⟨_, _, rfl, rfl, ⟨_, _, rfl, rfl, ⟨_, _, rfl, rfl, ⟨_, _, rfl, rfl, ⟨_, _, rfl, rfl, ⟨_, _, rfl, ⟨A7, c7, rfl, l7, g7⟩, ⟨A8, c8, rfl, l8, g8⟩⟩⟩⟩⟩⟩⟩⟩⟩ := h
  exact ⟨A7, c7, A8, c8, rfl, l7, g7, l8, g8⟩
theorem k65_openM {w : World} {base : Nat} {ok : Nat → Prop} {x : S65} {cs : List Value} (h : k65.M w base ok x cs) : ∃ v7 v8, cs = [.string x.f0, .string x.f1, .bool x.f2, .bool x.f3, .bool x.f4, .int .i64 x.f5, .int .i64 x.f6, v7, v8] ∧ k121.R 121 w base ok v7 x.f7 ∧ k123.R 123 w base ok v8 x.f8 := by
  obtain ⟨_, _, rfl, rfl, ⟨_, _, rfl, rfl, ⟨_, _, rfl, rfl, ⟨_, _, rfl, rfl, ⟨_, _, rfl, rfl, ⟨_, _, rfl, rfl, ⟨_, _, rfl, rfl, ⟨_, _, rfl, ⟨v7, rfl, g7⟩, ⟨v8, rfl, g8⟩⟩⟩⟩⟩⟩⟩⟩⟩ := h
  exact ⟨v7, v8, rfl, g7, g8⟩
theorem k65_mk (w : World) (x : S65) {A7 : Option Addr} {c7 : Nat} (l7 : x.f7.length ≤ c7) (g7 : k121.C w A7 x.f7.length x.f7) {A8 : Option Addr} {c8 : Nat} (l8 : x.f8.length ≤ c8) (g8 : k123.C w A8 x.f8.length x.f8) : k65.K w x [.string x.f0, .string x.f1, .bool x.f2, .bool x.f3, .bool x.f4, .int .i64 x.f5, .int .i64 x.f6, .slice A7 x.f7.length c7, .slice A8 x.f8.length c8] := ⟨[.string x.f0], [.string x.f1, .bool x.f2, .bool x.f3, .bool x.f4, .int .i64 x.f5, .int .i64 x.f6, .slice A7 x.f7.length c7, .slice A8 x.f8.length c8], rfl, rfl, ⟨[.string x.f1], [.bool x.f2, .bool x.f3, .bool x.f4, .int .i64 x.f5, .int .i64 x.f6, .slice A7 x.f7.length c7, .slice A8 x.f8.length c8], rfl, rfl, ⟨[.bool x.f2], [.bool x.f3, .bool x.f4, .int .i64 x.f5, .int .i64 x.f6, .slice A7 x.f7.length c7, .slice A8 x.f8.length c8], rfl, rfl, ⟨[.bool x.f3], [.bool x.f4, .int .i64 x.f5, .int .i64 x.f6, .slice A7 x.f7.length c7, .slice A8 x.f8.length c8], rfl, rfl, ⟨[.bool x.f4], [.int .i64 x.f5, .int .i64 x.f6, .slice A7 x.f7.length c7, .slice A8 x.f8.length c8], rfl, rfl, ⟨[.int .i64 x.f5], [.int .i64 x.f6, .slice A7 x.f7.length c7, .slice A8 x.f8.length c8], rfl, rfl, ⟨[.int .i64 x.f6], [.slice A7 x.f7.length c7, .slice A8 x.f8.length c8], rfl, rfl, ⟨[.slice A7 x.f7.length c7], [.slice A8 x.f8.length c8], rfl, ⟨A7, c7, rfl, l7, g7⟩, ⟨A8, c8, rfl, l8, g8⟩⟩⟩⟩⟩⟩⟩⟩⟩
theorem k65_mkM (w : World) (base : Nat) (ok : Nat → Prop) (x : S65) {v7 : Value} (g7 : k121.R 121 w base ok v7 x.f7) {v8 : Value} (g8 : k123.R 123 w base ok v8 x.f8) : k65.M w base ok x [.string x.f0, .string x.f1, .bool x.f2, .bool x.f3, .bool x.f4, .int .i64 x.f5, .int .i64 x.f6, v7, v8] := ⟨[.string x.f0], [.string x.f1, .bool x.f2, .bool x.f3, .bool x.f4, .int .i64 x.f5, .int .i64 x.f6, v7, v8], rfl, rfl, ⟨[.string x.f1], [.bool x.f2, .bool x.f3, .bool x.f4, .int .i64 x.f5, .int .i64 x.f6, v7, v8], rfl, rfl, ⟨[.bool x.f2], [.bool x.f3, .bool x.f4, .int .i64 x.f5, .int .i64 x.f6, v7, v8], rfl, rfl, ⟨[.bool x.f3], [.bool x.f4, .int .i64 x.f5, .int .i64 x.f6, v7, v8], rfl, rfl, ⟨[.bool x.f4], [.int .i64 x.f5, .int .i64 x.f6, v7, v8], rfl, rfl, ⟨[.int .i64 x.f5], [.int .i64 x.f6, v7, v8], rfl, rfl, ⟨[.int .i64 x.f6], [v7, v8], rfl, rfl, ⟨[v7], [v8], rfl, ⟨v7, rfl, g7⟩, ⟨v8, rfl, g8⟩⟩⟩⟩⟩⟩⟩⟩⟩
def rd_T65 (xs : List S65) (i : Int) : S65 := xs.getD i.toNat z65
theorem at_T65 {w : World} {A : Option Addr} {n : Nat} {xs : List S65} (h : Kd.C k65 w A n xs) (i : Int) (h0 : 0 ≤ i) (h1 : i < n) : ∃ ad A7 c7 A8 c8, A = some ad ∧ w.cell? (ad.add (i.toNat * 9)) = some (.string (rd_T65 xs i).f0) ∧ w.cell? ⟨(ad.add (i.toNat * 9)).block, (ad.add (i.toNat * 9)).off + 1, none⟩ = some (.string (rd_T65 xs i).f1) ∧ w.cell? ⟨(ad.add (i.toNat * 9)).block, (ad.add (i.toNat * 9)).off + 2, none⟩ = some (.bool (rd_T65 xs i).f2) ∧ w.cell? ⟨(ad.add (i.toNat * 9)).block, (ad.add (i.toNat * 9)).off + 3, none⟩ = some (.bool (rd_T65 xs i).f3) ∧ w.cell? ⟨(ad.add (i.toNat * 9)).block, (ad.add (i.toNat * 9)).off + 4, none⟩ = some (.bool (rd_T65 xs i).f4) ∧ w.cell? ⟨(ad.add (i.toNat * 9)).block, (ad.add (i.toNat * 9)).off + 5, none⟩ = some (.int .i64 (rd_T65 xs i).f5) ∧ w.cell? ⟨(ad.add (i.toNat * 9)).block, (ad.add (i.toNat * 9)).off + 6, none⟩ = some (.int .i64 (rd_T65 xs i).f6) ∧ w.cell? ⟨(ad.add (i.toNat * 9)).block, (ad.add (i.toNat * 9)).off + 7, none⟩ = some (.slice A7 (rd_T65 xs i).f7.length c7) ∧ w.cell? ⟨(ad.add (i.toNat * 9)).block, (ad.add (i.toNat * 9)).off + 8, none⟩ = some (.slice A8 (rd_T65 xs i).f8.length c8) ∧ (rd_T65 xs i).f7.length ≤ c7 ∧ k121.C w A7 (rd_T65 xs i).f7.length (rd_T65 xs i).f7 ∧ (rd_T65 xs i).f8.length ≤ c8 ∧ k123.C w A8 (rd_T65 xs i).f8.length (rd_T65 xs i).f8 := by
  obtain ⟨ad, c, e, _, hK, hc0⟩ := Kd.C_get h z65 i h0 h1
  have hc : ∀ j u, c[j]? = some u → w.cell? (ad.add (i.toNat * 9 + j)) = some u := hc0
  obtain ⟨A7, c7, A8, c8, rfl, l7, g7, l8, g8⟩ := k65_open hK
  exact ⟨ad, A7, c7, A8, c8, e, hc 0 _ rfl, by rw [← add_field _ _ 1 (by omega)]; exact hc 1 _ rfl, by rw [← add_field _ _ 2 (by omega)]; exact hc 2 _ rfl, by rw [← add_field _ _ 3 (by omega)]; exact hc 3 _ rfl, by rw [← add_field _ _ 4 (by omega)]; exact hc 4 _ rfl, by rw [← add_field _ _ 5 (by omega)]; exact hc 5 _ rfl, by rw [← add_field _ _ 6 (by omega)]; exact hc 6 _ rfl, by rw [← add_field _ _ 7 (by omega)]; exact hc 7 _ rfl, by rw [← add_field _ _ 8 (by omega)]; exact hc 8 _ rfl, l7, g7, l8, g8⟩

def rd_L9 (xs : List (List S60)) (i : Int) : (List S60) := xs.getD i.toNat ([] : List S60)
theorem at_L9 {w : World} {A : Option Addr} {n : Nat} {xs : List (List S60)} (h : Kd.C (Kd.slice 60 k60) w A n xs) (i : Int) (h0 : 0 ≤ i) (h1 : i < n) : ∃ ad A0 c0, A = some ad ∧ w.cell? (ad.add i.toNat) = some (.slice A0 (rd_L9 xs i).length c0) ∧ (rd_L9 xs i).length ≤ c0 ∧ k60.C w A0 (rd_L9 xs i).length (rd_L9 xs i) := by
  obtain ⟨ad, c, e, _, hK, hc0⟩ := Kd.C_get h ([] : List S60) i h0 h1
  have hc : ∀ j u, c[j]? = some u → w.cell? (ad.add (i.toNat * 1 + j)) = some u := hc0
  obtain ⟨A0, c0, rfl, l0, g0⟩ := hK
  exact ⟨ad, A0, c0, e, by have hq := hc 0 _ rfl; rwa [Nat.mul_one, Nat.add_zero] at hq, l0, g0⟩

def rd_L10 (xs : List (List S65)) (i : Int) : (List S65) := xs.getD i.toNat ([] : List S65)
theorem at_L10 {w : World} {A : Option Addr} {n : Nat} {xs : List (List S65)} (h : Kd.C (Kd.slice 65 k65) w A n xs) (i : Int) (h0 : 0 ≤ i) (h1 : i < n) : ∃ ad A0 c0, A = some ad ∧ w.cell? (ad.add i.toNat) = some (.slice A0 (rd_L10 xs i).length c0) ∧ (rd_L10 xs i).length ≤ c0 ∧ k65.C w A0 (rd_L10 xs i).length (rd_L10 xs i) := by
  obtain ⟨ad, c, e, _, hK, hc0⟩ := Kd.C_get h ([] : List S65) i h0 h1
  have hc : ∀ j u, c[j]? = some u → w.cell? (ad.add (i.toNat * 1 + j)) = some u := hc0
  obtain ⟨A0, c0, rfl, l0, g0⟩ := hK
  exact ⟨ad, A0, c0, e, by have hq := hc 0 _ rfl; rwa [Nat.mul_one, Nat.add_zero] at hq, l0, g0⟩

/-! #### struct type 25 -/
structure S25 where
  f0 : ByteArray
  f1 : ByteArray
  f2 : Bool
  f3 : Bool
  f4 : (List S60)
  f5 : (List S65)
def z25 : S25 := ⟨(⟨#[]⟩ : ByteArray), (⟨#[]⟩ : ByteArray), false, false, ([] : List S60), ([] : List S65)⟩
def k25 : Kd S25 := Kd.iso (Kd.pair Kd.string (Kd.pair Kd.string (Kd.pair Kd.bool (Kd.pair Kd.bool (Kd.pair (Kd.slice 60 k60) (Kd.slice 65 k65)))))) (fun x : S25 => (x.f0, x.f1, x.f2, x.f3, x.f4, x.f5))
theorem k25_open {w : World} {x : S25} {cs : List Value} (h : k25.K w x cs) : ∃ A4 c4 A5 c5, cs = [.string x.f0, .string x.f1, .bool x.f2, .bool x.f3, .slice A4 x.f4.length c4, .slice A5 x.f5.length c5] ∧ x.f4.length ≤ c4 ∧ k60.C w A4 x.f4.length x.f4 ∧ x.f5.length ≤ c5 ∧ k65.C w A5 x.f5.length x.f5 := by
  obtain ⟨_, _, rfl, rfl, ⟨_, _, rfl, rfl, ⟨_, _, rfl, rfl, ⟨_, _, rfl, rfl, ⟨_, _, rfl, ⟨A4, c4, rfl, l4, g4⟩, ⟨A5, c5, rfl, l5, g5⟩⟩⟩⟩⟩⟩ := h
  exact ⟨A4, c4, A5, c5, rfl, l4, g4, l5, g5⟩
theorem k25_openM {w : World} {base : Nat} {ok : Nat → Prop} {x : S25} {cs : List Value} (h : k25.M w base ok x cs) : ∃ v4 v5, cs = [.string x.f0, .string x.f1, .bool x.f2, .bool x.f3, v4, v5] ∧ k60.R 60 w base ok v4 x.f4 ∧ k65.R 65 w base ok v5 x.f5 := by
  obtain ⟨_, _, rfl, rfl, ⟨_, _, rfl, rfl, ⟨_, _, rfl, rfl, ⟨_, _, rfl, rfl, ⟨_, _, rfl, ⟨v4, rfl, g4⟩, ⟨v5, rfl, g5⟩⟩⟩⟩⟩⟩ := h
  exact ⟨v4, v5, rfl, g4, g5⟩
theorem k25_mk (w : World) (x : S25) {A4 : Option Addr} {c4 : Nat} (l4 : x.f4.length ≤ c4) (g4 : k60.C w A4 x.f4.length x.f4) {A5 : Option Addr} {c5 : Nat} (l5 : x.f5.length ≤ c5) (g5 : k65.C w A5 x.f5.length x.f5) : k25.K w x [.string x.f0, .string x.f1, .bool x.f2, .bool x.f3, .slice A4 x.f4.length c4, .slice A5 x.f5.length c5] := ⟨[.string x.f0], [.string x.f1, .bool x.f2, .bool x.f3, .slice A4 x.f4.length c4, .slice A5 x.f5.length c5], rfl, rfl, ⟨[.string x.f1], [.bool x.f2, .bool x.f3, .slice A4 x.f4.length c4, .slice A5 x.f5.length c5], rfl, rfl, ⟨[.bool x.f2], [.bool x.f3, .slice A4 x.f4.length c4, .slice A5 x.f5.length c5], rfl, rfl, ⟨[.bool x.f3], [.slice A4 x.f4.length c4, .slice A5 x.f5.length c5], rfl, rfl, ⟨[.slice A4 x.f4.length c4], [.slice A5 x.f5.length c5], rfl, ⟨A4, c4, rfl, l4, g4⟩, ⟨A5, c5, rfl, l5, g5⟩⟩⟩⟩⟩⟩
theorem k25_mkM (w : World) (base : Nat) (ok : Nat → Prop) (x : S25) {v4 : Value} (g4 : k60.R 60 w base ok v4 x.f4) {v5 : Value} (g5 : k65.R 65 w base ok v5 x.f5) : k25.M w base ok x [.string x.f0, .string x.f1, .bool x.f2, .bool x.f3, v4, v5] := ⟨[.string x.f0], [.string x.f1, .bool x.f2, .bool x.f3, v4, v5], rfl, rfl, ⟨[.string x.f1], [.bool x.f2, .bool x.f3, v4, v5], rfl, rfl, ⟨[.bool x.f2], [.bool x.f3, v4, v5], rfl, rfl, ⟨[.bool x.f3], [v4, v5], rfl, rfl, ⟨[v4], [v5], rfl, ⟨v4, rfl, g4⟩, ⟨v5, rfl, g5⟩⟩⟩⟩⟩⟩
def rd_T25 (xs : List S25) (i : Int) : S25 := xs.getD i.toNat z25
theorem at_T25 {w : World} {A : Option Addr} {n : Nat} {xs : List S25} (h : Kd.C k25 w A n xs) (i : Int) (h0 : 0 ≤ i) (h1 : i < n) : ∃ ad A4 c4 A5 c5, A = some ad ∧ w.cell? (ad.add (i.toNat * 6)) = some (.string (rd_T25 xs i).f0) ∧ w.cell? ⟨(ad.add (i.toNat * 6)).block, (ad.add (i.toNat * 6)).off + 1, none⟩ = some (.string (rd_T25 xs i).f1) ∧ w.cell? ⟨(ad.add (i.toNat * 6)).block, (ad.add (i.toNat * 6)).off + 2, none⟩ = some (.bool (rd_T25 xs i).f2) ∧ w.cell? ⟨(ad.add (i.toNat * 6)).block, (ad.add (i.toNat * 6)).off + 3, none⟩ = some (.bool (rd_T25 xs i).f3) ∧ w.cell? ⟨(ad.add (i.toNat * 6)).block, (ad.add (i.toNat * 6)).off + 4, none⟩ = some (.slice A4 (rd_T25 xs i).f4.length c4) ∧ w.cell? ⟨(ad.add (i.toNat * 6)).block, (ad.add (i.toNat * 6)).off + 5, none⟩ = some (.slice A5 (rd_T25 xs i).f5.length c5) ∧ (rd_T25 xs i).f4.length ≤ c4 ∧ k60.C w A4 (rd_T25 xs i).f4.length (rd_T25 xs i).f4 ∧ (rd_T25 xs i).f5.length ≤ c5 ∧ k65.C w A5 (rd_T25 xs i).f5.length (rd_T25 xs i).f5 := by
  obtain ⟨ad, c, e, _, hK, hc0⟩ := Kd.C_get h z25 i h0 h1
  have hc : ∀ j u, c[j]? = some u → w.cell? (ad.add (i.toNat * 6 + j)) = some u := hc0
  obtain ⟨A4, c4, A5, c5, rfl, l4, g4, l5, g5⟩ := k25_open hK
  exact ⟨ad, A4, c4, A5, c5, e, hc 0 _ rfl, by rw [← add_field _ _ 1 (by omega)]; exact hc 1 _ rfl, by rw [← add_field _ _ 2 (by omega)]; exact hc 2 _ rfl, by rw [← add_field _ _ 3 (by omega)]; exact hc 3 _ rfl, by rw [← add_field _ _ 4 (by omega)]; exact hc 4 _ rfl, by rw [← add_field _ _ 5 (by omega)]; exact hc 5 _ rfl, l4, g4, l5, g5⟩

/-! #### struct type 77 -/
structure S77 where
  f0 : Int
  f1 : Int
  f2 : ByteArray
  f3 : ByteArray
  f4 : ByteArray
def z77 : S77 := ⟨(0 : Int), (0 : Int), (⟨#[]⟩ : ByteArray), (⟨#[]⟩ : ByteArray), (⟨#[]⟩ : ByteArray)⟩
def k77 : Kd S77 := Kd.iso (Kd.pair (Kd.int .i64) (Kd.pair (Kd.int .i64) (Kd.pair Kd.string (Kd.pair Kd.string Kd.string)))) (fun x : S77 => (x.f0, x.f1, x.f2, x.f3, x.f4))
theorem k77_open {w : World} {x : S77} {cs : List Value} (h : k77.K w x cs) : cs = [.int .i64 x.f0, .int .i64 x.f1, .string x.f2, .string x.f3, .string x.f4] := by
  obtain ⟨_, _, rfl, rfl, ⟨_, _, rfl, rfl, ⟨_, _, rfl, rfl, ⟨_, _, rfl, rfl, rfl⟩⟩⟩⟩ := h
  exact rfl
theorem k77_openM {w : World} {base : Nat} {ok : Nat → Prop} {x : S77} {cs : List Value} (h : k77.M w base ok x cs) : cs = [.int .i64 x.f0, .int .i64 x.f1, .string x.f2, .string x.f3, .string x.f4] := by
  obtain ⟨_, _, rfl, rfl, ⟨_, _, rfl, rfl, ⟨_, _, rfl, rfl, ⟨_, _, rfl, rfl, rfl⟩⟩⟩⟩ := h
  exact rfl
theorem k77_mk (w : World) (x : S77)  : k77.K w x [.int .i64 x.f0, .int .i64 x.f1, .string x.f2, .string x.f3, .string x.f4] := ⟨[.int .i64 x.f0], [.int .i64 x.f1, .string x.f2, .string x.f3, .string x.f4], rfl, rfl, ⟨[.int .i64 x.f1], [.string x.f2, .string x.f3, .string x.f4], rfl, rfl, ⟨[.string x.f2], [.string x.f3, .string x.f4], rfl, rfl, ⟨[.string x.f3], [.string x.f4], rfl, rfl, rfl⟩⟩⟩⟩
theorem k77_mkM (w : World) (base : Nat) (ok : Nat → Prop) (x : S77)  : k77.M w base ok x [.int .i64 x.f0, .int .i64 x.f1, .string x.f2, .string x.f3, .string x.f4] := ⟨[.int .i64 x.f0], [.int .i64 x.f1, .string x.f2, .string x.f3, .string x.f4], rfl, rfl, ⟨[.int .i64 x.f1], [.string x.f2, .string x.f3, .string x.f4], rfl, rfl, ⟨[.string x.f2], [.string x.f3, .string x.f4], rfl, rfl, ⟨[.string x.f3], [.string x.f4], rfl, rfl, rfl⟩⟩⟩⟩
def rd_T77 (xs : List S77) (i : Int) : S77 := xs.getD i.toNat z77
theorem at_T77 {w : World} {A : Option Addr} {n : Nat} {xs : List S77} (h : Kd.C k77 w A n xs) (i : Int) (h0 : 0 ≤ i) (h1 : i < n) : ∃ ad , A = some ad ∧ w.cell? (ad.add (i.toNat * 5)) = some (.int .i64 (rd_T77 xs i).f0) ∧ w.cell? ⟨(ad.add (i.toNat * 5)).block, (ad.add (i.toNat * 5)).off + 1, none⟩ = some (.int .i64 (rd_T77 xs i).f1) ∧ w.cell? ⟨(ad.add (i.toNat * 5)).block, (ad.add (i.toNat * 5)).off + 2, none⟩ = some (.string (rd_T77 xs i).f2) ∧ w.cell? ⟨(ad.add (i.toNat * 5)).block, (ad.add (i.toNat * 5)).off + 3, none⟩ = some (.string (rd_T77 xs i).f3) ∧ w.cell? ⟨(ad.add (i.toNat * 5)).block, (ad.add (i.toNat * 5)).off + 4, none⟩ = some (.string (rd_T77 xs i).f4) := by
  obtain ⟨ad, c, e, _, hK, hc0⟩ := Kd.C_get h z77 i h0 h1
  have hc : ∀ j u, c[j]? = some u → w.cell? (ad.add (i.toNat * 5 + j)) = some u := hc0
  obtain rfl := k77_open hK
  exact ⟨ad, e, hc 0 _ rfl, by rw [← add_field _ _ 1 (by omega)]; exact hc 1 _ rfl, by rw [← add_field _ _ 2 (by omega)]; exact hc 2 _ rfl, by rw [← add_field _ _ 3 (by omega)]; exact hc 3 _ rfl, by rw [← add_field _ _ 4 (by omega)]; exact hc 4 _ rfl⟩

/-! #### struct type 79 -/
structure S79 where
  f0 : Int
  f1 : Int
  f2 : Int
  f3 : ByteArray
def z79 : S79 := ⟨(0 : Int), (0 : Int), (0 : Int), (⟨#[]⟩ : ByteArray)⟩
def k79 : Kd S79 := Kd.iso (Kd.pair (Kd.int .i64) (Kd.pair (Kd.int .i64) (Kd.pair (Kd.int .i64) Kd.string))) (fun x : S79 => (x.f0, x.f1, x.f2, x.f3))
theorem k79_open {w : World} {x : S79} {cs : List Value} (h : k79.K w x cs) : cs = [.int .i64 x.f0, .int .i64 x.f1, .int .i64 x.f2, .string x.f3] := by
  obtain ⟨_, _, rfl, rfl, ⟨_, _, rfl, rfl, ⟨_, _, rfl, rfl, rfl⟩⟩⟩ := h
  exact rfl
theorem k79_openM {w : World} {base : Nat} {ok : Nat → Prop} {x : S79} {cs : List Value} (h : k79.M w base ok x cs) : cs = [.int .i64 x.f0, .int .i64 x.f1, .int .i64 x.f2, .string x.f3] := by
  obtain ⟨_, _, rfl, rfl, ⟨_, _, rfl, rfl, ⟨_, _, rfl, rfl, rfl⟩⟩⟩ := h
  exact rfl
theorem k79_mk (w : World) (x : S79)  : k79.K w x [.int .i64 x.f0, .int .i64 x.f1, .int .i64 x.f2, .string x.f3] := ⟨[.int .i64 x.f0], [.int .i64 x.f1, .int .i64 x.f2, .string x.f3], rfl, rfl, ⟨[.int .i64 x.f1], [.int .i64 x.f2, .string x.f3], rfl, rfl, ⟨[.int .i64 x.f2], [.string x.f3], rfl, rfl, rfl⟩⟩⟩
theorem k79_mkM (w : World) (base : Nat) (ok : Nat → Prop) (x : S79)  : k79.M w base ok x [.int .i64 x.f0, .int .i64 x.f1, .int .i64 x.f2, .string x.f3] := ⟨[.int .i64 x.f0], [.int .i64 x.f1, .int .i64 x.f2, .string x.f3], rfl, rfl, ⟨[.int .i64 x.f1], [.int .i64 x.f2, .string x.f3], rfl, rfl, ⟨[.int .i64 x.f2], [.string x.f3], rfl, rfl, rfl⟩⟩⟩
def rd_T79 (xs : List S79) (i : Int) : S79 := xs.getD i.toNat z79
theorem at_T79 {w : World} {A : Option Addr} {n : Nat} {xs : List S79} (h : Kd.C k79 w A n xs) (i : Int) (h0 : 0 ≤ i) (h1 : i < n) : ∃ ad , A = some ad ∧ w.cell? (ad.add (i.toNat * 4)) = some (.int .i64 (rd_T79 xs i).f0) ∧ w.cell? ⟨(ad.add (i.toNat * 4)).block, (ad.add (i.toNat * 4)).off + 1, none⟩ = some (.int .i64 (rd_T79 xs i).f1) ∧ w.cell? ⟨(ad.add (i.toNat * 4)).block, (ad.add (i.toNat * 4)).off + 2, none⟩ = some (.int .i64 (rd_T79 xs i).f2) ∧ w.cell? ⟨(ad.add (i.toNat * 4)).block, (ad.add (i.toNat * 4)).off + 3, none⟩ = some (.string (rd_T79 xs i).f3) := by
  obtain ⟨ad, c, e, _, hK, hc0⟩ := Kd.C_get h z79 i h0 h1
  have hc : ∀ j u, c[j]? = some u → w.cell? (ad.add (i.toNat * 4 + j)) = some u := hc0
  obtain rfl := k79_open hK
  exact ⟨ad, e, hc 0 _ rfl, by rw [← add_field _ _ 1 (by omega)]; exact hc 1 _ rfl, by rw [← add_field _ _ 2 (by omega)]; exact hc 2 _ rfl, by rw [← add_field _ _ 3 (by omega)]; exact hc 3 _ rfl⟩

/-! #### struct type 67 -/
structure S67 where
  f0 : ByteArray
  f1 : ByteArray
  f2 : Bool
def z67 : S67 := ⟨(⟨#[]⟩ : ByteArray), (⟨#[]⟩ : ByteArray), false⟩
def k67 : Kd S67 := Kd.iso (Kd.pair Kd.string (Kd.pair Kd.string Kd.bool)) (fun x : S67 => (x.f0, x.f1, x.f2))
theorem k67_open {w : World} {x : S67} {cs : List Value} (h : k67.K w x cs) : cs = [.string x.f0, .string x.f1, .bool x.f2] := by
  obtain ⟨_, _, rfl, rfl, ⟨_, _, rfl, rfl, rfl⟩⟩ := h
  exact rfl
theorem k67_openM {w : World} {base : Nat} {ok : Nat → Prop} {x : S67} {cs : List Value} (h : k67.M w base ok x cs) : cs = [.string x.f0, .string x.f1, .bool x.f2] := by
  obtain ⟨_, _, rfl, rfl, ⟨_, _, rfl, rfl, rfl⟩⟩ := h
  exact rfl
theorem k67_mk (w : World) (x : S67)  : k67.K w x [.string x.f0, .string x.f1, .bool x.f2] := ⟨[.string x.f0], [.string x.f1, .bool x.f2], rfl, rfl, ⟨[.string x.f1], [.bool x.f2], rfl, rfl, rfl⟩⟩
theorem k67_mkM (w : World) (base : Nat) (ok : Nat → Prop) (x : S67)  : k67.M w base ok x [.string x.f0, .string x.f1, .bool x.f2] := ⟨[.string x.f0], [.string x.f1, .bool x.f2], rfl, rfl, ⟨[.string x.f1], [.bool x.f2], rfl, rfl, rfl⟩⟩
def rd_T67 (xs : List S67) (i : Int) : S67 := xs.getD i.toNat z67
theorem at_T67 {w : World} {A : Option Addr} {n : Nat} {xs : List S67} (h : Kd.C k67 w A n xs) (i : Int) (h0 : 0 ≤ i) (h1 : i < n) : ∃ ad , A = some ad ∧ w.cell? (ad.add (i.toNat * 3)) = some (.string (rd_T67 xs i).f0) ∧ w.cell? ⟨(ad.add (i.toNat * 3)).block, (ad.add (i.toNat * 3)).off + 1, none⟩ = some (.string (rd_T67 xs i).f1) ∧ w.cell? ⟨(ad.add (i.toNat * 3)).block, (ad.add (i.toNat * 3)).off + 2, none⟩ = some (.bool (rd_T67 xs i).f2) := by
  obtain ⟨ad, c, e, _, hK, hc0⟩ := Kd.C_get h z67 i h0 h1
  have hc : ∀ j u, c[j]? = some u → w.cell? (ad.add (i.toNat * 3 + j)) = some u := hc0
  obtain rfl := k67_open hK
  exact ⟨ad, e, hc 0 _ rfl, by rw [← add_field _ _ 1 (by omega)]; exact hc 1 _ rfl, by rw [← add_field _ _ 2 (by omega)]; exact hc 2 _ rfl⟩

def rd_L15 (xs : List (List S77)) (i : Int) : (List S77) := xs.getD i.toNat ([] : List S77)
theorem at_L15 {w : World} {A : Option Addr} {n : Nat} {xs : List (List S77)} (h : Kd.C (Kd.slice 77 k77) w A n xs) (i : Int) (h0 : 0 ≤ i) (h1 : i < n) : ∃ ad A0 c0, A = some ad ∧ w.cell? (ad.add i.toNat) = some (.slice A0 (rd_L15 xs i).length c0) ∧ (rd_L15 xs i).length ≤ c0 ∧ k77.C w A0 (rd_L15 xs i).length (rd_L15 xs i) := by
  obtain ⟨ad, c, e, _, hK, hc0⟩ := Kd.C_get h ([] : List S77) i h0 h1
  have hc : ∀ j u, c[j]? = some u → w.cell? (ad.add (i.toNat * 1 + j)) = some u := hc0
  obtain ⟨A0, c0, rfl, l0, g0⟩ := hK
  exact ⟨ad, A0, c0, e, by have hq := hc 0 _ rfl; rwa [Nat.mul_one, Nat.add_zero] at hq, l0, g0⟩

def rd_L16 (xs : List (List S79)) (i : Int) : (List S79) := xs.getD i.toNat ([] : List S79)
theorem at_L16 {w : World} {A : Option Addr} {n : Nat} {xs : List (List S79)} (h : Kd.C (Kd.slice 79 k79) w A n xs) (i : Int) (h0 : 0 ≤ i) (h1 : i < n) : ∃ ad A0 c0, A = some ad ∧ w.cell? (ad.add i.toNat) = some (.slice A0 (rd_L16 xs i).length c0) ∧ (rd_L16 xs i).length ≤ c0 ∧ k79.C w A0 (rd_L16 xs i).length (rd_L16 xs i) := by
  obtain ⟨ad, c, e, _, hK, hc0⟩ := Kd.C_get h ([] : List S79) i h0 h1
  have hc : ∀ j u, c[j]? = some u → w.cell? (ad.add (i.toNat * 1 + j)) = some u := hc0
  obtain ⟨A0, c0, rfl, l0, g0⟩ := hK
  exact ⟨ad, A0, c0, e, by have hq := hc 0 _ rfl; rwa [Nat.mul_one, Nat.add_zero] at hq, l0, g0⟩

/-! #### struct type 71 -/
structure S71 where
  f0 : ByteArray
  f1 : ByteArray
  f2 : Bool
  f3 : Bool
  f4 : Bool
  f5 : Int
  f6 : Int
  f7 : (List S77)
  f8 : (List S79)
def z71 : S71 := ⟨(⟨#[]⟩ : ByteArray), (⟨#[]⟩ : ByteArray), false, false, false, (0 : Int), (0 : Int), ([] : List S77), ([] : List S79)⟩
def k71 : Kd S71 := Kd.iso (Kd.pair Kd.string (Kd.pair Kd.string (Kd.pair Kd.bool (Kd.pair Kd.bool (Kd.pair Kd.bool (Kd.pair (Kd.int .i64) (Kd.pair (Kd.int .i64) (Kd.pair (Kd.slice 77 k77) (Kd.slice 79 k79))))))))) (fun x : S71 => (x.f0, x.f1, x.f2, x.f3, x.f4, x.f5, x.f6, x.f7, x.f8))
theorem k71_open {w : World} {x : S71} {cs : List Value} (h : k71.K w x cs) : ∃ A7 c7 A8 c8, cs = [.string x.f0, .string x.f1, .bool x.f2, .bool x.f3, .bool x.f4, .int .i64 x.f5, .int .i64 x.f6, .slice A7 x.f7.length c7, .slice A8 x.f8.length c8] ∧ x.f7.length ≤ c7 ∧ k77.C w A7 x.f7.length x.f7 ∧ x.f8.length ≤ c8 ∧ k79.C w A8 x.f8.length x.f8 := by
  obtain ⟨_, _, rfl, rfl, ⟨_, _, rfl, rfl, ⟨_, _, rfl, rfl, ⟨_, _, rfl, rfl, ⟨_, _, rfl, rfl, ⟨_, _, rfl, rfl, ⟨_, _, rfl, rfl, ⟨_, _, rfl, ⟨A7, c7, rfl, l7, g7⟩, ⟨A8, c8, rfl, l8, g8⟩⟩⟩⟩⟩⟩⟩⟩⟩ := h
  exact ⟨A7, c7, A8, c8, rfl, l7, g7, l8, g8⟩
theorem k71_openM {w : World} {base : Nat} {ok : Nat → Prop} {x : S71} {cs : List Value} (h : k71.M w base ok x cs) : ∃ v7 v8, cs = [.string x.f0, .string x.f1, .bool x.f2, .bool x.f3, .bool x.f4, .int .i64 x.f5, .int .i64 x.f6, v7, v8] ∧ k77.R 77 w base ok v7 x.f7 ∧ k79.R 79 w base ok v8 x.f8 := by
  obtain ⟨_, _, rfl, rfl, ⟨_, _, rfl, rfl, ⟨_, _, rfl, rfl, ⟨_, _, rfl, rfl, ⟨_, _, rfl, rfl, ⟨_, _, rfl, rfl, ⟨_, _, rfl, rfl, ⟨_, _, rfl, ⟨v7, rfl, g7⟩, ⟨v8, rfl, g8⟩⟩⟩⟩⟩⟩⟩⟩⟩ := h
  exact ⟨v7, v8, rfl, g7, g8⟩
theorem k71_mk (w : World) (x : S71) {A7 : Option Addr} {c7 : Nat} (l7 : x.f7.length ≤ c7) (g7 : k77.C w A7 x.f7.length x.f7) {A8 : Option Addr} {c8 : Nat} (l8 : x.f8.length ≤ c8) (g8 : k79.C w A8 x.f8.length x.f8) : k71.K w x [.string x.f0, .string x.f1, .bool x.f2, .bool x.f3, .bool x.f4, .int .i64 x.f5, .int .i64 x.f6, .slice A7 x.f7.length c7, .slice A8 x.f8.length c8] := ⟨[.string x.f0], [.string x.f1, .bool x.f2, .bool x.f3, .bool x.f4, .int .i64 x.f5, .int .i64 x.f6, .slice A7 x.f7.length c7, .slice A8 x.f8.length c8], rfl, rfl, ⟨[.string x.f1], [.bool x.f2, .bool x.f3, .bool x.f4, .int .i64 x.f5, .int .i64 x.f6, .slice A7 x.f7.length c7, .slice A8 x.f8.length c8], rfl, rfl, ⟨[.bool x.f2], [.bool x.f3, .bool x.f4, .int .i64 x.f5, .int .i64 x.f6, .slice A7 x.f7.length c7, .slice A8 x.f8.length c8], rfl, rfl, ⟨[.bool x.f3], [.bool x.f4, .int .i64 x.f5, .int .i64 x.f6, .slice A7 x.f7.length c7, .slice A8 x.f8.length c8], rfl, rfl, ⟨[.bool x.f4], [.int .i64 x.f5, .int .i64 x.f6, .slice A7 x.f7.length c7, .slice A8 x.f8.length c8], rfl, rfl, ⟨[.int .i64 x.f5], [.int .i64 x.f6, .slice A7 x.f7.length c7, .slice A8 x.f8.length c8], rfl, rfl, ⟨[.int .i64 x.f6], [.slice A7 x.f7.length c7, .slice A8 x.f8.length c8], rfl, rfl, ⟨[.slice A7 x.f7.length c7], [.slice A8 x.f8.length c8], rfl, ⟨A7, c7, rfl, l7, g7⟩, ⟨A8, c8, rfl, l8, g8⟩⟩⟩⟩⟩⟩⟩⟩⟩
theorem k71_mkM (w : World) (base : Nat) (ok : Nat → Prop) (x : S71) {v7 : Value} (g7 : k77.R 77 w base ok v7 x.f7) {v8 : Value} (g8 : k79.R 79 w base ok v8 x.f8) : k71.M w base ok x [.string x.f0, .string x.f1, .bool x.f2, .bool x.f3, .bool x.f4, .int .i64 x.f5, .int .i64 x.f6, v7, v8] := ⟨[.string x.f0], [.string x.f1, .bool x.f2, .bool x.f3, .bool x.f4, .int .i64 x.f5, .int .i64 x.f6, v7, v8], rfl, rfl, ⟨[.string x.f1], [.bool x.f2, .bool x.f3, .bool x.f4, .int .i64 x.f5, .int .i64 x.f6, v7, v8], rfl, rfl, ⟨[.bool x.f2], [.bool x.f3, .bool x.f4, .int .i64 x.f5, .int .i64 x.f6, v7, v8], rfl, rfl, ⟨[.bool x.f3], [.bool x.f4, .int .i64 x.f5, .int .i64 x.f6, v7, v8], rfl, rfl, ⟨[.bool x.f4], [.int .i64 x.f5, .int .i64 x.f6, v7, v8], rfl, rfl, ⟨[.int .i64 x.f5], [.int .i64 x.f6, v7, v8], rfl, rfl, ⟨[.int .i64 x.f6], [v7, v8], rfl, rfl, ⟨[v7], [v8], rfl, ⟨v7, rfl, g7⟩, ⟨v8, rfl, g8⟩⟩⟩⟩⟩⟩⟩⟩⟩
def rd_T71 (xs : List S71) (i : Int) : S71 := xs.getD i.toNat z71
theorem at_T71 {w : World} {A : Option Addr} {n : Nat} {xs : List S71} (h : Kd.C k71 w A n xs) (i : Int) (h0 : 0 ≤ i) (h1 : i < n) : ∃ ad A7 c7 A8 c8, A = some ad ∧ w.cell? (ad.add (i.toNat * 9)) = some (.string (rd_T71 xs i).f0) ∧ w.cell? ⟨(ad.add (i.toNat * 9)).block, (ad.add (i.toNat * 9)).off + 1, none⟩ = some (.string (rd_T71 xs i).f1) ∧ w.cell? ⟨(ad.add (i.toNat * 9)).block, (ad.add (i.toNat * 9)).off + 2, none⟩ = some (.bool (rd_T71 xs i).f2) ∧ w.cell? ⟨(ad.add (i.toNat * 9)).block, (ad.add (i.toNat * 9)).off + 3, none⟩ = some (.bool (rd_T71 xs i).f3) ∧ w.cell? ⟨(ad.add (i.toNat * 9)).block, (ad.add (i.toNat * 9)).off + 4, none⟩ = some (.bool (rd_T71 xs i).f4) ∧ w.cell? ⟨(ad.add (i.toNat * 9)).block, (ad.add (i.toNat * 9)).off + 5, none⟩ = some (.int .i64 (rd_T71 xs i).f5) ∧ w.cell? ⟨(ad.add (i.toNat * 9)).block, (ad.add (i.toNat * 9)).off + 6, none⟩ = some (.int .i64 (rd_T71 xs i).f6) ∧ w.cell? ⟨(ad.add (i.toNat * 9)).block, (ad.add (i.toNat * 9)).off + 7, none⟩ = some (.slice A7 (rd_T71 xs i).f7.length c7) ∧ w.cell? ⟨(ad.add (i.toNat * 9)).block, (ad.add (i.toNat * 9)).off + 8, none⟩ = some (.slice A8 (rd_T71 xs i).f8.length c8) ∧ (rd_T71 xs i).f7.length ≤ c7 ∧ k77.C w A7 (rd_T71 xs i).f7.length (rd_T71 xs i).f7 ∧ (rd_T71 xs i).f8.length ≤ c8 ∧ k79.C w A8 (rd_T71 xs i).f8.length (rd_T71 xs i).f8 := by
  obtain ⟨ad, c, e, _, hK, hc0⟩ := Kd.C_get h z71 i h0 h1
  have hc : ∀ j u, c[j]? = some u → w.cell? (ad.add (i.toNat * 9 + j)) = some u := hc0
  obtain ⟨A7, c7, A8, c8, rfl, l7, g7, l8, g8⟩ := k71_open hK
  exact ⟨ad, A7, c7, A8, c8, e, hc 0 _ rfl, by rw [← add_field _ _ 1 (by omega)]; exact hc 1 _ rfl, by rw [← add_field _ _ 2 (by omega)]; exact hc 2 _ rfl, by rw [← add_field _ _ 3 (by omega)]; exact hc 3 _ rfl, by rw [← add_field _ _ 4 (by omega)]; exact hc 4 _ rfl, by rw [← add_field _ _ 5 (by omega)]; exact hc 5 _ rfl, by rw [← add_field _ _ 6 (by omega)]; exact hc 6 _ rfl, by rw [← add_field _ _ 7 (by omega)]; exact hc 7 _ rfl, by rw [← add_field _ _ 8 (by omega)]; exact hc 8 _ rfl, l7, g7, l8, g8⟩

def rd_L19 (xs : List (List S67)) (i : Int) : (List S67) := xs.getD i.toNat ([] : List S67)
theorem at_L19 {w : World} {A : Option Addr} {n : Nat} {xs : List (List S67)} (h : Kd.C (Kd.slice 67 k67) w A n xs) (i : Int) (h0 : 0 ≤ i) (h1 : i < n) : ∃ ad A0 c0, A = some ad ∧ w.cell? (ad.add i.toNat) = some (.slice A0 (rd_L19 xs i).length c0) ∧ (rd_L19 xs i).length ≤ c0 ∧ k67.C w A0 (rd_L19 xs i).length (rd_L19 xs i) := by
  obtain ⟨ad, c, e, _, hK, hc0⟩ := Kd.C_get h ([] : List S67) i h0 h1
  have hc : ∀ j u, c[j]? = some u → w.cell? (ad.add (i.toNat * 1 + j)) = some u := hc0
  obtain ⟨A0, c0, rfl, l0, g0⟩ := hK
  exact ⟨ad, A0, c0, e, by have hq := hc 0 _ rfl; rwa [Nat.mul_one, Nat.add_zero] at hq, l0, g0⟩

def rd_L20 (xs : List (List S71)) (i : Int) : (List S71) := xs.getD i.toNat ([] : List S71)
theorem at_L20 {w : World} {A : Option Addr} {n : Nat} {xs : List (List S71)} (h : Kd.C (Kd.slice 71 k71) w A n xs) (i : Int) (h0 : 0 ≤ i) (h1 : i < n) : ∃ ad A0 c0, A = some ad ∧ w.cell? (ad.add i.toNat) = some (.slice A0 (rd_L20 xs i).length c0) ∧ (rd_L20 xs i).length ≤ c0 ∧ k71.C w A0 (rd_L20 xs i).length (rd_L20 xs i) := by
  obtain ⟨ad, c, e, _, hK, hc0⟩ := Kd.C_get h ([] : List S71) i h0 h1
  have hc : ∀ j u, c[j]? = some u → w.cell? (ad.add (i.toNat * 1 + j)) = some u := hc0
  obtain ⟨A0, c0, rfl, l0, g0⟩ := hK
  exact ⟨ad, A0, c0, e, by have hq := hc 0 _ rfl; rwa [Nat.mul_one, Nat.add_zero] at hq, l0, g0⟩

/-! #### struct type 31 -/
structure S31 where
  f0 : ByteArray
  f1 : ByteArray
  f2 : Bool
  f3 : Bool
  f4 : (List S67)
  f5 : (List S71)
def z31 : S31 := ⟨(⟨#[]⟩ : ByteArray), (⟨#[]⟩ : ByteArray), false, false, ([] : List S67), ([] : List S71)⟩
def k31 : Kd S31 := Kd.iso (Kd.pair Kd.string (Kd.pair Kd.string (Kd.pair Kd.bool (Kd.pair Kd.bool (Kd.pair (Kd.slice 67 k67) (Kd.slice 71 k71)))))) (fun x : S31 => (x.f0, x.f1, x.f2, x.f3, x.f4, x.f5))
theorem k31_open {w : World} {x : S31} {cs : List Value} (h : k31.K w x cs) : ∃ A4 c4 A5 c5, cs = [.string x.f0, .string x.f1, .bool x.f2, .bool x.f3, .slice A4 x.f4.length c4, .slice A5 x.f5.length c5] ∧ x.f4.length ≤ c4 ∧ k67.C w A4 x.f4.length x.f4 ∧ x.f5.length ≤ c5 ∧ k71.C w A5 x.f5.length x.f5 := by
  obtain ⟨_, _, rfl, rfl, ⟨_, _, rfl, rfl, ⟨_, _, rfl, rfl, ⟨_, _, rfl, rfl, ⟨_, _, rfl, ⟨A4, c4, rfl, l4, g4⟩, ⟨A5, c5, rfl, l5, g5⟩⟩⟩⟩⟩⟩ := h
  exact ⟨A4, c4, A5, c5, rfl, l4, g4, l5, g5⟩
theorem k31_openM {w : World} {base : Nat} {ok : Nat → Prop} {x : S31} {cs : List Value} (h : k31.M w base ok x cs) : ∃ v4 v5, cs = [.string x.f0, .string x.f1, .bool x.f2, .bool x.f3, v4, v5] ∧ k67.R 67 w base ok v4 x.f4 ∧ k71.R 71 w base ok v5 x.f5 := by
  obtain ⟨_, _, rfl, rfl, ⟨_, _, rfl, rfl, ⟨_, _, rfl, rfl, ⟨_, _, rfl, rfl, ⟨_, _, rfl, ⟨v4, rfl, g4⟩, ⟨v5, rfl, g5⟩⟩⟩⟩⟩⟩ := h
  exact ⟨v4, v5, rfl, g4, g5⟩
theorem k31_mk (w : World) (x : S31) {A4 : Option Addr} {c4 : Nat} (l4 : x.f4.length ≤ c4) (g4 : k67.C w A4 x.f4.length x.f4) {A5 : Option Addr} {c5 : Nat} (l5 : x.f5.length ≤ c5) (g5 : k71.C w A5 x.f5.length x.f5) : k31.K w x [.string x.f0, .string x.f1, .bool x.f2, .bool x.f3, .slice A4 x.f4.length c4, .slice A5 x.f5.length c5] := ⟨[.string x.f0], [.string x.f1, .bool x.f2, .bool x.f3, .slice A4 x.f4.length c4, .slice A5 x.f5.length c5], rfl, rfl, ⟨[.string x.f1], [.bool x.f2, .bool x.f3, .slice A4 x.f4.length c4, .slice A5 x.f5.length c5], rfl, rfl, ⟨[.bool x.f2], [.bool x.f3, .slice A4 x.f4.length c4, .slice A5 x.f5.length c5], rfl, rfl, ⟨[.bool x.f3], [.slice A4 x.f4.length c4, .slice A5 x.f5.length c5], rfl, rfl, ⟨[.slice A4 x.f4.length c4], [.slice A5 x.f5.length c5], rfl, ⟨A4, c4, rfl, l4, g4⟩, ⟨A5, c5, rfl, l5, g5⟩⟩⟩⟩⟩⟩
theorem k31_mkM (w : World) (base : Nat) (ok : Nat → Prop) (x : S31) {v4 : Value} (g4 : k67.R 67 w base ok v4 x.f4) {v5 : Value} (g5 : k71.R 71 w base ok v5 x.f5) : k31.M w base ok x [.string x.f0, .string x.f1, .bool x.f2, .bool x.f3, v4, v5] := ⟨[.string x.f0], [.string x.f1, .bool x.f2, .bool x.f3, v4, v5], rfl, rfl, ⟨[.string x.f1], [.bool x.f2, .bool x.f3, v4, v5], rfl, rfl, ⟨[.bool x.f2], [.bool x.f3, v4, v5], rfl, rfl, ⟨[.bool x.f3], [v4, v5], rfl, rfl, ⟨[v4], [v5], rfl, ⟨v4, rfl, g4⟩, ⟨v5, rfl, g5⟩⟩⟩⟩⟩⟩
def rd_T31 (xs : List S31) (i : Int) : S31 := xs.getD i.toNat z31
theorem at_T31 {w : World} {A : Option Addr} {n : Nat} {xs : List S31} (h : Kd.C k31 w A n xs) (i : Int) (h0 : 0 ≤ i) (h1 : i < n) : ∃ ad A4 c4 A5 c5, A = some ad ∧ w.cell? (ad.add (i.toNat * 6)) = some (.string (rd_T31 xs i).f0) ∧ w.cell? ⟨(ad.add (i.toNat * 6)).block, (ad.add (i.toNat * 6)).off + 1, none⟩ = some (.string (rd_T31 xs i).f1) ∧ w.cell? ⟨(ad.add (i.toNat * 6)).block, (ad.add (i.toNat * 6)).off + 2, none⟩ = some (.bool (rd_T31 xs i).f2) ∧ w.cell? ⟨(ad.add (i.toNat * 6)).block, (ad.add (i.toNat * 6)).off + 3, none⟩ = some (.bool (rd_T31 xs i).f3) ∧ w.cell? ⟨(ad.add (i.toNat * 6)).block, (ad.add (i.toNat * 6)).off + 4, none⟩ = some (.slice A4 (rd_T31 xs i).f4.length c4) ∧ w.cell? ⟨(ad.add (i.toNat * 6)).block, (ad.add (i.toNat * 6)).off + 5, none⟩ = some (.slice A5 (rd_T31 xs i).f5.length c5) ∧ (rd_T31 xs i).f4.length ≤ c4 ∧ k67.C w A4 (rd_T31 xs i).f4.length (rd_T31 xs i).f4 ∧ (rd_T31 xs i).f5.length ≤ c5 ∧ k71.C w A5 (rd_T31 xs i).f5.length (rd_T31 xs i).f5 := by
  obtain ⟨ad, c, e, _, hK, hc0⟩ := Kd.C_get h z31 i h0 h1
  have hc : ∀ j u, c[j]? = some u → w.cell? (ad.add (i.toNat * 6 + j)) = some u := hc0
  obtain ⟨A4, c4, A5, c5, rfl, l4, g4, l5, g5⟩ := k31_open hK
  exact ⟨ad, A4, c4, A5, c5, e, hc 0 _ rfl, by rw [← add_field _ _ 1 (by omega)]; exact hc 1 _ rfl, by rw [← add_field _ _ 2 (by omega)]; exact hc 2 _ rfl, by rw [← add_field _ _ 3 (by omega)]; exact hc 3 _ rfl, by rw [← add_field _ _ 4 (by omega)]; exact hc 4 _ rfl, by rw [← add_field _ _ 5 (by omega)]; exact hc 5 _ rfl, l4, g4, l5, g5⟩

def rd_L22 (xs : List (List ByteArray)) (i : Int) : (List ByteArray) := xs.getD i.toNat ([] : List ByteArray)
theorem at_L22 {w : World} {A : Option Addr} {n : Nat} {xs : List (List ByteArray)} (h : Kd.C (Kd.slice 9 Kd.string) w A n xs) (i : Int) (h0 : 0 ≤ i) (h1 : i < n) : ∃ ad A0 c0, A = some ad ∧ w.cell? (ad.add i.toNat) = some (.slice A0 (rd_L22 xs i).length c0) ∧ (rd_L22 xs i).length ≤ c0 ∧ Kd.string.C w A0 (rd_L22 xs i).length (rd_L22 xs i) := by
  obtain ⟨ad, c, e, _, hK, hc0⟩ := Kd.C_get h ([] : List ByteArray) i h0 h1
  have hc : ∀ j u, c[j]? = some u → w.cell? (ad.add (i.toNat * 1 + j)) = some u := hc0
  obtain ⟨A0, c0, rfl, l0, g0⟩ := hK
  exact ⟨ad, A0, c0, e, by have hq := hc 0 _ rfl; rwa [Nat.mul_one, Nat.add_zero] at hq, l0, g0⟩

def rd_L23 (xs : List (List S25)) (i : Int) : (List S25) := xs.getD i.toNat ([] : List S25)
theorem at_L23 {w : World} {A : Option Addr} {n : Nat} {xs : List (List S25)} (h : Kd.C (Kd.slice 25 k25) w A n xs) (i : Int) (h0 : 0 ≤ i) (h1 : i < n) : ∃ ad A0 c0, A = some ad ∧ w.cell? (ad.add i.toNat) = some (.slice A0 (rd_L23 xs i).length c0) ∧ (rd_L23 xs i).length ≤ c0 ∧ k25.C w A0 (rd_L23 xs i).length (rd_L23 xs i) := by
  obtain ⟨ad, c, e, _, hK, hc0⟩ := Kd.C_get h ([] : List S25) i h0 h1
  have hc : ∀ j u, c[j]? = some u → w.cell? (ad.add (i.toNat * 1 + j)) = some u := hc0
  obtain ⟨A0, c0, rfl, l0, g0⟩ := hK
  exact ⟨ad, A0, c0, e, by have hq := hc 0 _ rfl; rwa [Nat.mul_one, Nat.add_zero] at hq, l0, g0⟩

/-! ### words that find for themselves what they need -/
theorem da_ {p : Prop} [Decidable p] (h : decide p = true := by first | (with_reducible assumption) | assumption) : p := of_decide_eq_true h
theorem s1_ {P : Prop} (h : P := by first | rfl | (simp; done) | (simp [*]; first | done | fail)) : P := h
theorem s2_ {P : Prop} (h : P := by first | rfl | (simp [*] <;> rfl)) : P := h
theorem o1_ {P : Prop} (h : P := by first | omega | exact Nat.le_refl _) : P := h
theorem dr_ {P : Prop} (h : P := by first | exact ⟨rfl, _, World.drewN_drewN _ _ _⟩ | exact ⟨rfl, _, Eq.trans (World.drewN_drewN _ _ _) (congrArg (World.drewN _) (Nat.add_assoc _ _ _))⟩) : P := h
theorem dn_ {P : Prop} (h : P := by repeat (first | exact Drawn0.refl _ | apply Drawn0.step)) : P := h
theorem fd_ {P : Prop} {w W : World} (h : P := by first | rfl | (simp; done) | (simp [*]; first | done | fail)) (hd : Drawn0 w W := by repeat (first | exact Drawn0.refl _ | apply Drawn0.step)) : P ∧ Drawn0 w W := ⟨h, hd⟩
theorem gs_ {P : Prop} (h : P := by first | (go_simp; done) | (go_simp; rfl)) : P := h
theorem hK_ {P : Prop} (h : P := by repeat (first | (with_reducible first | exact HK.out | apply KeepBut.set_ | apply keep_drewN | apply keep_drew | apply keep_alloc) | exact HK.out)) : P := h
theorem sp_ {α : Type} {c : Prop} [Decidable c] {A B r : α} (H : (if c then A else B) = r) : (¬ c ∧ B = r) ∨ (c ∧ A = r) := by
  by_cases h : c
  · exact .inr ⟨h, by rwa [if_pos h] at H⟩
  · exact .inl ⟨h, by rwa [if_neg h] at H⟩
theorem sd_ {α : Type} {c : Prop} [Decidable c] {A B r : α} (H : (if c then A else B) = r) : (decide c = false ∧ B = r) ∨ (decide c = true ∧ A = r) := (sp_ H).imp (fun h => ⟨decide_eq_false h.1, h.2⟩) (fun h => ⟨decide_eq_true h.1, h.2⟩)
theorem sb_ {α : Type} {c : Bool} {A B r : α} (H : (if c = true then A else B) = r) : (c = false ∧ B = r) ∨ (c = true ∧ A = r) := (sp_ H).imp (fun h => ⟨Bool.eq_false_iff.mpr h.1, h.2⟩) (fun h => h)
theorem se_ {α β : Type} [BEq β] [LawfulBEq β] {x y : β} [Decidable (x = y)] {A B r : α} (H : (if x = y then A else B) = r) : (¬ x = y ∧ (x == y) = false ∧ (x != y) = true ∧ B = r) ∨ (x = y ∧ (x == y) = true ∧ (x != y) = false ∧ A = r) :=
  (sp_ H).imp (fun h => ⟨h.1, beq_eq_false_iff_ne.mpr h.1, bne_iff_ne.mpr h.1, h.2⟩) (fun h => ⟨h.1, beq_iff_eq.mpr h.1, bne_eq_false_iff_eq.mpr h.1, h.2⟩)
theorem sn_ {α : Type} {c : Prop} [Decidable c] {A : Option α} {r : α} (H : (if c then A else none) = some r) : c ∧ A = some r := (sp_ H).elim (fun h => nomatch h.2) (fun h => h)
theorem sm_ {α : Type} {c : Prop} [Decidable c] {A : Option α} {r : α} (H : (if c then none else A) = some r) : ¬ c ∧ A = some r := (sp_ H).elim (fun h => h) (fun h => nomatch h.2)
theorem snd_ {α : Type} {c : Prop} [Decidable c] {A : Option α} {r : α} (H : (if c then A else none) = some r) : decide c = true ∧ A = some r := ⟨decide_eq_true (sn_ H).1, (sn_ H).2⟩
theorem sq_ {α β : Type} {x : Option α} {f : α → Option β} {r : β} (H : x.bind f = some r) : ∃ t, Aside0 (x = some t) ∧ f t = some r := (Option.bind_eq_some_iff.mp H).elim fun t h => ⟨t, ⟨h.1⟩, h.2⟩
theorem pr {W W' : World} [h : Nonempty (Pl W W')] {α : Type} {d : Kd α} {e base : Nat} {ok : Nat → Prop} {v : Value} {xs : List α} (x : Kd.R d e W base ok v xs) : Kd.R d e W' base ok v xs := h.elim fun p => p.rr x
theorem ps {W W' : World} [h : Nonempty (Pl W W')] {α : Type} {d : Kd α} {e base : Nat} {ok : Nat → Prop} {v : Value} {xs : List α} (x : Kd.S d e W base ok v xs) : Kd.S d e W' base ok v xs := h.elim fun p => p.ss x
theorem pd {w W W' : World} [Nonempty (Pl W W')] {α : Type} {d : Kd α} {A : Option Addr} {n : Nat} {xs : List α} (h : Aside0 (d.C w A n xs)) (hb : Aside0 (Below w.heap.size w W)) : d.C W' A n xs := pc (Kd.C_below h.out hb.out)
theorem kb {W W' w1 : World} [Nonempty (Pl W W')] {g : Nat} {o : Obj} (h : Aside0 (W.heap[g]? = some o)) (hb : Below W'.heap.size W' w1) : Aside0 (w1.heap[g]? = some o) := ⟨blk_below (pk h.out) hb⟩
theorem bt_ {w W W' w1 : World} [Nonempty (Pl W W')] (h : Aside0 (Below w.heap.size w W)) (hb : Below W'.heap.size W' w1) : Aside0 (Below w.heap.size w w1) := ⟨below_step (bk h.out) hb⟩
theorem bz {w W W' : World} [Nonempty (Pl W W')] {g : Nat} (h : Aside0 (Below w.heap.size w W)) (hg : g = W'.heap.size) : Aside0 (w.heap.size ≤ g) := ⟨by rw [hg]; exact below_size (bk h.out)⟩
theorem bl {W W' : World} [Nonempty (Pl W W')] {g g' : Nat} {o : Obj} (h : Aside0 (W.heap[g']? = some o)) (hg : g = W'.heap.size) : Aside0 (g' ≠ g) := ⟨by rw [hg]; exact Nat.ne_of_lt (blk_lt (pk h.out))⟩
theorem bg {W W' : World} [Nonempty (Pl W W')] {g g' : Nat} {o : Obj} (h : Aside0 (W.heap[g']? = some o)) (hg : g = W'.heap.size) : Aside0 (g ≠ g') := ⟨fun e => (bl h hg).out e.symm⟩
theorem ca_ {P : Program} {f : FuncId} {args args' : Array Value} {w : World} {Q Q' : Ending → World → Prop} (c : Calls P f args w Q) (h : ∀ e w', Q e w' → Q' e w') (ha : args' = args := by first | (with_reducible rfl) | (simp [*]; first | done | fail)) : Calls P f args' w Q' := calls_of_args ha (c.mono h)
theorem rs_ {w : World} {base : Nat} {ok : Nat → Prop} (xs : List ByteArray) : Reps (Kd.M Kd.string w base ok) 1 xs (xs.map Value.string) := Kd.reps_scalar xs
theorem bx_ {P : Program} {ops : Array Oper} {rest : List Oper} {o : Oper} {a : Act} {Q : Exit → Act → World → Prop} {W : World} (N : Tmp) (t : TypeId) (cs : Array Value)
    (h : ∀ g, g = W.heap.size → ∀ w1, w1.heap[g]? = some (.cells cs t (0, 0)) → Below W.heap.size W w1 → wpList P ops Q rest (a.put o.dst (.pointer (some ⟨g, 0, none⟩))) w1) (hd : o.dst = some N := by rfl) (hg : o.guard = none := by rfl)
    (hr : (execOp a.eval o).run P W = .ok (.value (.pointer (some ⟨W.heap.size, 0, none⟩))) (W.alloc (.cells cs t (0, 0))) := by first | (go_simp; done) | (go_simp; rfl)) : wpList P ops Q (o :: rest) a W := box_event hg hd hr h
section
variable {P : Program} {ops : Array Oper} {Q : Exit → Act → World → Prop} {md : Region.Mode} {S : World → Prop} {ds : List Nat} {T : Bool × List (List Nat × List Nat)} {B : List Nat}
theorem px_ (i : Nat) (N : Tmp) {oi : Oper} {v : Value} {fuel : Nat} {l l' : Array Bool} {a a' : Act} {w : World} (h : wpAnyLast P md ops Q S ds fuel l' a' w) (hi : ops[i]? = some oi := by rfl) (hN : oi.dst = some N := by rfl)
    (hl : l.setIfInBounds i true = l' := by simp only [List.setIfInBounds_toArray, List.set_cons_zero, List.set_cons_succ]; rfl) (hT : rtab md ops = T := by exact HT_.out) (hc : anyT T l.toList l'.toList i = true := by kernel_rfl)
    (hw : Region.wanted oi (yielded ops a.tmps) = true := by rfl) (hr : ∀ w, (execOp a.eval oi).run P w = .ok (.value v) w := by intro w'; go_simp; with_reducible rfl)
    (hQ : ∀ c a w, Q (.panic c) (a.put oi.dst v) w → Q (.panic c) a w := by exact fun _ _ _ h => h)
    (ha : a.put (some N) v = a' := by simp only [Act.put, List.setIfInBounds_toArray, List.set_cons_zero, List.set_cons_succ, i64_w, i32_w]; rfl) : wpAnyLast P md ops Q S ds (fuel + 1) l a w :=
  pure_ l' hi hN (any_of hT hc) hQ (Or.inl ⟨hw, hr⟩) ha h
theorem pu_ (i : Nat) (N : Tmp) {oi : Oper} {fuel : Nat} {l l' : Array Bool} {a a' : Act} {w : World} (h : wpAnyLast P md ops Q S ds fuel l' a' w) (hi : ops[i]? = some oi := by rfl) (hN : oi.dst = some N := by rfl)
    (hl : l.setIfInBounds i true = l' := by simp only [List.setIfInBounds_toArray, List.set_cons_zero, List.set_cons_succ]; rfl) (hT : rtab md ops = T := by exact HT_.out) (hc : anyT T l.toList l'.toList i = true := by kernel_rfl)
    (hw : Region.wanted oi (yielded ops a.tmps) = false := by rfl) (hQ : ∀ c a w, Q (.panic c) (a.put oi.dst undef) w → Q (.panic c) a w := by exact fun _ _ _ h => h)
    (ha : a.put (some N) undef = a' := by simp only [Act.put, List.setIfInBounds_toArray, List.set_cons_zero, List.set_cons_succ, i64_w, i32_w]; rfl) : wpAnyLast P md ops Q S ds (fuel + 1) l a w :=
  pure_ l' hi hN (any_of hT hc) hQ (Or.inr ⟨hw, rfl⟩) ha h
theorem tk_ (i : Nat) (N : Tmp) {oi : Oper} {v : Value} {fuel : Nat} {l l' : Array Bool} {a a' : Act} {w : World} (h : wpAnyLast P md ops Q S ds fuel l' a' w) (hi : ops[i]? = some oi := by rfl) (hN : oi.dst = some N := by rfl)
    (hl : l.setIfInBounds i true = l' := by simp only [List.setIfInBounds_toArray, List.set_cons_zero, List.set_cons_succ]; rfl) (hT : rtab md ops = T := by exact HT_.out) (hB : waitsOk T.2 B = true := by exact HW_.out) (hc : takeW T B ds l.toList l'.toList i = true := by kernel_rfl)
    (hw : Region.wanted oi (yielded ops a.tmps) = true := by rfl) (hr : ∀ w, S w → (execOp a.eval oi).run P w = .ok (.value v) w := by intro w' hs; (try dsimp only at hs); go_simp; with_reducible rfl)
    (hQ : ∀ c a w, Q (.panic c) (a.put oi.dst v) w → Q (.panic c) a w := by exact fun _ _ _ h => h) (hS : S w := by exact hHeld)
    (ha : a.put (some N) v = a' := by simp only [Act.put, List.setIfInBounds_toArray, List.set_cons_zero, List.set_cons_succ, i64_w, i32_w]; rfl) : wpAnyLast P md ops Q S ds (fuel + 1) l a w :=
  take_ l' hi hN (take_ofW hT hB hc) hQ (Or.inl ⟨hw, hr⟩) hS ha h
theorem nm_ {fuel : Nat} {l : Array Bool} {a a' : Act} {w : World} (N : Tmp) {v : Value} (h : wpAnyLast P md ops Q S ds fuel l a' w) (ha : Act.put a (some N) v = a' := by simp only [Act.put, List.setIfInBounds_toArray, List.set_cons_zero, List.set_cons_succ, i64_w, i32_w]; rfl) : wpAnyLast P md ops Q S ds fuel l (Act.put a (some N) v) w := norm_ ha h
end
theorem mo_ {P : Prop} (h : P := by repeat' first | (with_reducible first | exact LeO.refl _ | apply ih0 | apply ih1 | apply ih2 | apply ih3 | apply ih4 | apply ih5 | apply ih6 | apply ih7 | apply ih8 | apply ih9 | apply ih10 | apply ih11 | apply m0 | apply m1 | apply m2 | apply m3 | apply m4 | apply m5 | apply m6 | apply m7 | apply m8 | apply m9 | apply m10 | apply m11 | apply m12 | apply m13 | apply m14 | apply m15 | exact LeO.none _ | refine LeO.ite ?_ ?_ | refine LeO.bind ?_ (fun _ => ?_)) | apply ih0 | apply ih1 | apply ih2 | apply ih3 | apply ih4 | apply ih5 | apply ih6 | apply ih7 | apply ih8 | apply ih9 | apply ih10 | apply ih11 | apply m0 | apply m1 | apply m2 | apply m3 | apply m4 | apply m5 | apply m6 | apply m7 | apply m8 | apply m9 | apply m10 | apply m11 | apply m12 | apply m13 | apply m14 | apply m15 | exact LeO.none _ | refine LeO.ite ?_ ?_ | refine LeO.bind ?_ (fun _ => ?_)) : P := h
theorem an_str {w W : World} {A : Option Addr} {n : Nat} {xs : List ByteArray} (h : Aside0 (Kd.C Kd.string w A n xs)) (hb : Aside0 (Below w.heap.size w W)) (i : Int) (h0 : 0 ≤ i := by exact da_) (h1 : i < n := by exact da_) : ∃ ad, A = some ad ∧ ((0 ≤ i) = True ∧ (i < n) = True ∧ W.cell? (ad.add i.toNat) = some (.string (rdOf ByteArray.empty xs i))) := by
  obtain ⟨ad, e_, x⟩ := Kd.at_string h.out i h0 h1
  exact ⟨ad, e_, eq_true h0, eq_true h1, hx_ hb x (World.block_lt_of_cell? _ _ x)⟩
theorem am_str {w : World} {A : Option Addr} {n : Nat} {xs : List ByteArray} (h : Aside0 (Kd.C Kd.string w A n xs)) (i : Int) (h0 : 0 ≤ i := by exact da_) (h1 : i < n := by exact da_) : ∃ ad, A = some ad ∧ ((0 ≤ i) = True ∧ (i < n) = True ∧ w.cell? (ad.add i.toNat) = some (.string (rdOf ByteArray.empty xs i))) := by
  obtain ⟨ad, e_, x⟩ := Kd.at_string h.out i h0 h1
  exact ⟨ad, e_, eq_true h0, eq_true h1, x⟩
theorem an_T60 {w W : World} {A : Option Addr} {n : Nat} {xs : List S60} (h : Aside0 (Kd.C k60 w A n xs)) (hb : Aside0 (Below w.heap.size w W)) (i : Int) (h0 : 0 ≤ i := by exact da_) (h1 : i < n := by exact da_) : ∃ ad , A = some ad ∧ ((0 ≤ i) = True ∧ (i < n) = True ∧ W.cell? (ad.add (i.toNat * 3)) = some (.string (rd_T60 xs i).f0) ∧ W.cell? ⟨(ad.add (i.toNat * 3)).block, (ad.add (i.toNat * 3)).off + 1, none⟩ = some (.string (rd_T60 xs i).f1) ∧ W.cell? ⟨(ad.add (i.toNat * 3)).block, (ad.add (i.toNat * 3)).off + 2, none⟩ = some (.bool (rd_T60 xs i).f2)) := by
  obtain ⟨ad, e_, x0_, x1_, x2_⟩ := at_T60 h.out i h0 h1
  exact ⟨ad, e_, ⟨eq_true h0, eq_true h1, hx_ hb x0_ (World.block_lt_of_cell? _ _ x0_), hx_ hb x1_ (World.block_lt_of_cell? _ _ x1_), hx_ hb x2_ (World.block_lt_of_cell? _ _ x2_)⟩⟩
theorem am_T60 {w : World} {A : Option Addr} {n : Nat} {xs : List S60} (h : Aside0 (Kd.C k60 w A n xs)) (i : Int) (h0 : 0 ≤ i := by exact da_) (h1 : i < n := by exact da_) : ∃ ad , A = some ad ∧ ((0 ≤ i) = True ∧ (i < n) = True ∧ w.cell? (ad.add (i.toNat * 3)) = some (.string (rd_T60 xs i).f0) ∧ w.cell? ⟨(ad.add (i.toNat * 3)).block, (ad.add (i.toNat * 3)).off + 1, none⟩ = some (.string (rd_T60 xs i).f1) ∧ w.cell? ⟨(ad.add (i.toNat * 3)).block, (ad.add (i.toNat * 3)).off + 2, none⟩ = some (.bool (rd_T60 xs i).f2)) := by
  obtain ⟨ad, e_, x0_, x1_, x2_⟩ := at_T60 h.out i h0 h1
  exact ⟨ad, e_, ⟨eq_true h0, eq_true h1, x0_, x1_, x2_⟩⟩
theorem an_T121 {w W : World} {A : Option Addr} {n : Nat} {xs : List S121} (h : Aside0 (Kd.C k121 w A n xs)) (hb : Aside0 (Below w.heap.size w W)) (i : Int) (h0 : 0 ≤ i := by exact da_) (h1 : i < n := by exact da_) : ∃ ad , A = some ad ∧ ((0 ≤ i) = True ∧ (i < n) = True ∧ W.cell? (ad.add (i.toNat * 5)) = some (.int .i64 (rd_T121 xs i).f0) ∧ W.cell? ⟨(ad.add (i.toNat * 5)).block, (ad.add (i.toNat * 5)).off + 1, none⟩ = some (.int .i64 (rd_T121 xs i).f1) ∧ W.cell? ⟨(ad.add (i.toNat * 5)).block, (ad.add (i.toNat * 5)).off + 2, none⟩ = some (.string (rd_T121 xs i).f2) ∧ W.cell? ⟨(ad.add (i.toNat * 5)).block, (ad.add (i.toNat * 5)).off + 3, none⟩ = some (.string (rd_T121 xs i).f3) ∧ W.cell? ⟨(ad.add (i.toNat * 5)).block, (ad.add (i.toNat * 5)).off + 4, none⟩ = some (.string (rd_T121 xs i).f4)) := by
  obtain ⟨ad, e_, x0_, x1_, x2_, x3_, x4_⟩ := at_T121 h.out i h0 h1
  exact ⟨ad, e_, ⟨eq_true h0, eq_true h1, hx_ hb x0_ (World.block_lt_of_cell? _ _ x0_), hx_ hb x1_ (World.block_lt_of_cell? _ _ x1_), hx_ hb x2_ (World.block_lt_of_cell? _ _ x2_), hx_ hb x3_ (World.block_lt_of_cell? _ _ x3_), hx_ hb x4_ (World.block_lt_of_cell? _ _ x4_)⟩⟩
theorem am_T121 {w : World} {A : Option Addr} {n : Nat} {xs : List S121} (h : Aside0 (Kd.C k121 w A n xs)) (i : Int) (h0 : 0 ≤ i := by exact da_) (h1 : i < n := by exact da_) : ∃ ad , A = some ad ∧ ((0 ≤ i) = True ∧ (i < n) = True ∧ w.cell? (ad.add (i.toNat * 5)) = some (.int .i64 (rd_T121 xs i).f0) ∧ w.cell? ⟨(ad.add (i.toNat * 5)).block, (ad.add (i.toNat * 5)).off + 1, none⟩ = some (.int .i64 (rd_T121 xs i).f1) ∧ w.cell? ⟨(ad.add (i.toNat * 5)).block, (ad.add (i.toNat * 5)).off + 2, none⟩ = some (.string (rd_T121 xs i).f2) ∧ w.cell? ⟨(ad.add (i.toNat * 5)).block, (ad.add (i.toNat * 5)).off + 3, none⟩ = some (.string (rd_T121 xs i).f3) ∧ w.cell? ⟨(ad.add (i.toNat * 5)).block, (ad.add (i.toNat * 5)).off + 4, none⟩ = some (.string (rd_T121 xs i).f4)) := by
  obtain ⟨ad, e_, x0_, x1_, x2_, x3_, x4_⟩ := at_T121 h.out i h0 h1
  exact ⟨ad, e_, ⟨eq_true h0, eq_true h1, x0_, x1_, x2_, x3_, x4_⟩⟩
theorem an_T123 {w W : World} {A : Option Addr} {n : Nat} {xs : List S123} (h : Aside0 (Kd.C k123 w A n xs)) (hb : Aside0 (Below w.heap.size w W)) (i : Int) (h0 : 0 ≤ i := by exact da_) (h1 : i < n := by exact da_) : ∃ ad , A = some ad ∧ ((0 ≤ i) = True ∧ (i < n) = True ∧ W.cell? (ad.add (i.toNat * 4)) = some (.int .i64 (rd_T123 xs i).f0) ∧ W.cell? ⟨(ad.add (i.toNat * 4)).block, (ad.add (i.toNat * 4)).off + 1, none⟩ = some (.int .i64 (rd_T123 xs i).f1) ∧ W.cell? ⟨(ad.add (i.toNat * 4)).block, (ad.add (i.toNat * 4)).off + 2, none⟩ = some (.int .i64 (rd_T123 xs i).f2) ∧ W.cell? ⟨(ad.add (i.toNat * 4)).block, (ad.add (i.toNat * 4)).off + 3, none⟩ = some (.string (rd_T123 xs i).f3)) := by
  obtain ⟨ad, e_, x0_, x1_, x2_, x3_⟩ := at_T123 h.out i h0 h1
  exact ⟨ad, e_, ⟨eq_true h0, eq_true h1, hx_ hb x0_ (World.block_lt_of_cell? _ _ x0_), hx_ hb x1_ (World.block_lt_of_cell? _ _ x1_), hx_ hb x2_ (World.block_lt_of_cell? _ _ x2_), hx_ hb x3_ (World.block_lt_of_cell? _ _ x3_)⟩⟩
theorem am_T123 {w : World} {A : Option Addr} {n : Nat} {xs : List S123} (h : Aside0 (Kd.C k123 w A n xs)) (i : Int) (h0 : 0 ≤ i := by exact da_) (h1 : i < n := by exact da_) : ∃ ad , A = some ad ∧ ((0 ≤ i) = True ∧ (i < n) = True ∧ w.cell? (ad.add (i.toNat * 4)) = some (.int .i64 (rd_T123 xs i).f0) ∧ w.cell? ⟨(ad.add (i.toNat * 4)).block, (ad.add (i.toNat * 4)).off + 1, none⟩ = some (.int .i64 (rd_T123 xs i).f1) ∧ w.cell? ⟨(ad.add (i.toNat * 4)).block, (ad.add (i.toNat * 4)).off + 2, none⟩ = some (.int .i64 (rd_T123 xs i).f2) ∧ w.cell? ⟨(ad.add (i.toNat * 4)).block, (ad.add (i.toNat * 4)).off + 3, none⟩ = some (.string (rd_T123 xs i).f3)) := by
  obtain ⟨ad, e_, x0_, x1_, x2_, x3_⟩ := at_T123 h.out i h0 h1
  exact ⟨ad, e_, ⟨eq_true h0, eq_true h1, x0_, x1_, x2_, x3_⟩⟩
theorem an_L6 {w W : World} {A : Option Addr} {n : Nat} {xs : List (List S121)} (h : Aside0 (Kd.C (Kd.slice 121 k121) w A n xs)) (hb : Aside0 (Below w.heap.size w W)) (i : Int) (h0 : 0 ≤ i := by exact da_) (h1 : i < n := by exact da_) : ∃ ad A0 c0, A = some ad ∧ ((0 ≤ i) = True ∧ (i < n) = True ∧ W.cell? (ad.add i.toNat) = some (.slice A0 (rd_L6 xs i).length c0)) ∧ Aside0 ((rd_L6 xs i).length ≤ c0) ∧ Aside0 (k121.C w A0 (rd_L6 xs i).length (rd_L6 xs i)) := by
  obtain ⟨ad, A0, c0, e_, x0_, y0_, y1_⟩ := at_L6 h.out i h0 h1
  exact ⟨ad, A0, c0, e_, ⟨eq_true h0, eq_true h1, hx_ hb x0_ (World.block_lt_of_cell? _ _ x0_)⟩, ⟨y0_⟩, ⟨y1_⟩⟩
theorem am_L6 {w : World} {A : Option Addr} {n : Nat} {xs : List (List S121)} (h : Aside0 (Kd.C (Kd.slice 121 k121) w A n xs)) (i : Int) (h0 : 0 ≤ i := by exact da_) (h1 : i < n := by exact da_) : ∃ ad A0 c0, A = some ad ∧ ((0 ≤ i) = True ∧ (i < n) = True ∧ w.cell? (ad.add i.toNat) = some (.slice A0 (rd_L6 xs i).length c0)) ∧ Aside0 ((rd_L6 xs i).length ≤ c0) ∧ Aside0 (k121.C w A0 (rd_L6 xs i).length (rd_L6 xs i)) := by
  obtain ⟨ad, A0, c0, e_, x0_, y0_, y1_⟩ := at_L6 h.out i h0 h1
  exact ⟨ad, A0, c0, e_, ⟨eq_true h0, eq_true h1, x0_⟩, ⟨y0_⟩, ⟨y1_⟩⟩
theorem an_L7 {w W : World} {A : Option Addr} {n : Nat} {xs : List (List S123)} (h : Aside0 (Kd.C (Kd.slice 123 k123) w A n xs)) (hb : Aside0 (Below w.heap.size w W)) (i : Int) (h0 : 0 ≤ i := by exact da_) (h1 : i < n := by exact da_) : ∃ ad A0 c0, A = some ad ∧ ((0 ≤ i) = True ∧ (i < n) = True ∧ W.cell? (ad.add i.toNat) = some (.slice A0 (rd_L7 xs i).length c0)) ∧ Aside0 ((rd_L7 xs i).length ≤ c0) ∧ Aside0 (k123.C w A0 (rd_L7 xs i).length (rd_L7 xs i)) := by
  obtain ⟨ad, A0, c0, e_, x0_, y0_, y1_⟩ := at_L7 h.out i h0 h1
  exact ⟨ad, A0, c0, e_, ⟨eq_true h0, eq_true h1, hx_ hb x0_ (World.block_lt_of_cell? _ _ x0_)⟩, ⟨y0_⟩, ⟨y1_⟩⟩
theorem am_L7 {w : World} {A : Option Addr} {n : Nat} {xs : List (List S123)} (h : Aside0 (Kd.C (Kd.slice 123 k123) w A n xs)) (i : Int) (h0 : 0 ≤ i := by exact da_) (h1 : i < n := by exact da_) : ∃ ad A0 c0, A = some ad ∧ ((0 ≤ i) = True ∧ (i < n) = True ∧ w.cell? (ad.add i.toNat) = some (.slice A0 (rd_L7 xs i).length c0)) ∧ Aside0 ((rd_L7 xs i).length ≤ c0) ∧ Aside0 (k123.C w A0 (rd_L7 xs i).length (rd_L7 xs i)) := by
  obtain ⟨ad, A0, c0, e_, x0_, y0_, y1_⟩ := at_L7 h.out i h0 h1
  exact ⟨ad, A0, c0, e_, ⟨eq_true h0, eq_true h1, x0_⟩, ⟨y0_⟩, ⟨y1_⟩⟩
theorem an_T65 {w W : World} {A : Option Addr} {n : Nat} {xs : List S65} (h : Aside0 (Kd.C k65 w A n xs)) (hb : Aside0 (Below w.heap.size w W)) (i : Int) (h0 : 0 ≤ i := by exact da_) (h1 : i < n := by exact da_) : ∃ ad A7 c7 A8 c8, A = some ad ∧ ((0 ≤ i) = True ∧ (i < n) = True ∧ W.cell? (ad.add (i.toNat * 9)) = some (.string (rd_T65 xs i).f0) ∧ W.cell? ⟨(ad.add (i.toNat * 9)).block, (ad.add (i.toNat * 9)).off + 1, none⟩ = some (.string (rd_T65 xs i).f1) ∧ W.cell? ⟨(ad.add (i.toNat * 9)).block, (ad.add (i.toNat * 9)).off + 2, none⟩ = some (.bool (rd_T65 xs i).f2) ∧ W.cell? ⟨(ad.add (i.toNat * 9)).block, (ad.add (i.toNat * 9)).off + 3, none⟩ = some (.bool (rd_T65 xs i).f3) ∧ W.cell? ⟨(ad.add (i.toNat * 9)).block, (ad.add (i.toNat * 9)).off + 4, none⟩ = some (.bool (rd_T65 xs i).f4) ∧ W.cell? ⟨(ad.add (i.toNat * 9)).block, (ad.add (i.toNat * 9)).off + 5, none⟩ = some (.int .i64 (rd_T65 xs i).f5) ∧ W.cell? ⟨(ad.add (i.toNat * 9)).block, (ad.add (i.toNat * 9)).off + 6, none⟩ = some (.int .i64 (rd_T65 xs i).f6) ∧ W.cell? ⟨(ad.add (i.toNat * 9)).block, (ad.add (i.toNat * 9)).off + 7, none⟩ = some (.slice A7 (rd_T65 xs i).f7.length c7) ∧ W.cell? ⟨(ad.add (i.toNat * 9)).block, (ad.add (i.toNat * 9)).off + 8, none⟩ = some (.slice A8 (rd_T65 xs i).f8.length c8)) ∧ Aside0 ((rd_T65 xs i).f7.length ≤ c7) ∧ Aside0 (k121.C w A7 (rd_T65 xs i).f7.length (rd_T65 xs i).f7) ∧ Aside0 ((rd_T65 xs i).f8.length ≤ c8) ∧ Aside0 (k123.C w A8 (rd_T65 xs i).f8.length (rd_T65 xs i).f8) := by
  obtain ⟨ad, A7, c7, A8, c8, e_, x0_, x1_, x2_, x3_, x4_, x5_, x6_, x7_, x8_, y0_, y1_, y2_, y3_⟩ := at_T65 h.out i h0 h1
  exact ⟨ad, A7, c7, A8, c8, e_, ⟨eq_true h0, eq_true h1, hx_ hb x0_ (World.block_lt_of_cell? _ _ x0_), hx_ hb x1_ (World.block_lt_of_cell? _ _ x1_), hx_ hb x2_ (World.block_lt_of_cell? _ _ x2_), hx_ hb x3_ (World.block_lt_of_cell? _ _ x3_), hx_ hb x4_ (World.block_lt_of_cell? _ _ x4_), hx_ hb x5_ (World.block_lt_of_cell? _ _ x5_), hx_ hb x6_ (World.block_lt_of_cell? _ _ x6_), hx_ hb x7_ (World.block_lt_of_cell? _ _ x7_), hx_ hb x8_ (World.block_lt_of_cell? _ _ x8_)⟩, ⟨y0_⟩, ⟨y1_⟩, ⟨y2_⟩, ⟨y3_⟩⟩
theorem am_T65 {w : World} {A : Option Addr} {n : Nat} {xs : List S65} (h : Aside0 (Kd.C k65 w A n xs)) (i : Int) (h0 : 0 ≤ i := by exact da_) (h1 : i < n := by exact da_) : ∃ ad A7 c7 A8 c8, A = some ad ∧ ((0 ≤ i) = True ∧ (i < n) = True ∧ w.cell? (ad.add (i.toNat * 9)) = some (.string (rd_T65 xs i).f0) ∧ w.cell? ⟨(ad.add (i.toNat * 9)).block, (ad.add (i.toNat * 9)).off + 1, none⟩ = some (.string (rd_T65 xs i).f1) ∧ w.cell? ⟨(ad.add (i.toNat * 9)).block, (ad.add (i.toNat * 9)).off + 2, none⟩ = some (.bool (rd_T65 xs i).f2) ∧ w.cell? ⟨(ad.add (i.toNat * 9)).block, (ad.add (i.toNat * 9)).off + 3, none⟩ = some (.bool (rd_T65 xs i).f3) ∧ w.cell? ⟨(ad.add (i.toNat * 9)).block, (ad.add (i.toNat * 9)).off + 4, none⟩ = some (.bool (rd_T65 xs i).f4) ∧ w.cell? ⟨(ad.add (i.toNat * 9)).block, (ad.add (i.toNat * 9)).off + 5, none⟩ = some (.int .i64 (rd_T65 xs i).f5) ∧ w.cell? ⟨(ad.add (i.toNat * 9)).block, (ad.add (i.toNat * 9)).off + 6, none⟩ = some (.int .i64 (rd_T65 xs i).f6) ∧ w.cell? ⟨(ad.add (i.toNat * 9)).block, (ad.add (i.toNat * 9)).off + 7, none⟩ = some (.slice A7 (rd_T65 xs i).f7.length c7) ∧ w.cell? ⟨(ad.add (i.toNat * 9)).block, (ad.add (i.toNat * 9)).off + 8, none⟩ = some (.slice A8 (rd_T65 xs i).f8.length c8)) ∧ Aside0 ((rd_T65 xs i).f7.length ≤ c7) ∧ Aside0 (k121.C w A7 (rd_T65 xs i).f7.length (rd_T65 xs i).f7) ∧ Aside0 ((rd_T65 xs i).f8.length ≤ c8) ∧ Aside0 (k123.C w A8 (rd_T65 xs i).f8.length (rd_T65 xs i).f8) := by
  obtain ⟨ad, A7, c7, A8, c8, e_, x0_, x1_, x2_, x3_, x4_, x5_, x6_, x7_, x8_, y0_, y1_, y2_, y3_⟩ := at_T65 h.out i h0 h1
  exact ⟨ad, A7, c7, A8, c8, e_, ⟨eq_true h0, eq_true h1, x0_, x1_, x2_, x3_, x4_, x5_, x6_, x7_, x8_⟩, ⟨y0_⟩, ⟨y1_⟩, ⟨y2_⟩, ⟨y3_⟩⟩
theorem an_L9 {w W : World} {A : Option Addr} {n : Nat} {xs : List (List S60)} (h : Aside0 (Kd.C (Kd.slice 60 k60) w A n xs)) (hb : Aside0 (Below w.heap.size w W)) (i : Int) (h0 : 0 ≤ i := by exact da_) (h1 : i < n := by exact da_) : ∃ ad A0 c0, A = some ad ∧ ((0 ≤ i) = True ∧ (i < n) = True ∧ W.cell? (ad.add i.toNat) = some (.slice A0 (rd_L9 xs i).length c0)) ∧ Aside0 ((rd_L9 xs i).length ≤ c0) ∧ Aside0 (k60.C w A0 (rd_L9 xs i).length (rd_L9 xs i)) := by
  obtain ⟨ad, A0, c0, e_, x0_, y0_, y1_⟩ := at_L9 h.out i h0 h1
  exact ⟨ad, A0, c0, e_, ⟨eq_true h0, eq_true h1, hx_ hb x0_ (World.block_lt_of_cell? _ _ x0_)⟩, ⟨y0_⟩, ⟨y1_⟩⟩
theorem am_L9 {w : World} {A : Option Addr} {n : Nat} {xs : List (List S60)} (h : Aside0 (Kd.C (Kd.slice 60 k60) w A n xs)) (i : Int) (h0 : 0 ≤ i := by exact da_) (h1 : i < n := by exact da_) : ∃ ad A0 c0, A = some ad ∧ ((0 ≤ i) = True ∧ (i < n) = True ∧ w.cell? (ad.add i.toNat) = some (.slice A0 (rd_L9 xs i).length c0)) ∧ Aside0 ((rd_L9 xs i).length ≤ c0) ∧ Aside0 (k60.C w A0 (rd_L9 xs i).length (rd_L9 xs i)) := by
  obtain ⟨ad, A0, c0, e_, x0_, y0_, y1_⟩ := at_L9 h.out i h0 h1
  exact ⟨ad, A0, c0, e_, ⟨eq_true h0, eq_true h1, x0_⟩, ⟨y0_⟩, ⟨y1_⟩⟩
theorem an_L10 {w W : World} {A : Option Addr} {n : Nat} {xs : List (List S65)} (h : Aside0 (Kd.C (Kd.slice 65 k65) w A n xs)) (hb : Aside0 (Below w.heap.size w W)) (i : Int) (h0 : 0 ≤ i := by exact da_) (h1 : i < n := by exact da_) : ∃ ad A0 c0, A = some ad ∧ ((0 ≤ i) = True ∧ (i < n) = True ∧ W.cell? (ad.add i.toNat) = some (.slice A0 (rd_L10 xs i).length c0)) ∧ Aside0 ((rd_L10 xs i).length ≤ c0) ∧ Aside0 (k65.C w A0 (rd_L10 xs i).length (rd_L10 xs i)) := by
  obtain ⟨ad, A0, c0, e_, x0_, y0_, y1_⟩ := at_L10 h.out i h0 h1
  exact ⟨ad, A0, c0, e_, ⟨eq_true h0, eq_true h1, hx_ hb x0_ (World.block_lt_of_cell? _ _ x0_)⟩, ⟨y0_⟩, ⟨y1_⟩⟩
theorem am_L10 {w : World} {A : Option Addr} {n : Nat} {xs : List (List S65)} (h : Aside0 (Kd.C (Kd.slice 65 k65) w A n xs)) (i : Int) (h0 : 0 ≤ i := by exact da_) (h1 : i < n := by exact da_) : ∃ ad A0 c0, A = some ad ∧ ((0 ≤ i) = True ∧ (i < n) = True ∧ w.cell? (ad.add i.toNat) = some (.slice A0 (rd_L10 xs i).length c0)) ∧ Aside0 ((rd_L10 xs i).length ≤ c0) ∧ Aside0 (k65.C w A0 (rd_L10 xs i).length (rd_L10 xs i)) := by
  obtain ⟨ad, A0, c0, e_, x0_, y0_, y1_⟩ := at_L10 h.out i h0 h1
  exact ⟨ad, A0, c0, e_, ⟨eq_true h0, eq_true h1, x0_⟩, ⟨y0_⟩, ⟨y1_⟩⟩
theorem an_T25 {w W : World} {A : Option Addr} {n : Nat} {xs : List S25} (h : Aside0 (Kd.C k25 w A n xs)) (hb : Aside0 (Below w.heap.size w W)) (i : Int) (h0 : 0 ≤ i := by exact da_) (h1 : i < n := by exact da_) : ∃ ad A4 c4 A5 c5, A = some ad ∧ ((0 ≤ i) = True ∧ (i < n) = True ∧ W.cell? (ad.add (i.toNat * 6)) = some (.string (rd_T25 xs i).f0) ∧ W.cell? ⟨(ad.add (i.toNat * 6)).block, (ad.add (i.toNat * 6)).off + 1, none⟩ = some (.string (rd_T25 xs i).f1) ∧ W.cell? ⟨(ad.add (i.toNat * 6)).block, (ad.add (i.toNat * 6)).off + 2, none⟩ = some (.bool (rd_T25 xs i).f2) ∧ W.cell? ⟨(ad.add (i.toNat * 6)).block, (ad.add (i.toNat * 6)).off + 3, none⟩ = some (.bool (rd_T25 xs i).f3) ∧ W.cell? ⟨(ad.add (i.toNat * 6)).block, (ad.add (i.toNat * 6)).off + 4, none⟩ = some (.slice A4 (rd_T25 xs i).f4.length c4) ∧ W.cell? ⟨(ad.add (i.toNat * 6)).block, (ad.add (i.toNat * 6)).off + 5, none⟩ = some (.slice A5 (rd_T25 xs i).f5.length c5)) ∧ Aside0 ((rd_T25 xs i).f4.length ≤ c4) ∧ Aside0 (k60.C w A4 (rd_T25 xs i).f4.length (rd_T25 xs i).f4) ∧ Aside0 ((rd_T25 xs i).f5.length ≤ c5) ∧ Aside0 (k65.C w A5 (rd_T25 xs i).f5.length (rd_T25 xs i).f5) := by
  obtain ⟨ad, A4, c4, A5, c5, e_, x0_, x1_, x2_, x3_, x4_, x5_, y0_, y1_, y2_, y3_⟩ := at_T25 h.out i h0 h1
  exact ⟨ad, A4, c4, A5, c5, e_, ⟨eq_true h0, eq_true h1, hx_ hb x0_ (World.block_lt_of_cell? _ _ x0_), hx_ hb x1_ (World.block_lt_of_cell? _ _ x1_), hx_ hb x2_ (World.block_lt_of_cell? _ _ x2_), hx_ hb x3_ (World.block_lt_of_cell? _ _ x3_), hx_ hb x4_ (World.block_lt_of_cell? _ _ x4_), hx_ hb x5_ (World.block_lt_of_cell? _ _ x5_)⟩, ⟨y0_⟩, ⟨y1_⟩, ⟨y2_⟩, ⟨y3_⟩⟩
theorem am_T25 {w : World} {A : Option Addr} {n : Nat} {xs : List S25} (h : Aside0 (Kd.C k25 w A n xs)) (i : Int) (h0 : 0 ≤ i := by exact da_) (h1 : i < n := by exact da_) : ∃ ad A4 c4 A5 c5, A = some ad ∧ ((0 ≤ i) = True ∧ (i < n) = True ∧ w.cell? (ad.add (i.toNat * 6)) = some (.string (rd_T25 xs i).f0) ∧ w.cell? ⟨(ad.add (i.toNat * 6)).block, (ad.add (i.toNat * 6)).off + 1, none⟩ = some (.string (rd_T25 xs i).f1) ∧ w.cell? ⟨(ad.add (i.toNat * 6)).block, (ad.add (i.toNat * 6)).off + 2, none⟩ = some (.bool (rd_T25 xs i).f2) ∧ w.cell? ⟨(ad.add (i.toNat * 6)).block, (ad.add (i.toNat * 6)).off + 3, none⟩ = some (.bool (rd_T25 xs i).f3) ∧ w.cell? ⟨(ad.add (i.toNat * 6)).block, (ad.add (i.toNat * 6)).off + 4, none⟩ = some (.slice A4 (rd_T25 xs i).f4.length c4) ∧ w.cell? ⟨(ad.add (i.toNat * 6)).block, (ad.add (i.toNat * 6)).off + 5, none⟩ = some (.slice A5 (rd_T25 xs i).f5.length c5)) ∧ Aside0 ((rd_T25 xs i).f4.length ≤ c4) ∧ Aside0 (k60.C w A4 (rd_T25 xs i).f4.length (rd_T25 xs i).f4) ∧ Aside0 ((rd_T25 xs i).f5.length ≤ c5) ∧ Aside0 (k65.C w A5 (rd_T25 xs i).f5.length (rd_T25 xs i).f5) := by
  obtain ⟨ad, A4, c4, A5, c5, e_, x0_, x1_, x2_, x3_, x4_, x5_, y0_, y1_, y2_, y3_⟩ := at_T25 h.out i h0 h1
  exact ⟨ad, A4, c4, A5, c5, e_, ⟨eq_true h0, eq_true h1, x0_, x1_, x2_, x3_, x4_, x5_⟩, ⟨y0_⟩, ⟨y1_⟩, ⟨y2_⟩, ⟨y3_⟩⟩
theorem an_T77 {w W : World} {A : Option Addr} {n : Nat} {xs : List S77} (h : Aside0 (Kd.C k77 w A n xs)) (hb : Aside0 (Below w.heap.size w W)) (i : Int) (h0 : 0 ≤ i := by exact da_) (h1 : i < n := by exact da_) : ∃ ad , A = some ad ∧ ((0 ≤ i) = True ∧ (i < n) = True ∧ W.cell? (ad.add (i.toNat * 5)) = some (.int .i64 (rd_T77 xs i).f0) ∧ W.cell? ⟨(ad.add (i.toNat * 5)).block, (ad.add (i.toNat * 5)).off + 1, none⟩ = some (.int .i64 (rd_T77 xs i).f1) ∧ W.cell? ⟨(ad.add (i.toNat * 5)).block, (ad.add (i.toNat * 5)).off + 2, none⟩ = some (.string (rd_T77 xs i).f2) ∧ W.cell? ⟨(ad.add (i.toNat * 5)).block, (ad.add (i.toNat * 5)).off + 3, none⟩ = some (.string (rd_T77 xs i).f3) ∧ W.cell? ⟨(ad.add (i.toNat * 5)).block, (ad.add (i.toNat * 5)).off + 4, none⟩ = some (.string (rd_T77 xs i).f4)) := by
  obtain ⟨ad, e_, x0_, x1_, x2_, x3_, x4_⟩ := at_T77 h.out i h0 h1
  exact ⟨ad, e_, ⟨eq_true h0, eq_true h1, hx_ hb x0_ (World.block_lt_of_cell? _ _ x0_), hx_ hb x1_ (World.block_lt_of_cell? _ _ x1_), hx_ hb x2_ (World.block_lt_of_cell? _ _ x2_), hx_ hb x3_ (World.block_lt_of_cell? _ _ x3_), hx_ hb x4_ (World.block_lt_of_cell? _ _ x4_)⟩⟩
theorem am_T77 {w : World} {A : Option Addr} {n : Nat} {xs : List S77} (h : Aside0 (Kd.C k77 w A n xs)) (i : Int) (h0 : 0 ≤ i := by exact da_) (h1 : i < n := by exact da_) : ∃ ad , A = some ad ∧ ((0 ≤ i) = True ∧ (i < n) = True ∧ w.cell? (ad.add (i.toNat * 5)) = some (.int .i64 (rd_T77 xs i).f0) ∧ w.cell? ⟨(ad.add (i.toNat * 5)).block, (ad.add (i.toNat * 5)).off + 1, none⟩ = some (.int .i64 (rd_T77 xs i).f1) ∧ w.cell? ⟨(ad.add (i.toNat * 5)).block, (ad.add (i.toNat * 5)).off + 2, none⟩ = some (.string (rd_T77 xs i).f2) ∧ w.cell? ⟨(ad.add (i.toNat * 5)).block, (ad.add (i.toNat * 5)).off + 3, none⟩ = some (.string (rd_T77 xs i).f3) ∧ w.cell? ⟨(ad.add (i.toNat * 5)).block, (ad.add (i.toNat * 5)).off + 4, none⟩ = some (.string (rd_T77 xs i).f4)) := by
  obtain ⟨ad, e_, x0_, x1_, x2_, x3_, x4_⟩ := at_T77 h.out i h0 h1
  exact ⟨ad, e_, ⟨eq_true h0, eq_true h1, x0_, x1_, x2_, x3_, x4_⟩⟩
theorem an_T79 {w W : World} {A : Option Addr} {n : Nat} {xs : List S79} (h : Aside0 (Kd.C k79 w A n xs)) (hb : Aside0 (Below w.heap.size w W)) (i : Int) (h0 : 0 ≤ i := by exact da_) (h1 : i < n := by exact da_) : ∃ ad , A = some ad ∧ ((0 ≤ i) = True ∧ (i < n) = True ∧ W.cell? (ad.add (i.toNat * 4)) = some (.int .i64 (rd_T79 xs i).f0) ∧ W.cell? ⟨(ad.add (i.toNat * 4)).block, (ad.add (i.toNat * 4)).off + 1, none⟩ = some (.int .i64 (rd_T79 xs i).f1) ∧ W.cell? ⟨(ad.add (i.toNat * 4)).block, (ad.add (i.toNat * 4)).off + 2, none⟩ = some (.int .i64 (rd_T79 xs i).f2) ∧ W.cell? ⟨(ad.add (i.toNat * 4)).block, (ad.add (i.toNat * 4)).off + 3, none⟩ = some (.string (rd_T79 xs i).f3)) := by
  obtain ⟨ad, e_, x0_, x1_, x2_, x3_⟩ := at_T79 h.out i h0 h1
  exact ⟨ad, e_, ⟨eq_true h0, eq_true h1, hx_ hb x0_ (World.block_lt_of_cell? _ _ x0_), hx_ hb x1_ (World.block_lt_of_cell? _ _ x1_), hx_ hb x2_ (World.block_lt_of_cell? _ _ x2_), hx_ hb x3_ (World.block_lt_of_cell? _ _ x3_)⟩⟩
theorem am_T79 {w : World} {A : Option Addr} {n : Nat} {xs : List S79} (h : Aside0 (Kd.C k79 w A n xs)) (i : Int) (h0 : 0 ≤ i := by exact da_) (h1 : i < n := by exact da_) : ∃ ad , A = some ad ∧ ((0 ≤ i) = True ∧ (i < n) = True ∧ w.cell? (ad.add (i.toNat * 4)) = some (.int .i64 (rd_T79 xs i).f0) ∧ w.cell? ⟨(ad.add (i.toNat * 4)).block, (ad.add (i.toNat * 4)).off + 1, none⟩ = some (.int .i64 (rd_T79 xs i).f1) ∧ w.cell? ⟨(ad.add (i.toNat * 4)).block, (ad.add (i.toNat * 4)).off + 2, none⟩ = some (.int .i64 (rd_T79 xs i).f2) ∧ w.cell? ⟨(ad.add (i.toNat * 4)).block, (ad.add (i.toNat * 4)).off + 3, none⟩ = some (.string (rd_T79 xs i).f3)) := by
  obtain ⟨ad, e_, x0_, x1_, x2_, x3_⟩ := at_T79 h.out i h0 h1
  exact ⟨ad, e_, ⟨eq_true h0, eq_true h1, x0_, x1_, x2_, x3_⟩⟩
theorem an_T67 {w W : World} {A : Option Addr} {n : Nat} {xs : List S67} (h : Aside0 (Kd.C k67 w A n xs)) (hb : Aside0 (Below w.heap.size w W)) (i : Int) (h0 : 0 ≤ i := by exact da_) (h1 : i < n := by exact da_) : ∃ ad , A = some ad ∧ ((0 ≤ i) = True ∧ (i < n) = True ∧ W.cell? (ad.add (i.toNat * 3)) = some (.string (rd_T67 xs i).f0) ∧ W.cell? ⟨(ad.add (i.toNat * 3)).block, (ad.add (i.toNat * 3)).off + 1, none⟩ = some (.string (rd_T67 xs i).f1) ∧ W.cell? ⟨(ad.add (i.toNat * 3)).block, (ad.add (i.toNat * 3)).off + 2, none⟩ = some (.bool (rd_T67 xs i).f2)) := by
  obtain ⟨ad, e_, x0_, x1_, x2_⟩ := at_T67 h.out i h0 h1
  exact ⟨ad, e_, ⟨eq_true h0, eq_true h1, hx_ hb x0_ (World.block_lt_of_cell? _ _ x0_), hx_ hb x1_ (World.block_lt_of_cell? _ _ x1_), hx_ hb x2_ (World.block_lt_of_cell? _ _ x2_)⟩⟩
theorem am_T67 {w : World} {A : Option Addr} {n : Nat} {xs : List S67} (h : Aside0 (Kd.C k67 w A n xs)) (i : Int) (h0 : 0 ≤ i := by exact da_) (h1 : i < n := by exact da_) : ∃ ad , A = some ad ∧ ((0 ≤ i) = True ∧ (i < n) = True ∧ w.cell? (ad.add (i.toNat * 3)) = some (.string (rd_T67 xs i).f0) ∧ w.cell? ⟨(ad.add (i.toNat * 3)).block, (ad.add (i.toNat * 3)).off + 1, none⟩ = some (.string (rd_T67 xs i).f1) ∧ w.cell? ⟨(ad.add (i.toNat * 3)).block, (ad.add (i.toNat * 3)).off + 2, none⟩ = some (.bool (rd_T67 xs i).f2)) := by
  obtain ⟨ad, e_, x0_, x1_, x2_⟩ := at_T67 h.out i h0 h1
  exact ⟨ad, e_, ⟨eq_true h0, eq_true h1, x0_, x1_, x2_⟩⟩
theorem an_L15 {w W : World} {A : Option Addr} {n : Nat} {xs : List (List S77)} (h : Aside0 (Kd.C (Kd.slice 77 k77) w A n xs)) (hb : Aside0 (Below w.heap.size w W)) (i : Int) (h0 : 0 ≤ i := by exact da_) (h1 : i < n := by exact da_) : ∃ ad A0 c0, A = some ad ∧ ((0 ≤ i) = True ∧ (i < n) = True ∧ W.cell? (ad.add i.toNat) = some (.slice A0 (rd_L15 xs i).length c0)) ∧ Aside0 ((rd_L15 xs i).length ≤ c0) ∧ Aside0 (k77.C w A0 (rd_L15 xs i).length (rd_L15 xs i)) := by
  obtain ⟨ad, A0, c0, e_, x0_, y0_, y1_⟩ := at_L15 h.out i h0 h1
  exact ⟨ad, A0, c0, e_, ⟨eq_true h0, eq_true h1, hx_ hb x0_ (World.block_lt_of_cell? _ _ x0_)⟩, ⟨y0_⟩, ⟨y1_⟩⟩
theorem am_L15 {w : World} {A : Option Addr} {n : Nat} {xs : List (List S77)} (h : Aside0 (Kd.C (Kd.slice 77 k77) w A n xs)) (i : Int) (h0 : 0 ≤ i := by exact da_) (h1 : i < n := by exact da_) : ∃ ad A0 c0, A = some ad ∧ ((0 ≤ i) = True ∧ (i < n) = True ∧ w.cell? (ad.add i.toNat) = some (.slice A0 (rd_L15 xs i).length c0)) ∧ Aside0 ((rd_L15 xs i).length ≤ c0) ∧ Aside0 (k77.C w A0 (rd_L15 xs i).length (rd_L15 xs i)) := by
  obtain ⟨ad, A0, c0, e_, x0_, y0_, y1_⟩ := at_L15 h.out i h0 h1
  exact ⟨ad, A0, c0, e_, ⟨eq_true h0, eq_true h1, x0_⟩, ⟨y0_⟩, ⟨y1_⟩⟩
theorem an_L16 {w W : World} {A : Option Addr} {n : Nat} {xs : List (List S79)} (h : Aside0 (Kd.C (Kd.slice 79 k79) w A n xs)) (hb : Aside0 (Below w.heap.size w W)) (i : Int) (h0 : 0 ≤ i := by exact da_) (h1 : i < n := by exact da_) : ∃ ad A0 c0, A = some ad ∧ ((0 ≤ i) = True ∧ (i < n) = True ∧ W.cell? (ad.add i.toNat) = some (.slice A0 (rd_L16 xs i).length c0)) ∧ Aside0 ((rd_L16 xs i).length ≤ c0) ∧ Aside0 (k79.C w A0 (rd_L16 xs i).length (rd_L16 xs i)) := by
  obtain ⟨ad, A0, c0, e_, x0_, y0_, y1_⟩ := at_L16 h.out i h0 h1
  exact ⟨ad, A0, c0, e_, ⟨eq_true h0, eq_true h1, hx_ hb x0_ (World.block_lt_of_cell? _ _ x0_)⟩, ⟨y0_⟩, ⟨y1_⟩⟩
theorem am_L16 {w : World} {A : Option Addr} {n : Nat} {xs : List (List S79)} (h : Aside0 (Kd.C (Kd.slice 79 k79) w A n xs)) (i : Int) (h0 : 0 ≤ i := by exact da_) (h1 : i < n := by exact da_) : ∃ ad A0 c0, A = some ad ∧ ((0 ≤ i) = True ∧ (i < n) = True ∧ w.cell? (ad.add i.toNat) = some (.slice A0 (rd_L16 xs i).length c0)) ∧ Aside0 ((rd_L16 xs i).length ≤ c0) ∧ Aside0 (k79.C w A0 (rd_L16 xs i).length (rd_L16 xs i)) := by
  obtain ⟨ad, A0, c0, e_, x0_, y0_, y1_⟩ := at_L16 h.out i h0 h1
  exact ⟨ad, A0, c0, e_, ⟨eq_true h0, eq_true h1, x0_⟩, ⟨y0_⟩, ⟨y1_⟩⟩
theorem an_T71 {w W : World} {A : Option Addr} {n : Nat} {xs : List S71} (h : Aside0 (Kd.C k71 w A n xs)) (hb : Aside0 (Below w.heap.size w W)) (i : Int) (h0 : 0 ≤ i := by exact da_) (h1 : i < n := by exact da_) : ∃ ad A7 c7 A8 c8, A = some ad ∧ ((0 ≤ i) = True ∧ (i < n) = True ∧ W.cell? (ad.add (i.toNat * 9)) = some (.string (rd_T71 xs i).f0) ∧ W.cell? ⟨(ad.add (i.toNat * 9)).block, (ad.add (i.toNat * 9)).off + 1, none⟩ = some (.string (rd_T71 xs i).f1) ∧ W.cell? ⟨(ad.add (i.toNat * 9)).block, (ad.add (i.toNat * 9)).off + 2, none⟩ = some (.bool (rd_T71 xs i).f2) ∧ W.cell? ⟨(ad.add (i.toNat * 9)).block, (ad.add (i.toNat * 9)).off + 3, none⟩ = some (.bool (rd_T71 xs i).f3) ∧ W.cell? ⟨(ad.add (i.toNat * 9)).block, (ad.add (i.toNat * 9)).off + 4, none⟩ = some (.bool (rd_T71 xs i).f4) ∧ W.cell? ⟨(ad.add (i.toNat * 9)).block, (ad.add (i.toNat * 9)).off + 5, none⟩ = some (.int .i64 (rd_T71 xs i).f5) ∧ W.cell? ⟨(ad.add (i.toNat * 9)).block, (ad.add (i.toNat * 9)).off + 6, none⟩ = some (.int .i64 (rd_T71 xs i).f6) ∧ W.cell? ⟨(ad.add (i.toNat * 9)).block, (ad.add (i.toNat * 9)).off + 7, none⟩ = some (.slice A7 (rd_T71 xs i).f7.length c7) ∧ W.cell? ⟨(ad.add (i.toNat * 9)).block, (ad.add (i.toNat * 9)).off + 8, none⟩ = some (.slice A8 (rd_T71 xs i).f8.length c8)) ∧ Aside0 ((rd_T71 xs i).f7.length ≤ c7) ∧ Aside0 (k77.C w A7 (rd_T71 xs i).f7.length (rd_T71 xs i).f7) ∧ Aside0 ((rd_T71 xs i).f8.length ≤ c8) ∧ Aside0 (k79.C w A8 (rd_T71 xs i).f8.length (rd_T71 xs i).f8) := by
  obtain ⟨ad, A7, c7, A8, c8, e_, x0_, x1_, x2_, x3_, x4_, x5_, x6_, x7_, x8_, y0_, y1_, y2_, y3_⟩ := at_T71 h.out i h0 h1
  exact ⟨ad, A7, c7, A8, c8, e_, ⟨eq_true h0, eq_true h1, hx_ hb x0_ (World.block_lt_of_cell? _ _ x0_), hx_ hb x1_ (World.block_lt_of_cell? _ _ x1_), hx_ hb x2_ (World.block_lt_of_cell? _ _ x2_), hx_ hb x3_ (World.block_lt_of_cell? _ _ x3_), hx_ hb x4_ (World.block_lt_of_cell? _ _ x4_), hx_ hb x5_ (World.block_lt_of_cell? _ _ x5_), hx_ hb x6_ (World.block_lt_of_cell? _ _ x6_), hx_ hb x7_ (World.block_lt_of_cell? _ _ x7_), hx_ hb x8_ (World.block_lt_of_cell? _ _ x8_)⟩, ⟨y0_⟩, ⟨y1_⟩, ⟨y2_⟩, ⟨y3_⟩⟩
theorem am_T71 {w : World} {A : Option Addr} {n : Nat} {xs : List S71} (h : Aside0 (Kd.C k71 w A n xs)) (i : Int) (h0 : 0 ≤ i := by exact da_) (h1 : i < n := by exact da_) : ∃ ad A7 c7 A8 c8, A = some ad ∧ ((0 ≤ i) = True ∧ (i < n) = True ∧ w.cell? (ad.add (i.toNat * 9)) = some (.string (rd_T71 xs i).f0) ∧ w.cell? ⟨(ad.add (i.toNat * 9)).block, (ad.add (i.toNat * 9)).off + 1, none⟩ = some (.string (rd_T71 xs i).f1) ∧ w.cell? ⟨(ad.add (i.toNat * 9)).block, (ad.add (i.toNat * 9)).off + 2, none⟩ = some (.bool (rd_T71 xs i).f2) ∧ w.cell? ⟨(ad.add (i.toNat * 9)).block, (ad.add (i.toNat * 9)).off + 3, none⟩ = some (.bool (rd_T71 xs i).f3) ∧ w.cell? ⟨(ad.add (i.toNat * 9)).block, (ad.add (i.toNat * 9)).off + 4, none⟩ = some (.bool (rd_T71 xs i).f4) ∧ w.cell? ⟨(ad.add (i.toNat * 9)).block, (ad.add (i.toNat * 9)).off + 5, none⟩ = some (.int .i64 (rd_T71 xs i).f5) ∧ w.cell? ⟨(ad.add (i.toNat * 9)).block, (ad.add (i.toNat * 9)).off + 6, none⟩ = some (.int .i64 (rd_T71 xs i).f6) ∧ w.cell? ⟨(ad.add (i.toNat * 9)).block, (ad.add (i.toNat * 9)).off + 7, none⟩ = some (.slice A7 (rd_T71 xs i).f7.length c7) ∧ w.cell? ⟨(ad.add (i.toNat * 9)).block, (ad.add (i.toNat * 9)).off + 8, none⟩ = some (.slice A8 (rd_T71 xs i).f8.length c8)) ∧ Aside0 ((rd_T71 xs i).f7.length ≤ c7) ∧ Aside0 (k77.C w A7 (rd_T71 xs i).f7.length (rd_T71 xs i).f7) ∧ Aside0 ((rd_T71 xs i).f8.length ≤ c8) ∧ Aside0 (k79.C w A8 (rd_T71 xs i).f8.length (rd_T71 xs i).f8) := by
  obtain ⟨ad, A7, c7, A8, c8, e_, x0_, x1_, x2_, x3_, x4_, x5_, x6_, x7_, x8_, y0_, y1_, y2_, y3_⟩ := at_T71 h.out i h0 h1
  exact ⟨ad, A7, c7, A8, c8, e_, ⟨eq_true h0, eq_true h1, x0_, x1_, x2_, x3_, x4_, x5_, x6_, x7_, x8_⟩, ⟨y0_⟩, ⟨y1_⟩, ⟨y2_⟩, ⟨y3_⟩⟩
theorem an_L19 {w W : World} {A : Option Addr} {n : Nat} {xs : List (List S67)} (h : Aside0 (Kd.C (Kd.slice 67 k67) w A n xs)) (hb : Aside0 (Below w.heap.size w W)) (i : Int) (h0 : 0 ≤ i := by exact da_) (h1 : i < n := by exact da_) : ∃ ad A0 c0, A = some ad ∧ ((0 ≤ i) = True ∧ (i < n) = True ∧ W.cell? (ad.add i.toNat) = some (.slice A0 (rd_L19 xs i).length c0)) ∧ Aside0 ((rd_L19 xs i).length ≤ c0) ∧ Aside0 (k67.C w A0 (rd_L19 xs i).length (rd_L19 xs i)) := by
  obtain ⟨ad, A0, c0, e_, x0_, y0_, y1_⟩ := at_L19 h.out i h0 h1
  exact ⟨ad, A0, c0, e_, ⟨eq_true h0, eq_true h1, hx_ hb x0_ (World.block_lt_of_cell? _ _ x0_)⟩, ⟨y0_⟩, ⟨y1_⟩⟩
theorem am_L19 {w : World} {A : Option Addr} {n : Nat} {xs : List (List S67)} (h : Aside0 (Kd.C (Kd.slice 67 k67) w A n xs)) (i : Int) (h0 : 0 ≤ i := by exact da_) (h1 : i < n := by exact da_) : ∃ ad A0 c0, A = some ad ∧ ((0 ≤ i) = True ∧ (i < n) = True ∧ w.cell? (ad.add i.toNat) = some (.slice A0 (rd_L19 xs i).length c0)) ∧ Aside0 ((rd_L19 xs i).length ≤ c0) ∧ Aside0 (k67.C w A0 (rd_L19 xs i).length (rd_L19 xs i)) := by
  obtain ⟨ad, A0, c0, e_, x0_, y0_, y1_⟩ := at_L19 h.out i h0 h1
  exact ⟨ad, A0, c0, e_, ⟨eq_true h0, eq_true h1, x0_⟩, ⟨y0_⟩, ⟨y1_⟩⟩
theorem an_L20 {w W : World} {A : Option Addr} {n : Nat} {xs : List (List S71)} (h : Aside0 (Kd.C (Kd.slice 71 k71) w A n xs)) (hb : Aside0 (Below w.heap.size w W)) (i : Int) (h0 : 0 ≤ i := by exact da_) (h1 : i < n := by exact da_) : ∃ ad A0 c0, A = some ad ∧ ((0 ≤ i) = True ∧ (i < n) = True ∧ W.cell? (ad.add i.toNat) = some (.slice A0 (rd_L20 xs i).length c0)) ∧ Aside0 ((rd_L20 xs i).length ≤ c0) ∧ Aside0 (k71.C w A0 (rd_L20 xs i).length (rd_L20 xs i)) := by
  obtain ⟨ad, A0, c0, e_, x0_, y0_, y1_⟩ := at_L20 h.out i h0 h1
  exact ⟨ad, A0, c0, e_, ⟨eq_true h0, eq_true h1, hx_ hb x0_ (World.block_lt_of_cell? _ _ x0_)⟩, ⟨y0_⟩, ⟨y1_⟩⟩
theorem am_L20 {w : World} {A : Option Addr} {n : Nat} {xs : List (List S71)} (h : Aside0 (Kd.C (Kd.slice 71 k71) w A n xs)) (i : Int) (h0 : 0 ≤ i := by exact da_) (h1 : i < n := by exact da_) : ∃ ad A0 c0, A = some ad ∧ ((0 ≤ i) = True ∧ (i < n) = True ∧ w.cell? (ad.add i.toNat) = some (.slice A0 (rd_L20 xs i).length c0)) ∧ Aside0 ((rd_L20 xs i).length ≤ c0) ∧ Aside0 (k71.C w A0 (rd_L20 xs i).length (rd_L20 xs i)) := by
  obtain ⟨ad, A0, c0, e_, x0_, y0_, y1_⟩ := at_L20 h.out i h0 h1
  exact ⟨ad, A0, c0, e_, ⟨eq_true h0, eq_true h1, x0_⟩, ⟨y0_⟩, ⟨y1_⟩⟩
theorem an_T31 {w W : World} {A : Option Addr} {n : Nat} {xs : List S31} (h : Aside0 (Kd.C k31 w A n xs)) (hb : Aside0 (Below w.heap.size w W)) (i : Int) (h0 : 0 ≤ i := by exact da_) (h1 : i < n := by exact da_) : ∃ ad A4 c4 A5 c5, A = some ad ∧ ((0 ≤ i) = True ∧ (i < n) = True ∧ W.cell? (ad.add (i.toNat * 6)) = some (.string (rd_T31 xs i).f0) ∧ W.cell? ⟨(ad.add (i.toNat * 6)).block, (ad.add (i.toNat * 6)).off + 1, none⟩ = some (.string (rd_T31 xs i).f1) ∧ W.cell? ⟨(ad.add (i.toNat * 6)).block, (ad.add (i.toNat * 6)).off + 2, none⟩ = some (.bool (rd_T31 xs i).f2) ∧ W.cell? ⟨(ad.add (i.toNat * 6)).block, (ad.add (i.toNat * 6)).off + 3, none⟩ = some (.bool (rd_T31 xs i).f3) ∧ W.cell? ⟨(ad.add (i.toNat * 6)).block, (ad.add (i.toNat * 6)).off + 4, none⟩ = some (.slice A4 (rd_T31 xs i).f4.length c4) ∧ W.cell? ⟨(ad.add (i.toNat * 6)).block, (ad.add (i.toNat * 6)).off + 5, none⟩ = some (.slice A5 (rd_T31 xs i).f5.length c5)) ∧ Aside0 ((rd_T31 xs i).f4.length ≤ c4) ∧ Aside0 (k67.C w A4 (rd_T31 xs i).f4.length (rd_T31 xs i).f4) ∧ Aside0 ((rd_T31 xs i).f5.length ≤ c5) ∧ Aside0 (k71.C w A5 (rd_T31 xs i).f5.length (rd_T31 xs i).f5) := by
  obtain ⟨ad, A4, c4, A5, c5, e_, x0_, x1_, x2_, x3_, x4_, x5_, y0_, y1_, y2_, y3_⟩ := at_T31 h.out i h0 h1
  exact ⟨ad, A4, c4, A5, c5, e_, ⟨eq_true h0, eq_true h1, hx_ hb x0_ (World.block_lt_of_cell? _ _ x0_), hx_ hb x1_ (World.block_lt_of_cell? _ _ x1_), hx_ hb x2_ (World.block_lt_of_cell? _ _ x2_), hx_ hb x3_ (World.block_lt_of_cell? _ _ x3_), hx_ hb x4_ (World.block_lt_of_cell? _ _ x4_), hx_ hb x5_ (World.block_lt_of_cell? _ _ x5_)⟩, ⟨y0_⟩, ⟨y1_⟩, ⟨y2_⟩, ⟨y3_⟩⟩
theorem am_T31 {w : World} {A : Option Addr} {n : Nat} {xs : List S31} (h : Aside0 (Kd.C k31 w A n xs)) (i : Int) (h0 : 0 ≤ i := by exact da_) (h1 : i < n := by exact da_) : ∃ ad A4 c4 A5 c5, A = some ad ∧ ((0 ≤ i) = True ∧ (i < n) = True ∧ w.cell? (ad.add (i.toNat * 6)) = some (.string (rd_T31 xs i).f0) ∧ w.cell? ⟨(ad.add (i.toNat * 6)).block, (ad.add (i.toNat * 6)).off + 1, none⟩ = some (.string (rd_T31 xs i).f1) ∧ w.cell? ⟨(ad.add (i.toNat * 6)).block, (ad.add (i.toNat * 6)).off + 2, none⟩ = some (.bool (rd_T31 xs i).f2) ∧ w.cell? ⟨(ad.add (i.toNat * 6)).block, (ad.add (i.toNat * 6)).off + 3, none⟩ = some (.bool (rd_T31 xs i).f3) ∧ w.cell? ⟨(ad.add (i.toNat * 6)).block, (ad.add (i.toNat * 6)).off + 4, none⟩ = some (.slice A4 (rd_T31 xs i).f4.length c4) ∧ w.cell? ⟨(ad.add (i.toNat * 6)).block, (ad.add (i.toNat * 6)).off + 5, none⟩ = some (.slice A5 (rd_T31 xs i).f5.length c5)) ∧ Aside0 ((rd_T31 xs i).f4.length ≤ c4) ∧ Aside0 (k67.C w A4 (rd_T31 xs i).f4.length (rd_T31 xs i).f4) ∧ Aside0 ((rd_T31 xs i).f5.length ≤ c5) ∧ Aside0 (k71.C w A5 (rd_T31 xs i).f5.length (rd_T31 xs i).f5) := by
  obtain ⟨ad, A4, c4, A5, c5, e_, x0_, x1_, x2_, x3_, x4_, x5_, y0_, y1_, y2_, y3_⟩ := at_T31 h.out i h0 h1
  exact ⟨ad, A4, c4, A5, c5, e_, ⟨eq_true h0, eq_true h1, x0_, x1_, x2_, x3_, x4_, x5_⟩, ⟨y0_⟩, ⟨y1_⟩, ⟨y2_⟩, ⟨y3_⟩⟩
theorem an_L22 {w W : World} {A : Option Addr} {n : Nat} {xs : List (List ByteArray)} (h : Aside0 (Kd.C (Kd.slice 9 Kd.string) w A n xs)) (hb : Aside0 (Below w.heap.size w W)) (i : Int) (h0 : 0 ≤ i := by exact da_) (h1 : i < n := by exact da_) : ∃ ad A0 c0, A = some ad ∧ ((0 ≤ i) = True ∧ (i < n) = True ∧ W.cell? (ad.add i.toNat) = some (.slice A0 (rd_L22 xs i).length c0)) ∧ Aside0 ((rd_L22 xs i).length ≤ c0) ∧ Aside0 (Kd.string.C w A0 (rd_L22 xs i).length (rd_L22 xs i)) := by
  obtain ⟨ad, A0, c0, e_, x0_, y0_, y1_⟩ := at_L22 h.out i h0 h1
  exact ⟨ad, A0, c0, e_, ⟨eq_true h0, eq_true h1, hx_ hb x0_ (World.block_lt_of_cell? _ _ x0_)⟩, ⟨y0_⟩, ⟨y1_⟩⟩
theorem am_L22 {w : World} {A : Option Addr} {n : Nat} {xs : List (List ByteArray)} (h : Aside0 (Kd.C (Kd.slice 9 Kd.string) w A n xs)) (i : Int) (h0 : 0 ≤ i := by exact da_) (h1 : i < n := by exact da_) : ∃ ad A0 c0, A = some ad ∧ ((0 ≤ i) = True ∧ (i < n) = True ∧ w.cell? (ad.add i.toNat) = some (.slice A0 (rd_L22 xs i).length c0)) ∧ Aside0 ((rd_L22 xs i).length ≤ c0) ∧ Aside0 (Kd.string.C w A0 (rd_L22 xs i).length (rd_L22 xs i)) := by
  obtain ⟨ad, A0, c0, e_, x0_, y0_, y1_⟩ := at_L22 h.out i h0 h1
  exact ⟨ad, A0, c0, e_, ⟨eq_true h0, eq_true h1, x0_⟩, ⟨y0_⟩, ⟨y1_⟩⟩
theorem an_L23 {w W : World} {A : Option Addr} {n : Nat} {xs : List (List S25)} (h : Aside0 (Kd.C (Kd.slice 25 k25) w A n xs)) (hb : Aside0 (Below w.heap.size w W)) (i : Int) (h0 : 0 ≤ i := by exact da_) (h1 : i < n := by exact da_) : ∃ ad A0 c0, A = some ad ∧ ((0 ≤ i) = True ∧ (i < n) = True ∧ W.cell? (ad.add i.toNat) = some (.slice A0 (rd_L23 xs i).length c0)) ∧ Aside0 ((rd_L23 xs i).length ≤ c0) ∧ Aside0 (k25.C w A0 (rd_L23 xs i).length (rd_L23 xs i)) := by
  obtain ⟨ad, A0, c0, e_, x0_, y0_, y1_⟩ := at_L23 h.out i h0 h1
  exact ⟨ad, A0, c0, e_, ⟨eq_true h0, eq_true h1, hx_ hb x0_ (World.block_lt_of_cell? _ _ x0_)⟩, ⟨y0_⟩, ⟨y1_⟩⟩
theorem am_L23 {w : World} {A : Option Addr} {n : Nat} {xs : List (List S25)} (h : Aside0 (Kd.C (Kd.slice 25 k25) w A n xs)) (i : Int) (h0 : 0 ≤ i := by exact da_) (h1 : i < n := by exact da_) : ∃ ad A0 c0, A = some ad ∧ ((0 ≤ i) = True ∧ (i < n) = True ∧ w.cell? (ad.add i.toNat) = some (.slice A0 (rd_L23 xs i).length c0)) ∧ Aside0 ((rd_L23 xs i).length ≤ c0) ∧ Aside0 (k25.C w A0 (rd_L23 xs i).length (rd_L23 xs i)) := by
  obtain ⟨ad, A0, c0, e_, x0_, y0_, y1_⟩ := at_L23 h.out i h0 h1
  exact ⟨ad, A0, c0, e_, ⟨eq_true h0, eq_true h1, x0_⟩, ⟨y0_⟩, ⟨y1_⟩⟩
end Go.Proofs.YtohiakbkkmmjeaaGreatDoor.PFnExactWorldText
