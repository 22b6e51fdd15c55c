/- Functions of the program as plain Lean functions, each with a proof that the program's call comes to the same; no condition. Written by a program of this session. -/
import Derived.Test.YtcpnlfkmfpmkdaaGreatDoorProg
import Derived.Below
import Derived.Deep.Draws
import Derived.Deep.AppendLies
import Derived.Maps.AppendAt
import Derived.OwnWalk
import Derived.Laws.BytesArg
import Derived.Laws.MakeOwn
import Derived.Laws.OwnMore
import Derived.Deep.OwnRows
import Derived.Tactics
import Derived.Lib.ConvBytes
import Derived.Laws.Slices
import Derived.WalkKit
import Derived.KernelRfl
import Derived.RowKit3
import Derived.Deep.LoopGhost
import Derived.Deep.QuietTactic
import Derived.BigQuiet
import Derived.WideLaws
import Derived.Deep.DeepCutAuto
import Derived.Deep.CutBlock
import Derived.Deep.RegionHeld3
import Derived.Laws.Rows
import Derived.Lib.AppendStr
import Derived.ArgAppend
import Derived.Laws.IdiomCopy
import Derived.OrdersHeld
import Derived.Laws.BitsLemmas
import Derived.RowKit
import Derived.BigRegion
import Derived.RegionTactic
import Derived.ChangeAlike
import Derived.Test.YtcpnlfkmfpmkdaaGreatDoorVFnInsTextShelf
import Derived.Maps.OwnSet
import Derived.Test.YtcpnlfkmfpmkdaaGreatDoorVFnInsTextWords
import Derived.Test.YtcpnlfkmfpmkdaaGreatDoorVFnInsTextLast
import Derived.Test.YtcpnlfkmfpmkdaaGreatDoorVFnInsTextTab
import Derived.Test.YtcpnlfkmfpmkdaaGreatDoorVFnInsTextApart
import Derived.Test.YtcpnlfkmfpmkdaaGreatDoorVFnInsTextFoot
import Derived.Test.YtcpnlfkmfpmkdaaGreatDoorVFnInsTextKept
import Derived.Test.YtcpnlfkmfpmkdaaGreatDoorVFnInsTextShare
import Derived.Test.YtcpnlfkmfpmkdaaGreatDoorVFnInsTextN
import Derived.Test.YtcpnlfkmfpmkdaaGreatDoorVFnInsTextEqStruct
import Derived.Test.YtcpnlfkmfpmkdaaGreatDoorVFnInsTextRepsOne
import Derived.Test.YtcpnlfkmfpmkdaaGreatDoorVFnInsTextInv
import Derived.Test.YtcpnlfkmfpmkdaaGreatDoorVFnInsTextGuard
import Derived.Test.YtcpnlfkmfpmkdaaGreatDoorVFnInsTextMore
namespace Go.Proofs.YtcpnlfkmfpmkdaaGreatDoor.PFnInsText
open Go.RowKit Go.Proofs.YtcpnlfkmfpmkdaaGreatDoorW.PrintWords Go.Proofs.YtcpnlfkmfpmkdaaGreatDoorW.PrintLast Go.Proofs.YtcpnlfkmfpmkdaaGreatDoorW.PrintMore
open Go.Proofs.YtcpnlfkmfpmkdaaGreatDoorW.PrintWords renaming below_alloc → Zba, pw_below_drewN → Zbn, below_drew1 → Zbd, blk_drewN → Zkn, blk_drew → Zkd, blk_alloc → Zka, blk_cell → Zkc, blk_far → Zkr
open Go.World renaming block_lt_of_cell? → Zlt
attribute [local go_sem] max2_int min2_int max_two min_two max_three min_three max_four min_four   -- for this text's walks alone
set_option linter.unusedVariables false
set_option linter.unusedSimpArgs false



def errW : Option Int → Value
  | none => .nilIface
  | some c => .iface 0 (.int .i64 c)
theorem errW_none : errW none = .nilIface := rfl
theorem errW_some (c : Int) : errW (some c) = .iface 0 (.int .i64 c) := rfl

/-- From W to W' there are only draws, and what is made. -/
structure Pl (W W' : World) : Prop where
  blk : ∀ {g : Nat} {o : Obj}, W.heap[g]? = some o → W'.heap[g]? = some o
  bel : ∀ {w : World}, Below w.heap.size w W → Below w.heap.size w W'
  cc : ∀ {α : Type} {d : Kd α} {A : Option Addr} {n : Nat} {xs : List α}, d.C W A n xs → d.C W' A n xs
instance pl_0 (W : World) : Nonempty (Pl W W) := ⟨⟨fun h => h, fun h => h, fun h => h⟩⟩
instance pl_n (W W' : World) (n : Nat) [h : Nonempty (Pl W W')] : Nonempty (Pl W (W'.drewN n)) := h.elim fun p => ⟨⟨fun x => Zkn (p.blk x) n, fun x => Zbn (p.bel x) n, fun x => Kd.C_drewN (p.cc x) n⟩⟩
instance pl_d (W W' : World) [h : Nonempty (Pl W W')] : Nonempty (Pl W W'.drew) := h.elim fun p => ⟨⟨fun x => Zkd (p.blk x), fun x => Zbd (p.bel x), fun x => Kd.C_drew (p.cc x)⟩⟩
instance pl_a (W W' : World) (o : Obj) [h : Nonempty (Pl W W')] : Nonempty (Pl W (W'.alloc o)) := h.elim fun p => ⟨⟨fun x => Zka (p.blk x) o, fun x => Zba (p.bel x) o, fun x => Kd.C_alloc (p.cc x) o⟩⟩
theorem pk {W W' : World} [h : Nonempty (Pl W W')] {g : Nat} {o : Obj} (x : W.heap[g]? = some o) : W'.heap[g]? = some o := h.elim fun p => p.blk x
theorem bk {W W' : World} [h : Nonempty (Pl W W')] {w : World} (x : Below w.heap.size w W) : Below w.heap.size w W' := h.elim fun p => p.bel x
theorem zf_ {w : World} {g : Nat} {t : TypeId} {cs : Array Value} {p : Addr} {u : Value} (zq_ : Aside0 (g ≠ p.block)) (h : w.heap[g]? = some (.cells cs t (0, 0))) : (w.setCell p u).heap[g]? = some (.cells cs t (0, 0)) := Zkr h zq_.out u
theorem zs_ {w : World} {g i : Nat} {u : Value} {t : TypeId} {cs : Array Value} (h : w.heap[g]? = some (.cells cs t (0, 0))) : (w.setCell ⟨g, i, none⟩ u).heap[g]? = some (.cells (cs.setIfInBounds i u) t (0, 0)) := blk_set h i u
/-- A block that is our own, behind stores: found by its place. -/
theorem zc_ {W : World} {g : Nat} {cs cs' : Array Value} {t : TypeId} (h : W.heap[g]? = some (.cells cs t (0, 0)) := by (with_reducible repeat (first | apply Go.Proofs.YtcpnlfkmfpmkdaaGreatDoor.PFnInsText.zs_ | apply Go.Proofs.YtcpnlfkmfpmkdaaGreatDoorW.PrintWords.blk_drewN | apply Go.Proofs.YtcpnlfkmfpmkdaaGreatDoorW.PrintWords.blk_drew | apply Go.Proofs.YtcpnlfkmfpmkdaaGreatDoorW.PrintWords.blk_alloc | (apply Go.Proofs.YtcpnlfkmfpmkdaaGreatDoor.PFnInsText.zf_; assumption))); with_reducible (apply Go.Proofs.YtcpnlfkmfpmkdaaGreatDoorW.PrintWords.Aside0.out; assumption)) (e : cs = cs' := by first | rfl | (simp only [List.drop_one]; rfl)) : W.heap[g]? = some (.cells cs' t (0, 0)) := e ▸ h
theorem hb_ {w W : World} (h : Below w.heap.size w W := by repeat (first | (with_reducible first | (refine Go.Proofs.YtcpnlfkmfpmkdaaGreatDoorW.PrintWords.Aside0.out ?_; assumption) | apply Go.Proofs.YtcpnlfkmfpmkdaaGreatDoorW.PrintWords.below_alloc | apply Go.Proofs.YtcpnlfkmfpmkdaaGreatDoorW.PrintWords.pw_below_drewN | apply Go.Proofs.YtcpnlfkmfpmkdaaGreatDoorW.PrintWords.below_drew1 | refine Go.Proofs.YtcpnlfkmfpmkdaaGreatDoorW.PrintWords.below_set ?_ (Go.Proofs.YtcpnlfkmfpmkdaaGreatDoorW.PrintWords.Aside0.out (by assumption))) | (refine Go.Proofs.YtcpnlfkmfpmkdaaGreatDoorW.PrintWords.Aside0.out ?_; assumption))) : Below w.heap.size w W := h
theorem fin_ {P : Prop} {w W W' : World} [Nonempty (Pl W W')] (hb : Aside0 (Below w.heap.size w W)) (h : P := by first | rfl | (simp [*] <;> rfl)) : P ∧ Below w.heap.size w W' := ⟨h, bk hb.out⟩
theorem ge_ {P : Program} {ops : Array Oper} {Q : Exit → Act → World → Prop} {rest : List Oper} {oi : Oper} {a : Act} {w : World} (N : Option Tmp) {f : FuncId} {fn : Func} {as_ : Array Operand} {ts : Array TypeId} (hf : P.funcs[f]? = some fn) (args : Array Value)
    (h : Calls P f args w fun e w' => ∃ v, e = .returned v ∧ wpList P ops Q rest (a.put N v) w') (hd : oi.dst = N := by rfl) (hg : oi.guard = none := by rfl) (hname : (fn.name == "runtime.NumGoroutine") = false := by kernel_rfl) (hb : fn.body.isSome = true := by rfl)
    (hop : oi.op = .call { callee := .value (.func f), args := as_, argTypes := ts } := by rfl) (hargs : as_.map a.eval = args := by (try simp only [List.map_toArray, List.map_cons, List.map_nil]); first | done | rfl | (simp only [List.length_drop, List.length_take]; rfl)) : wpList P ops Q (oi :: rest) a w :=
  goesL_ N hd hg hf hname hb args hop hargs h
theorem hx_ {w W : World} {b : Nat} {p : Addr} {v : Value} (hb : Aside0 (Below b w W)) (h : w.cell? p = some v) (hl : p.block < b) : W.cell? p = some v := (hb.out.cell hl).trans h
theorem ie_ {l : List UInt8} {b : Bool} (h : (l == ([] : List UInt8)) = b) : l.isEmpty = b := by cases l <;> exact h
theorem bne_ {α : Type} [BEq α] {a b : α} {c : Bool} (h : (a != b) = c) : (!(a == b)) = c := h
theorem pc {W W' : World} [h : Nonempty (Pl W W')] {α : Type} {d : Kd α} {A : Option Addr} {n : Nat} {xs : List α} (x : d.C W A n xs) : d.C W' A n xs := h.elim fun p => p.cc x
theorem tabIs_below {P : Program} {w w' : World} {name : String} {cs : Array Value} (h : w.var? P name = some cs) (hb : Below w.heap.size w w') : w'.var? P name = some cs := by
  unfold World.var? at *
  cases hg : P.globalNamed name with
  | none => simp [hg] at h
  | some g =>
    simp only [hg, Option.bind_some] at h ⊢
    have hlt : g < w.heap.size := by
      rcases Nat.lt_or_ge g w.heap.size with h' | h'
      · exact h'
      · rw [Array.getElem?_eq_none h'] at h; simp at h
    rw [hb.block g hlt]
    exact h
/-- What the library's own variables hold. -/
structure Tabs (w : World) : Prop where
  tab : Go.Lib.TabIs Tryz.prog w "internal/strconv.uint64pow10" .u64 Go.Lib.pow10Tab
  max : ∃ m, w.cell? ⟨0, 0, none⟩ = some (.int .i64 m)
  es : ∃ tp p, w.var? Tryz.prog "strconv.ErrSyntax" = some #[.iface tp p]
  er : ∃ tp p, w.var? Tryz.prog "strconv.ErrRange" = some #[.iface tp p]
theorem tabs_below {w w' : World} (h : Tabs w) (hb : Below w.heap.size w w') : Tabs w' := ⟨tabIs_below h.tab hb, h.max.elim fun m hm => ⟨m, (hb.cell (Zlt _ _ hm)).trans hm⟩, h.es.elim fun t h => h.elim fun p hp => ⟨t, p, tabIs_below hp hb⟩, h.er.elim fun t h => h.elim fun p hp => ⟨t, p, tabIs_below hp hb⟩⟩
/-- The same, behind what was made since: found by itself. -/
theorem tab_ {w W : World} (ht : Aside0 (Tabs w) := by (with_reducible assumption)) (hb : Below w.heap.size w W := by exact hb_) : Tabs W := tabs_below ht.out hb
theorem cz2 {W : World} {g : Nat} {v0 v1 : Value} {t : TypeId} (h : W.heap[g]? = some (.cells #[v0, v1] t (0, 0))) : W.cell? ⟨g, 0, none⟩ = some v0 ∧ W.cell? ⟨g, 1, none⟩ = some v1 := ⟨(Zkc h 0).trans rfl, (Zkc h 1).trans rfl⟩
theorem cf2 {W : World} {g : Nat} {v0 v1 : Value} {t : TypeId} (h : W.heap[g]? = some (.cells #[v0, v1] t (0, 0))) : W.cell? ⟨g, 0, none⟩ = some v0 ∧ W.cell? ⟨g, 1, none⟩ = some v1 ∧ W.frozen? ⟨g, 0, none⟩ = false ∧ W.frozen? ⟨g, 1, none⟩ = false := by
  obtain ⟨h0, h1⟩ := cz2 h
  exact ⟨h0, h1, (by simp [World.frozen?, h]), (by simp [World.frozen?, h])⟩
theorem cz4 {W : World} {g : Nat} {v0 v1 v2 v3 : Value} {t : TypeId} (h : W.heap[g]? = some (.cells #[v0, v1, v2, v3] t (0, 0))) : W.cell? ⟨g, 0, none⟩ = some v0 ∧ W.cell? ⟨g, 1, none⟩ = some v1 ∧ W.cell? ⟨g, 2, none⟩ = some v2 ∧ W.cell? ⟨g, 3, none⟩ = some v3 := ⟨(Zkc h 0).trans rfl, (Zkc h 1).trans rfl, (Zkc h 2).trans rfl, (Zkc h 3).trans rfl⟩
theorem cf4 {W : World} {g : Nat} {v0 v1 v2 v3 : Value} {t : TypeId} (h : W.heap[g]? = some (.cells #[v0, v1, v2, v3] t (0, 0))) : W.cell? ⟨g, 0, none⟩ = some v0 ∧ W.cell? ⟨g, 1, none⟩ = some v1 ∧ W.cell? ⟨g, 2, none⟩ = some v2 ∧ W.cell? ⟨g, 3, none⟩ = some v3 ∧ W.frozen? ⟨g, 0, none⟩ = false ∧ W.frozen? ⟨g, 1, none⟩ = false ∧ W.frozen? ⟨g, 2, none⟩ = false ∧ W.frozen? ⟨g, 3, none⟩ = false := by
  obtain ⟨h0, h1, h2, h3⟩ := cz4 h
  exact ⟨h0, h1, h2, h3, (by simp [World.frozen?, h]), (by simp [World.frozen?, h]), (by simp [World.frozen?, h]), (by simp [World.frozen?, h])⟩
theorem cz5 {W : World} {g : Nat} {v0 v1 v2 v3 v4 : Value} {t : TypeId} (h : W.heap[g]? = some (.cells #[v0, v1, v2, v3, v4] t (0, 0))) : W.cell? ⟨g, 0, none⟩ = some v0 ∧ W.cell? ⟨g, 1, none⟩ = some v1 ∧ W.cell? ⟨g, 2, none⟩ = some v2 ∧ W.cell? ⟨g, 3, none⟩ = some v3 ∧ W.cell? ⟨g, 4, none⟩ = some v4 := ⟨(Zkc h 0).trans rfl, (Zkc h 1).trans rfl, (Zkc h 2).trans rfl, (Zkc h 3).trans rfl, (Zkc h 4).trans rfl⟩
theorem cf5 {W : World} {g : Nat} {v0 v1 v2 v3 v4 : Value} {t : TypeId} (h : W.heap[g]? = some (.cells #[v0, v1, v2, v3, v4] t (0, 0))) : W.cell? ⟨g, 0, none⟩ = some v0 ∧ W.cell? ⟨g, 1, none⟩ = some v1 ∧ W.cell? ⟨g, 2, none⟩ = some v2 ∧ W.cell? ⟨g, 3, none⟩ = some v3 ∧ W.cell? ⟨g, 4, none⟩ = some v4 ∧ W.frozen? ⟨g, 0, none⟩ = false ∧ W.frozen? ⟨g, 1, none⟩ = false ∧ W.frozen? ⟨g, 2, none⟩ = false ∧ W.frozen? ⟨g, 3, none⟩ = false ∧ W.frozen? ⟨g, 4, none⟩ = false := by
  obtain ⟨h0, h1, h2, h3, h4⟩ := cz5 h
  exact ⟨h0, h1, h2, h3, h4, (by simp [World.frozen?, h]), (by simp [World.frozen?, h]), (by simp [World.frozen?, h]), (by simp [World.frozen?, h]), (by simp [World.frozen?, h])⟩
theorem info2 : (Tryz.prog.info? 2).map (fun i => (i.zero, i.size, i.bytes)) = some (some (.int .i64 0), 1, 8) := by kernel_rfl
theorem info5 : (Tryz.prog.info? 5).map (fun i => (i.zero, i.size, i.bytes)) = some (some (.int .u8 0), 1, 1) := by kernel_rfl
theorem info9 : (Tryz.prog.info? 9).map (fun i => (i.zero, i.size, i.bytes)) = some (some (.string ⟨#[]⟩), 1, 16) := by kernel_rfl
-- the values' own types
def rd_L3 (xs : List (List ByteArray)) (i : Int) : (List ByteArray) := xs.getD i.toNat ([] : List ByteArray)
theorem at_L3 {w : World} {A : Option Addr} {n : Nat} {xs : List (List ByteArray)} (h : Kd.C (Kd.slice 9 Kd.string) w A n xs) (i : Int) (h0 : 0 ≤ i) (h1 : i < n) : ∃ ad A0 c0, A = some ad ∧ w.cell? (ad.add i.toNat) = some (.slice A0 (rd_L3 xs i).length c0) ∧ (rd_L3 xs i).length ≤ c0 ∧ Kd.string.C w A0 (rd_L3 xs i).length (rd_L3 xs i) := by
  obtain ⟨ad, c, e, _, hK, hc0⟩ := Kd.C_get h ([] : List ByteArray) i h0 h1
  have hc : ∀ j u, c[j]? = some u → w.cell? (ad.add (i.toNat * 1 + j)) = some u := hc0
  obtain ⟨A0, c0, rfl, l0, g0⟩ := hK
  exact ⟨ad, A0, c0, e, by have hq := hc 0 _ rfl; rwa [Nat.mul_one, Nat.add_zero] at hq, l0, g0⟩

def rd_L5 (xs : List (List Int)) (i : Int) : (List Int) := xs.getD i.toNat ([] : List Int)
theorem at_L5 {w : World} {A : Option Addr} {n : Nat} {xs : List (List Int)} (h : Kd.C (Kd.slice 5 (Kd.int .u8)) w A n xs) (i : Int) (h0 : 0 ≤ i) (h1 : i < n) : ∃ ad A0 c0, A = some ad ∧ w.cell? (ad.add i.toNat) = some (.slice A0 (rd_L5 xs i).length c0) ∧ (rd_L5 xs i).length ≤ c0 ∧ (Kd.int .u8).C w A0 (rd_L5 xs i).length (rd_L5 xs i) := by
  obtain ⟨ad, c, e, _, hK, hc0⟩ := Kd.C_get h ([] : List Int) i h0 h1
  have hc : ∀ j u, c[j]? = some u → w.cell? (ad.add (i.toNat * 1 + j)) = some u := hc0
  obtain ⟨A0, c0, rfl, l0, g0⟩ := hK
  exact ⟨ad, A0, c0, e, by have hq := hc 0 _ rfl; rwa [Nat.mul_one, Nat.add_zero] at hq, l0, g0⟩

end Go.Proofs.YtcpnlfkmfpmkdaaGreatDoor.PFnInsText
