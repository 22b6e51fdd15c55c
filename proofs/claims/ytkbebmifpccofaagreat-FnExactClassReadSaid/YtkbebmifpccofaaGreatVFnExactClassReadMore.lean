-- PRINTED BY print.sh 35421559b90ae4d0a3588c463048766b98c2df88dd9212a6774a882060cdf62d: not written by this session
-- PRINTED WORDS (module Derived/Print/More.lean): go-gate-2's additions: an AI agent of Go's test side,Tue Nov 17 2026;no person has read it. Lean checks it.
import Derived.Test.YtkbebmifpccofaaGreatVFnExactClassReadWords
import Derived.Test.YtkbebmifpccofaaGreatVFnExactClassReadLast
import Derived.Test.YtkbebmifpccofaaGreatVFnExactClassReadApart
import Derived.Test.YtkbebmifpccofaaGreatVFnExactClassReadFoot
import Derived.Test.YtkbebmifpccofaaGreatVFnExactClassReadKept
import Derived.Test.YtkbebmifpccofaaGreatVFnExactClassReadN
namespace Go.Proofs.YtkbebmifpccofaaGreatW.PrintMore
open Go.RowKit Go.Proofs.YtkbebmifpccofaaGreatW.PrintWords
namespace Kd
open Go.Proofs.YtkbebmifpccofaaGreatW.PrintWords.Kd
end Kd
namespace Kd
open Go.Proofs.YtkbebmifpccofaaGreatW.PrintWords.Kd
section
variable {α:Type} {d:Kd α} {e base g N:Nat} {ok:Nat→Prop} {W w1:World} {u v:Value} {xs:List α}
end
end Kd
theorem max2_int (k k':IntKind) (x y:Int):Builtin.max2 (.int k x) (.int k' y)=pure (.int k (if x < y then y else x)):=by simp only [Builtin.max2,gt_iff_lt]
theorem min2_int (k k':IntKind) (x y:Int):Builtin.min2 (.int k x) (.int k' y)=pure (.int k (if y < x then y else x)):=by simp only [Builtin.min2]
theorem max_two (j:Array TypeId) (k:TypeId) (a b:Value):Builtin.max_ j k #[a,b]=(Builtin.max2 a b >>= fun s=>pure s):=by simp only [Builtin.max_,List.foldlM_cons,List.foldlM_nil]
theorem min_two (j:Array TypeId) (k:TypeId) (a b:Value):Builtin.min_ j k #[a,b]=(Builtin.min2 a b >>= fun s=>pure s):=by simp only [Builtin.min_,List.foldlM_cons,List.foldlM_nil]
theorem max_three (j:Array TypeId) (k:TypeId) (a b c:Value):Builtin.max_ j k #[a,b,c]=(Builtin.max2 a b >>= fun s=>Builtin.max2 s c >>= fun s=>pure s):=by simp only [Builtin.max_,List.foldlM_cons,List.foldlM_nil]
theorem min_three (j:Array TypeId) (k:TypeId) (a b c:Value):Builtin.min_ j k #[a,b,c]=(Builtin.min2 a b >>= fun s=>Builtin.min2 s c >>= fun s=>pure s):=by simp only [Builtin.min_,List.foldlM_cons,List.foldlM_nil]
theorem max_four (j:Array TypeId) (k:TypeId) (a b c d:Value):Builtin.max_ j k #[a,b,c,d]=(Builtin.max2 a b >>= fun s=>Builtin.max2 s c >>= fun s=>Builtin.max2 s d >>= fun s=>pure s):=by simp only [Builtin.max_,List.foldlM_cons,List.foldlM_nil]
theorem min_four (j:Array TypeId) (k:TypeId) (a b c d:Value):Builtin.min_ j k #[a,b,c,d]=(Builtin.min2 a b >>= fun s=>Builtin.min2 s c >>= fun s=>Builtin.min2 s d >>= fun s=>pure s):=by simp only [Builtin.min_,List.foldlM_cons,List.foldlM_nil]
end Go.Proofs.YtkbebmifpccofaaGreatW.PrintMore
namespace Go.Proofs.YtkbebmifpccofaaGreatW.PrintWords
open Go.RowKit
section
variable {P:Program} {ops:Array Oper} {rest:List Oper} {o:Oper} {a:Act} {Q:Exit→Act→World→Prop} {W:World}
theorem gate_builtin {b:Builtin} {xs:Array Operand} {j:Array TypeId} (_ho:o.op=.call { callee:=.builtin b,args:=xs,argTypes:=j }) (h:wpList P ops Q (o :: rest) a W):wpList P ops Q (o :: rest) a W:=h
end
theorem calls_of_args {P:Program} {f:FuncId} {args j:Array Value} {w:World} {Q:Ending→World→Prop} (h:args=j) (k:Calls P f j w Q):Calls P f args w Q:=h ▸ k
def mn (a b:Int):Int:=if b < a then b else a
def shl (k:IntKind) (x y:Int):Int:=k.wrap (x*2 ^ min y.toNat k.bits)
theorem shl_small {k:IntKind} {x y j:Int} (h:shl k x y=j) (p:y≤k.bits):k.wrap (x*2 ^ y.toNat)=j:=by rw [← h];unfold shl;rw [Nat.min_eq_left (by omega)]
theorem drewN_self (w:World) (n:Nat):w.drewN n=w.drewN n:=rfl
namespace Kd
section
variable {α:Type} {d:Kd α} {e base:Nat} {ok:Nat→Prop} {W w1:World} {v:Value} {xs:List α}
theorem R_grown2 (h:d.R e W base ok v xs) (r:d.E=[]) {p:Option Nat} (s:W.grownBy w1 p) (q:∀ k,p=some k→some k≠v.ownBlock):d.R e w1 base ok v xs:=
  R_mono (R_grown (R_tight r h) s (fun k j t=>q k t.symm j)) (fun k j=>h.1 k j.symm)
end
section
variable {α:Type} {d:Kd α} {e base g n cap:Nat} {ok oki okp:Nat→Prop} {W:World} {xs:List α} {i:Int} {c:List Value}
end
section
variable {α:Type} {d:Kd α} {e base b b' g N:Nat} {ok ok1:Nat→Prop} {W W2 w1:World} {u v:Value} {xs ys:List α} {S:Nat→Prop}
theorem R_reok (p:d.E=[]) (h:d.R e W base ok1 v xs) (j:∀ k,v.ownBlock=some k→ok k):d.R e W base ok v xs:=R_mono (R_tight p h) (fun k q=>j k q.symm)
theorem R_keptB (h:d.R e W base ok v xs) (j:Kept W W2 S) (p:∀ k,ok k→¬ S k):d.R e W2 base (fun k=>ok k∧(¬ S k∧k < W.heap.size)) v xs:=
  R_kept (R_mono (R_bound h) (fun k j=>⟨j.1,p k j.1,j.2.2.1⟩)) j (fun _ j=>j.2.1)
theorem S_keptB (h:Kd.S d e W base ok v xs) (j:Kept W W2 S) (p:∀ k,ok k→¬ S k):Kd.S d e W2 base (fun k=>ok k∧(¬ S k∧k < W.heap.size)) v xs:=
  S_kept (S_mono (S_bound h) (fun k j=>⟨j.1,p k j.1,j.2.2.1⟩)) j (fun _ j=>j.2.1)
end
end Kd
end Go.Proofs.YtkbebmifpccofaaGreatW.PrintWords
namespace Go.Proofs.YtkbebmifpccofaaGreatW.PrintWords
open Go.RowKit
namespace Kd
def V {α:Type} (d:Kd α) (_e:Nat) (W:World) (_base:Nat) (ok:Nat→Prop) (v:Value) (xs:List α):Prop:=∃ A c,v=.slice A xs.length c∧xs.length≤c∧F d W ok A xs.length xs
section
variable {α β:Type} {d:Kd α} {e base base' n m c g N' lo hi:Nat} {ok ok' S:Nat→Prop} {w W w1:World} {A:Option Addr} {ad:Addr} {u v v1:Value} {xs:List α}
theorem V_nil (d:Kd α) (e:Nat) (W:World) (base:Nat) (ok:Nat→Prop):V d e W base ok (.slice none 0 0) []:=⟨none,0,rfl,Nat.le_refl _,F_nil d W ok⟩
end
end Kd
end Go.Proofs.YtkbebmifpccofaaGreatW.PrintWords
