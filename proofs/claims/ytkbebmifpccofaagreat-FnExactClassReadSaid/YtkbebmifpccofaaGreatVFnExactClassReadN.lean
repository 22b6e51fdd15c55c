-- PRINTED BY print.sh 35421559b90ae4d0a3588c463048766b98c2df88dd9212a6774a882060cdf62d: not written by this session
import Derived.Test.YtkbebmifpccofaaGreatVFnExactClassReadShare
import Derived.Test.YtkbebmifpccofaaGreatVFnExactClassReadApart
import Derived.Test.YtkbebmifpccofaaGreatVFnExactClassReadWords
namespace Go.Proofs.YtkbebmifpccofaaGreatW.PrintWords
open Go.RowKit
namespace Kd
def chunks (sz:Nat) (n:Nat) (inner:List Value):List (List Value):=(List.range n).map fun j=>(inner.drop (j*sz)).take sz
theorem chunks_length (a n:Nat) (inner:List Value):(chunks a n inner).length=n:=by simp [chunks]
theorem chunks_at {a n:Nat} {inner:List Value} {j:Nat} (b:j < n):(chunks a n inner)[j]?=some ((inner.drop (j*a)).take a):=by simp [chunks,b]
theorem chunks_get {a n:Nat} {inner:List Value} {j:Nat} {c:List Value} (h:(chunks a n inner)[j]?=some c):c=(inner.drop (j*a)).take a:=by
  have b:j < n:=by have:=(List.getElem?_eq_some_iff.1 h).1;rwa [chunks_length] at this
  rw [chunks_at b] at h
  injection h with h
  exact h.symm
theorem reps_raw {α:Type} {b:α→List Value→Prop} {a:Nat} {xs:List α} {inner:List Value} (h:Reps b a xs inner) (m:∀ x c,b x c→c.length=a∧∀ u∈c,u.oneCell'=true):Reps (fun x cs=>cs=x∧cs.length=a∧∀ u∈cs,u.oneCell'=true) a (chunks a xs.length inner) inner:=by
  refine⟨by rw [chunks_length];exact h.1,fun j p i=>?_⟩
  have k:j < xs.length:=by have:=(List.getElem?_eq_some_iff.1 i).1;rwa [chunks_length] at this
  have o:=chunks_get i
  exact⟨o.symm,m _ _ (h.2 j _ (List.getElem?_eq_getElem k))⟩
section
variable {α:Type} {d:Kd α} {e base n cc g:Nat} {ok ok' okp S:Nat→Prop} {w w1 W W1:World} {A:Option Addr} {u v v1:Value} {xs:List α} {x:α} {c:List Value}
def N {α:Type} (d:Kd α) (e:Nat) (w:World) (base:Nat) (ok:Nat→Prop) (v:Value) (xs:List α):Prop:=
  (∀ k,v.ownBlock=some k→ok k)∧∃ rows:List (List Value),rows.length=xs.length∧(raw d.sz).R e w base (fun k=>some k=v.ownBlock) v rows∧∀ (j:Nat) (x:α) (c:List Value),xs[j]?=some x→rows[j]?=some c→FK d w (fun k=>ok k∧some k≠v.ownBlock) x c
theorem R_N (h:d.R e w base ok v xs):N d e w base ok v xs:=by
  obtain⟨h0,inner,ho,hr⟩:=h
  refine⟨h0,chunks d.sz xs.length inner,chunks_length _ _ _,⟨fun k b=>b.symm,inner,by rw [chunks_length];exact ho,reps_raw hr (fun x c a=>⟨d.K_len (d.K_of_M a),d.K_one (d.K_of_M a)⟩)⟩,fun j x c i m=>?_⟩
  rw [chunks_get m]
  exact FK_of_M (hr.2 j x i)
theorem N_nil (d:Kd α) (e:Nat) (w:World) (base:Nat) (ok:Nat→Prop):N d e w base ok (.slice none 0 0) []:=R_N (R_nil _ _ _ _ _)
end
end Kd
end Go.Proofs.YtkbebmifpccofaaGreatW.PrintWords
