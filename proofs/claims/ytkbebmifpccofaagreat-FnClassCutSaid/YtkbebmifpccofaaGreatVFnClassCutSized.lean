-- PRINTED BY print.sh 35421559b90ae4d0a3588c463048766b98c2df88dd9212a6774a882060cdf62d: not written by this session
-- PRINTED WORDS (module Derived/Print/Sized.lean): go-gate-2's,for the rows of laws over slices: an AI agent of Go's test side,Tue Nov 17 2026;no person has read it. Lean checks it.
import Derived.SizedLaws
import Derived.ChangeSlices
namespace Go.Proofs.YtkbebmifpccofaaGreatW.PrintWords
open Go.ChangeShapes Go.WideShapes
theorem sized_ints {H:Type} {enc:TypeId×Value→H} {P:Program} {W:World} {base:Nat} {q:Nat→Bool} {r:Bool} {t e:TypeId} {k:IntKind} {a:Option Addr} {b s:Nat} {d:DataW H} {ps:List MemPlace} {o:List TypeId} {ds:List (DataW H)} {j:Nat}
    (u:(DataW.weightsEach P o ds).all (·≤reachBytes)=true) (y:o[j]?=some t) (A:ds[j]?=some d) (p:P.underlying t=some (.slice e)) (D:P.underlying e=some (.int k)) (E:P.cellsOf e=1) {B:Nat} (G:P.bytesOf e=B)
    (h:DataW.Trod enc P W base q r t (.slice a b s) d ps):b*B≤140737488351232:=by
  obtain⟨fuel,hf⟩:=h
  rcases open_ints p D E hf with ⟨i,_⟩|⟨x,l,c,m,i,_,I,_,J,n,_,_⟩
  · simp [Value.cells] at i
    obtain⟨rfl,rfl,rfl⟩:=i
    simp
  · simp [Value.cells] at i
    obtain⟨rfl,rfl,rfl⟩:=i
    obtain⟨n,_⟩:=Prod.mk.inj n
    subst n
    have z:=sized_slice u y A p
    rw [G] at z
    have v:b≤m.length:=by
      rw [J]
      split
      · exact I
      · exact Nat.le_refl _
    have h1:(lits (H:=H) k (m.take b)).length+(lits (H:=H) k (m.drop b)).length=m.length:=by
      simp [lits]
      omega
    rw [h1] at z
    exact Nat.le_trans (Nat.mul_le_mul_right _ v) z
end Go.Proofs.YtkbebmifpccofaaGreatW.PrintWords
