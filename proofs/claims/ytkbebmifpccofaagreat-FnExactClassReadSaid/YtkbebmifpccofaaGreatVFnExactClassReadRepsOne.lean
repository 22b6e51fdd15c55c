-- PRINTED BY print.sh 35421559b90ae4d0a3588c463048766b98c2df88dd9212a6774a882060cdf62d: not written by this session
import Derived.Test.YtkbebmifpccofaaGreatVFnExactClassReadWords
namespace Go.Proofs.YtkbebmifpccofaaGreatW.PrintWords
theorem Reps.one {α:Type} {R:α→List Value→Prop} {ps:List α} {cs:List Value} {p:α} {v:Value} (b:R p [v]) (h:Reps R 1 ps cs):Reps R 1 (p :: ps) (v :: cs):=by
  refine⟨by simp [h.1],fun j q a=>?_⟩
  cases j with
  | zero =>
    simp only [List.getElem?_cons_zero,Option.some.injEq] at a
    subst a
    simpa using b
  | succ j =>
    simp only [List.getElem?_cons_succ] at a
    have h1:=h.2 j q a
    simpa [Nat.mul_one] using h1
end Go.Proofs.YtkbebmifpccofaaGreatW.PrintWords
