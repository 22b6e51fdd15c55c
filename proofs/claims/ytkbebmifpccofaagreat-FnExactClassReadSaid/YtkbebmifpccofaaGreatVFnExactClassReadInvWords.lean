-- PRINTED BY print.sh 35421559b90ae4d0a3588c463048766b98c2df88dd9212a6774a882060cdf62d: not written by this session
import Derived.Test.YtkbebmifpccofaaGreatVFnExactClassReadInv
import Derived.Test.YtkbebmifpccofaaGreatVFnExactClassReadN
namespace Go.Proofs.YtkbebmifpccofaaGreatW.PrintWords
open Go.RowKit
theorem Kd.R_flat {α:Type} {d:Kd α} {e base:Nat} {ok ok':Nat→Prop} {w:World} {v:Value} {xs:List α} (hd:∀ {c i:Nat→Prop} {x:α} {cs:List Value},d.M w base c x cs→d.M w base i x cs) (h:d.R e w base ok v xs) (j:∀ k,v.ownBlock=some k→ok k→ok' k):d.R e w base ok' v xs:=by
  obtain⟨h0,inner,hown,hr⟩:=h
  exact⟨fun k b=>j k b (h0 k b),inner,hown,hr.imp_ (fun _ _ m=>hd m)⟩
end Go.Proofs.YtkbebmifpccofaaGreatW.PrintWords
namespace Go.Proofs.YtkbebmifpccofaaGreatW.PrintLast
section
variable {ops:Array Oper} {a:Act} {o og:Oper} {g:Nat} {t:Tmp} {u:Bool}
end
end Go.Proofs.YtkbebmifpccofaaGreatW.PrintLast
