/- Functions of the program as plain Lean functions, each with a proof that the program's call comes to the same; no condition. Written by a program of this session. -/
import Derived.Test.YtjmochmnioegoaaProg
import Derived.Below
import Derived.Deep.Draws
import Derived.Deep.AppendLies
import Derived.Maps.AppendAt
import Derived.OwnWalk
import Derived.Laws.BytesArg
import Derived.Laws.MakeOwn
import Derived.Laws.OwnMore
import Derived.Deep.OwnRows
import Derived.Tactics
import Derived.Lib.ConvBytes
import Derived.Laws.Slices
import Derived.WalkKit
import Derived.KernelRfl
import Derived.RowKit3
import Derived.Deep.LoopGhost
import Derived.Deep.QuietTactic
import Derived.BigQuiet
import Derived.WideLaws
import Derived.Deep.DeepCutAuto
import Derived.Deep.CutBlock
import Derived.Deep.RegionHeld3
import Derived.Laws.Rows
import Derived.Lib.AppendStr
import Derived.ArgAppend
import Derived.Laws.IdiomCopy
import Derived.OrdersHeld
import Derived.Laws.BitsLemmas
import Derived.RowKit
import Derived.BigRegion
import Derived.RegionTactic
import Derived.ChangeAlike
import Derived.Test.YtjmochmnioegoaaShelf
import Derived.Test.YtjmochmnioegoaaWWords
import Derived.Test.YtjmochmnioegoaaWLast
import Derived.Test.YtjmochmnioegoaaWTab
import Derived.Test.YtjmochmnioegoaaWFour
import Derived.Test.YtjmochmnioegoaaWQPut
import Derived.Test.YtjmochmnioegoaaWApart
import Derived.Test.YtjmochmnioegoaaWArr
import Derived.Test.YtjmochmnioegoaaWZeros
import Derived.Test.YtjmochmnioegoaaWFoot
import Derived.Test.YtjmochmnioegoaaWKept
import Derived.Test.YtjmochmnioegoaaWShare
import Derived.Test.YtjmochmnioegoaaWN
import Derived.Test.YtjmochmnioegoaaWFootNe
import Derived.Test.YtjmochmnioegoaaWAt
import Derived.Test.YtjmochmnioegoaaWEqStruct
import Derived.Test.YtjmochmnioegoaaWRepsOne
import Derived.Test.YtjmochmnioegoaaWInv
import Derived.Test.YtjmochmnioegoaaWInvWords
import Derived.Test.YtjmochmnioegoaaWGuard
import Derived.Test.YtjmochmnioegoaaWNEv
import Derived.Test.YtjmochmnioegoaaWMore
namespace Go.Proofs.Ytjmochmnioegoaa.PFnOps
open Go.RowKit Go.Proofs.YtjmochmnioegoaaW.PrintWords Go.Proofs.YtjmochmnioegoaaW.PrintLast Go.Proofs.YtjmochmnioegoaaW.PrintMore
attribute [local go_sem] max2_int min2_int max_two min_two max_three min_three max_four min_four   -- for this text's walks alone
set_option linter.unusedVariables false
set_option linter.unusedSimpArgs false



def errW : Option Int → Value
  | none => .nilIface
  | some c => .iface 0 (.int .i64 c)
theorem errW_none : errW none = .nilIface := rfl
theorem errW_some (c : Int) : errW (some c) = .iface 0 (.int .i64 c) := rfl

theorem info9 : (Try.prog.info? 9).map (fun i => (i.zero, i.size, i.bytes)) = some (some (.string ⟨#[]⟩), 1, 16) := by kernel_rfl
-- the values' own types

end Go.Proofs.Ytjmochmnioegoaa.PFnOps
