/- Functions of the program as plain Lean functions, each with a proof that the program's call comes to the same; no condition. Written by a program of this session. -/
import Derived.Test.YtkijcgeicdldgaaProg
import Derived.Below
import Derived.Deep.Draws
import Derived.Deep.AppendLies
import Derived.Maps.AppendAt
import Derived.OwnWalk
import Derived.Laws.BytesArg
import Derived.Laws.MakeOwn
import Derived.Laws.OwnMore
import Derived.Deep.OwnRows
import Derived.Tactics
import Derived.Lib.ConvBytes
import Derived.Laws.Slices
import Derived.WalkKit
import Derived.KernelRfl
import Derived.RowKit3
import Derived.Deep.LoopGhost
import Derived.Deep.QuietTactic
import Derived.BigQuiet
import Derived.WideLaws
import Derived.Deep.DeepCutAuto
import Derived.Deep.CutBlock
import Derived.Deep.RegionHeld3
import Derived.Laws.Rows
import Derived.Lib.AppendStr
import Derived.ArgAppend
import Derived.Laws.IdiomCopy
import Derived.OrdersHeld
import Derived.Laws.BitsLemmas
import Derived.RowKit
import Derived.BigRegion
import Derived.RegionTactic
import Derived.ChangeAlike
import Derived.Test.YtkijcgeicdldgaaShelf
import Derived.Test.YtkijcgeicdldgaaWWords
import Derived.Test.YtkijcgeicdldgaaWLast
import Derived.Test.YtkijcgeicdldgaaWTab
import Derived.Test.YtkijcgeicdldgaaWFour
import Derived.Test.YtkijcgeicdldgaaWQPut
import Derived.Test.YtkijcgeicdldgaaWApart
import Derived.Test.YtkijcgeicdldgaaWArr
import Derived.Test.YtkijcgeicdldgaaWZeros
import Derived.Test.YtkijcgeicdldgaaWFoot
import Derived.Test.YtkijcgeicdldgaaWKept
import Derived.Test.YtkijcgeicdldgaaWShare
import Derived.Test.YtkijcgeicdldgaaWN
import Derived.Test.YtkijcgeicdldgaaWFootNe
import Derived.Test.YtkijcgeicdldgaaWAt
import Derived.Test.YtkijcgeicdldgaaWEqStruct
import Derived.Test.YtkijcgeicdldgaaWRepsOne
import Derived.Test.YtkijcgeicdldgaaWInv
import Derived.Test.YtkijcgeicdldgaaWInvWords
import Derived.Test.YtkijcgeicdldgaaWGuard
import Derived.Test.YtkijcgeicdldgaaWNEv
import Derived.Test.YtkijcgeicdldgaaWMore
namespace Go.Proofs.Ytkijcgeicdldgaa.PFnTexts
open Go.RowKit Go.Proofs.YtkijcgeicdldgaaW.PrintWords Go.Proofs.YtkijcgeicdldgaaW.PrintLast Go.Proofs.YtkijcgeicdldgaaW.PrintMore
attribute [local go_sem] max2_int min2_int max_two min_two max_three min_three max_four min_four   -- for this text's walks alone
set_option linter.unusedVariables false
set_option linter.unusedSimpArgs false



def errW : Option Int → Value
  | none => .nilIface
  | some c => .iface 0 (.int .i64 c)
theorem errW_none : errW none = .nilIface := rfl
theorem errW_some (c : Int) : errW (some c) = .iface 0 (.int .i64 c) := rfl

theorem info5 : (Try.prog.info? 5).map (fun i => (i.zero, i.size, i.bytes)) = some (some (.int .u8 0), 1, 1) := by kernel_rfl
theorem info9 : (Try.prog.info? 9).map (fun i => (i.zero, i.size, i.bytes)) = some (some (.string ⟨#[]⟩), 1, 16) := by kernel_rfl
-- the values' own types

end Go.Proofs.Ytkijcgeicdldgaa.PFnTexts
