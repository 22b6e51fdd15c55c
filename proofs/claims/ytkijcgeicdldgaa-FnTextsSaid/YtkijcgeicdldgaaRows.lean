/-
  No cell of these rows narrows 'for every input' (looked for: loops, veiled, ifaces, maps, wideKeys, modest, calm, conditions, laid).
  DERIVED. THE GIVEN ROWS OF THIS SEAT. 12 by the template 'for every input the law returns true; each argument reads behind the call as it read before'; 0 by the template 'total and deterministic' (their statements: YtkijcgeicdldgaaTotals.lean).
  GIVEN WITH THE SEED: the statements are not yours to turn. If you find one false, say at which input.
  Laid BY PROGRAM, IN A SANDBOX (cutbox-rows.mjs): the forced cells as the released guide's own fill.sh prints them over the translation d2e2f04957dfb1b1… (all of the seat's roots in one cut). By AI agents, Wed Nov 11 2026. No macro, syntax, notation, axiom, sorry.
-/
import Derived.Test.YtkijcgeicdldgaaChecked
import GoSem.Claim
import GoSem.ClaimJoined
import GoSem.ClaimMapViews
import Derived.JoinedTies
import Derived.KernelRfl
namespace Go.Proofs.Ytkijcgeicdldgaa
/- THE CELL 'sum', in the pinned program and in every row, IS THE sha256 OF THE DUMP (.gsa) THAT YtkijcgeicdldgaaProg.lean LOADS. Nothing in Lean hashes anything: it is a label: what it is worth is what the hold of that sum in a sandbox is worth. -/
noncomputable def Try.pinned : Pinned := { name := "ytkijcgeicdldgaa", sum := "d2e2f04957dfb1b15e175ab1cb7d84ceb7e85059a646e9a0024538da7f1270f5", checked := Try.checked }
namespace Rows
def none {H : Type} : Left H := { results := [], args := [] }

/-- 'laws.FnExactOpForm': WHATEVER THE INPUT: true; the input reads as it did. -/
def fnExactOpFormSpec : ChangeSpec := { name := "fnExactOpForm", fn := fun _ => fun
  | [d] => { results := [.lit (.bool true)], args := [d] }
  | _ => none }
def fnExactOpFormRow : OpenClaim := { program := "ytkijcgeicdldgaa", sum := "d2e2f04957dfb1b15e175ab1cb7d84ceb7e85059a646e9a0024538da7f1270f5", func := "loop.example/g00175/laws.FnExactOpForm", spec := "fnExactOpForm", apart := false }
def FnExactOpFormSaid : Prop := fnExactOpFormRow.holds Try.pinned (OpenSpec.ofChange fnExactOpFormSpec)

/-- ITS FALSE NEIGHBOUR: 'it returns false'. Refute it at one input. -/
def fnExactOpFormWrong : ChangeSpec := { name := "fnExactOpForm", fn := fun _ => fun
  | [d] => { results := [.lit (.bool false)], args := [d] }
  | _ => none }
def FnExactOpFormWrongFalsely : Prop := fnExactOpFormRow.holds Try.pinned (OpenSpec.ofChange fnExactOpFormWrong)

/-- 'laws.FnExactNameRight': WHATEVER THE INPUT: true; the input reads as it did. -/
def fnExactNameRightSpec : ChangeSpec := { name := "fnExactNameRight", fn := fun _ => fun
  | [d] => { results := [.lit (.bool true)], args := [d] }
  | _ => none }
def fnExactNameRightRow : OpenClaim := { program := "ytkijcgeicdldgaa", sum := "d2e2f04957dfb1b15e175ab1cb7d84ceb7e85059a646e9a0024538da7f1270f5", func := "loop.example/g00175/laws.FnExactNameRight", spec := "fnExactNameRight", inPlace := ["internal/bytealg.IndexByteString"], apart := false }
def FnExactNameRightSaid : Prop := fnExactNameRightRow.holds Try.pinned (OpenSpec.ofChange fnExactNameRightSpec)

/-- ITS FALSE NEIGHBOUR: 'it returns false'. Refute it at one input. -/
def fnExactNameRightWrong : ChangeSpec := { name := "fnExactNameRight", fn := fun _ => fun
  | [d] => { results := [.lit (.bool false)], args := [d] }
  | _ => none }
def FnExactNameRightWrongFalsely : Prop := fnExactNameRightRow.holds Try.pinned (OpenSpec.ofChange fnExactNameRightWrong)

/-- 'laws.FnExactFlowJumps': WHATEVER THE INPUT: true; the input reads as it did. -/
def fnExactFlowJumpsSpec : ChangeSpec := { name := "fnExactFlowJumps", fn := fun _ => fun
  | [d] => { results := [.lit (.bool true)], args := [d] }
  | _ => none }
def fnExactFlowJumpsRow : OpenClaim := { program := "ytkijcgeicdldgaa", sum := "d2e2f04957dfb1b15e175ab1cb7d84ceb7e85059a646e9a0024538da7f1270f5", func := "loop.example/g00175/laws.FnExactFlowJumps", spec := "fnExactFlowJumps", apart := false }
def FnExactFlowJumpsSaid : Prop := fnExactFlowJumpsRow.holds Try.pinned (OpenSpec.ofChange fnExactFlowJumpsSpec)

/-- ITS FALSE NEIGHBOUR: 'it returns false'. Refute it at one input. -/
def fnExactFlowJumpsWrong : ChangeSpec := { name := "fnExactFlowJumps", fn := fun _ => fun
  | [d] => { results := [.lit (.bool false)], args := [d] }
  | _ => none }
def FnExactFlowJumpsWrongFalsely : Prop := fnExactFlowJumpsRow.holds Try.pinned (OpenSpec.ofChange fnExactFlowJumpsWrong)

/-- 'laws.FnExactDeskWords': WHATEVER THE INPUT: true; the input reads as it did. -/
def fnExactDeskWordsSpec : ChangeSpec := { name := "fnExactDeskWords", fn := fun _ => fun
  | [] => { results := [.lit (.bool true)], args := [] }
  | _ => none }
def fnExactDeskWordsRow : OpenClaim := { program := "ytkijcgeicdldgaa", sum := "d2e2f04957dfb1b15e175ab1cb7d84ceb7e85059a646e9a0024538da7f1270f5", func := "loop.example/g00175/laws.FnExactDeskWords", spec := "fnExactDeskWords", apart := false }
def FnExactDeskWordsSaid : Prop := fnExactDeskWordsRow.holds Try.pinned (OpenSpec.ofChange fnExactDeskWordsSpec)

/-- ITS FALSE NEIGHBOUR: 'it returns false'. Refute it at one input. -/
def fnExactDeskWordsWrong : ChangeSpec := { name := "fnExactDeskWords", fn := fun _ => fun
  | [] => { results := [.lit (.bool false)], args := [] }
  | _ => none }
def FnExactDeskWordsWrongFalsely : Prop := fnExactDeskWordsRow.holds Try.pinned (OpenSpec.ofChange fnExactDeskWordsWrong)

/-- 'laws.FnExactPutText': WHATEVER THE INPUT: true; the input reads as it did. -/
def fnExactPutTextSpec : ChangeSpec := { name := "fnExactPutText", fn := fun _ => fun
  | [d] => { results := [.lit (.bool true)], args := [d] }
  | _ => none }
def fnExactPutTextRow : OpenClaim := { program := "ytkijcgeicdldgaa", sum := "d2e2f04957dfb1b15e175ab1cb7d84ceb7e85059a646e9a0024538da7f1270f5", func := "loop.example/g00175/laws.FnExactPutText", spec := "fnExactPutText", apart := false }
def FnExactPutTextSaid : Prop := fnExactPutTextRow.holds Try.pinned (OpenSpec.ofChange fnExactPutTextSpec)

/-- ITS FALSE NEIGHBOUR: 'it returns false'. Refute it at one input. -/
def fnExactPutTextWrong : ChangeSpec := { name := "fnExactPutText", fn := fun _ => fun
  | [d] => { results := [.lit (.bool false)], args := [d] }
  | _ => none }
def FnExactPutTextWrongFalsely : Prop := fnExactPutTextRow.holds Try.pinned (OpenSpec.ofChange fnExactPutTextWrong)

/-- 'laws.FnExactBuiltIn': WHATEVER THE INPUT: true; the input reads as it did. -/
def fnExactBuiltInSpec : ChangeSpec := { name := "fnExactBuiltIn", fn := fun _ => fun
  | [] => { results := [.lit (.bool true)], args := [] }
  | _ => none }
def fnExactBuiltInRow : OpenClaim := { program := "ytkijcgeicdldgaa", sum := "d2e2f04957dfb1b15e175ab1cb7d84ceb7e85059a646e9a0024538da7f1270f5", func := "loop.example/g00175/laws.FnExactBuiltIn", spec := "fnExactBuiltIn", apart := false }
def FnExactBuiltInSaid : Prop := fnExactBuiltInRow.holds Try.pinned (OpenSpec.ofChange fnExactBuiltInSpec)

/-- ITS FALSE NEIGHBOUR: 'it returns false'. Refute it at one input. -/
def fnExactBuiltInWrong : ChangeSpec := { name := "fnExactBuiltIn", fn := fun _ => fun
  | [] => { results := [.lit (.bool false)], args := [] }
  | _ => none }
def FnExactBuiltInWrongFalsely : Prop := fnExactBuiltInRow.holds Try.pinned (OpenSpec.ofChange fnExactBuiltInWrong)

/-- 'laws.FnExactLoadSize': WHATEVER THE INPUT: true; the input reads as it did. -/
def fnExactLoadSizeSpec : ChangeSpec := { name := "fnExactLoadSize", fn := fun _ => fun
  | [d] => { results := [.lit (.bool true)], args := [d] }
  | _ => none }
def fnExactLoadSizeRow : OpenClaim := { program := "ytkijcgeicdldgaa", sum := "d2e2f04957dfb1b15e175ab1cb7d84ceb7e85059a646e9a0024538da7f1270f5", func := "loop.example/g00175/laws.FnExactLoadSize", spec := "fnExactLoadSize", apart := false }
def FnExactLoadSizeSaid : Prop := fnExactLoadSizeRow.holds Try.pinned (OpenSpec.ofChange fnExactLoadSizeSpec)

/-- ITS FALSE NEIGHBOUR: 'it returns false'. Refute it at one input. -/
def fnExactLoadSizeWrong : ChangeSpec := { name := "fnExactLoadSize", fn := fun _ => fun
  | [d] => { results := [.lit (.bool false)], args := [d] }
  | _ => none }
def FnExactLoadSizeWrongFalsely : Prop := fnExactLoadSizeRow.holds Try.pinned (OpenSpec.ofChange fnExactLoadSizeWrong)

/-- 'laws.FnExactGet1': WHATEVER THE INPUT: true; the input reads as it did. -/
def fnExactGet1Spec : ChangeSpec := { name := "fnExactGet1", fn := fun _ => fun
  | [d1, d2] => { results := [.lit (.bool true)], args := [d1, d2] }
  | _ => none }
def fnExactGet1Row : OpenClaim := { program := "ytkijcgeicdldgaa", sum := "d2e2f04957dfb1b15e175ab1cb7d84ceb7e85059a646e9a0024538da7f1270f5", func := "loop.example/g00175/laws.FnExactGet1", spec := "fnExactGet1", apart := false }
def FnExactGet1Said : Prop := fnExactGet1Row.holds Try.pinned (OpenSpec.ofChange fnExactGet1Spec)

/-- ITS FALSE NEIGHBOUR: 'it returns false'. Refute it at one input. -/
def fnExactGet1Wrong : ChangeSpec := { name := "fnExactGet1", fn := fun _ => fun
  | [d1, d2] => { results := [.lit (.bool false)], args := [d1, d2] }
  | _ => none }
def FnExactGet1WrongFalsely : Prop := fnExactGet1Row.holds Try.pinned (OpenSpec.ofChange fnExactGet1Wrong)

/-- 'laws.FnExactGet2': WHATEVER THE INPUT: true; the input reads as it did. -/
def fnExactGet2Spec : ChangeSpec := { name := "fnExactGet2", fn := fun _ => fun
  | [d1, d2] => { results := [.lit (.bool true)], args := [d1, d2] }
  | _ => none }
def fnExactGet2Row : OpenClaim := { program := "ytkijcgeicdldgaa", sum := "d2e2f04957dfb1b15e175ab1cb7d84ceb7e85059a646e9a0024538da7f1270f5", func := "loop.example/g00175/laws.FnExactGet2", spec := "fnExactGet2", apart := false }
def FnExactGet2Said : Prop := fnExactGet2Row.holds Try.pinned (OpenSpec.ofChange fnExactGet2Spec)

/-- ITS FALSE NEIGHBOUR: 'it returns false'. Refute it at one input. -/
def fnExactGet2Wrong : ChangeSpec := { name := "fnExactGet2", fn := fun _ => fun
  | [d1, d2] => { results := [.lit (.bool false)], args := [d1, d2] }
  | _ => none }
def FnExactGet2WrongFalsely : Prop := fnExactGet2Row.holds Try.pinned (OpenSpec.ofChange fnExactGet2Wrong)

/-- 'laws.FnExactGet4': WHATEVER THE INPUT: true; the input reads as it did. -/
def fnExactGet4Spec : ChangeSpec := { name := "fnExactGet4", fn := fun _ => fun
  | [d1, d2] => { results := [.lit (.bool true)], args := [d1, d2] }
  | _ => none }
def fnExactGet4Row : OpenClaim := { program := "ytkijcgeicdldgaa", sum := "d2e2f04957dfb1b15e175ab1cb7d84ceb7e85059a646e9a0024538da7f1270f5", func := "loop.example/g00175/laws.FnExactGet4", spec := "fnExactGet4", apart := false }
def FnExactGet4Said : Prop := fnExactGet4Row.holds Try.pinned (OpenSpec.ofChange fnExactGet4Spec)

/-- ITS FALSE NEIGHBOUR: 'it returns false'. Refute it at one input. -/
def fnExactGet4Wrong : ChangeSpec := { name := "fnExactGet4", fn := fun _ => fun
  | [d1, d2] => { results := [.lit (.bool false)], args := [d1, d2] }
  | _ => none }
def FnExactGet4WrongFalsely : Prop := fnExactGet4Row.holds Try.pinned (OpenSpec.ofChange fnExactGet4Wrong)

/-- 'laws.FnNums': WHATEVER THE INPUT: true; the input reads as it did. -/
def fnNumsSpec : ChangeSpec := { name := "fnNums", fn := fun _ => fun
  | [d] => { results := [.lit (.bool true)], args := [d] }
  | _ => none }
def fnNumsRow : OpenClaim := { program := "ytkijcgeicdldgaa", sum := "d2e2f04957dfb1b15e175ab1cb7d84ceb7e85059a646e9a0024538da7f1270f5", func := "loop.example/g00175/laws.FnNums", spec := "fnNums", apart := false }
def FnNumsSaid : Prop := fnNumsRow.holds Try.pinned (OpenSpec.ofChange fnNumsSpec)

/-- ITS FALSE NEIGHBOUR: 'it returns false'. Refute it at one input. -/
def fnNumsWrong : ChangeSpec := { name := "fnNums", fn := fun _ => fun
  | [d] => { results := [.lit (.bool false)], args := [d] }
  | _ => none }
def FnNumsWrongFalsely : Prop := fnNumsRow.holds Try.pinned (OpenSpec.ofChange fnNumsWrong)

/-- 'laws.FnTexts': WHATEVER THE INPUT: true; the input reads as it did. -/
def fnTextsSpec : ChangeSpec := { name := "fnTexts", fn := fun _ => fun
  | [d1, d2] => { results := [.lit (.bool true)], args := [d1, d2] }
  | _ => none }
def fnTextsRow : OpenClaim := { program := "ytkijcgeicdldgaa", sum := "d2e2f04957dfb1b15e175ab1cb7d84ceb7e85059a646e9a0024538da7f1270f5", func := "loop.example/g00175/laws.FnTexts", spec := "fnTexts", apart := false }
def FnTextsSaid : Prop := fnTextsRow.holds Try.pinned (OpenSpec.ofChange fnTextsSpec)

/-- ITS FALSE NEIGHBOUR: 'it returns false'. Refute it at one input. -/
def fnTextsWrong : ChangeSpec := { name := "fnTexts", fn := fun _ => fun
  | [d1, d2] => { results := [.lit (.bool false)], args := [d1, d2] }
  | _ => none }
def FnTextsWrongFalsely : Prop := fnTextsRow.holds Try.pinned (OpenSpec.ofChange fnTextsWrong)

/- THE SECOND FORM. 'bulk': how many values and letters a reading holds, each counted each time it is reached (what is shared counts as often as it is met; a slice's spare places count too). A statement '..UptoSaid' is the law's where the arguments, and the package variables that the reading takes, are together of bulk at most 1048576: NARROWER than '..Said'. Prove '..Said' where nothing that the law and all that it calls make is longer than what came in: it says more and counts as full. Else prove '..UptoSaid'. A law counts once. -/
mutual
def uptoBulk {H : Type} : DataW H → Nat
  | .lit (.string bytes) => bytes.length + 1
  | .lit _ => 1
  | .nil => 1
  | .ptr d => uptoBulk d + 1
  | .slice elems spare => uptoBulkAll elems + uptoBulkAll spare + 1
  | .agg parts => uptoBulkAll parts + 1
  | .iface _ d => uptoBulk d + 1
  | .map entries => uptoBulkEntries entries + 1
  | .held _ => 1
def uptoBulkAll {H : Type} : List (DataW H) → Nat
  | [] => 0
  | d :: r => uptoBulk d + uptoBulkAll r
def uptoBulkEntries {H : Type} : List (Lit × DataW H) → Nat
  | [] => 0
  | x :: r => uptoBulkEntry x + uptoBulkEntries r
def uptoBulkEntry {H : Type} : Lit × DataW H → Nat
  | (.string bytes, d) => bytes.length + uptoBulk d + 1
  | (_, d) => uptoBulk d + 1
 end
def uptoSmall : (H : Type) → List (DataW H) → Bool := fun _ ds => decide (uptoBulkAll ds ≤ 1048576)
def OpenSpec.upto (s : _root_.Go.ChangeSpec) : _root_.Go.OpenSpec := { _root_.Go.OpenSpec.ofChange s with cond := some uptoSmall }

/-- 'laws.FnExactOpForm', WHERE WHAT IT READS IS OF BULK AT MOST 1048576: true; the input reads as it did. -/
def fnExactOpFormUptoRow : OpenClaim := { program := "ytkijcgeicdldgaa", sum := "d2e2f04957dfb1b15e175ab1cb7d84ceb7e85059a646e9a0024538da7f1270f5", func := "loop.example/g00175/laws.FnExactOpForm", spec := "fnExactOpForm", apart := false, narrowed := true }
def FnExactOpFormUptoSaid : Prop := fnExactOpFormUptoRow.holds Try.pinned (OpenSpec.upto fnExactOpFormSpec)

/-- 'laws.FnExactNameRight', WHERE WHAT IT READS IS OF BULK AT MOST 1048576: true; the input reads as it did. -/
def fnExactNameRightUptoRow : OpenClaim := { program := "ytkijcgeicdldgaa", sum := "d2e2f04957dfb1b15e175ab1cb7d84ceb7e85059a646e9a0024538da7f1270f5", func := "loop.example/g00175/laws.FnExactNameRight", spec := "fnExactNameRight", inPlace := ["internal/bytealg.IndexByteString"], apart := false, narrowed := true }
def FnExactNameRightUptoSaid : Prop := fnExactNameRightUptoRow.holds Try.pinned (OpenSpec.upto fnExactNameRightSpec)

/-- 'laws.FnExactFlowJumps', WHERE WHAT IT READS IS OF BULK AT MOST 1048576: true; the input reads as it did. -/
def fnExactFlowJumpsUptoRow : OpenClaim := { program := "ytkijcgeicdldgaa", sum := "d2e2f04957dfb1b15e175ab1cb7d84ceb7e85059a646e9a0024538da7f1270f5", func := "loop.example/g00175/laws.FnExactFlowJumps", spec := "fnExactFlowJumps", apart := false, narrowed := true }
def FnExactFlowJumpsUptoSaid : Prop := fnExactFlowJumpsUptoRow.holds Try.pinned (OpenSpec.upto fnExactFlowJumpsSpec)

/-- 'laws.FnExactDeskWords', WHERE WHAT IT READS IS OF BULK AT MOST 1048576: true; the input reads as it did. -/
def fnExactDeskWordsUptoRow : OpenClaim := { program := "ytkijcgeicdldgaa", sum := "d2e2f04957dfb1b15e175ab1cb7d84ceb7e85059a646e9a0024538da7f1270f5", func := "loop.example/g00175/laws.FnExactDeskWords", spec := "fnExactDeskWords", apart := false, narrowed := true }
def FnExactDeskWordsUptoSaid : Prop := fnExactDeskWordsUptoRow.holds Try.pinned (OpenSpec.upto fnExactDeskWordsSpec)

/-- 'laws.FnExactPutText', WHERE WHAT IT READS IS OF BULK AT MOST 1048576: true; the input reads as it did. -/
def fnExactPutTextUptoRow : OpenClaim := { program := "ytkijcgeicdldgaa", sum := "d2e2f04957dfb1b15e175ab1cb7d84ceb7e85059a646e9a0024538da7f1270f5", func := "loop.example/g00175/laws.FnExactPutText", spec := "fnExactPutText", apart := false, narrowed := true }
def FnExactPutTextUptoSaid : Prop := fnExactPutTextUptoRow.holds Try.pinned (OpenSpec.upto fnExactPutTextSpec)

/-- 'laws.FnExactBuiltIn', WHERE WHAT IT READS IS OF BULK AT MOST 1048576: true; the input reads as it did. -/
def fnExactBuiltInUptoRow : OpenClaim := { program := "ytkijcgeicdldgaa", sum := "d2e2f04957dfb1b15e175ab1cb7d84ceb7e85059a646e9a0024538da7f1270f5", func := "loop.example/g00175/laws.FnExactBuiltIn", spec := "fnExactBuiltIn", apart := false, narrowed := true }
def FnExactBuiltInUptoSaid : Prop := fnExactBuiltInUptoRow.holds Try.pinned (OpenSpec.upto fnExactBuiltInSpec)

/-- 'laws.FnExactLoadSize', WHERE WHAT IT READS IS OF BULK AT MOST 1048576: true; the input reads as it did. -/
def fnExactLoadSizeUptoRow : OpenClaim := { program := "ytkijcgeicdldgaa", sum := "d2e2f04957dfb1b15e175ab1cb7d84ceb7e85059a646e9a0024538da7f1270f5", func := "loop.example/g00175/laws.FnExactLoadSize", spec := "fnExactLoadSize", apart := false, narrowed := true }
def FnExactLoadSizeUptoSaid : Prop := fnExactLoadSizeUptoRow.holds Try.pinned (OpenSpec.upto fnExactLoadSizeSpec)

/-- 'laws.FnExactGet1', WHERE WHAT IT READS IS OF BULK AT MOST 1048576: true; the input reads as it did. -/
def fnExactGet1UptoRow : OpenClaim := { program := "ytkijcgeicdldgaa", sum := "d2e2f04957dfb1b15e175ab1cb7d84ceb7e85059a646e9a0024538da7f1270f5", func := "loop.example/g00175/laws.FnExactGet1", spec := "fnExactGet1", apart := false, narrowed := true }
def FnExactGet1UptoSaid : Prop := fnExactGet1UptoRow.holds Try.pinned (OpenSpec.upto fnExactGet1Spec)

/-- 'laws.FnExactGet2', WHERE WHAT IT READS IS OF BULK AT MOST 1048576: true; the input reads as it did. -/
def fnExactGet2UptoRow : OpenClaim := { program := "ytkijcgeicdldgaa", sum := "d2e2f04957dfb1b15e175ab1cb7d84ceb7e85059a646e9a0024538da7f1270f5", func := "loop.example/g00175/laws.FnExactGet2", spec := "fnExactGet2", apart := false, narrowed := true }
def FnExactGet2UptoSaid : Prop := fnExactGet2UptoRow.holds Try.pinned (OpenSpec.upto fnExactGet2Spec)

/-- 'laws.FnExactGet4', WHERE WHAT IT READS IS OF BULK AT MOST 1048576: true; the input reads as it did. -/
def fnExactGet4UptoRow : OpenClaim := { program := "ytkijcgeicdldgaa", sum := "d2e2f04957dfb1b15e175ab1cb7d84ceb7e85059a646e9a0024538da7f1270f5", func := "loop.example/g00175/laws.FnExactGet4", spec := "fnExactGet4", apart := false, narrowed := true }
def FnExactGet4UptoSaid : Prop := fnExactGet4UptoRow.holds Try.pinned (OpenSpec.upto fnExactGet4Spec)

/-- 'laws.FnNums', WHERE WHAT IT READS IS OF BULK AT MOST 1048576: true; the input reads as it did. -/
def fnNumsUptoRow : OpenClaim := { program := "ytkijcgeicdldgaa", sum := "d2e2f04957dfb1b15e175ab1cb7d84ceb7e85059a646e9a0024538da7f1270f5", func := "loop.example/g00175/laws.FnNums", spec := "fnNums", apart := false, narrowed := true }
def FnNumsUptoSaid : Prop := fnNumsUptoRow.holds Try.pinned (OpenSpec.upto fnNumsSpec)

/-- 'laws.FnTexts', WHERE WHAT IT READS IS OF BULK AT MOST 1048576: true; the input reads as it did. -/
def fnTextsUptoRow : OpenClaim := { program := "ytkijcgeicdldgaa", sum := "d2e2f04957dfb1b15e175ab1cb7d84ceb7e85059a646e9a0024538da7f1270f5", func := "loop.example/g00175/laws.FnTexts", spec := "fnTexts", apart := false, narrowed := true }
def FnTextsUptoSaid : Prop := fnTextsUptoRow.holds Try.pinned (OpenSpec.upto fnTextsSpec)

end Rows
end Go.Proofs.Ytkijcgeicdldgaa
