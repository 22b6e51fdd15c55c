/-
  No cell of these rows narrows 'for every input' (looked for: loops, veiled, ifaces, maps, wideKeys, modest, calm, conditions, laid).
  DERIVED. THE GIVEN ROWS OF THIS SEAT. 6 by the template 'for every input the law returns true; each argument reads behind the call as it read before'; 0 by the template 'total and deterministic' (their statements: YtnjcpgnjdhjfkaaTotals.lean).
  GIVEN WITH THE SEED: the statements are not yours to turn. If you find one false, say at which input.
  Laid BY PROGRAM, IN A SANDBOX (cutbox-rows.mjs): the forced cells as the released guide's own fill.sh prints them over the translation ea6933661d20b3e7… (all of the seat's roots in one cut). By AI agents, Wed Nov 11 2026. No macro, syntax, notation, axiom, sorry.
-/
import Derived.Test.YtnjcpgnjdhjfkaaChecked
import GoSem.Claim
import GoSem.ClaimJoined
import GoSem.ClaimMapViews
import Derived.JoinedTies
import Derived.KernelRfl
namespace Go.Proofs.Ytnjcpgnjdhjfkaa
/- THE CELL 'sum', in the pinned program and in every row, IS THE sha256 OF THE DUMP (.gsa) THAT YtnjcpgnjdhjfkaaProg.lean LOADS. Nothing in Lean hashes anything: it is a label: what it is worth is what the hold of that sum in a sandbox is worth. -/
noncomputable def Try.pinned : Pinned := { name := "ytnjcpgnjdhjfkaa", sum := "ea6933661d20b3e7146913deb0216447f23b0001960917f0c217bf3a2bb5dafc", checked := Try.checked }
namespace Rows
def none {H : Type} : Left H := { results := [], args := [] }

/-- 'laws.FnExactConstants': WHATEVER THE INPUT: true; the input reads as it did. -/
def fnExactConstantsSpec : ChangeSpec := { name := "fnExactConstants", fn := fun _ => fun
  | [] => { results := [.lit (.bool true)], args := [] }
  | _ => none }
def fnExactConstantsRow : OpenClaim := { program := "ytnjcpgnjdhjfkaa", sum := "ea6933661d20b3e7146913deb0216447f23b0001960917f0c217bf3a2bb5dafc", func := "loop.example/g00175/laws.FnExactConstants", spec := "fnExactConstants", apart := false }
def FnExactConstantsSaid : Prop := fnExactConstantsRow.holds Try.pinned (OpenSpec.ofChange fnExactConstantsSpec)

/-- ITS FALSE NEIGHBOUR: 'it returns false'. Refute it at one input. -/
def fnExactConstantsWrong : ChangeSpec := { name := "fnExactConstants", fn := fun _ => fun
  | [] => { results := [.lit (.bool false)], args := [] }
  | _ => none }
def FnExactConstantsWrongFalsely : Prop := fnExactConstantsRow.holds Try.pinned (OpenSpec.ofChange fnExactConstantsWrong)

/-- 'laws.FnExactFlowEnds': WHATEVER THE INPUT: true; the input reads as it did. -/
def fnExactFlowEndsSpec : ChangeSpec := { name := "fnExactFlowEnds", fn := fun _ => fun
  | [d] => { results := [.lit (.bool true)], args := [d] }
  | _ => none }
def fnExactFlowEndsRow : OpenClaim := { program := "ytnjcpgnjdhjfkaa", sum := "ea6933661d20b3e7146913deb0216447f23b0001960917f0c217bf3a2bb5dafc", func := "loop.example/g00175/laws.FnExactFlowEnds", spec := "fnExactFlowEnds", apart := false }
def FnExactFlowEndsSaid : Prop := fnExactFlowEndsRow.holds Try.pinned (OpenSpec.ofChange fnExactFlowEndsSpec)

/-- ITS FALSE NEIGHBOUR: 'it returns false'. Refute it at one input. -/
def fnExactFlowEndsWrong : ChangeSpec := { name := "fnExactFlowEnds", fn := fun _ => fun
  | [d] => { results := [.lit (.bool false)], args := [d] }
  | _ => none }
def FnExactFlowEndsWrongFalsely : Prop := fnExactFlowEndsRow.holds Try.pinned (OpenSpec.ofChange fnExactFlowEndsWrong)

/-- 'laws.FnExactPut1': WHATEVER THE INPUT: true; the input reads as it did. -/
def fnExactPut1Spec : ChangeSpec := { name := "fnExactPut1", fn := fun _ => fun
  | [d] => { results := [.lit (.bool true)], args := [d] }
  | _ => none }
def fnExactPut1Row : OpenClaim := { program := "ytnjcpgnjdhjfkaa", sum := "ea6933661d20b3e7146913deb0216447f23b0001960917f0c217bf3a2bb5dafc", func := "loop.example/g00175/laws.FnExactPut1", spec := "fnExactPut1", apart := false }
def FnExactPut1Said : Prop := fnExactPut1Row.holds Try.pinned (OpenSpec.ofChange fnExactPut1Spec)

/-- ITS FALSE NEIGHBOUR: 'it returns false'. Refute it at one input. -/
def fnExactPut1Wrong : ChangeSpec := { name := "fnExactPut1", fn := fun _ => fun
  | [d] => { results := [.lit (.bool false)], args := [d] }
  | _ => none }
def FnExactPut1WrongFalsely : Prop := fnExactPut1Row.holds Try.pinned (OpenSpec.ofChange fnExactPut1Wrong)

/-- 'laws.FnExactPut2': WHATEVER THE INPUT: true; the input reads as it did. -/
def fnExactPut2Spec : ChangeSpec := { name := "fnExactPut2", fn := fun _ => fun
  | [d] => { results := [.lit (.bool true)], args := [d] }
  | _ => none }
def fnExactPut2Row : OpenClaim := { program := "ytnjcpgnjdhjfkaa", sum := "ea6933661d20b3e7146913deb0216447f23b0001960917f0c217bf3a2bb5dafc", func := "loop.example/g00175/laws.FnExactPut2", spec := "fnExactPut2", apart := false }
def FnExactPut2Said : Prop := fnExactPut2Row.holds Try.pinned (OpenSpec.ofChange fnExactPut2Spec)

/-- ITS FALSE NEIGHBOUR: 'it returns false'. Refute it at one input. -/
def fnExactPut2Wrong : ChangeSpec := { name := "fnExactPut2", fn := fun _ => fun
  | [d] => { results := [.lit (.bool false)], args := [d] }
  | _ => none }
def FnExactPut2WrongFalsely : Prop := fnExactPut2Row.holds Try.pinned (OpenSpec.ofChange fnExactPut2Wrong)

/-- 'laws.FnExactPut4': WHATEVER THE INPUT: true; the input reads as it did. -/
def fnExactPut4Spec : ChangeSpec := { name := "fnExactPut4", fn := fun _ => fun
  | [d] => { results := [.lit (.bool true)], args := [d] }
  | _ => none }
def fnExactPut4Row : OpenClaim := { program := "ytnjcpgnjdhjfkaa", sum := "ea6933661d20b3e7146913deb0216447f23b0001960917f0c217bf3a2bb5dafc", func := "loop.example/g00175/laws.FnExactPut4", spec := "fnExactPut4", apart := false }
def FnExactPut4Said : Prop := fnExactPut4Row.holds Try.pinned (OpenSpec.ofChange fnExactPut4Spec)

/-- ITS FALSE NEIGHBOUR: 'it returns false'. Refute it at one input. -/
def fnExactPut4Wrong : ChangeSpec := { name := "fnExactPut4", fn := fun _ => fun
  | [d] => { results := [.lit (.bool false)], args := [d] }
  | _ => none }
def FnExactPut4WrongFalsely : Prop := fnExactPut4Row.holds Try.pinned (OpenSpec.ofChange fnExactPut4Wrong)

/-- 'laws.FnExactOpName': WHATEVER THE INPUT: true; the input reads as it did. -/
def fnExactOpNameSpec : ChangeSpec := { name := "fnExactOpName", fn := fun _ => fun
  | [d] => { results := [.lit (.bool true)], args := [d] }
  | _ => none }
def fnExactOpNameRow : OpenClaim := { program := "ytnjcpgnjdhjfkaa", sum := "ea6933661d20b3e7146913deb0216447f23b0001960917f0c217bf3a2bb5dafc", func := "loop.example/g00175/laws.FnExactOpName", spec := "fnExactOpName", apart := false }
def FnExactOpNameSaid : Prop := fnExactOpNameRow.holds Try.pinned (OpenSpec.ofChange fnExactOpNameSpec)

/-- ITS FALSE NEIGHBOUR: 'it returns false'. Refute it at one input. -/
def fnExactOpNameWrong : ChangeSpec := { name := "fnExactOpName", fn := fun _ => fun
  | [d] => { results := [.lit (.bool false)], args := [d] }
  | _ => none }
def FnExactOpNameWrongFalsely : Prop := fnExactOpNameRow.holds Try.pinned (OpenSpec.ofChange fnExactOpNameWrong)

/- THE SECOND FORM. 'bulk': how many values and letters a reading holds, each counted each time it is reached (what is shared counts as often as it is met; a slice's spare places count too). A statement '..UptoSaid' is the law's where the arguments, and the package variables that the reading takes, are together of bulk at most 1048576: NARROWER than '..Said'. Prove '..Said' where nothing that the law and all that it calls make is longer than what came in: it says more and counts as full. Else prove '..UptoSaid'. A law counts once. -/
mutual
def uptoBulk {H : Type} : DataW H → Nat
  | .lit (.string bytes) => bytes.length + 1
  | .lit _ => 1
  | .nil => 1
  | .ptr d => uptoBulk d + 1
  | .slice elems spare => uptoBulkAll elems + uptoBulkAll spare + 1
  | .agg parts => uptoBulkAll parts + 1
  | .iface _ d => uptoBulk d + 1
  | .map entries => uptoBulkEntries entries + 1
  | .held _ => 1
def uptoBulkAll {H : Type} : List (DataW H) → Nat
  | [] => 0
  | d :: r => uptoBulk d + uptoBulkAll r
def uptoBulkEntries {H : Type} : List (Lit × DataW H) → Nat
  | [] => 0
  | x :: r => uptoBulkEntry x + uptoBulkEntries r
def uptoBulkEntry {H : Type} : Lit × DataW H → Nat
  | (.string bytes, d) => bytes.length + uptoBulk d + 1
  | (_, d) => uptoBulk d + 1
 end
def uptoSmall : (H : Type) → List (DataW H) → Bool := fun _ ds => decide (uptoBulkAll ds ≤ 1048576)
def OpenSpec.upto (s : _root_.Go.ChangeSpec) : _root_.Go.OpenSpec := { _root_.Go.OpenSpec.ofChange s with cond := some uptoSmall }

/-- 'laws.FnExactConstants', WHERE WHAT IT READS IS OF BULK AT MOST 1048576: true; the input reads as it did. -/
def fnExactConstantsUptoRow : OpenClaim := { program := "ytnjcpgnjdhjfkaa", sum := "ea6933661d20b3e7146913deb0216447f23b0001960917f0c217bf3a2bb5dafc", func := "loop.example/g00175/laws.FnExactConstants", spec := "fnExactConstants", apart := false, narrowed := true }
def FnExactConstantsUptoSaid : Prop := fnExactConstantsUptoRow.holds Try.pinned (OpenSpec.upto fnExactConstantsSpec)

/-- 'laws.FnExactFlowEnds', WHERE WHAT IT READS IS OF BULK AT MOST 1048576: true; the input reads as it did. -/
def fnExactFlowEndsUptoRow : OpenClaim := { program := "ytnjcpgnjdhjfkaa", sum := "ea6933661d20b3e7146913deb0216447f23b0001960917f0c217bf3a2bb5dafc", func := "loop.example/g00175/laws.FnExactFlowEnds", spec := "fnExactFlowEnds", apart := false, narrowed := true }
def FnExactFlowEndsUptoSaid : Prop := fnExactFlowEndsUptoRow.holds Try.pinned (OpenSpec.upto fnExactFlowEndsSpec)

/-- 'laws.FnExactPut1', WHERE WHAT IT READS IS OF BULK AT MOST 1048576: true; the input reads as it did. -/
def fnExactPut1UptoRow : OpenClaim := { program := "ytnjcpgnjdhjfkaa", sum := "ea6933661d20b3e7146913deb0216447f23b0001960917f0c217bf3a2bb5dafc", func := "loop.example/g00175/laws.FnExactPut1", spec := "fnExactPut1", apart := false, narrowed := true }
def FnExactPut1UptoSaid : Prop := fnExactPut1UptoRow.holds Try.pinned (OpenSpec.upto fnExactPut1Spec)

/-- 'laws.FnExactPut2', WHERE WHAT IT READS IS OF BULK AT MOST 1048576: true; the input reads as it did. -/
def fnExactPut2UptoRow : OpenClaim := { program := "ytnjcpgnjdhjfkaa", sum := "ea6933661d20b3e7146913deb0216447f23b0001960917f0c217bf3a2bb5dafc", func := "loop.example/g00175/laws.FnExactPut2", spec := "fnExactPut2", apart := false, narrowed := true }
def FnExactPut2UptoSaid : Prop := fnExactPut2UptoRow.holds Try.pinned (OpenSpec.upto fnExactPut2Spec)

/-- 'laws.FnExactPut4', WHERE WHAT IT READS IS OF BULK AT MOST 1048576: true; the input reads as it did. -/
def fnExactPut4UptoRow : OpenClaim := { program := "ytnjcpgnjdhjfkaa", sum := "ea6933661d20b3e7146913deb0216447f23b0001960917f0c217bf3a2bb5dafc", func := "loop.example/g00175/laws.FnExactPut4", spec := "fnExactPut4", apart := false, narrowed := true }
def FnExactPut4UptoSaid : Prop := fnExactPut4UptoRow.holds Try.pinned (OpenSpec.upto fnExactPut4Spec)

/-- 'laws.FnExactOpName', WHERE WHAT IT READS IS OF BULK AT MOST 1048576: true; the input reads as it did. -/
def fnExactOpNameUptoRow : OpenClaim := { program := "ytnjcpgnjdhjfkaa", sum := "ea6933661d20b3e7146913deb0216447f23b0001960917f0c217bf3a2bb5dafc", func := "loop.example/g00175/laws.FnExactOpName", spec := "fnExactOpName", apart := false, narrowed := true }
def FnExactOpNameUptoSaid : Prop := fnExactOpNameUptoRow.holds Try.pinned (OpenSpec.upto fnExactOpNameSpec)

end Rows
end Go.Proofs.Ytnjcpgnjdhjfkaa
