/-
  No cell of these rows narrows 'for every input' (looked for: loops, veiled, ifaces, maps, wideKeys, modest, calm, conditions, laid).
  DERIVED. THE GIVEN ROWS OF THIS SEAT. 5 by the template 'for every input the law returns true; each argument reads behind the call as it read before'; 0 by the template 'total and deterministic' (their statements: YtljeeiijepoenaaGreatTotals.lean).
  GIVEN WITH THE SEED: the statements are not yours to turn. If you find one false, say at which input.
  Laid BY PROGRAM, IN A SANDBOX (cutbox-rows.mjs): the forced cells as the released guide's own fill.sh prints them over the translation cb124fba1c0f64eb… (all of the seat's roots in one cut). By AI agents, Wed Nov 11 2026. No macro, syntax, notation, axiom, sorry.
-/
import Derived.Test.YtljeeiijepoenaaGreatChecked
import GoSem.Claim
import GoSem.ClaimJoined
import GoSem.ClaimMapViews
import Derived.JoinedTies
import Derived.KernelRfl
namespace Go.Proofs.YtljeeiijepoenaaGreat
/- THE CELL 'sum', in the pinned program and in every row, IS THE sha256 OF THE DUMP (.gsa) THAT YtljeeiijepoenaaGreatProg.lean LOADS. Nothing in Lean hashes anything: it is a label: what it is worth is what the hold of that sum in a sandbox is worth. -/
noncomputable def Tryz.pinned : Pinned := { name := "ytljeeiijepoenaagreat", sum := "cb124fba1c0f64eb4c010b689bd956bd289214f4927a27bebb5a0fee27e36405", checked := Tryz.checked }
namespace Rows
def none {H : Type} : Left H := { results := [], args := [] }

/-- 'laws.FnClassCut': WHATEVER THE INPUT: true; the input reads as it did. -/
def fnClassCutSpec : ChangeSpec := { name := "fnClassCut", fn := fun _ => fun
  | [d1, d2] => { results := [.lit (.bool true)], args := [d1, d2] }
  | _ => none }
def fnClassCutRow : OpenClaim := { program := "ytljeeiijepoenaagreat", sum := "cb124fba1c0f64eb4c010b689bd956bd289214f4927a27bebb5a0fee27e36405", func := "loop.example/g00175/laws.FnClassCut", spec := "fnClassCut", inPlace := ["internal/bytealg.IndexByteString"], unfollowed := true, recurses := true, apart := false }
def FnClassCutSaid : Prop := fnClassCutRow.holds Tryz.pinned (OpenSpec.ofChange fnClassCutSpec)

/-- ITS FALSE NEIGHBOUR: 'it returns false'. Refute it at one input. -/
def fnClassCutWrong : ChangeSpec := { name := "fnClassCut", fn := fun _ => fun
  | [d1, d2] => { results := [.lit (.bool false)], args := [d1, d2] }
  | _ => none }
def FnClassCutWrongFalsely : Prop := fnClassCutRow.holds Tryz.pinned (OpenSpec.ofChange fnClassCutWrong)

/-- 'laws.FnExactClassBytes': WHATEVER THE INPUT: true; the input reads as it did. -/
def fnExactClassBytesSpec : ChangeSpec := { name := "fnExactClassBytes", fn := fun _ => fun
  | [d] => { results := [.lit (.bool true)], args := [d] }
  | _ => none }
def fnExactClassBytesRow : OpenClaim := { program := "ytljeeiijepoenaagreat", sum := "cb124fba1c0f64eb4c010b689bd956bd289214f4927a27bebb5a0fee27e36405", func := "loop.example/g00175/laws.FnExactClassBytes", spec := "fnExactClassBytes", inPlace := ["internal/bytealg.IndexByteString"], unfollowed := true, recurses := true, apart := false }
def FnExactClassBytesSaid : Prop := fnExactClassBytesRow.holds Tryz.pinned (OpenSpec.ofChange fnExactClassBytesSpec)

/-- ITS FALSE NEIGHBOUR: 'it returns false'. Refute it at one input. -/
def fnExactClassBytesWrong : ChangeSpec := { name := "fnExactClassBytes", fn := fun _ => fun
  | [d] => { results := [.lit (.bool false)], args := [d] }
  | _ => none }
def FnExactClassBytesWrongFalsely : Prop := fnExactClassBytesRow.holds Tryz.pinned (OpenSpec.ofChange fnExactClassBytesWrong)

/-- 'laws.FnExactClassSize': WHATEVER THE INPUT: true; the input reads as it did. -/
def fnExactClassSizeSpec : ChangeSpec := { name := "fnExactClassSize", fn := fun _ => fun
  | [d] => { results := [.lit (.bool true)], args := [d] }
  | _ => none }
def fnExactClassSizeRow : OpenClaim := { program := "ytljeeiijepoenaagreat", sum := "cb124fba1c0f64eb4c010b689bd956bd289214f4927a27bebb5a0fee27e36405", func := "loop.example/g00175/laws.FnExactClassSize", spec := "fnExactClassSize", inPlace := ["internal/bytealg.IndexByteString"], unfollowed := true, recurses := true, apart := false }
def FnExactClassSizeSaid : Prop := fnExactClassSizeRow.holds Tryz.pinned (OpenSpec.ofChange fnExactClassSizeSpec)

/-- ITS FALSE NEIGHBOUR: 'it returns false'. Refute it at one input. -/
def fnExactClassSizeWrong : ChangeSpec := { name := "fnExactClassSize", fn := fun _ => fun
  | [d] => { results := [.lit (.bool false)], args := [d] }
  | _ => none }
def FnExactClassSizeWrongFalsely : Prop := fnExactClassSizeRow.holds Tryz.pinned (OpenSpec.ofChange fnExactClassSizeWrong)

/-- 'laws.FnExactPoolOf': WHATEVER THE INPUT: true; the input reads as it did. -/
def fnExactPoolOfSpec : ChangeSpec := { name := "fnExactPoolOf", fn := fun _ => fun
  | [d] => { results := [.lit (.bool true)], args := [d] }
  | _ => none }
def fnExactPoolOfRow : OpenClaim := { program := "ytljeeiijepoenaagreat", sum := "cb124fba1c0f64eb4c010b689bd956bd289214f4927a27bebb5a0fee27e36405", func := "loop.example/g00175/laws.FnExactPoolOf", spec := "fnExactPoolOf", inPlace := ["internal/bytealg.IndexByteString"], unfollowed := true, recurses := true, apart := false }
def FnExactPoolOfSaid : Prop := fnExactPoolOfRow.holds Tryz.pinned (OpenSpec.ofChange fnExactPoolOfSpec)

/-- ITS FALSE NEIGHBOUR: 'it returns false'. Refute it at one input. -/
def fnExactPoolOfWrong : ChangeSpec := { name := "fnExactPoolOf", fn := fun _ => fun
  | [d] => { results := [.lit (.bool false)], args := [d] }
  | _ => none }
def FnExactPoolOfWrongFalsely : Prop := fnExactPoolOfRow.holds Tryz.pinned (OpenSpec.ofChange fnExactPoolOfWrong)

/-- 'laws.FnExactClassRead': WHATEVER THE INPUT: true; the input reads as it did. -/
def fnExactClassReadSpec : ChangeSpec := { name := "fnExactClassRead", fn := fun _ => fun
  | [d] => { results := [.lit (.bool true)], args := [d] }
  | _ => none }
def fnExactClassReadRow : OpenClaim := { program := "ytljeeiijepoenaagreat", sum := "cb124fba1c0f64eb4c010b689bd956bd289214f4927a27bebb5a0fee27e36405", func := "loop.example/g00175/laws.FnExactClassRead", spec := "fnExactClassRead", inPlace := ["internal/bytealg.IndexByteString"], unfollowed := true, recurses := true, apart := false }
def FnExactClassReadSaid : Prop := fnExactClassReadRow.holds Tryz.pinned (OpenSpec.ofChange fnExactClassReadSpec)

/-- ITS FALSE NEIGHBOUR: 'it returns false'. Refute it at one input. -/
def fnExactClassReadWrong : ChangeSpec := { name := "fnExactClassRead", fn := fun _ => fun
  | [d] => { results := [.lit (.bool false)], args := [d] }
  | _ => none }
def FnExactClassReadWrongFalsely : Prop := fnExactClassReadRow.holds Tryz.pinned (OpenSpec.ofChange fnExactClassReadWrong)

/- THE SECOND FORM. 'bulk': how many values and letters a reading holds, each counted each time it is reached (what is shared counts as often as it is met; a slice's spare places count too). A statement '..UptoSaid' is the law's where the arguments, and the package variables that the reading takes, are together of bulk at most 1048576: NARROWER than '..Said'. Prove '..Said' where nothing that the law and all that it calls make is longer than what came in: it says more and counts as full. Else prove '..UptoSaid'. A law counts once. -/
mutual
def uptoBulk {H : Type} : DataW H → Nat
  | .lit (.string bytes) => bytes.length + 1
  | .lit _ => 1
  | .nil => 1
  | .ptr d => uptoBulk d + 1
  | .slice elems spare => uptoBulkAll elems + uptoBulkAll spare + 1
  | .agg parts => uptoBulkAll parts + 1
  | .iface _ d => uptoBulk d + 1
  | .map entries => uptoBulkEntries entries + 1
  | .held _ => 1
def uptoBulkAll {H : Type} : List (DataW H) → Nat
  | [] => 0
  | d :: r => uptoBulk d + uptoBulkAll r
def uptoBulkEntries {H : Type} : List (Lit × DataW H) → Nat
  | [] => 0
  | x :: r => uptoBulkEntry x + uptoBulkEntries r
def uptoBulkEntry {H : Type} : Lit × DataW H → Nat
  | (.string bytes, d) => bytes.length + uptoBulk d + 1
  | (_, d) => uptoBulk d + 1
 end
def uptoSmall : (H : Type) → List (DataW H) → Bool := fun _ ds => decide (uptoBulkAll ds ≤ 1048576)
def OpenSpec.upto (s : _root_.Go.ChangeSpec) : _root_.Go.OpenSpec := { _root_.Go.OpenSpec.ofChange s with cond := some uptoSmall }

/-- 'laws.FnClassCut', WHERE WHAT IT READS IS OF BULK AT MOST 1048576: true; the input reads as it did. -/
def fnClassCutUptoRow : OpenClaim := { program := "ytljeeiijepoenaagreat", sum := "cb124fba1c0f64eb4c010b689bd956bd289214f4927a27bebb5a0fee27e36405", func := "loop.example/g00175/laws.FnClassCut", spec := "fnClassCut", inPlace := ["internal/bytealg.IndexByteString"], unfollowed := true, recurses := true, apart := false, narrowed := true }
def FnClassCutUptoSaid : Prop := fnClassCutUptoRow.holds Tryz.pinned (OpenSpec.upto fnClassCutSpec)

/-- 'laws.FnExactClassBytes', WHERE WHAT IT READS IS OF BULK AT MOST 1048576: true; the input reads as it did. -/
def fnExactClassBytesUptoRow : OpenClaim := { program := "ytljeeiijepoenaagreat", sum := "cb124fba1c0f64eb4c010b689bd956bd289214f4927a27bebb5a0fee27e36405", func := "loop.example/g00175/laws.FnExactClassBytes", spec := "fnExactClassBytes", inPlace := ["internal/bytealg.IndexByteString"], unfollowed := true, recurses := true, apart := false, narrowed := true }
def FnExactClassBytesUptoSaid : Prop := fnExactClassBytesUptoRow.holds Tryz.pinned (OpenSpec.upto fnExactClassBytesSpec)

/-- 'laws.FnExactClassSize', WHERE WHAT IT READS IS OF BULK AT MOST 1048576: true; the input reads as it did. -/
def fnExactClassSizeUptoRow : OpenClaim := { program := "ytljeeiijepoenaagreat", sum := "cb124fba1c0f64eb4c010b689bd956bd289214f4927a27bebb5a0fee27e36405", func := "loop.example/g00175/laws.FnExactClassSize", spec := "fnExactClassSize", inPlace := ["internal/bytealg.IndexByteString"], unfollowed := true, recurses := true, apart := false, narrowed := true }
def FnExactClassSizeUptoSaid : Prop := fnExactClassSizeUptoRow.holds Tryz.pinned (OpenSpec.upto fnExactClassSizeSpec)

/-- 'laws.FnExactPoolOf', WHERE WHAT IT READS IS OF BULK AT MOST 1048576: true; the input reads as it did. -/
def fnExactPoolOfUptoRow : OpenClaim := { program := "ytljeeiijepoenaagreat", sum := "cb124fba1c0f64eb4c010b689bd956bd289214f4927a27bebb5a0fee27e36405", func := "loop.example/g00175/laws.FnExactPoolOf", spec := "fnExactPoolOf", inPlace := ["internal/bytealg.IndexByteString"], unfollowed := true, recurses := true, apart := false, narrowed := true }
def FnExactPoolOfUptoSaid : Prop := fnExactPoolOfUptoRow.holds Tryz.pinned (OpenSpec.upto fnExactPoolOfSpec)

/-- 'laws.FnExactClassRead', WHERE WHAT IT READS IS OF BULK AT MOST 1048576: true; the input reads as it did. -/
def fnExactClassReadUptoRow : OpenClaim := { program := "ytljeeiijepoenaagreat", sum := "cb124fba1c0f64eb4c010b689bd956bd289214f4927a27bebb5a0fee27e36405", func := "loop.example/g00175/laws.FnExactClassRead", spec := "fnExactClassRead", inPlace := ["internal/bytealg.IndexByteString"], unfollowed := true, recurses := true, apart := false, narrowed := true }
def FnExactClassReadUptoSaid : Prop := fnExactClassReadUptoRow.holds Tryz.pinned (OpenSpec.upto fnExactClassReadSpec)

end Rows
end Go.Proofs.YtljeeiijepoenaaGreat
