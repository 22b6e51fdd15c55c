/-
  No cell of these rows narrows 'for every input' (looked for: loops, veiled, ifaces, maps, wideKeys, modest, calm, conditions, laid).
  DERIVED. THE GIVEN ROWS OF THIS SEAT. 11 by the template 'for every input the law returns true; each argument reads behind the call as it read before'; 0 by the template 'total and deterministic' (their statements: YtjmochmnioegoaaTotals.lean).
  GIVEN WITH THE SEED: the statements are not yours to turn. If you find one false, say at which input.
  Laid BY PROGRAM, IN A SANDBOX (cutbox-rows.mjs): the forced cells as the released guide's own fill.sh prints them over the translation 9d1bd922320d7595… (all of the seat's roots in one cut). By AI agents, Wed Nov 11 2026. No macro, syntax, notation, axiom, sorry.
-/
import Derived.Test.YtjmochmnioegoaaChecked
import GoSem.Claim
import GoSem.ClaimJoined
import GoSem.ClaimMapViews
import Derived.JoinedTies
import Derived.KernelRfl
namespace Go.Proofs.Ytjmochmnioegoaa
/- THE CELL 'sum', in the pinned program and in every row, IS THE sha256 OF THE DUMP (.gsa) THAT YtjmochmnioegoaaProg.lean LOADS. Nothing in Lean hashes anything: it is a label: what it is worth is what the hold of that sum in a sandbox is worth. -/
noncomputable def Try.pinned : Pinned := { name := "ytjmochmnioegoaa", sum := "9d1bd922320d75955a7185a9b889890bf131d24994cd62778173ecf4af98d5c6", checked := Try.checked }
namespace Rows
def none {H : Type} : Left H := { results := [], args := [] }

/-- 'laws.FnExactTypeRight': WHATEVER THE INPUT: true; the input reads as it did. -/
def fnExactTypeRightSpec : ChangeSpec := { name := "fnExactTypeRight", fn := fun _ => fun
  | [d] => { results := [.lit (.bool true)], args := [d] }
  | _ => none }
def fnExactTypeRightRow : OpenClaim := { program := "ytjmochmnioegoaa", sum := "9d1bd922320d75955a7185a9b889890bf131d24994cd62778173ecf4af98d5c6", func := "loop.example/g00175/laws.FnExactTypeRight", spec := "fnExactTypeRight", inPlace := ["internal/bytealg.IndexByteString"], recurses := true, apart := false }
def FnExactTypeRightSaid : Prop := fnExactTypeRightRow.holds Try.pinned (OpenSpec.ofChange fnExactTypeRightSpec)

/-- ITS FALSE NEIGHBOUR: 'it returns false'. Refute it at one input. -/
def fnExactTypeRightWrong : ChangeSpec := { name := "fnExactTypeRight", fn := fun _ => fun
  | [d] => { results := [.lit (.bool false)], args := [d] }
  | _ => none }
def FnExactTypeRightWrongFalsely : Prop := fnExactTypeRightRow.holds Try.pinned (OpenSpec.ofChange fnExactTypeRightWrong)

/-- 'laws.FnExactTypeClass': WHATEVER THE INPUT: true; the input reads as it did. -/
def fnExactTypeClassSpec : ChangeSpec := { name := "fnExactTypeClass", fn := fun _ => fun
  | [d] => { results := [.lit (.bool true)], args := [d] }
  | _ => none }
def fnExactTypeClassRow : OpenClaim := { program := "ytjmochmnioegoaa", sum := "9d1bd922320d75955a7185a9b889890bf131d24994cd62778173ecf4af98d5c6", func := "loop.example/g00175/laws.FnExactTypeClass", spec := "fnExactTypeClass", inPlace := ["internal/bytealg.IndexByteString"], recurses := true, apart := false }
def FnExactTypeClassSaid : Prop := fnExactTypeClassRow.holds Try.pinned (OpenSpec.ofChange fnExactTypeClassSpec)

/-- ITS FALSE NEIGHBOUR: 'it returns false'. Refute it at one input. -/
def fnExactTypeClassWrong : ChangeSpec := { name := "fnExactTypeClass", fn := fun _ => fun
  | [d] => { results := [.lit (.bool false)], args := [d] }
  | _ => none }
def FnExactTypeClassWrongFalsely : Prop := fnExactTypeClassRow.holds Try.pinned (OpenSpec.ofChange fnExactTypeClassWrong)

/-- 'laws.FnExactHeapNew': WHATEVER THE INPUT: true; the input reads as it did. -/
def fnExactHeapNewSpec : ChangeSpec := { name := "fnExactHeapNew", fn := fun _ => fun
  | [d] => { results := [.lit (.bool true)], args := [d] }
  | _ => none }
def fnExactHeapNewRow : OpenClaim := { program := "ytjmochmnioegoaa", sum := "9d1bd922320d75955a7185a9b889890bf131d24994cd62778173ecf4af98d5c6", func := "loop.example/g00175/laws.FnExactHeapNew", spec := "fnExactHeapNew", apart := false }
def FnExactHeapNewSaid : Prop := fnExactHeapNewRow.holds Try.pinned (OpenSpec.ofChange fnExactHeapNewSpec)

/-- ITS FALSE NEIGHBOUR: 'it returns false'. Refute it at one input. -/
def fnExactHeapNewWrong : ChangeSpec := { name := "fnExactHeapNew", fn := fun _ => fun
  | [d] => { results := [.lit (.bool false)], args := [d] }
  | _ => none }
def FnExactHeapNewWrongFalsely : Prop := fnExactHeapNewRow.holds Try.pinned (OpenSpec.ofChange fnExactHeapNewWrong)

/-- 'laws.FnExactDescRight': WHATEVER THE INPUT: true; the input reads as it did. -/
def fnExactDescRightSpec : ChangeSpec := { name := "fnExactDescRight", fn := fun _ => fun
  | [d] => { results := [.lit (.bool true)], args := [d] }
  | _ => none }
def fnExactDescRightRow : OpenClaim := { program := "ytjmochmnioegoaa", sum := "9d1bd922320d75955a7185a9b889890bf131d24994cd62778173ecf4af98d5c6", func := "loop.example/g00175/laws.FnExactDescRight", spec := "fnExactDescRight", inPlace := ["internal/bytealg.IndexByteString"], recurses := true, apart := false }
def FnExactDescRightSaid : Prop := fnExactDescRightRow.holds Try.pinned (OpenSpec.ofChange fnExactDescRightSpec)

/-- ITS FALSE NEIGHBOUR: 'it returns false'. Refute it at one input. -/
def fnExactDescRightWrong : ChangeSpec := { name := "fnExactDescRight", fn := fun _ => fun
  | [d] => { results := [.lit (.bool false)], args := [d] }
  | _ => none }
def FnExactDescRightWrongFalsely : Prop := fnExactDescRightRow.holds Try.pinned (OpenSpec.ofChange fnExactDescRightWrong)

/-- 'laws.FnExactDescSlots': WHATEVER THE INPUT: true; the input reads as it did. -/
def fnExactDescSlotsSpec : ChangeSpec := { name := "fnExactDescSlots", fn := fun _ => fun
  | [d] => { results := [.lit (.bool true)], args := [d] }
  | _ => none }
def fnExactDescSlotsRow : OpenClaim := { program := "ytjmochmnioegoaa", sum := "9d1bd922320d75955a7185a9b889890bf131d24994cd62778173ecf4af98d5c6", func := "loop.example/g00175/laws.FnExactDescSlots", spec := "fnExactDescSlots", inPlace := ["internal/bytealg.IndexByteString"], recurses := true, apart := false }
def FnExactDescSlotsSaid : Prop := fnExactDescSlotsRow.holds Try.pinned (OpenSpec.ofChange fnExactDescSlotsSpec)

/-- ITS FALSE NEIGHBOUR: 'it returns false'. Refute it at one input. -/
def fnExactDescSlotsWrong : ChangeSpec := { name := "fnExactDescSlots", fn := fun _ => fun
  | [d] => { results := [.lit (.bool false)], args := [d] }
  | _ => none }
def FnExactDescSlotsWrongFalsely : Prop := fnExactDescSlotsRow.holds Try.pinned (OpenSpec.ofChange fnExactDescSlotsWrong)

/-- 'laws.FnExactTypeFrom': WHATEVER THE INPUT: true; the input reads as it did. -/
def fnExactTypeFromSpec : ChangeSpec := { name := "fnExactTypeFrom", fn := fun _ => fun
  | [d] => { results := [.lit (.bool true)], args := [d] }
  | _ => none }
def fnExactTypeFromRow : OpenClaim := { program := "ytjmochmnioegoaa", sum := "9d1bd922320d75955a7185a9b889890bf131d24994cd62778173ecf4af98d5c6", func := "loop.example/g00175/laws.FnExactTypeFrom", spec := "fnExactTypeFrom", inPlace := ["internal/bytealg.IndexByteString"], recurses := true, apart := false }
def FnExactTypeFromSaid : Prop := fnExactTypeFromRow.holds Try.pinned (OpenSpec.ofChange fnExactTypeFromSpec)

/-- ITS FALSE NEIGHBOUR: 'it returns false'. Refute it at one input. -/
def fnExactTypeFromWrong : ChangeSpec := { name := "fnExactTypeFrom", fn := fun _ => fun
  | [d] => { results := [.lit (.bool false)], args := [d] }
  | _ => none }
def FnExactTypeFromWrongFalsely : Prop := fnExactTypeFromRow.holds Try.pinned (OpenSpec.ofChange fnExactTypeFromWrong)

/-- 'laws.FnExactDescText': WHATEVER THE INPUT: true; the input reads as it did. -/
def fnExactDescTextSpec : ChangeSpec := { name := "fnExactDescText", fn := fun _ => fun
  | [d] => { results := [.lit (.bool true)], args := [d] }
  | _ => none }
def fnExactDescTextRow : OpenClaim := { program := "ytjmochmnioegoaa", sum := "9d1bd922320d75955a7185a9b889890bf131d24994cd62778173ecf4af98d5c6", func := "loop.example/g00175/laws.FnExactDescText", spec := "fnExactDescText", inPlace := ["internal/bytealg.IndexByteString"], recurses := true, apart := false }
def FnExactDescTextSaid : Prop := fnExactDescTextRow.holds Try.pinned (OpenSpec.ofChange fnExactDescTextSpec)

/-- ITS FALSE NEIGHBOUR: 'it returns false'. Refute it at one input. -/
def fnExactDescTextWrong : ChangeSpec := { name := "fnExactDescText", fn := fun _ => fun
  | [d] => { results := [.lit (.bool false)], args := [d] }
  | _ => none }
def FnExactDescTextWrongFalsely : Prop := fnExactDescTextRow.holds Try.pinned (OpenSpec.ofChange fnExactDescTextWrong)

/-- 'laws.FnOps': WHATEVER THE INPUT: true; the input reads as it did. -/
def fnOpsSpec : ChangeSpec := { name := "fnOps", fn := fun _ => fun
  | [d] => { results := [.lit (.bool true)], args := [d] }
  | _ => none }
def fnOpsRow : OpenClaim := { program := "ytjmochmnioegoaa", sum := "9d1bd922320d75955a7185a9b889890bf131d24994cd62778173ecf4af98d5c6", func := "loop.example/g00175/laws.FnOps", spec := "fnOps", inPlace := ["internal/bytealg.IndexByteString"], apart := false }
def FnOpsSaid : Prop := fnOpsRow.holds Try.pinned (OpenSpec.ofChange fnOpsSpec)

/-- ITS FALSE NEIGHBOUR: 'it returns false'. Refute it at one input. -/
def fnOpsWrong : ChangeSpec := { name := "fnOps", fn := fun _ => fun
  | [d] => { results := [.lit (.bool false)], args := [d] }
  | _ => none }
def FnOpsWrongFalsely : Prop := fnOpsRow.holds Try.pinned (OpenSpec.ofChange fnOpsWrong)

/-- 'laws.FnExactDescRead': WHATEVER THE INPUT: true; the input reads as it did. -/
def fnExactDescReadSpec : ChangeSpec := { name := "fnExactDescRead", fn := fun _ => fun
  | [d] => { results := [.lit (.bool true)], args := [d] }
  | _ => none }
def fnExactDescReadRow : OpenClaim := { program := "ytjmochmnioegoaa", sum := "9d1bd922320d75955a7185a9b889890bf131d24994cd62778173ecf4af98d5c6", func := "loop.example/g00175/laws.FnExactDescRead", spec := "fnExactDescRead", inPlace := ["internal/bytealg.IndexByteString"], recurses := true, apart := false }
def FnExactDescReadSaid : Prop := fnExactDescReadRow.holds Try.pinned (OpenSpec.ofChange fnExactDescReadSpec)

/-- ITS FALSE NEIGHBOUR: 'it returns false'. Refute it at one input. -/
def fnExactDescReadWrong : ChangeSpec := { name := "fnExactDescRead", fn := fun _ => fun
  | [d] => { results := [.lit (.bool false)], args := [d] }
  | _ => none }
def FnExactDescReadWrongFalsely : Prop := fnExactDescReadRow.holds Try.pinned (OpenSpec.ofChange fnExactDescReadWrong)

/-- 'laws.FnDesc': WHATEVER THE INPUT: true; the input reads as it did. -/
def fnDescSpec : ChangeSpec := { name := "fnDesc", fn := fun _ => fun
  | [d1, d2] => { results := [.lit (.bool true)], args := [d1, d2] }
  | _ => none }
def fnDescRow : OpenClaim := { program := "ytjmochmnioegoaa", sum := "9d1bd922320d75955a7185a9b889890bf131d24994cd62778173ecf4af98d5c6", func := "loop.example/g00175/laws.FnDesc", spec := "fnDesc", inPlace := ["internal/bytealg.IndexByteString"], recurses := true, apart := false }
def FnDescSaid : Prop := fnDescRow.holds Try.pinned (OpenSpec.ofChange fnDescSpec)

/-- ITS FALSE NEIGHBOUR: 'it returns false'. Refute it at one input. -/
def fnDescWrong : ChangeSpec := { name := "fnDesc", fn := fun _ => fun
  | [d1, d2] => { results := [.lit (.bool false)], args := [d1, d2] }
  | _ => none }
def FnDescWrongFalsely : Prop := fnDescRow.holds Try.pinned (OpenSpec.ofChange fnDescWrong)

/-- 'laws.FnExactInsRight': WHATEVER THE INPUT: true; the input reads as it did. -/
def fnExactInsRightSpec : ChangeSpec := { name := "fnExactInsRight", fn := fun _ => fun
  | [d] => { results := [.lit (.bool true)], args := [d] }
  | _ => none }
def fnExactInsRightRow : OpenClaim := { program := "ytjmochmnioegoaa", sum := "9d1bd922320d75955a7185a9b889890bf131d24994cd62778173ecf4af98d5c6", func := "loop.example/g00175/laws.FnExactInsRight", spec := "fnExactInsRight", inPlace := ["internal/bytealg.IndexByteString"], recurses := true, apart := false }
def FnExactInsRightSaid : Prop := fnExactInsRightRow.holds Try.pinned (OpenSpec.ofChange fnExactInsRightSpec)

/-- ITS FALSE NEIGHBOUR: 'it returns false'. Refute it at one input. -/
def fnExactInsRightWrong : ChangeSpec := { name := "fnExactInsRight", fn := fun _ => fun
  | [d] => { results := [.lit (.bool false)], args := [d] }
  | _ => none }
def FnExactInsRightWrongFalsely : Prop := fnExactInsRightRow.holds Try.pinned (OpenSpec.ofChange fnExactInsRightWrong)

/- THE SECOND FORM. 'bulk': how many values and letters a reading holds, each counted each time it is reached (what is shared counts as often as it is met; a slice's spare places count too). A statement '..UptoSaid' is the law's where the arguments, and the package variables that the reading takes, are together of bulk at most 1048576: NARROWER than '..Said'. Prove '..Said' where nothing that the law and all that it calls make is longer than what came in: it says more and counts as full. Else prove '..UptoSaid'. A law counts once. -/
mutual
def uptoBulk {H : Type} : DataW H → Nat
  | .lit (.string bytes) => bytes.length + 1
  | .lit _ => 1
  | .nil => 1
  | .ptr d => uptoBulk d + 1
  | .slice elems spare => uptoBulkAll elems + uptoBulkAll spare + 1
  | .agg parts => uptoBulkAll parts + 1
  | .iface _ d => uptoBulk d + 1
  | .map entries => uptoBulkEntries entries + 1
  | .held _ => 1
def uptoBulkAll {H : Type} : List (DataW H) → Nat
  | [] => 0
  | d :: r => uptoBulk d + uptoBulkAll r
def uptoBulkEntries {H : Type} : List (Lit × DataW H) → Nat
  | [] => 0
  | x :: r => uptoBulkEntry x + uptoBulkEntries r
def uptoBulkEntry {H : Type} : Lit × DataW H → Nat
  | (.string bytes, d) => bytes.length + uptoBulk d + 1
  | (_, d) => uptoBulk d + 1
 end
def uptoSmall : (H : Type) → List (DataW H) → Bool := fun _ ds => decide (uptoBulkAll ds ≤ 1048576)
def OpenSpec.upto (s : _root_.Go.ChangeSpec) : _root_.Go.OpenSpec := { _root_.Go.OpenSpec.ofChange s with cond := some uptoSmall }

/-- 'laws.FnExactTypeRight', WHERE WHAT IT READS IS OF BULK AT MOST 1048576: true; the input reads as it did. -/
def fnExactTypeRightUptoRow : OpenClaim := { program := "ytjmochmnioegoaa", sum := "9d1bd922320d75955a7185a9b889890bf131d24994cd62778173ecf4af98d5c6", func := "loop.example/g00175/laws.FnExactTypeRight", spec := "fnExactTypeRight", inPlace := ["internal/bytealg.IndexByteString"], recurses := true, apart := false, narrowed := true }
def FnExactTypeRightUptoSaid : Prop := fnExactTypeRightUptoRow.holds Try.pinned (OpenSpec.upto fnExactTypeRightSpec)

/-- 'laws.FnExactTypeClass', WHERE WHAT IT READS IS OF BULK AT MOST 1048576: true; the input reads as it did. -/
def fnExactTypeClassUptoRow : OpenClaim := { program := "ytjmochmnioegoaa", sum := "9d1bd922320d75955a7185a9b889890bf131d24994cd62778173ecf4af98d5c6", func := "loop.example/g00175/laws.FnExactTypeClass", spec := "fnExactTypeClass", inPlace := ["internal/bytealg.IndexByteString"], recurses := true, apart := false, narrowed := true }
def FnExactTypeClassUptoSaid : Prop := fnExactTypeClassUptoRow.holds Try.pinned (OpenSpec.upto fnExactTypeClassSpec)

/-- 'laws.FnExactHeapNew', WHERE WHAT IT READS IS OF BULK AT MOST 1048576: true; the input reads as it did. -/
def fnExactHeapNewUptoRow : OpenClaim := { program := "ytjmochmnioegoaa", sum := "9d1bd922320d75955a7185a9b889890bf131d24994cd62778173ecf4af98d5c6", func := "loop.example/g00175/laws.FnExactHeapNew", spec := "fnExactHeapNew", apart := false, narrowed := true }
def FnExactHeapNewUptoSaid : Prop := fnExactHeapNewUptoRow.holds Try.pinned (OpenSpec.upto fnExactHeapNewSpec)

/-- 'laws.FnExactDescRight', WHERE WHAT IT READS IS OF BULK AT MOST 1048576: true; the input reads as it did. -/
def fnExactDescRightUptoRow : OpenClaim := { program := "ytjmochmnioegoaa", sum := "9d1bd922320d75955a7185a9b889890bf131d24994cd62778173ecf4af98d5c6", func := "loop.example/g00175/laws.FnExactDescRight", spec := "fnExactDescRight", inPlace := ["internal/bytealg.IndexByteString"], recurses := true, apart := false, narrowed := true }
def FnExactDescRightUptoSaid : Prop := fnExactDescRightUptoRow.holds Try.pinned (OpenSpec.upto fnExactDescRightSpec)

/-- 'laws.FnExactDescSlots', WHERE WHAT IT READS IS OF BULK AT MOST 1048576: true; the input reads as it did. -/
def fnExactDescSlotsUptoRow : OpenClaim := { program := "ytjmochmnioegoaa", sum := "9d1bd922320d75955a7185a9b889890bf131d24994cd62778173ecf4af98d5c6", func := "loop.example/g00175/laws.FnExactDescSlots", spec := "fnExactDescSlots", inPlace := ["internal/bytealg.IndexByteString"], recurses := true, apart := false, narrowed := true }
def FnExactDescSlotsUptoSaid : Prop := fnExactDescSlotsUptoRow.holds Try.pinned (OpenSpec.upto fnExactDescSlotsSpec)

/-- 'laws.FnExactTypeFrom', WHERE WHAT IT READS IS OF BULK AT MOST 1048576: true; the input reads as it did. -/
def fnExactTypeFromUptoRow : OpenClaim := { program := "ytjmochmnioegoaa", sum := "9d1bd922320d75955a7185a9b889890bf131d24994cd62778173ecf4af98d5c6", func := "loop.example/g00175/laws.FnExactTypeFrom", spec := "fnExactTypeFrom", inPlace := ["internal/bytealg.IndexByteString"], recurses := true, apart := false, narrowed := true }
def FnExactTypeFromUptoSaid : Prop := fnExactTypeFromUptoRow.holds Try.pinned (OpenSpec.upto fnExactTypeFromSpec)

/-- 'laws.FnExactDescText', WHERE WHAT IT READS IS OF BULK AT MOST 1048576: true; the input reads as it did. -/
def fnExactDescTextUptoRow : OpenClaim := { program := "ytjmochmnioegoaa", sum := "9d1bd922320d75955a7185a9b889890bf131d24994cd62778173ecf4af98d5c6", func := "loop.example/g00175/laws.FnExactDescText", spec := "fnExactDescText", inPlace := ["internal/bytealg.IndexByteString"], recurses := true, apart := false, narrowed := true }
def FnExactDescTextUptoSaid : Prop := fnExactDescTextUptoRow.holds Try.pinned (OpenSpec.upto fnExactDescTextSpec)

/-- 'laws.FnOps', WHERE WHAT IT READS IS OF BULK AT MOST 1048576: true; the input reads as it did. -/
def fnOpsUptoRow : OpenClaim := { program := "ytjmochmnioegoaa", sum := "9d1bd922320d75955a7185a9b889890bf131d24994cd62778173ecf4af98d5c6", func := "loop.example/g00175/laws.FnOps", spec := "fnOps", inPlace := ["internal/bytealg.IndexByteString"], apart := false, narrowed := true }
def FnOpsUptoSaid : Prop := fnOpsUptoRow.holds Try.pinned (OpenSpec.upto fnOpsSpec)

/-- 'laws.FnExactDescRead', WHERE WHAT IT READS IS OF BULK AT MOST 1048576: true; the input reads as it did. -/
def fnExactDescReadUptoRow : OpenClaim := { program := "ytjmochmnioegoaa", sum := "9d1bd922320d75955a7185a9b889890bf131d24994cd62778173ecf4af98d5c6", func := "loop.example/g00175/laws.FnExactDescRead", spec := "fnExactDescRead", inPlace := ["internal/bytealg.IndexByteString"], recurses := true, apart := false, narrowed := true }
def FnExactDescReadUptoSaid : Prop := fnExactDescReadUptoRow.holds Try.pinned (OpenSpec.upto fnExactDescReadSpec)

/-- 'laws.FnDesc', WHERE WHAT IT READS IS OF BULK AT MOST 1048576: true; the input reads as it did. -/
def fnDescUptoRow : OpenClaim := { program := "ytjmochmnioegoaa", sum := "9d1bd922320d75955a7185a9b889890bf131d24994cd62778173ecf4af98d5c6", func := "loop.example/g00175/laws.FnDesc", spec := "fnDesc", inPlace := ["internal/bytealg.IndexByteString"], recurses := true, apart := false, narrowed := true }
def FnDescUptoSaid : Prop := fnDescUptoRow.holds Try.pinned (OpenSpec.upto fnDescSpec)

/-- 'laws.FnExactInsRight', WHERE WHAT IT READS IS OF BULK AT MOST 1048576: true; the input reads as it did. -/
def fnExactInsRightUptoRow : OpenClaim := { program := "ytjmochmnioegoaa", sum := "9d1bd922320d75955a7185a9b889890bf131d24994cd62778173ecf4af98d5c6", func := "loop.example/g00175/laws.FnExactInsRight", spec := "fnExactInsRight", inPlace := ["internal/bytealg.IndexByteString"], recurses := true, apart := false, narrowed := true }
def FnExactInsRightUptoSaid : Prop := fnExactInsRightUptoRow.holds Try.pinned (OpenSpec.upto fnExactInsRightSpec)

end Rows
end Go.Proofs.Ytjmochmnioegoaa
