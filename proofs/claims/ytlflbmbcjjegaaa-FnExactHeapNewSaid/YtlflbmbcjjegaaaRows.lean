/-
  No cell of these rows narrows 'for every input' (looked for: loops, veiled, ifaces, maps, wideKeys, modest, calm, conditions, laid).
  DERIVED. THE GIVEN ROWS OF THIS SEAT. 7 by the template 'for every input the law returns true; each argument reads behind the call as it read before'; 0 by the template 'total and deterministic' (their statements: YtlflbmbcjjegaaaTotals.lean).
  GIVEN WITH THE SEED: the statements are not yours to turn. If you find one false, say at which input.
  Laid BY PROGRAM, IN A SANDBOX (cutbox-rows.mjs): the forced cells as the released guide's own fill.sh prints them over the translation 6d5fc87c441a1361… (all of the seat's roots in one cut). By AI agents, Wed Nov 11 2026. No macro, syntax, notation, axiom, sorry.
-/
import Derived.Test.YtlflbmbcjjegaaaChecked
import GoSem.Claim
import GoSem.ClaimJoined
import GoSem.ClaimMapViews
import Derived.JoinedTies
import Derived.KernelRfl
namespace Go.Proofs.Ytlflbmbcjjegaaa
/- THE CELL 'sum', in the pinned program and in every row, IS THE sha256 OF THE DUMP (.gsa) THAT YtlflbmbcjjegaaaProg.lean LOADS. Nothing in Lean hashes anything: it is a label: what it is worth is what the hold of that sum in a sandbox is worth. -/
noncomputable def Try.pinned : Pinned := { name := "ytlflbmbcjjegaaa", sum := "6d5fc87c441a1361dee29e7197db1f52576b8c997f098618bbda395d98928736", checked := Try.checked }
namespace Rows
def none {H : Type} : Left H := { results := [], args := [] }

/-- 'laws.FnExactHeapNew': WHATEVER THE INPUT: true; the input reads as it did. -/
def fnExactHeapNewSpec : ChangeSpec := { name := "fnExactHeapNew", fn := fun _ => fun
  | [d] => { results := [.lit (.bool true)], args := [d] }
  | _ => none }
def fnExactHeapNewRow : OpenClaim := { program := "ytlflbmbcjjegaaa", sum := "6d5fc87c441a1361dee29e7197db1f52576b8c997f098618bbda395d98928736", func := "loop.example/g00175/laws.FnExactHeapNew", spec := "fnExactHeapNew", apart := false }
def FnExactHeapNewSaid : Prop := fnExactHeapNewRow.holds Try.pinned (OpenSpec.ofChange fnExactHeapNewSpec)

/-- ITS FALSE NEIGHBOUR: 'it returns false'. Refute it at one input. -/
def fnExactHeapNewWrong : ChangeSpec := { name := "fnExactHeapNew", fn := fun _ => fun
  | [d] => { results := [.lit (.bool false)], args := [d] }
  | _ => none }
def FnExactHeapNewWrongFalsely : Prop := fnExactHeapNewRow.holds Try.pinned (OpenSpec.ofChange fnExactHeapNewWrong)

/-- 'laws.FnExactBareSame': WHATEVER THE INPUT: true; the input reads as it did. -/
def fnExactBareSameSpec : ChangeSpec := { name := "fnExactBareSame", fn := fun _ => fun
  | [d1, d2] => { results := [.lit (.bool true)], args := [d1, d2] }
  | _ => none }
def fnExactBareSameRow : OpenClaim := { program := "ytlflbmbcjjegaaa", sum := "6d5fc87c441a1361dee29e7197db1f52576b8c997f098618bbda395d98928736", func := "loop.example/g00175/laws.FnExactBareSame", spec := "fnExactBareSame", unfollowed := true, recurses := true, apart := false }
def FnExactBareSameSaid : Prop := fnExactBareSameRow.holds Try.pinned (OpenSpec.ofChange fnExactBareSameSpec)

/-- ITS FALSE NEIGHBOUR: 'it returns false'. Refute it at one input. -/
def fnExactBareSameWrong : ChangeSpec := { name := "fnExactBareSame", fn := fun _ => fun
  | [d1, d2] => { results := [.lit (.bool false)], args := [d1, d2] }
  | _ => none }
def FnExactBareSameWrongFalsely : Prop := fnExactBareSameRow.holds Try.pinned (OpenSpec.ofChange fnExactBareSameWrong)

/-- 'laws.FnExactClassSame': WHATEVER THE INPUT: true; the input reads as it did. -/
def fnExactClassSameSpec : ChangeSpec := { name := "fnExactClassSame", fn := fun _ => fun
  | [d1, d2] => { results := [.lit (.bool true)], args := [d1, d2] }
  | _ => none }
def fnExactClassSameRow : OpenClaim := { program := "ytlflbmbcjjegaaa", sum := "6d5fc87c441a1361dee29e7197db1f52576b8c997f098618bbda395d98928736", func := "loop.example/g00175/laws.FnExactClassSame", spec := "fnExactClassSame", unfollowed := true, recurses := true, apart := false }
def FnExactClassSameSaid : Prop := fnExactClassSameRow.holds Try.pinned (OpenSpec.ofChange fnExactClassSameSpec)

/-- ITS FALSE NEIGHBOUR: 'it returns false'. Refute it at one input. -/
def fnExactClassSameWrong : ChangeSpec := { name := "fnExactClassSame", fn := fun _ => fun
  | [d1, d2] => { results := [.lit (.bool false)], args := [d1, d2] }
  | _ => none }
def FnExactClassSameWrongFalsely : Prop := fnExactClassSameRow.holds Try.pinned (OpenSpec.ofChange fnExactClassSameWrong)

/-- 'laws.FnExactErase': WHATEVER THE INPUT: true; the input reads as it did. -/
def fnExactEraseSpec : ChangeSpec := { name := "fnExactErase", fn := fun _ => fun
  | [d] => { results := [.lit (.bool true)], args := [d] }
  | _ => none }
def fnExactEraseRow : OpenClaim := { program := "ytlflbmbcjjegaaa", sum := "6d5fc87c441a1361dee29e7197db1f52576b8c997f098618bbda395d98928736", func := "loop.example/g00175/laws.FnExactErase", spec := "fnExactErase", apart := false }
def FnExactEraseSaid : Prop := fnExactEraseRow.holds Try.pinned (OpenSpec.ofChange fnExactEraseSpec)

/-- ITS FALSE NEIGHBOUR: 'it returns false'. Refute it at one input. -/
def fnExactEraseWrong : ChangeSpec := { name := "fnExactErase", fn := fun _ => fun
  | [d] => { results := [.lit (.bool false)], args := [d] }
  | _ => none }
def FnExactEraseWrongFalsely : Prop := fnExactEraseRow.holds Try.pinned (OpenSpec.ofChange fnExactEraseWrong)

/-- 'laws.FnExactMethodRight': WHATEVER THE INPUT: true; the input reads as it did. -/
def fnExactMethodRightSpec : ChangeSpec := { name := "fnExactMethodRight", fn := fun _ => fun
  | [d] => { results := [.lit (.bool true)], args := [d] }
  | _ => none }
def fnExactMethodRightRow : OpenClaim := { program := "ytlflbmbcjjegaaa", sum := "6d5fc87c441a1361dee29e7197db1f52576b8c997f098618bbda395d98928736", func := "loop.example/g00175/laws.FnExactMethodRight", spec := "fnExactMethodRight", inPlace := ["internal/bytealg.IndexByteString"], unfollowed := true, recurses := true, apart := false }
def FnExactMethodRightSaid : Prop := fnExactMethodRightRow.holds Try.pinned (OpenSpec.ofChange fnExactMethodRightSpec)

/-- ITS FALSE NEIGHBOUR: 'it returns false'. Refute it at one input. -/
def fnExactMethodRightWrong : ChangeSpec := { name := "fnExactMethodRight", fn := fun _ => fun
  | [d] => { results := [.lit (.bool false)], args := [d] }
  | _ => none }
def FnExactMethodRightWrongFalsely : Prop := fnExactMethodRightRow.holds Try.pinned (OpenSpec.ofChange fnExactMethodRightWrong)

/-- 'laws.FnExactClassRight': WHATEVER THE INPUT: true; the input reads as it did. -/
def fnExactClassRightSpec : ChangeSpec := { name := "fnExactClassRight", fn := fun _ => fun
  | [d] => { results := [.lit (.bool true)], args := [d] }
  | _ => none }
def fnExactClassRightRow : OpenClaim := { program := "ytlflbmbcjjegaaa", sum := "6d5fc87c441a1361dee29e7197db1f52576b8c997f098618bbda395d98928736", func := "loop.example/g00175/laws.FnExactClassRight", spec := "fnExactClassRight", inPlace := ["internal/bytealg.IndexByteString"], unfollowed := true, recurses := true, apart := false }
def FnExactClassRightSaid : Prop := fnExactClassRightRow.holds Try.pinned (OpenSpec.ofChange fnExactClassRightSpec)

/-- ITS FALSE NEIGHBOUR: 'it returns false'. Refute it at one input. -/
def fnExactClassRightWrong : ChangeSpec := { name := "fnExactClassRight", fn := fun _ => fun
  | [d] => { results := [.lit (.bool false)], args := [d] }
  | _ => none }
def FnExactClassRightWrongFalsely : Prop := fnExactClassRightRow.holds Try.pinned (OpenSpec.ofChange fnExactClassRightWrong)

/-- 'laws.FnPool': WHATEVER THE INPUT: true; the input reads as it did. -/
def fnPoolSpec : ChangeSpec := { name := "fnPool", fn := fun _ => fun
  | [d] => { results := [.lit (.bool true)], args := [d] }
  | _ => none }
def fnPoolRow : OpenClaim := { program := "ytlflbmbcjjegaaa", sum := "6d5fc87c441a1361dee29e7197db1f52576b8c997f098618bbda395d98928736", func := "loop.example/g00175/laws.FnPool", spec := "fnPool", inPlace := ["internal/bytealg.IndexByteString"], unfollowed := true, recurses := true, apart := false }
def FnPoolSaid : Prop := fnPoolRow.holds Try.pinned (OpenSpec.ofChange fnPoolSpec)

/-- ITS FALSE NEIGHBOUR: 'it returns false'. Refute it at one input. -/
def fnPoolWrong : ChangeSpec := { name := "fnPool", fn := fun _ => fun
  | [d] => { results := [.lit (.bool false)], args := [d] }
  | _ => none }
def FnPoolWrongFalsely : Prop := fnPoolRow.holds Try.pinned (OpenSpec.ofChange fnPoolWrong)

/- THE SECOND FORM. 'bulk': how many values and letters a reading holds, each counted each time it is reached (what is shared counts as often as it is met; a slice's spare places count too). A statement '..UptoSaid' is the law's where the arguments, and the package variables that the reading takes, are together of bulk at most 1048576: NARROWER than '..Said'. Prove '..Said' where nothing that the law and all that it calls make is longer than what came in: it says more and counts as full. Else prove '..UptoSaid'. A law counts once. -/
mutual
def uptoBulk {H : Type} : DataW H → Nat
  | .lit (.string bytes) => bytes.length + 1
  | .lit _ => 1
  | .nil => 1
  | .ptr d => uptoBulk d + 1
  | .slice elems spare => uptoBulkAll elems + uptoBulkAll spare + 1
  | .agg parts => uptoBulkAll parts + 1
  | .iface _ d => uptoBulk d + 1
  | .map entries => uptoBulkEntries entries + 1
  | .held _ => 1
def uptoBulkAll {H : Type} : List (DataW H) → Nat
  | [] => 0
  | d :: r => uptoBulk d + uptoBulkAll r
def uptoBulkEntries {H : Type} : List (Lit × DataW H) → Nat
  | [] => 0
  | x :: r => uptoBulkEntry x + uptoBulkEntries r
def uptoBulkEntry {H : Type} : Lit × DataW H → Nat
  | (.string bytes, d) => bytes.length + uptoBulk d + 1
  | (_, d) => uptoBulk d + 1
 end
def uptoSmall : (H : Type) → List (DataW H) → Bool := fun _ ds => decide (uptoBulkAll ds ≤ 1048576)
def OpenSpec.upto (s : _root_.Go.ChangeSpec) : _root_.Go.OpenSpec := { _root_.Go.OpenSpec.ofChange s with cond := some uptoSmall }

/-- 'laws.FnExactHeapNew', WHERE WHAT IT READS IS OF BULK AT MOST 1048576: true; the input reads as it did. -/
def fnExactHeapNewUptoRow : OpenClaim := { program := "ytlflbmbcjjegaaa", sum := "6d5fc87c441a1361dee29e7197db1f52576b8c997f098618bbda395d98928736", func := "loop.example/g00175/laws.FnExactHeapNew", spec := "fnExactHeapNew", apart := false, narrowed := true }
def FnExactHeapNewUptoSaid : Prop := fnExactHeapNewUptoRow.holds Try.pinned (OpenSpec.upto fnExactHeapNewSpec)

/-- 'laws.FnExactBareSame', WHERE WHAT IT READS IS OF BULK AT MOST 1048576: true; the input reads as it did. -/
def fnExactBareSameUptoRow : OpenClaim := { program := "ytlflbmbcjjegaaa", sum := "6d5fc87c441a1361dee29e7197db1f52576b8c997f098618bbda395d98928736", func := "loop.example/g00175/laws.FnExactBareSame", spec := "fnExactBareSame", unfollowed := true, recurses := true, apart := false, narrowed := true }
def FnExactBareSameUptoSaid : Prop := fnExactBareSameUptoRow.holds Try.pinned (OpenSpec.upto fnExactBareSameSpec)

/-- 'laws.FnExactClassSame', WHERE WHAT IT READS IS OF BULK AT MOST 1048576: true; the input reads as it did. -/
def fnExactClassSameUptoRow : OpenClaim := { program := "ytlflbmbcjjegaaa", sum := "6d5fc87c441a1361dee29e7197db1f52576b8c997f098618bbda395d98928736", func := "loop.example/g00175/laws.FnExactClassSame", spec := "fnExactClassSame", unfollowed := true, recurses := true, apart := false, narrowed := true }
def FnExactClassSameUptoSaid : Prop := fnExactClassSameUptoRow.holds Try.pinned (OpenSpec.upto fnExactClassSameSpec)

/-- 'laws.FnExactErase', WHERE WHAT IT READS IS OF BULK AT MOST 1048576: true; the input reads as it did. -/
def fnExactEraseUptoRow : OpenClaim := { program := "ytlflbmbcjjegaaa", sum := "6d5fc87c441a1361dee29e7197db1f52576b8c997f098618bbda395d98928736", func := "loop.example/g00175/laws.FnExactErase", spec := "fnExactErase", apart := false, narrowed := true }
def FnExactEraseUptoSaid : Prop := fnExactEraseUptoRow.holds Try.pinned (OpenSpec.upto fnExactEraseSpec)

/-- 'laws.FnExactMethodRight', WHERE WHAT IT READS IS OF BULK AT MOST 1048576: true; the input reads as it did. -/
def fnExactMethodRightUptoRow : OpenClaim := { program := "ytlflbmbcjjegaaa", sum := "6d5fc87c441a1361dee29e7197db1f52576b8c997f098618bbda395d98928736", func := "loop.example/g00175/laws.FnExactMethodRight", spec := "fnExactMethodRight", inPlace := ["internal/bytealg.IndexByteString"], unfollowed := true, recurses := true, apart := false, narrowed := true }
def FnExactMethodRightUptoSaid : Prop := fnExactMethodRightUptoRow.holds Try.pinned (OpenSpec.upto fnExactMethodRightSpec)

/-- 'laws.FnExactClassRight', WHERE WHAT IT READS IS OF BULK AT MOST 1048576: true; the input reads as it did. -/
def fnExactClassRightUptoRow : OpenClaim := { program := "ytlflbmbcjjegaaa", sum := "6d5fc87c441a1361dee29e7197db1f52576b8c997f098618bbda395d98928736", func := "loop.example/g00175/laws.FnExactClassRight", spec := "fnExactClassRight", inPlace := ["internal/bytealg.IndexByteString"], unfollowed := true, recurses := true, apart := false, narrowed := true }
def FnExactClassRightUptoSaid : Prop := fnExactClassRightUptoRow.holds Try.pinned (OpenSpec.upto fnExactClassRightSpec)

/-- 'laws.FnPool', WHERE WHAT IT READS IS OF BULK AT MOST 1048576: true; the input reads as it did. -/
def fnPoolUptoRow : OpenClaim := { program := "ytlflbmbcjjegaaa", sum := "6d5fc87c441a1361dee29e7197db1f52576b8c997f098618bbda395d98928736", func := "loop.example/g00175/laws.FnPool", spec := "fnPool", inPlace := ["internal/bytealg.IndexByteString"], unfollowed := true, recurses := true, apart := false, narrowed := true }
def FnPoolUptoSaid : Prop := fnPoolUptoRow.holds Try.pinned (OpenSpec.upto fnPoolSpec)

end Rows
end Go.Proofs.Ytlflbmbcjjegaaa
