/-
  No cell of these rows narrows 'for every input' (looked for: loops, veiled, ifaces, maps, wideKeys, modest, calm, conditions, laid).
  DERIVED. THE GIVEN ROWS OF THIS SEAT. 7 by the template 'for every input the law returns true; each argument reads behind the call as it read before'; 0 by the template 'total and deterministic' (their statements: YtkbebmifpccofaaGreatTotals.lean).
  GIVEN WITH THE SEED: the statements are not yours to turn. If you find one false, say at which input.
  Laid BY PROGRAM, IN A SANDBOX (cutbox-rows.mjs): the forced cells as the released guide's own fill.sh prints them over the translation ad3887f803817f29… (all of the seat's roots in one cut). By AI agents, Wed Nov 11 2026. No macro, syntax, notation, axiom, sorry.
-/
import Derived.Test.YtkbebmifpccofaaGreatChecked
import GoSem.Claim
import GoSem.ClaimJoined
import GoSem.ClaimMapViews
import Derived.JoinedTies
import Derived.KernelRfl
namespace Go.Proofs.YtkbebmifpccofaaGreat
/- THE CELL 'sum', in the pinned program and in every row, IS THE sha256 OF THE DUMP (.gsa) THAT YtkbebmifpccofaaGreatProg.lean LOADS. Nothing in Lean hashes anything: it is a label: what it is worth is what the hold of that sum in a sandbox is worth. -/
noncomputable def Tryz.pinned : Pinned := { name := "ytkbebmifpccofaagreat", sum := "ad3887f803817f290d3e3c47719f29f7779e713d79ebf8c85b865badef259c20", checked := Tryz.checked }
namespace Rows
def none {H : Type} : Left H := { results := [], args := [] }

/-- 'laws.FnClassCut': WHATEVER THE INPUT: true; the input reads as it did. -/
def fnClassCutSpec : ChangeSpec := { name := "fnClassCut", fn := fun _ => fun
  | [d1, d2] => { results := [.lit (.bool true)], args := [d1, d2] }
  | _ => none }
def fnClassCutRow : OpenClaim := { program := "ytkbebmifpccofaagreat", sum := "ad3887f803817f290d3e3c47719f29f7779e713d79ebf8c85b865badef259c20", func := "loop.example/g00175/laws.FnClassCut", spec := "fnClassCut", inPlace := ["internal/bytealg.IndexByteString"], unfollowed := true, recurses := true, apart := false }
def FnClassCutSaid : Prop := fnClassCutRow.holds Tryz.pinned (OpenSpec.ofChange fnClassCutSpec)

/-- ITS FALSE NEIGHBOUR: 'it returns false'. Refute it at one input. -/
def fnClassCutWrong : ChangeSpec := { name := "fnClassCut", fn := fun _ => fun
  | [d1, d2] => { results := [.lit (.bool false)], args := [d1, d2] }
  | _ => none }
def FnClassCutWrongFalsely : Prop := fnClassCutRow.holds Tryz.pinned (OpenSpec.ofChange fnClassCutWrong)

/-- 'laws.FnExactClassRead': WHATEVER THE INPUT: true; the input reads as it did. -/
def fnExactClassReadSpec : ChangeSpec := { name := "fnExactClassRead", fn := fun _ => fun
  | [d] => { results := [.lit (.bool true)], args := [d] }
  | _ => none }
def fnExactClassReadRow : OpenClaim := { program := "ytkbebmifpccofaagreat", sum := "ad3887f803817f290d3e3c47719f29f7779e713d79ebf8c85b865badef259c20", func := "loop.example/g00175/laws.FnExactClassRead", spec := "fnExactClassRead", inPlace := ["internal/bytealg.IndexByteString"], unfollowed := true, recurses := true, apart := false }
def FnExactClassReadSaid : Prop := fnExactClassReadRow.holds Tryz.pinned (OpenSpec.ofChange fnExactClassReadSpec)

/-- ITS FALSE NEIGHBOUR: 'it returns false'. Refute it at one input. -/
def fnExactClassReadWrong : ChangeSpec := { name := "fnExactClassRead", fn := fun _ => fun
  | [d] => { results := [.lit (.bool false)], args := [d] }
  | _ => none }
def FnExactClassReadWrongFalsely : Prop := fnExactClassReadRow.holds Tryz.pinned (OpenSpec.ofChange fnExactClassReadWrong)

/-- 'laws.FnFindMethod': WHATEVER THE INPUT: true; the input reads as it did. -/
def fnFindMethodSpec : ChangeSpec := { name := "fnFindMethod", fn := fun _ => fun
  | [d] => { results := [.lit (.bool true)], args := [d] }
  | _ => none }
def fnFindMethodRow : OpenClaim := { program := "ytkbebmifpccofaagreat", sum := "ad3887f803817f290d3e3c47719f29f7779e713d79ebf8c85b865badef259c20", func := "loop.example/g00175/laws.FnFindMethod", spec := "fnFindMethod", inPlace := ["internal/bytealg.IndexByteString"], unfollowed := true, recurses := true, apart := false }
def FnFindMethodSaid : Prop := fnFindMethodRow.holds Tryz.pinned (OpenSpec.ofChange fnFindMethodSpec)

/-- ITS FALSE NEIGHBOUR: 'it returns false'. Refute it at one input. -/
def fnFindMethodWrong : ChangeSpec := { name := "fnFindMethod", fn := fun _ => fun
  | [d] => { results := [.lit (.bool false)], args := [d] }
  | _ => none }
def FnFindMethodWrongFalsely : Prop := fnFindMethodRow.holds Tryz.pinned (OpenSpec.ofChange fnFindMethodWrong)

/-- 'laws.FnCommon': WHATEVER THE INPUT: true; the input reads as it did. -/
def fnCommonSpec : ChangeSpec := { name := "fnCommon", fn := fun _ => fun
  | [d1, d2] => { results := [.lit (.bool true)], args := [d1, d2] }
  | _ => none }
def fnCommonRow : OpenClaim := { program := "ytkbebmifpccofaagreat", sum := "ad3887f803817f290d3e3c47719f29f7779e713d79ebf8c85b865badef259c20", func := "loop.example/g00175/laws.FnCommon", spec := "fnCommon", inPlace := ["internal/bytealg.IndexByteString"], unfollowed := true, recurses := true, apart := false }
def FnCommonSaid : Prop := fnCommonRow.holds Tryz.pinned (OpenSpec.ofChange fnCommonSpec)

/-- ITS FALSE NEIGHBOUR: 'it returns false'. Refute it at one input. -/
def fnCommonWrong : ChangeSpec := { name := "fnCommon", fn := fun _ => fun
  | [d1, d2] => { results := [.lit (.bool false)], args := [d1, d2] }
  | _ => none }
def FnCommonWrongFalsely : Prop := fnCommonRow.holds Tryz.pinned (OpenSpec.ofChange fnCommonWrong)

/-- 'laws.FnStands': WHATEVER THE INPUT: true; the input reads as it did. -/
def fnStandsSpec : ChangeSpec := { name := "fnStands", fn := fun _ => fun
  | [d] => { results := [.lit (.bool true)], args := [d] }
  | _ => none }
def fnStandsRow : OpenClaim := { program := "ytkbebmifpccofaagreat", sum := "ad3887f803817f290d3e3c47719f29f7779e713d79ebf8c85b865badef259c20", func := "loop.example/g00175/laws.FnStands", spec := "fnStands", inPlace := ["internal/bytealg.IndexByteString"], unfollowed := true, recurses := true, apart := false }
def FnStandsSaid : Prop := fnStandsRow.holds Tryz.pinned (OpenSpec.ofChange fnStandsSpec)

/-- ITS FALSE NEIGHBOUR: 'it returns false'. Refute it at one input. -/
def fnStandsWrong : ChangeSpec := { name := "fnStands", fn := fun _ => fun
  | [d] => { results := [.lit (.bool false)], args := [d] }
  | _ => none }
def FnStandsWrongFalsely : Prop := fnStandsRow.holds Tryz.pinned (OpenSpec.ofChange fnStandsWrong)

/-- 'laws.FnOrder': WHATEVER THE INPUT: true; the input reads as it did. -/
def fnOrderSpec : ChangeSpec := { name := "fnOrder", fn := fun _ => fun
  | [d1, d2] => { results := [.lit (.bool true)], args := [d1, d2] }
  | _ => none }
def fnOrderRow : OpenClaim := { program := "ytkbebmifpccofaagreat", sum := "ad3887f803817f290d3e3c47719f29f7779e713d79ebf8c85b865badef259c20", func := "loop.example/g00175/laws.FnOrder", spec := "fnOrder", inPlace := ["internal/bytealg.IndexByteString"], unfollowed := true, recurses := true, apart := false }
def FnOrderSaid : Prop := fnOrderRow.holds Tryz.pinned (OpenSpec.ofChange fnOrderSpec)

/-- ITS FALSE NEIGHBOUR: 'it returns false'. Refute it at one input. -/
def fnOrderWrong : ChangeSpec := { name := "fnOrder", fn := fun _ => fun
  | [d1, d2] => { results := [.lit (.bool false)], args := [d1, d2] }
  | _ => none }
def FnOrderWrongFalsely : Prop := fnOrderRow.holds Tryz.pinned (OpenSpec.ofChange fnOrderWrong)

/-- 'laws.FnFields': WHATEVER THE INPUT: true; the input reads as it did. -/
def fnFieldsSpec : ChangeSpec := { name := "fnFields", fn := fun _ => fun
  | [d] => { results := [.lit (.bool true)], args := [d] }
  | _ => none }
def fnFieldsRow : OpenClaim := { program := "ytkbebmifpccofaagreat", sum := "ad3887f803817f290d3e3c47719f29f7779e713d79ebf8c85b865badef259c20", func := "loop.example/g00175/laws.FnFields", spec := "fnFields", inPlace := ["internal/bytealg.IndexByteString"], unfollowed := true, recurses := true, apart := false }
def FnFieldsSaid : Prop := fnFieldsRow.holds Tryz.pinned (OpenSpec.ofChange fnFieldsSpec)

/-- ITS FALSE NEIGHBOUR: 'it returns false'. Refute it at one input. -/
def fnFieldsWrong : ChangeSpec := { name := "fnFields", fn := fun _ => fun
  | [d] => { results := [.lit (.bool false)], args := [d] }
  | _ => none }
def FnFieldsWrongFalsely : Prop := fnFieldsRow.holds Tryz.pinned (OpenSpec.ofChange fnFieldsWrong)

/- THE SECOND FORM. 'bulk': how many values and letters a reading holds, each counted each time it is reached (what is shared counts as often as it is met; a slice's spare places count too). A statement '..UptoSaid' is the law's where the arguments, and the package variables that the reading takes, are together of bulk at most 1048576: NARROWER than '..Said'. Prove '..Said' where nothing that the law and all that it calls make is longer than what came in: it says more and counts as full. Else prove '..UptoSaid'. A law counts once. -/
mutual
def uptoBulk {H : Type} : DataW H → Nat
  | .lit (.string bytes) => bytes.length + 1
  | .lit _ => 1
  | .nil => 1
  | .ptr d => uptoBulk d + 1
  | .slice elems spare => uptoBulkAll elems + uptoBulkAll spare + 1
  | .agg parts => uptoBulkAll parts + 1
  | .iface _ d => uptoBulk d + 1
  | .map entries => uptoBulkEntries entries + 1
  | .held _ => 1
def uptoBulkAll {H : Type} : List (DataW H) → Nat
  | [] => 0
  | d :: r => uptoBulk d + uptoBulkAll r
def uptoBulkEntries {H : Type} : List (Lit × DataW H) → Nat
  | [] => 0
  | x :: r => uptoBulkEntry x + uptoBulkEntries r
def uptoBulkEntry {H : Type} : Lit × DataW H → Nat
  | (.string bytes, d) => bytes.length + uptoBulk d + 1
  | (_, d) => uptoBulk d + 1
 end
def uptoSmall : (H : Type) → List (DataW H) → Bool := fun _ ds => decide (uptoBulkAll ds ≤ 1048576)
def OpenSpec.upto (s : _root_.Go.ChangeSpec) : _root_.Go.OpenSpec := { _root_.Go.OpenSpec.ofChange s with cond := some uptoSmall }

/-- 'laws.FnClassCut', WHERE WHAT IT READS IS OF BULK AT MOST 1048576: true; the input reads as it did. -/
def fnClassCutUptoRow : OpenClaim := { program := "ytkbebmifpccofaagreat", sum := "ad3887f803817f290d3e3c47719f29f7779e713d79ebf8c85b865badef259c20", func := "loop.example/g00175/laws.FnClassCut", spec := "fnClassCut", inPlace := ["internal/bytealg.IndexByteString"], unfollowed := true, recurses := true, apart := false, narrowed := true }
def FnClassCutUptoSaid : Prop := fnClassCutUptoRow.holds Tryz.pinned (OpenSpec.upto fnClassCutSpec)

/-- 'laws.FnExactClassRead', WHERE WHAT IT READS IS OF BULK AT MOST 1048576: true; the input reads as it did. -/
def fnExactClassReadUptoRow : OpenClaim := { program := "ytkbebmifpccofaagreat", sum := "ad3887f803817f290d3e3c47719f29f7779e713d79ebf8c85b865badef259c20", func := "loop.example/g00175/laws.FnExactClassRead", spec := "fnExactClassRead", inPlace := ["internal/bytealg.IndexByteString"], unfollowed := true, recurses := true, apart := false, narrowed := true }
def FnExactClassReadUptoSaid : Prop := fnExactClassReadUptoRow.holds Tryz.pinned (OpenSpec.upto fnExactClassReadSpec)

/-- 'laws.FnFindMethod', WHERE WHAT IT READS IS OF BULK AT MOST 1048576: true; the input reads as it did. -/
def fnFindMethodUptoRow : OpenClaim := { program := "ytkbebmifpccofaagreat", sum := "ad3887f803817f290d3e3c47719f29f7779e713d79ebf8c85b865badef259c20", func := "loop.example/g00175/laws.FnFindMethod", spec := "fnFindMethod", inPlace := ["internal/bytealg.IndexByteString"], unfollowed := true, recurses := true, apart := false, narrowed := true }
def FnFindMethodUptoSaid : Prop := fnFindMethodUptoRow.holds Tryz.pinned (OpenSpec.upto fnFindMethodSpec)

/-- 'laws.FnCommon', WHERE WHAT IT READS IS OF BULK AT MOST 1048576: true; the input reads as it did. -/
def fnCommonUptoRow : OpenClaim := { program := "ytkbebmifpccofaagreat", sum := "ad3887f803817f290d3e3c47719f29f7779e713d79ebf8c85b865badef259c20", func := "loop.example/g00175/laws.FnCommon", spec := "fnCommon", inPlace := ["internal/bytealg.IndexByteString"], unfollowed := true, recurses := true, apart := false, narrowed := true }
def FnCommonUptoSaid : Prop := fnCommonUptoRow.holds Tryz.pinned (OpenSpec.upto fnCommonSpec)

/-- 'laws.FnStands', WHERE WHAT IT READS IS OF BULK AT MOST 1048576: true; the input reads as it did. -/
def fnStandsUptoRow : OpenClaim := { program := "ytkbebmifpccofaagreat", sum := "ad3887f803817f290d3e3c47719f29f7779e713d79ebf8c85b865badef259c20", func := "loop.example/g00175/laws.FnStands", spec := "fnStands", inPlace := ["internal/bytealg.IndexByteString"], unfollowed := true, recurses := true, apart := false, narrowed := true }
def FnStandsUptoSaid : Prop := fnStandsUptoRow.holds Tryz.pinned (OpenSpec.upto fnStandsSpec)

/-- 'laws.FnOrder', WHERE WHAT IT READS IS OF BULK AT MOST 1048576: true; the input reads as it did. -/
def fnOrderUptoRow : OpenClaim := { program := "ytkbebmifpccofaagreat", sum := "ad3887f803817f290d3e3c47719f29f7779e713d79ebf8c85b865badef259c20", func := "loop.example/g00175/laws.FnOrder", spec := "fnOrder", inPlace := ["internal/bytealg.IndexByteString"], unfollowed := true, recurses := true, apart := false, narrowed := true }
def FnOrderUptoSaid : Prop := fnOrderUptoRow.holds Tryz.pinned (OpenSpec.upto fnOrderSpec)

/-- 'laws.FnFields', WHERE WHAT IT READS IS OF BULK AT MOST 1048576: true; the input reads as it did. -/
def fnFieldsUptoRow : OpenClaim := { program := "ytkbebmifpccofaagreat", sum := "ad3887f803817f290d3e3c47719f29f7779e713d79ebf8c85b865badef259c20", func := "loop.example/g00175/laws.FnFields", spec := "fnFields", inPlace := ["internal/bytealg.IndexByteString"], unfollowed := true, recurses := true, apart := false, narrowed := true }
def FnFieldsUptoSaid : Prop := fnFieldsUptoRow.holds Tryz.pinned (OpenSpec.upto fnFieldsSpec)

end Rows
end Go.Proofs.YtkbebmifpccofaaGreat
