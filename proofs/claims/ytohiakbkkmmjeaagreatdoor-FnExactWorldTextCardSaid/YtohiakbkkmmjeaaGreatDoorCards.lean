/-
  DERIVED. GIVEN WITH THE SEED: THE CARDS: each row of YtohiakbkkmmjeaaGreatDoorRows.lean that lists a variable, with what it lists TIED to the program's text (the seventh form; the later family's looks); each row that meets fmt, with fmt's text TOLD by the authors' own Lean function (tested against real Go, not proved from fmt's source: count such statements apart). THE CARD IS WHAT COUNTS. Prove the row's statement (the work); the ties are given (YtohiakbkkmmjeaaGreatDoorTie.lean); close each card by the builder's one call (the guide's Derived/Test/ToyasCard.lean, 'card_holds'). Laid BY PROGRAM, IN A SANDBOX (cutbox-door.mjs). By AI agents, Wed Nov 11 2026. No macro, syntax, notation, axiom, sorry.
-/
import Derived.Test.YtohiakbkkmmjeaaGreatDoorRows
import GoSem.ClaimSeven
namespace Go.Proofs.YtohiakbkkmmjeaaGreatDoor
namespace Rows

/-- THE TIED CARD OF 'laws.FnExactClassText'. -/
def fnExactClassTextCard : Claim7 := { stood := { row := fnExactClassTextRow, standIns := [], harness := (true, "ff9cc9d7c9b2ba254d6f83a90a50f2aec047b0613e0bf71aca56ead46a56e56a"), looks := false }, kinds := [], alts := [], laidByText := true, laidKinds := [.data, .data, .data], laidTests := true, laidLooks := .later }
def FnExactClassTextCardSaid : Prop := Claim7.holds Tryz.pinned (.plain (OpenSpec.ofChange fnExactClassTextSpec)) fnExactClassTextCard

/-- THE TIED CARD OF 'laws.FnExactWorldText'. -/
def fnExactWorldTextCard : Claim7 := { stood := { row := fnExactWorldTextRow, standIns := [], harness := (true, "ff9cc9d7c9b2ba254d6f83a90a50f2aec047b0613e0bf71aca56ead46a56e56a"), looks := false }, kinds := [], alts := [], laidByText := true, laidKinds := [.data, .data, .data], laidTests := true, laidLooks := .later }
def FnExactWorldTextCardSaid : Prop := Claim7.holds Tryz.pinned (.plain (OpenSpec.ofChange fnExactWorldTextSpec)) fnExactWorldTextCard

/-- THE SECOND FORM's CARD OF 'laws.FnExactClassText'. -/
def fnExactClassTextUptoCard : Claim7 := { stood := { row := fnExactClassTextUptoRow, standIns := [], harness := (true, "ff9cc9d7c9b2ba254d6f83a90a50f2aec047b0613e0bf71aca56ead46a56e56a"), looks := false }, kinds := [], alts := [], laidByText := true, laidKinds := [.data, .data, .data], laidTests := true, laidLooks := .later }
def FnExactClassTextUptoCardSaid : Prop := Claim7.holds Tryz.pinned (.plain (OpenSpec.upto fnExactClassTextSpec)) fnExactClassTextUptoCard

/-- THE SECOND FORM's CARD OF 'laws.FnExactWorldText'. -/
def fnExactWorldTextUptoCard : Claim7 := { stood := { row := fnExactWorldTextUptoRow, standIns := [], harness := (true, "ff9cc9d7c9b2ba254d6f83a90a50f2aec047b0613e0bf71aca56ead46a56e56a"), looks := false }, kinds := [], alts := [], laidByText := true, laidKinds := [.data, .data, .data], laidTests := true, laidLooks := .later }
def FnExactWorldTextUptoCardSaid : Prop := Claim7.holds Tryz.pinned (.plain (OpenSpec.upto fnExactWorldTextSpec)) fnExactWorldTextUptoCard
end Rows
end Go.Proofs.YtohiakbkkmmjeaaGreatDoor
