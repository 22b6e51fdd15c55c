/-
  DERIVED. GIVEN WITH THE SEED: THE CARDS: each row of YtcpnlfkmfpmkdaaGreatDoorRows.lean that lists a variable, with what it lists TIED to the program's text (the seventh form; the later family's looks); each row that meets fmt, with fmt's text TOLD by the authors' own Lean function (tested against real Go, not proved from fmt's source: count such statements apart). THE CARD IS WHAT COUNTS. Prove the row's statement (the work); the ties are given (YtcpnlfkmfpmkdaaGreatDoorTie.lean); close each card by the builder's one call (the guide's Derived/Test/ToyasCard.lean, 'card_holds'). Laid BY PROGRAM, IN A SANDBOX (cutbox-door.mjs). By AI agents, Wed Nov 11 2026. No macro, syntax, notation, axiom, sorry.
-/
import Derived.Test.YtcpnlfkmfpmkdaaGreatDoorRows
import GoSem.ClaimSeven
namespace Go.Proofs.YtcpnlfkmfpmkdaaGreatDoor
namespace Rows

/-- THE TIED CARD OF 'laws.FnExactClassText'. -/
def fnExactClassTextCard : Claim7 := { stood := { row := fnExactClassTextRow, standIns := [], harness := (true, "7e14fb9f5321677294dcb2b4fb858e8d9ce583b4632005dd5c7eb73c9eab93ef"), looks := true }, kinds := [], alts := [], laidByText := true, laidKinds := [.data, .data, .data], laidTests := true, laidLooks := .later }
def FnExactClassTextCardSaid : Prop := Claim7.holds Tryz.pinned (.plain (OpenSpec.ofChange fnExactClassTextSpec)) fnExactClassTextCard

/-- THE TIED CARD OF 'laws.FnExactWorldText'. -/
def fnExactWorldTextCard : Claim7 := { stood := { row := fnExactWorldTextRow, standIns := [], harness := (true, "7e14fb9f5321677294dcb2b4fb858e8d9ce583b4632005dd5c7eb73c9eab93ef"), looks := true }, kinds := [], alts := [], laidByText := true, laidKinds := [.data, .data, .data], laidTests := true, laidLooks := .later }
def FnExactWorldTextCardSaid : Prop := Claim7.holds Tryz.pinned (.plain (OpenSpec.ofChange fnExactWorldTextSpec)) fnExactWorldTextCard

/-- THE TIED CARD OF 'laws.FnInsText'. -/
def fnInsTextCard : Claim7 := { stood := { row := fnInsTextRow, standIns := [], harness := (true, "7e14fb9f5321677294dcb2b4fb858e8d9ce583b4632005dd5c7eb73c9eab93ef"), looks := true }, kinds := [], alts := [], laidByText := true, laidKinds := [.data, .data, .data, .data, .sentinel, .sentinel, .pinned], laidTests := true, laidLooks := .later }
def FnInsTextCardSaid : Prop := Claim7.holds Tryz.pinned (.plain (OpenSpec.ofChange fnInsTextSpec)) fnInsTextCard

/-- THE SECOND FORM's CARD OF 'laws.FnExactClassText'. -/
def fnExactClassTextUptoCard : Claim7 := { stood := { row := fnExactClassTextUptoRow, standIns := [], harness := (true, "7e14fb9f5321677294dcb2b4fb858e8d9ce583b4632005dd5c7eb73c9eab93ef"), looks := true }, kinds := [], alts := [], laidByText := true, laidKinds := [.data, .data, .data], laidTests := true, laidLooks := .later }
def FnExactClassTextUptoCardSaid : Prop := Claim7.holds Tryz.pinned (.plain (OpenSpec.upto fnExactClassTextSpec)) fnExactClassTextUptoCard

/-- THE SECOND FORM's CARD OF 'laws.FnExactWorldText'. -/
def fnExactWorldTextUptoCard : Claim7 := { stood := { row := fnExactWorldTextUptoRow, standIns := [], harness := (true, "7e14fb9f5321677294dcb2b4fb858e8d9ce583b4632005dd5c7eb73c9eab93ef"), looks := true }, kinds := [], alts := [], laidByText := true, laidKinds := [.data, .data, .data], laidTests := true, laidLooks := .later }
def FnExactWorldTextUptoCardSaid : Prop := Claim7.holds Tryz.pinned (.plain (OpenSpec.upto fnExactWorldTextSpec)) fnExactWorldTextUptoCard

/-- THE SECOND FORM's CARD OF 'laws.FnInsText'. -/
def fnInsTextUptoCard : Claim7 := { stood := { row := fnInsTextUptoRow, standIns := [], harness := (true, "7e14fb9f5321677294dcb2b4fb858e8d9ce583b4632005dd5c7eb73c9eab93ef"), looks := true }, kinds := [], alts := [], laidByText := true, laidKinds := [.data, .data, .data, .data, .sentinel, .sentinel, .pinned], laidTests := true, laidLooks := .later }
def FnInsTextUptoCardSaid : Prop := Claim7.holds Tryz.pinned (.plain (OpenSpec.upto fnInsTextSpec)) fnInsTextUptoCard
end Rows
end Go.Proofs.YtcpnlfkmfpmkdaaGreatDoor
