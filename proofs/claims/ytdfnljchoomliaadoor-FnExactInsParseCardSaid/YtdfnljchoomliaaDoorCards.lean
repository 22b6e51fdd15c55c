/-
  DERIVED. GIVEN WITH THE SEED: THE CARDS: each row of YtdfnljchoomliaaDoorRows.lean that lists a variable, with what it lists TIED to the program's text (the seventh form; the later family's looks); each row that meets fmt, with fmt's text TOLD by the authors' own Lean function (tested against real Go, not proved from fmt's source: count such statements apart). THE CARD IS WHAT COUNTS. Prove the row's statement (the work); the ties are given (YtdfnljchoomliaaDoorTie.lean); close each card by the builder's one call (the guide's Derived/Test/ToyasCard.lean, 'card_holds'). Laid BY PROGRAM, IN A SANDBOX (cutbox-door.mjs). By AI agents, Wed Nov 11 2026. No macro, syntax, notation, axiom, sorry.
-/
import Derived.Test.YtdfnljchoomliaaDoorRows
import GoSem.ClaimSeven
namespace Go.Proofs.YtdfnljchoomliaaDoor
namespace Rows

/-- THE TIED CARD OF 'laws.FnExactTypeShown'. -/
def fnExactTypeShownCard : Claim7 := { stood := { row := fnExactTypeShownRow, standIns := [], harness := (true, "65ff11f5d8e3d804a6ec16253d68009ee41c42991dc6e1e72e5eca258e386074"), looks := true }, kinds := [], alts := [], laidByText := true, laidKinds := [.data, .data, .data], laidTests := true, laidLooks := .later }
def FnExactTypeShownCardSaid : Prop := Claim7.holds Tryd.pinned (.plain (OpenSpec.ofChange fnExactTypeShownSpec)) fnExactTypeShownCard

/-- THE TIED CARD OF 'laws.FnExactFrameShown'. -/
def fnExactFrameShownCard : Claim7 := { stood := { row := fnExactFrameShownRow, standIns := [], harness := (true, "65ff11f5d8e3d804a6ec16253d68009ee41c42991dc6e1e72e5eca258e386074"), looks := true }, kinds := [], alts := [], laidByText := true, laidKinds := [.data, .data, .data], laidTests := true, laidLooks := .later }
def FnExactFrameShownCardSaid : Prop := Claim7.holds Tryd.pinned (.plain (OpenSpec.ofChange fnExactFrameShownSpec)) fnExactFrameShownCard

/-- THE TIED CARD OF 'laws.FnExactInsText'. -/
def fnExactInsTextCard : Claim7 := { stood := { row := fnExactInsTextRow, standIns := [], harness := (true, "65ff11f5d8e3d804a6ec16253d68009ee41c42991dc6e1e72e5eca258e386074"), looks := true }, kinds := [], alts := [], laidByText := true, laidKinds := [.data, .data, .data], laidTests := true, laidLooks := .later }
def FnExactInsTextCardSaid : Prop := Claim7.holds Tryd.pinned (.plain (OpenSpec.ofChange fnExactInsTextSpec)) fnExactInsTextCard

/-- THE TIED CARD OF 'laws.FnExactInsParse'. -/
def fnExactInsParseCard : Claim7 := { stood := { row := fnExactInsParseRow, standIns := [], harness := (true, "65ff11f5d8e3d804a6ec16253d68009ee41c42991dc6e1e72e5eca258e386074"), looks := true }, kinds := [], alts := [], laidByText := true, laidKinds := [.data, .data, .data, .data, .sentinel, .sentinel, .pinned], laidTests := true, laidLooks := .later }
def FnExactInsParseCardSaid : Prop := Claim7.holds Tryd.pinned (.plain (OpenSpec.ofChange fnExactInsParseSpec)) fnExactInsParseCard

/-- THE SECOND FORM's CARD OF 'laws.FnExactTypeShown'. -/
def fnExactTypeShownUptoCard : Claim7 := { stood := { row := fnExactTypeShownUptoRow, standIns := [], harness := (true, "65ff11f5d8e3d804a6ec16253d68009ee41c42991dc6e1e72e5eca258e386074"), looks := true }, kinds := [], alts := [], laidByText := true, laidKinds := [.data, .data, .data], laidTests := true, laidLooks := .later }
def FnExactTypeShownUptoCardSaid : Prop := Claim7.holds Tryd.pinned (.plain (OpenSpec.upto fnExactTypeShownSpec)) fnExactTypeShownUptoCard

/-- THE SECOND FORM's CARD OF 'laws.FnExactFrameShown'. -/
def fnExactFrameShownUptoCard : Claim7 := { stood := { row := fnExactFrameShownUptoRow, standIns := [], harness := (true, "65ff11f5d8e3d804a6ec16253d68009ee41c42991dc6e1e72e5eca258e386074"), looks := true }, kinds := [], alts := [], laidByText := true, laidKinds := [.data, .data, .data], laidTests := true, laidLooks := .later }
def FnExactFrameShownUptoCardSaid : Prop := Claim7.holds Tryd.pinned (.plain (OpenSpec.upto fnExactFrameShownSpec)) fnExactFrameShownUptoCard

/-- THE SECOND FORM's CARD OF 'laws.FnExactInsText'. -/
def fnExactInsTextUptoCard : Claim7 := { stood := { row := fnExactInsTextUptoRow, standIns := [], harness := (true, "65ff11f5d8e3d804a6ec16253d68009ee41c42991dc6e1e72e5eca258e386074"), looks := true }, kinds := [], alts := [], laidByText := true, laidKinds := [.data, .data, .data], laidTests := true, laidLooks := .later }
def FnExactInsTextUptoCardSaid : Prop := Claim7.holds Tryd.pinned (.plain (OpenSpec.upto fnExactInsTextSpec)) fnExactInsTextUptoCard

/-- THE SECOND FORM's CARD OF 'laws.FnExactInsParse'. -/
def fnExactInsParseUptoCard : Claim7 := { stood := { row := fnExactInsParseUptoRow, standIns := [], harness := (true, "65ff11f5d8e3d804a6ec16253d68009ee41c42991dc6e1e72e5eca258e386074"), looks := true }, kinds := [], alts := [], laidByText := true, laidKinds := [.data, .data, .data, .data, .sentinel, .sentinel, .pinned], laidTests := true, laidLooks := .later }
def FnExactInsParseUptoCardSaid : Prop := Claim7.holds Tryd.pinned (.plain (OpenSpec.upto fnExactInsParseSpec)) fnExactInsParseUptoCard
end Rows
end Go.Proofs.YtdfnljchoomliaaDoor
