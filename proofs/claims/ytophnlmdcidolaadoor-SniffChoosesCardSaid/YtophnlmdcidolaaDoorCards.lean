/-
  DERIVED. GIVEN WITH THE SEED: THE CARDS: each row of YtophnlmdcidolaaDoorRows.lean that lists a variable, with what it lists TIED to the program's text (the seventh form; the later family's looks); each row that meets fmt, with fmt's text TOLD by the authors' own Lean function (tested against real Go, not proved from fmt's source: count such statements apart). THE CARD IS WHAT COUNTS. Prove the row's statement (the work); the ties are given (YtophnlmdcidolaaDoorTie.lean); close each card by the builder's one call (the guide's Derived/Test/ToyasCard.lean, 'card_holds'). Laid BY PROGRAM, IN A SANDBOX (cutbox-door.mjs). By AI agents, Wed Nov 11 2026. No macro, syntax, notation, axiom, sorry.
-/
import Derived.Test.YtophnlmdcidolaaDoorRows
import GoSem.ClaimSeven
namespace Go.Proofs.YtophnlmdcidolaaDoor
namespace Rows

/-- THE TIED CARD OF 'beadlelaw01.SniffChooses'. -/
def sniffChoosesCard : Claim7 := { stood := { row := sniffChoosesRow, standIns := [], harness := (true, "54cd7bc3838870844985cf4fbde2f32d9b0c8f771d714bdb04e69aca85d9a319"), looks := false }, kinds := [], alts := [], laidByText := true, laidKinds := [.data, .pinned], laidTests := true, laidLooks := .later }
def SniffChoosesCardSaid : Prop := Claim7.holds Tryd.pinned (.plain (OpenSpec.ofChange sniffChoosesSpec)) sniffChoosesCard

/-- THE TIED CARD OF 'beadletop.TopTold'. -/
def topToldCard : Claim7 := { stood := { row := topToldRow, standIns := [], harness := (true, "54cd7bc3838870844985cf4fbde2f32d9b0c8f771d714bdb04e69aca85d9a319"), looks := false }, kinds := [], alts := [], laidByText := true, laidKinds := [.data, .pinned], laidTests := true, laidLooks := .later }
def TopToldCardSaid : Prop := Claim7.holds Tryd.pinned (.plain (OpenSpec.ofChange topToldSpec)) topToldCard

/-- THE TIED CARD OF 'beadletop.TopSame'. -/
def topSameCard : Claim7 := { stood := { row := topSameRow, standIns := [], harness := (true, "54cd7bc3838870844985cf4fbde2f32d9b0c8f771d714bdb04e69aca85d9a319"), looks := false }, kinds := [], alts := [], laidByText := true, laidKinds := [.data, .pinned], laidTests := true, laidLooks := .later }
def TopSameCardSaid : Prop := Claim7.holds Tryd.pinned (.plain (OpenSpec.ofChange topSameSpec)) topSameCard

/-- THE TIED CARD OF 'beadletop.TopLines'. -/
def topLinesCard : Claim7 := { stood := { row := topLinesRow, standIns := [], harness := (true, "54cd7bc3838870844985cf4fbde2f32d9b0c8f771d714bdb04e69aca85d9a319"), looks := false }, kinds := [], alts := [], laidByText := true, laidKinds := [.data, .pinned], laidTests := true, laidLooks := .later }
def TopLinesCardSaid : Prop := Claim7.holds Tryd.pinned (.plain (OpenSpec.ofChange topLinesSpec)) topLinesCard

/-- THE SECOND FORM's CARD OF 'beadlelaw01.SniffChooses'. -/
def sniffChoosesUptoCard : Claim7 := { stood := { row := sniffChoosesUptoRow, standIns := [], harness := (true, "54cd7bc3838870844985cf4fbde2f32d9b0c8f771d714bdb04e69aca85d9a319"), looks := false }, kinds := [], alts := [], laidByText := true, laidKinds := [.data, .pinned], laidTests := true, laidLooks := .later }
def SniffChoosesUptoCardSaid : Prop := Claim7.holds Tryd.pinned (.plain (OpenSpec.upto sniffChoosesSpec)) sniffChoosesUptoCard

/-- THE SECOND FORM's CARD OF 'beadletop.TopTold'. -/
def topToldUptoCard : Claim7 := { stood := { row := topToldUptoRow, standIns := [], harness := (true, "54cd7bc3838870844985cf4fbde2f32d9b0c8f771d714bdb04e69aca85d9a319"), looks := false }, kinds := [], alts := [], laidByText := true, laidKinds := [.data, .pinned], laidTests := true, laidLooks := .later }
def TopToldUptoCardSaid : Prop := Claim7.holds Tryd.pinned (.plain (OpenSpec.upto topToldSpec)) topToldUptoCard

/-- THE SECOND FORM's CARD OF 'beadletop.TopSame'. -/
def topSameUptoCard : Claim7 := { stood := { row := topSameUptoRow, standIns := [], harness := (true, "54cd7bc3838870844985cf4fbde2f32d9b0c8f771d714bdb04e69aca85d9a319"), looks := false }, kinds := [], alts := [], laidByText := true, laidKinds := [.data, .pinned], laidTests := true, laidLooks := .later }
def TopSameUptoCardSaid : Prop := Claim7.holds Tryd.pinned (.plain (OpenSpec.upto topSameSpec)) topSameUptoCard

/-- THE SECOND FORM's CARD OF 'beadletop.TopLines'. -/
def topLinesUptoCard : Claim7 := { stood := { row := topLinesUptoRow, standIns := [], harness := (true, "54cd7bc3838870844985cf4fbde2f32d9b0c8f771d714bdb04e69aca85d9a319"), looks := false }, kinds := [], alts := [], laidByText := true, laidKinds := [.data, .pinned], laidTests := true, laidLooks := .later }
def TopLinesUptoCardSaid : Prop := Claim7.holds Tryd.pinned (.plain (OpenSpec.upto topLinesSpec)) topLinesUptoCard
end Rows
end Go.Proofs.YtophnlmdcidolaaDoor
