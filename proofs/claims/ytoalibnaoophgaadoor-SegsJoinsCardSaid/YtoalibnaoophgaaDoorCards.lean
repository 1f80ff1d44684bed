/-
  DERIVED. GIVEN WITH THE SEED: THE CARDS: each row of YtoalibnaoophgaaDoorRows.lean that lists a variable, with what it lists TIED to the program's text (the seventh form; the later family's looks); each row that meets fmt, with fmt's text TOLD by the authors' own Lean function (tested against real Go, not proved from fmt's source: count such statements apart). THE CARD IS WHAT COUNTS. Prove the row's statement (the work); the ties are given (YtoalibnaoophgaaDoorTie.lean); close each card by the builder's one call (the guide's Derived/Test/ToyasCard.lean, 'card_holds'). Laid BY PROGRAM, IN A SANDBOX (cutbox-door.mjs). By AI agents, Wed Nov 11 2026. No macro, syntax, notation, axiom, sorry.
-/
import Derived.Test.YtoalibnaoophgaaDoorRows
import GoSem.ClaimSeven
namespace Go.Proofs.YtoalibnaoophgaaDoor
namespace Rows

/-- THE TIED CARD OF 'monikerlaw31.SegsParse'. -/
def segsParseCard : Claim7 := { stood := { row := segsParseRow, standIns := [], harness := (true, "08e105c1772950f4686e4b1e6f3380a74dba311b8d71e15e2cf4de40db8a8f3f"), looks := false }, kinds := [], alts := [], laidByText := true, laidKinds := [.data, .pinned], laidTests := true, laidLooks := .later }
def SegsParseCardSaid : Prop := Claim7.holds Tryd.pinned (.plain (OpenSpec.ofChange segsParseSpec)) segsParseCard

/-- THE TIED CARD OF 'monikerlaw31.SegsTexts'. -/
def segsTextsCard : Claim7 := { stood := { row := segsTextsRow, standIns := [], harness := (true, "08e105c1772950f4686e4b1e6f3380a74dba311b8d71e15e2cf4de40db8a8f3f"), looks := false }, kinds := [], alts := [], laidByText := true, laidKinds := [.data, .pinned], laidTests := true, laidLooks := .later }
def SegsTextsCardSaid : Prop := Claim7.holds Tryd.pinned (.plain (OpenSpec.ofChange segsTextsSpec)) segsTextsCard

/-- THE TIED CARD OF 'monikerlaw31.SegsParts'. -/
def segsPartsCard : Claim7 := { stood := { row := segsPartsRow, standIns := [], harness := (true, "08e105c1772950f4686e4b1e6f3380a74dba311b8d71e15e2cf4de40db8a8f3f"), looks := false }, kinds := [], alts := [], laidByText := true, laidKinds := [.data, .pinned], laidTests := true, laidLooks := .later }
def SegsPartsCardSaid : Prop := Claim7.holds Tryd.pinned (.plain (OpenSpec.ofChange segsPartsSpec)) segsPartsCard

/-- THE TIED CARD OF 'monikerlaw32.QueryParses'. -/
def queryParsesCard : Claim7 := { stood := { row := queryParsesRow, standIns := [], harness := (true, "08e105c1772950f4686e4b1e6f3380a74dba311b8d71e15e2cf4de40db8a8f3f"), looks := false }, kinds := [], alts := [], laidByText := true, laidKinds := [.data, .pinned], laidTests := true, laidLooks := .later }
def QueryParsesCardSaid : Prop := Claim7.holds Tryd.pinned (.plain (OpenSpec.ofChange queryParsesSpec)) queryParsesCard

/-- THE TIED CARD OF 'monikerlaw32.QueryTexts'. -/
def queryTextsCard : Claim7 := { stood := { row := queryTextsRow, standIns := [], harness := (true, "08e105c1772950f4686e4b1e6f3380a74dba311b8d71e15e2cf4de40db8a8f3f"), looks := false }, kinds := [], alts := [], laidByText := true, laidKinds := [.data, .pinned], laidTests := true, laidLooks := .later }
def QueryTextsCardSaid : Prop := Claim7.holds Tryd.pinned (.plain (OpenSpec.ofChange queryTextsSpec)) queryTextsCard

/-- THE TIED CARD OF 'monikerlaw32.QueryFull'. -/
def queryFullCard : Claim7 := { stood := { row := queryFullRow, standIns := [], harness := (true, "08e105c1772950f4686e4b1e6f3380a74dba311b8d71e15e2cf4de40db8a8f3f"), looks := false }, kinds := [], alts := [], laidByText := true, laidKinds := [.data, .pinned], laidTests := true, laidLooks := .later }
def QueryFullCardSaid : Prop := Claim7.holds Tryd.pinned (.plain (OpenSpec.ofChange queryFullSpec)) queryFullCard

/-- THE TIED CARD OF 'monikerlaw31.SegsJoins'. -/
def segsJoinsCard : Claim7 := { stood := { row := segsJoinsRow, standIns := [], harness := (true, "08e105c1772950f4686e4b1e6f3380a74dba311b8d71e15e2cf4de40db8a8f3f"), looks := false }, kinds := [], alts := [], laidByText := true, laidKinds := [.data, .pinned], laidTests := true, laidLooks := .later }
def SegsJoinsCardSaid : Prop := Claim7.holds Tryd.pinned (.plain (OpenSpec.ofChange segsJoinsSpec)) segsJoinsCard

/-- THE TIED CARD OF 'monikerlaw32.QueryAsks'. -/
def queryAsksCard : Claim7 := { stood := { row := queryAsksRow, standIns := [], harness := (true, "08e105c1772950f4686e4b1e6f3380a74dba311b8d71e15e2cf4de40db8a8f3f"), looks := false }, kinds := [], alts := [], laidByText := true, laidKinds := [.data, .pinned], laidTests := true, laidLooks := .later }
def QueryAsksCardSaid : Prop := Claim7.holds Tryd.pinned (.plain (OpenSpec.ofChange queryAsksSpec)) queryAsksCard

/-- THE SECOND FORM's CARD OF 'monikerlaw31.SegsParse'. -/
def segsParseUptoCard : Claim7 := { stood := { row := segsParseUptoRow, standIns := [], harness := (true, "08e105c1772950f4686e4b1e6f3380a74dba311b8d71e15e2cf4de40db8a8f3f"), looks := false }, kinds := [], alts := [], laidByText := true, laidKinds := [.data, .pinned], laidTests := true, laidLooks := .later }
def SegsParseUptoCardSaid : Prop := Claim7.holds Tryd.pinned (.plain (OpenSpec.upto segsParseSpec)) segsParseUptoCard

/-- THE SECOND FORM's CARD OF 'monikerlaw31.SegsTexts'. -/
def segsTextsUptoCard : Claim7 := { stood := { row := segsTextsUptoRow, standIns := [], harness := (true, "08e105c1772950f4686e4b1e6f3380a74dba311b8d71e15e2cf4de40db8a8f3f"), looks := false }, kinds := [], alts := [], laidByText := true, laidKinds := [.data, .pinned], laidTests := true, laidLooks := .later }
def SegsTextsUptoCardSaid : Prop := Claim7.holds Tryd.pinned (.plain (OpenSpec.upto segsTextsSpec)) segsTextsUptoCard

/-- THE SECOND FORM's CARD OF 'monikerlaw31.SegsParts'. -/
def segsPartsUptoCard : Claim7 := { stood := { row := segsPartsUptoRow, standIns := [], harness := (true, "08e105c1772950f4686e4b1e6f3380a74dba311b8d71e15e2cf4de40db8a8f3f"), looks := false }, kinds := [], alts := [], laidByText := true, laidKinds := [.data, .pinned], laidTests := true, laidLooks := .later }
def SegsPartsUptoCardSaid : Prop := Claim7.holds Tryd.pinned (.plain (OpenSpec.upto segsPartsSpec)) segsPartsUptoCard

/-- THE SECOND FORM's CARD OF 'monikerlaw32.QueryParses'. -/
def queryParsesUptoCard : Claim7 := { stood := { row := queryParsesUptoRow, standIns := [], harness := (true, "08e105c1772950f4686e4b1e6f3380a74dba311b8d71e15e2cf4de40db8a8f3f"), looks := false }, kinds := [], alts := [], laidByText := true, laidKinds := [.data, .pinned], laidTests := true, laidLooks := .later }
def QueryParsesUptoCardSaid : Prop := Claim7.holds Tryd.pinned (.plain (OpenSpec.upto queryParsesSpec)) queryParsesUptoCard

/-- THE SECOND FORM's CARD OF 'monikerlaw32.QueryTexts'. -/
def queryTextsUptoCard : Claim7 := { stood := { row := queryTextsUptoRow, standIns := [], harness := (true, "08e105c1772950f4686e4b1e6f3380a74dba311b8d71e15e2cf4de40db8a8f3f"), looks := false }, kinds := [], alts := [], laidByText := true, laidKinds := [.data, .pinned], laidTests := true, laidLooks := .later }
def QueryTextsUptoCardSaid : Prop := Claim7.holds Tryd.pinned (.plain (OpenSpec.upto queryTextsSpec)) queryTextsUptoCard

/-- THE SECOND FORM's CARD OF 'monikerlaw32.QueryFull'. -/
def queryFullUptoCard : Claim7 := { stood := { row := queryFullUptoRow, standIns := [], harness := (true, "08e105c1772950f4686e4b1e6f3380a74dba311b8d71e15e2cf4de40db8a8f3f"), looks := false }, kinds := [], alts := [], laidByText := true, laidKinds := [.data, .pinned], laidTests := true, laidLooks := .later }
def QueryFullUptoCardSaid : Prop := Claim7.holds Tryd.pinned (.plain (OpenSpec.upto queryFullSpec)) queryFullUptoCard

/-- THE SECOND FORM's CARD OF 'monikerlaw31.SegsJoins'. -/
def segsJoinsUptoCard : Claim7 := { stood := { row := segsJoinsUptoRow, standIns := [], harness := (true, "08e105c1772950f4686e4b1e6f3380a74dba311b8d71e15e2cf4de40db8a8f3f"), looks := false }, kinds := [], alts := [], laidByText := true, laidKinds := [.data, .pinned], laidTests := true, laidLooks := .later }
def SegsJoinsUptoCardSaid : Prop := Claim7.holds Tryd.pinned (.plain (OpenSpec.upto segsJoinsSpec)) segsJoinsUptoCard

/-- THE SECOND FORM's CARD OF 'monikerlaw32.QueryAsks'. -/
def queryAsksUptoCard : Claim7 := { stood := { row := queryAsksUptoRow, standIns := [], harness := (true, "08e105c1772950f4686e4b1e6f3380a74dba311b8d71e15e2cf4de40db8a8f3f"), looks := false }, kinds := [], alts := [], laidByText := true, laidKinds := [.data, .pinned], laidTests := true, laidLooks := .later }
def QueryAsksUptoCardSaid : Prop := Claim7.holds Tryd.pinned (.plain (OpenSpec.upto queryAsksSpec)) queryAsksUptoCard
end Rows
end Go.Proofs.YtoalibnaoophgaaDoor
