/-
  NARROWER THAN 'FOR EVERY INPUT', by the rows' own cells (each row's printed sentence says how): SegsParse: laid · SegsTexts: laid · SegsParts: laid · QueryParses: laid · QueryTexts: laid · QueryFull: laid · SegsJoins: laid · QueryAsks: laid.
  DERIVED. THE GIVEN ROWS OF THIS SEAT. 8 by the template 'for every input the law returns true; each argument reads behind the call as it read before'; 0 by the template 'total and deterministic' (their statements: YtoalibnaoophgaaDoorTotals.lean).
  GIVEN WITH THE SEED: the statements are not yours to turn. If you find one false, say at which input.
  Laid BY PROGRAM, IN A SANDBOX (cutbox-rows.mjs): the forced cells as the released guide's own fill.sh prints them over the translation 18b3b25cfa23b25f… (all of the seat's roots in one cut). By AI agents, Wed Nov 11 2026. No macro, syntax, notation, axiom, sorry.
-/
import Derived.Test.YtoalibnaoophgaaDoorChecked
import GoSem.PinnedTables
import GoSem.Claim
import GoSem.ClaimJoined
import GoSem.ClaimMapViews
import Derived.JoinedTies
import Derived.KernelRfl
namespace Go.Proofs.YtoalibnaoophgaaDoor
/- THE CELL 'sum', in the pinned program and in every row, IS THE sha256 OF THE DUMP (.gsa) THAT YtoalibnaoophgaaDoorProg.lean LOADS. Nothing in Lean hashes anything: it is a label: what it is worth is what the hold of that sum in a sandbox is worth. -/
noncomputable def Tryd.pinned : Pinned := { name := "ytoalibnaoophgaadoor", sum := "18b3b25cfa23b25f666a0d6b4711f580798c198c899e06680c73954f9cef3acb", checked := Tryd.checked }
namespace Rows
def none {H : Type} : Left H := { results := [], args := [] }

/- WHAT THE LISTED PACKAGE-LEVEL VARIABLES READ AS WHEN THE CALL BEGINS. Each datum BY PROGRAM (the guide's laid-datum.mjs) off the statement by which the dump's own 'gosem.cut.vars' lays the variable. In a bare row this is a premise. The card (YtoalibnaoophgaaDoorCards.lean) ties it to the program's text. -/
def laid_unicode_utf8_acceptRanges {H : Type} : DataW H := .agg [.agg [.lit (.int .u8 128), .lit (.int .u8 191)], .agg [.lit (.int .u8 160), .lit (.int .u8 191)], .agg [.lit (.int .u8 128), .lit (.int .u8 159)], .agg [.lit (.int .u8 144), .lit (.int .u8 191)], .agg [.lit (.int .u8 128), .lit (.int .u8 143)], .agg [.lit (.int .u8 0), .lit (.int .u8 0)], .agg [.lit (.int .u8 0), .lit (.int .u8 0)], .agg [.lit (.int .u8 0), .lit (.int .u8 0)], .agg [.lit (.int .u8 0), .lit (.int .u8 0)], .agg [.lit (.int .u8 0), .lit (.int .u8 0)], .agg [.lit (.int .u8 0), .lit (.int .u8 0)], .agg [.lit (.int .u8 0), .lit (.int .u8 0)], .agg [.lit (.int .u8 0), .lit (.int .u8 0)], .agg [.lit (.int .u8 0), .lit (.int .u8 0)], .agg [.lit (.int .u8 0), .lit (.int .u8 0)], .agg [.lit (.int .u8 0), .lit (.int .u8 0)]]
/-- One of Go's own tables, pinned by name: the form's constant. -/
def laid_unicode_utf8_first : DataW Unit := Go.Pinned.utf8First

/-- 'monikerlaw31.SegsParse': WHATEVER THE INPUT: true; the input reads as it did. -/
def segsParseSpec : ChangeSpec := { name := "segsParse", fn := fun _ => fun
  | [d] => { results := [.lit (.bool true)], args := [d] }
  | _ => none }
def segsParseRow : OpenClaim := { program := "ytoalibnaoophgaadoor", sum := "18b3b25cfa23b25f666a0d6b4711f580798c198c899e06680c73954f9cef3acb", func := "moniker/monikerlaw31.SegsParse", spec := "segsParse", inPlace := ["internal/bytealg.CountString", "internal/bytealg.IndexByteString", "internal/bytealg.IndexString", "internal/abi.NoEscape", "internal/bytealg.MakeNoZero"], unfollowed := true, recurses := true, named := ["unicode/utf8.first", "unicode/utf8.acceptRanges", "internal/bytealg.MaxLen"], apart := false, laid := [("unicode/utf8.acceptRanges", laid_unicode_utf8_acceptRanges), ("unicode/utf8.first", laid_unicode_utf8_first)] }
def SegsParseSaid : Prop := segsParseRow.holds Tryd.pinned (OpenSpec.ofChange segsParseSpec)

/-- ITS FALSE NEIGHBOUR: 'it returns false'. Refute it at one input. -/
def segsParseWrong : ChangeSpec := { name := "segsParse", fn := fun _ => fun
  | [d] => { results := [.lit (.bool false)], args := [d] }
  | _ => none }
def SegsParseWrongFalsely : Prop := segsParseRow.holds Tryd.pinned (OpenSpec.ofChange segsParseWrong)

/-- 'monikerlaw31.SegsTexts': WHATEVER THE INPUT: true; the input reads as it did. -/
def segsTextsSpec : ChangeSpec := { name := "segsTexts", fn := fun _ => fun
  | [d] => { results := [.lit (.bool true)], args := [d] }
  | _ => none }
def segsTextsRow : OpenClaim := { program := "ytoalibnaoophgaadoor", sum := "18b3b25cfa23b25f666a0d6b4711f580798c198c899e06680c73954f9cef3acb", func := "moniker/monikerlaw31.SegsTexts", spec := "segsTexts", inPlace := ["internal/bytealg.CountString", "internal/bytealg.IndexByteString", "internal/bytealg.IndexString", "internal/abi.NoEscape", "internal/bytealg.MakeNoZero"], unfollowed := true, recurses := true, named := ["unicode/utf8.first", "unicode/utf8.acceptRanges", "internal/bytealg.MaxLen"], apart := false, laid := [("unicode/utf8.acceptRanges", laid_unicode_utf8_acceptRanges), ("unicode/utf8.first", laid_unicode_utf8_first)] }
def SegsTextsSaid : Prop := segsTextsRow.holds Tryd.pinned (OpenSpec.ofChange segsTextsSpec)

/-- ITS FALSE NEIGHBOUR: 'it returns false'. Refute it at one input. -/
def segsTextsWrong : ChangeSpec := { name := "segsTexts", fn := fun _ => fun
  | [d] => { results := [.lit (.bool false)], args := [d] }
  | _ => none }
def SegsTextsWrongFalsely : Prop := segsTextsRow.holds Tryd.pinned (OpenSpec.ofChange segsTextsWrong)

/-- 'monikerlaw31.SegsParts': WHATEVER THE INPUT: true; the input reads as it did. -/
def segsPartsSpec : ChangeSpec := { name := "segsParts", fn := fun _ => fun
  | [d] => { results := [.lit (.bool true)], args := [d] }
  | _ => none }
def segsPartsRow : OpenClaim := { program := "ytoalibnaoophgaadoor", sum := "18b3b25cfa23b25f666a0d6b4711f580798c198c899e06680c73954f9cef3acb", func := "moniker/monikerlaw31.SegsParts", spec := "segsParts", inPlace := ["internal/bytealg.CountString", "internal/bytealg.IndexByteString", "internal/bytealg.IndexString", "internal/abi.NoEscape", "internal/bytealg.MakeNoZero"], unfollowed := true, recurses := true, named := ["unicode/utf8.first", "unicode/utf8.acceptRanges", "internal/bytealg.MaxLen"], apart := false, laid := [("unicode/utf8.acceptRanges", laid_unicode_utf8_acceptRanges), ("unicode/utf8.first", laid_unicode_utf8_first)] }
def SegsPartsSaid : Prop := segsPartsRow.holds Tryd.pinned (OpenSpec.ofChange segsPartsSpec)

/-- ITS FALSE NEIGHBOUR: 'it returns false'. Refute it at one input. -/
def segsPartsWrong : ChangeSpec := { name := "segsParts", fn := fun _ => fun
  | [d] => { results := [.lit (.bool false)], args := [d] }
  | _ => none }
def SegsPartsWrongFalsely : Prop := segsPartsRow.holds Tryd.pinned (OpenSpec.ofChange segsPartsWrong)

/-- 'monikerlaw32.QueryParses': WHATEVER THE INPUT: true; the input reads as it did. -/
def queryParsesSpec : ChangeSpec := { name := "queryParses", fn := fun _ => fun
  | [d] => { results := [.lit (.bool true)], args := [d] }
  | _ => none }
def queryParsesRow : OpenClaim := { program := "ytoalibnaoophgaadoor", sum := "18b3b25cfa23b25f666a0d6b4711f580798c198c899e06680c73954f9cef3acb", func := "moniker/monikerlaw32.QueryParses", spec := "queryParses", inPlace := ["internal/bytealg.CountString", "internal/bytealg.IndexByteString", "internal/bytealg.IndexString", "internal/abi.NoEscape", "internal/bytealg.MakeNoZero"], unfollowed := true, recurses := true, named := ["unicode/utf8.first", "unicode/utf8.acceptRanges", "internal/bytealg.MaxLen"], apart := false, laid := [("unicode/utf8.acceptRanges", laid_unicode_utf8_acceptRanges), ("unicode/utf8.first", laid_unicode_utf8_first)] }
def QueryParsesSaid : Prop := queryParsesRow.holds Tryd.pinned (OpenSpec.ofChange queryParsesSpec)

/-- ITS FALSE NEIGHBOUR: 'it returns false'. Refute it at one input. -/
def queryParsesWrong : ChangeSpec := { name := "queryParses", fn := fun _ => fun
  | [d] => { results := [.lit (.bool false)], args := [d] }
  | _ => none }
def QueryParsesWrongFalsely : Prop := queryParsesRow.holds Tryd.pinned (OpenSpec.ofChange queryParsesWrong)

/-- 'monikerlaw32.QueryTexts': WHATEVER THE INPUT: true; the input reads as it did. -/
def queryTextsSpec : ChangeSpec := { name := "queryTexts", fn := fun _ => fun
  | [d] => { results := [.lit (.bool true)], args := [d] }
  | _ => none }
def queryTextsRow : OpenClaim := { program := "ytoalibnaoophgaadoor", sum := "18b3b25cfa23b25f666a0d6b4711f580798c198c899e06680c73954f9cef3acb", func := "moniker/monikerlaw32.QueryTexts", spec := "queryTexts", inPlace := ["internal/bytealg.CountString", "internal/bytealg.IndexByteString", "internal/bytealg.IndexString", "internal/abi.NoEscape", "internal/bytealg.MakeNoZero"], unfollowed := true, recurses := true, named := ["unicode/utf8.first", "unicode/utf8.acceptRanges", "internal/bytealg.MaxLen"], apart := false, laid := [("unicode/utf8.acceptRanges", laid_unicode_utf8_acceptRanges), ("unicode/utf8.first", laid_unicode_utf8_first)] }
def QueryTextsSaid : Prop := queryTextsRow.holds Tryd.pinned (OpenSpec.ofChange queryTextsSpec)

/-- ITS FALSE NEIGHBOUR: 'it returns false'. Refute it at one input. -/
def queryTextsWrong : ChangeSpec := { name := "queryTexts", fn := fun _ => fun
  | [d] => { results := [.lit (.bool false)], args := [d] }
  | _ => none }
def QueryTextsWrongFalsely : Prop := queryTextsRow.holds Tryd.pinned (OpenSpec.ofChange queryTextsWrong)

/-- 'monikerlaw32.QueryFull': WHATEVER THE INPUT: true; the input reads as it did. -/
def queryFullSpec : ChangeSpec := { name := "queryFull", fn := fun _ => fun
  | [d] => { results := [.lit (.bool true)], args := [d] }
  | _ => none }
def queryFullRow : OpenClaim := { program := "ytoalibnaoophgaadoor", sum := "18b3b25cfa23b25f666a0d6b4711f580798c198c899e06680c73954f9cef3acb", func := "moniker/monikerlaw32.QueryFull", spec := "queryFull", inPlace := ["internal/bytealg.CountString", "internal/bytealg.IndexByteString", "internal/bytealg.IndexString", "internal/abi.NoEscape", "internal/bytealg.MakeNoZero"], unfollowed := true, recurses := true, named := ["unicode/utf8.first", "unicode/utf8.acceptRanges", "internal/bytealg.MaxLen"], apart := false, laid := [("unicode/utf8.acceptRanges", laid_unicode_utf8_acceptRanges), ("unicode/utf8.first", laid_unicode_utf8_first)] }
def QueryFullSaid : Prop := queryFullRow.holds Tryd.pinned (OpenSpec.ofChange queryFullSpec)

/-- ITS FALSE NEIGHBOUR: 'it returns false'. Refute it at one input. -/
def queryFullWrong : ChangeSpec := { name := "queryFull", fn := fun _ => fun
  | [d] => { results := [.lit (.bool false)], args := [d] }
  | _ => none }
def QueryFullWrongFalsely : Prop := queryFullRow.holds Tryd.pinned (OpenSpec.ofChange queryFullWrong)

/-- 'monikerlaw31.SegsJoins': WHATEVER THE INPUT: true; the input reads as it did. -/
def segsJoinsSpec : ChangeSpec := { name := "segsJoins", fn := fun _ => fun
  | [d1, d2] => { results := [.lit (.bool true)], args := [d1, d2] }
  | _ => none }
def segsJoinsRow : OpenClaim := { program := "ytoalibnaoophgaadoor", sum := "18b3b25cfa23b25f666a0d6b4711f580798c198c899e06680c73954f9cef3acb", func := "moniker/monikerlaw31.SegsJoins", spec := "segsJoins", inPlace := ["internal/bytealg.CountString", "internal/bytealg.IndexByteString", "internal/bytealg.IndexString", "internal/abi.NoEscape", "internal/bytealg.MakeNoZero"], unfollowed := true, recurses := true, named := ["unicode/utf8.first", "unicode/utf8.acceptRanges", "internal/bytealg.MaxLen"], apart := false, laid := [("unicode/utf8.acceptRanges", laid_unicode_utf8_acceptRanges), ("unicode/utf8.first", laid_unicode_utf8_first)] }
def SegsJoinsSaid : Prop := segsJoinsRow.holds Tryd.pinned (OpenSpec.ofChange segsJoinsSpec)

/-- ITS FALSE NEIGHBOUR: 'it returns false'. Refute it at one input. -/
def segsJoinsWrong : ChangeSpec := { name := "segsJoins", fn := fun _ => fun
  | [d1, d2] => { results := [.lit (.bool false)], args := [d1, d2] }
  | _ => none }
def SegsJoinsWrongFalsely : Prop := segsJoinsRow.holds Tryd.pinned (OpenSpec.ofChange segsJoinsWrong)

/-- 'monikerlaw32.QueryAsks': WHATEVER THE INPUT: true; the input reads as it did. -/
def queryAsksSpec : ChangeSpec := { name := "queryAsks", fn := fun _ => fun
  | [d1, d2, d3] => { results := [.lit (.bool true)], args := [d1, d2, d3] }
  | _ => none }
def queryAsksRow : OpenClaim := { program := "ytoalibnaoophgaadoor", sum := "18b3b25cfa23b25f666a0d6b4711f580798c198c899e06680c73954f9cef3acb", func := "moniker/monikerlaw32.QueryAsks", spec := "queryAsks", inPlace := ["internal/bytealg.CountString", "internal/bytealg.IndexByteString", "internal/bytealg.IndexString", "internal/abi.NoEscape", "internal/bytealg.MakeNoZero", "internal/bytealg.abigen_runtime_cmpstring"], unfollowed := true, recurses := true, named := ["unicode/utf8.first", "unicode/utf8.acceptRanges", "internal/bytealg.MaxLen"], apart := false, laid := [("unicode/utf8.acceptRanges", laid_unicode_utf8_acceptRanges), ("unicode/utf8.first", laid_unicode_utf8_first)] }
def QueryAsksSaid : Prop := queryAsksRow.holds Tryd.pinned (OpenSpec.ofChange queryAsksSpec)

/-- ITS FALSE NEIGHBOUR: 'it returns false'. Refute it at one input. -/
def queryAsksWrong : ChangeSpec := { name := "queryAsks", fn := fun _ => fun
  | [d1, d2, d3] => { results := [.lit (.bool false)], args := [d1, d2, d3] }
  | _ => none }
def QueryAsksWrongFalsely : Prop := queryAsksRow.holds Tryd.pinned (OpenSpec.ofChange queryAsksWrong)

/- THE SECOND FORM. 'bulk': how many values and letters a reading holds, each counted each time it is reached (what is shared counts as often as it is met; a slice's spare places count too). A statement '..UptoSaid' is the law's where the arguments, and the package variables that the reading takes, are together of bulk at most 1048576: NARROWER than '..Said'. Prove '..Said' where nothing that the law and all that it calls make is longer than what came in: it says more and counts as full. Else prove '..UptoSaid'. A law counts once. -/
mutual
def uptoBulk {H : Type} : DataW H → Nat
  | .lit (.string bytes) => bytes.length + 1
  | .lit _ => 1
  | .nil => 1
  | .ptr d => uptoBulk d + 1
  | .slice elems spare => uptoBulkAll elems + uptoBulkAll spare + 1
  | .agg parts => uptoBulkAll parts + 1
  | .iface _ d => uptoBulk d + 1
  | .map entries => uptoBulkEntries entries + 1
  | .held _ => 1
def uptoBulkAll {H : Type} : List (DataW H) → Nat
  | [] => 0
  | d :: r => uptoBulk d + uptoBulkAll r
def uptoBulkEntries {H : Type} : List (Lit × DataW H) → Nat
  | [] => 0
  | x :: r => uptoBulkEntry x + uptoBulkEntries r
def uptoBulkEntry {H : Type} : Lit × DataW H → Nat
  | (.string bytes, d) => bytes.length + uptoBulk d + 1
  | (_, d) => uptoBulk d + 1
 end
def uptoSmall : (H : Type) → List (DataW H) → Bool := fun _ ds => decide (uptoBulkAll ds ≤ 1048576)
def OpenSpec.upto (s : _root_.Go.ChangeSpec) : _root_.Go.OpenSpec := { _root_.Go.OpenSpec.ofChange s with cond := some uptoSmall }

/-- 'monikerlaw31.SegsParse', WHERE WHAT IT READS IS OF BULK AT MOST 1048576: true; the input reads as it did. -/
def segsParseUptoRow : OpenClaim := { program := "ytoalibnaoophgaadoor", sum := "18b3b25cfa23b25f666a0d6b4711f580798c198c899e06680c73954f9cef3acb", func := "moniker/monikerlaw31.SegsParse", spec := "segsParse", inPlace := ["internal/bytealg.CountString", "internal/bytealg.IndexByteString", "internal/bytealg.IndexString", "internal/abi.NoEscape", "internal/bytealg.MakeNoZero"], unfollowed := true, recurses := true, named := ["unicode/utf8.first", "unicode/utf8.acceptRanges", "internal/bytealg.MaxLen"], apart := false, laid := [("unicode/utf8.acceptRanges", laid_unicode_utf8_acceptRanges), ("unicode/utf8.first", laid_unicode_utf8_first)], narrowed := true }
def SegsParseUptoSaid : Prop := segsParseUptoRow.holds Tryd.pinned (OpenSpec.upto segsParseSpec)

/-- 'monikerlaw31.SegsTexts', WHERE WHAT IT READS IS OF BULK AT MOST 1048576: true; the input reads as it did. -/
def segsTextsUptoRow : OpenClaim := { program := "ytoalibnaoophgaadoor", sum := "18b3b25cfa23b25f666a0d6b4711f580798c198c899e06680c73954f9cef3acb", func := "moniker/monikerlaw31.SegsTexts", spec := "segsTexts", inPlace := ["internal/bytealg.CountString", "internal/bytealg.IndexByteString", "internal/bytealg.IndexString", "internal/abi.NoEscape", "internal/bytealg.MakeNoZero"], unfollowed := true, recurses := true, named := ["unicode/utf8.first", "unicode/utf8.acceptRanges", "internal/bytealg.MaxLen"], apart := false, laid := [("unicode/utf8.acceptRanges", laid_unicode_utf8_acceptRanges), ("unicode/utf8.first", laid_unicode_utf8_first)], narrowed := true }
def SegsTextsUptoSaid : Prop := segsTextsUptoRow.holds Tryd.pinned (OpenSpec.upto segsTextsSpec)

/-- 'monikerlaw31.SegsParts', WHERE WHAT IT READS IS OF BULK AT MOST 1048576: true; the input reads as it did. -/
def segsPartsUptoRow : OpenClaim := { program := "ytoalibnaoophgaadoor", sum := "18b3b25cfa23b25f666a0d6b4711f580798c198c899e06680c73954f9cef3acb", func := "moniker/monikerlaw31.SegsParts", spec := "segsParts", inPlace := ["internal/bytealg.CountString", "internal/bytealg.IndexByteString", "internal/bytealg.IndexString", "internal/abi.NoEscape", "internal/bytealg.MakeNoZero"], unfollowed := true, recurses := true, named := ["unicode/utf8.first", "unicode/utf8.acceptRanges", "internal/bytealg.MaxLen"], apart := false, laid := [("unicode/utf8.acceptRanges", laid_unicode_utf8_acceptRanges), ("unicode/utf8.first", laid_unicode_utf8_first)], narrowed := true }
def SegsPartsUptoSaid : Prop := segsPartsUptoRow.holds Tryd.pinned (OpenSpec.upto segsPartsSpec)

/-- 'monikerlaw32.QueryParses', WHERE WHAT IT READS IS OF BULK AT MOST 1048576: true; the input reads as it did. -/
def queryParsesUptoRow : OpenClaim := { program := "ytoalibnaoophgaadoor", sum := "18b3b25cfa23b25f666a0d6b4711f580798c198c899e06680c73954f9cef3acb", func := "moniker/monikerlaw32.QueryParses", spec := "queryParses", inPlace := ["internal/bytealg.CountString", "internal/bytealg.IndexByteString", "internal/bytealg.IndexString", "internal/abi.NoEscape", "internal/bytealg.MakeNoZero"], unfollowed := true, recurses := true, named := ["unicode/utf8.first", "unicode/utf8.acceptRanges", "internal/bytealg.MaxLen"], apart := false, laid := [("unicode/utf8.acceptRanges", laid_unicode_utf8_acceptRanges), ("unicode/utf8.first", laid_unicode_utf8_first)], narrowed := true }
def QueryParsesUptoSaid : Prop := queryParsesUptoRow.holds Tryd.pinned (OpenSpec.upto queryParsesSpec)

/-- 'monikerlaw32.QueryTexts', WHERE WHAT IT READS IS OF BULK AT MOST 1048576: true; the input reads as it did. -/
def queryTextsUptoRow : OpenClaim := { program := "ytoalibnaoophgaadoor", sum := "18b3b25cfa23b25f666a0d6b4711f580798c198c899e06680c73954f9cef3acb", func := "moniker/monikerlaw32.QueryTexts", spec := "queryTexts", inPlace := ["internal/bytealg.CountString", "internal/bytealg.IndexByteString", "internal/bytealg.IndexString", "internal/abi.NoEscape", "internal/bytealg.MakeNoZero"], unfollowed := true, recurses := true, named := ["unicode/utf8.first", "unicode/utf8.acceptRanges", "internal/bytealg.MaxLen"], apart := false, laid := [("unicode/utf8.acceptRanges", laid_unicode_utf8_acceptRanges), ("unicode/utf8.first", laid_unicode_utf8_first)], narrowed := true }
def QueryTextsUptoSaid : Prop := queryTextsUptoRow.holds Tryd.pinned (OpenSpec.upto queryTextsSpec)

/-- 'monikerlaw32.QueryFull', WHERE WHAT IT READS IS OF BULK AT MOST 1048576: true; the input reads as it did. -/
def queryFullUptoRow : OpenClaim := { program := "ytoalibnaoophgaadoor", sum := "18b3b25cfa23b25f666a0d6b4711f580798c198c899e06680c73954f9cef3acb", func := "moniker/monikerlaw32.QueryFull", spec := "queryFull", inPlace := ["internal/bytealg.CountString", "internal/bytealg.IndexByteString", "internal/bytealg.IndexString", "internal/abi.NoEscape", "internal/bytealg.MakeNoZero"], unfollowed := true, recurses := true, named := ["unicode/utf8.first", "unicode/utf8.acceptRanges", "internal/bytealg.MaxLen"], apart := false, laid := [("unicode/utf8.acceptRanges", laid_unicode_utf8_acceptRanges), ("unicode/utf8.first", laid_unicode_utf8_first)], narrowed := true }
def QueryFullUptoSaid : Prop := queryFullUptoRow.holds Tryd.pinned (OpenSpec.upto queryFullSpec)

/-- 'monikerlaw31.SegsJoins', WHERE WHAT IT READS IS OF BULK AT MOST 1048576: true; the input reads as it did. -/
def segsJoinsUptoRow : OpenClaim := { program := "ytoalibnaoophgaadoor", sum := "18b3b25cfa23b25f666a0d6b4711f580798c198c899e06680c73954f9cef3acb", func := "moniker/monikerlaw31.SegsJoins", spec := "segsJoins", inPlace := ["internal/bytealg.CountString", "internal/bytealg.IndexByteString", "internal/bytealg.IndexString", "internal/abi.NoEscape", "internal/bytealg.MakeNoZero"], unfollowed := true, recurses := true, named := ["unicode/utf8.first", "unicode/utf8.acceptRanges", "internal/bytealg.MaxLen"], apart := false, laid := [("unicode/utf8.acceptRanges", laid_unicode_utf8_acceptRanges), ("unicode/utf8.first", laid_unicode_utf8_first)], narrowed := true }
def SegsJoinsUptoSaid : Prop := segsJoinsUptoRow.holds Tryd.pinned (OpenSpec.upto segsJoinsSpec)

/-- 'monikerlaw32.QueryAsks', WHERE WHAT IT READS IS OF BULK AT MOST 1048576: true; the input reads as it did. -/
def queryAsksUptoRow : OpenClaim := { program := "ytoalibnaoophgaadoor", sum := "18b3b25cfa23b25f666a0d6b4711f580798c198c899e06680c73954f9cef3acb", func := "moniker/monikerlaw32.QueryAsks", spec := "queryAsks", inPlace := ["internal/bytealg.CountString", "internal/bytealg.IndexByteString", "internal/bytealg.IndexString", "internal/abi.NoEscape", "internal/bytealg.MakeNoZero", "internal/bytealg.abigen_runtime_cmpstring"], unfollowed := true, recurses := true, named := ["unicode/utf8.first", "unicode/utf8.acceptRanges", "internal/bytealg.MaxLen"], apart := false, laid := [("unicode/utf8.acceptRanges", laid_unicode_utf8_acceptRanges), ("unicode/utf8.first", laid_unicode_utf8_first)], narrowed := true }
def QueryAsksUptoSaid : Prop := queryAsksUptoRow.holds Tryd.pinned (OpenSpec.upto queryAsksSpec)

end Rows
end Go.Proofs.YtoalibnaoophgaaDoor
