/-
  NARROWER THAN 'FOR EVERY INPUT', by the rows' own cells (each row's printed sentence says how): FnExactReachedTrays: laid · FnExactCountCorner: laid · FnExactIsReversible: laid · FnExactLastingTrays: laid · FnExactCellsOfBall: laid · FnExactAllStill: laid · FnExactClassesReached: laid.
  DERIVED. THE GIVEN ROWS OF THIS SEAT. 7 by the template 'for every input the law returns true; each argument reads behind the call as it read before'; 0 by the template 'total and deterministic' (their statements: YtjohcjkidoalkaaGreatDoorTotals.lean).
  GIVEN WITH THE SEED: the statements are not yours to turn. If you find one false, say at which input.
  Laid BY PROGRAM, IN A SANDBOX (cutbox-rows.mjs): the forced cells as the released guide's own fill.sh prints them over the translation 7f7cb97337454d7f… (all of the seat's roots in one cut). By AI agents, Wed Nov 11 2026. No macro, syntax, notation, axiom, sorry.
-/
import Derived.Test.YtjohcjkidoalkaaGreatDoorChecked
import GoSem.PinnedTables
import GoSem.Claim
import GoSem.ClaimJoined
import GoSem.ClaimMapViews
import Derived.JoinedTies
import Derived.KernelRfl
namespace Go.Proofs.YtjohcjkidoalkaaGreatDoor
/- THE CELL 'sum', in the pinned program and in every row, IS THE sha256 OF THE DUMP (.gsa) THAT YtjohcjkidoalkaaGreatDoorProg.lean LOADS. Nothing in Lean hashes anything: it is a label: what it is worth is what the hold of that sum in a sandbox is worth. -/
noncomputable def Tryz.pinned : Pinned := { name := "ytjohcjkidoalkaagreatdoor", sum := "7f7cb97337454d7f052d45da301da0b73ae2296e5ece85e9c81fc678d56ce441", checked := Tryz.checked }
namespace Rows
def none {H : Type} : Left H := { results := [], args := [] }

/- WHAT THE LISTED PACKAGE-LEVEL VARIABLES READ AS WHEN THE CALL BEGINS. Each datum BY PROGRAM (the guide's laid-datum.mjs) off the statement by which the dump's own 'gosem.cut.vars' lays the variable. In a bare row this is a premise. The card (YtjohcjkidoalkaaGreatDoorCards.lean) ties it to the program's text. -/
def laid_unicode_utf8_acceptRanges {H : Type} : DataW H := .agg [.agg [.lit (.int .u8 128), .lit (.int .u8 191)], .agg [.lit (.int .u8 160), .lit (.int .u8 191)], .agg [.lit (.int .u8 128), .lit (.int .u8 159)], .agg [.lit (.int .u8 144), .lit (.int .u8 191)], .agg [.lit (.int .u8 128), .lit (.int .u8 143)], .agg [.lit (.int .u8 0), .lit (.int .u8 0)], .agg [.lit (.int .u8 0), .lit (.int .u8 0)], .agg [.lit (.int .u8 0), .lit (.int .u8 0)], .agg [.lit (.int .u8 0), .lit (.int .u8 0)], .agg [.lit (.int .u8 0), .lit (.int .u8 0)], .agg [.lit (.int .u8 0), .lit (.int .u8 0)], .agg [.lit (.int .u8 0), .lit (.int .u8 0)], .agg [.lit (.int .u8 0), .lit (.int .u8 0)], .agg [.lit (.int .u8 0), .lit (.int .u8 0)], .agg [.lit (.int .u8 0), .lit (.int .u8 0)], .agg [.lit (.int .u8 0), .lit (.int .u8 0)]]
/-- One of Go's own tables, pinned by name: the form's constant. -/
def laid_unicode_utf8_first : DataW Unit := Go.Pinned.utf8First

/-- 'laws.FnExactReachedTrays': WHATEVER THE INPUT: true; the input reads as it did. -/
def fnExactReachedTraysSpec : ChangeSpec := { name := "fnExactReachedTrays", fn := fun _ => fun
  | [d] => { results := [.lit (.bool true)], args := [d] }
  | _ => none }
def fnExactReachedTraysRow : OpenClaim := { program := "ytjohcjkidoalkaagreatdoor", sum := "7f7cb97337454d7f052d45da301da0b73ae2296e5ece85e9c81fc678d56ce441", func := "loop.example/g01199/laws.FnExactReachedTrays", spec := "fnExactReachedTrays", inPlace := ["internal/bytealg.CountString", "internal/bytealg.IndexByteString", "internal/bytealg.IndexString", "internal/abi.NoEscape", "internal/bytealg.MakeNoZero"], unfollowed := true, recurses := true, named := ["unicode/utf8.first", "unicode/utf8.acceptRanges", "internal/bytealg.MaxLen"], apart := false, laid := [("unicode/utf8.acceptRanges", laid_unicode_utf8_acceptRanges), ("unicode/utf8.first", laid_unicode_utf8_first)] }
def FnExactReachedTraysSaid : Prop := fnExactReachedTraysRow.holds Tryz.pinned (OpenSpec.ofChange fnExactReachedTraysSpec)

/-- ITS FALSE NEIGHBOUR: 'it returns false'. Refute it at one input. -/
def fnExactReachedTraysWrong : ChangeSpec := { name := "fnExactReachedTrays", fn := fun _ => fun
  | [d] => { results := [.lit (.bool false)], args := [d] }
  | _ => none }
def FnExactReachedTraysWrongFalsely : Prop := fnExactReachedTraysRow.holds Tryz.pinned (OpenSpec.ofChange fnExactReachedTraysWrong)

/-- 'laws.FnExactCountCorner': WHATEVER THE INPUT: true; the input reads as it did. -/
def fnExactCountCornerSpec : ChangeSpec := { name := "fnExactCountCorner", fn := fun _ => fun
  | [d1, d2] => { results := [.lit (.bool true)], args := [d1, d2] }
  | _ => none }
def fnExactCountCornerRow : OpenClaim := { program := "ytjohcjkidoalkaagreatdoor", sum := "7f7cb97337454d7f052d45da301da0b73ae2296e5ece85e9c81fc678d56ce441", func := "loop.example/g01199/laws.FnExactCountCorner", spec := "fnExactCountCorner", inPlace := ["internal/bytealg.CountString", "internal/bytealg.IndexByteString", "internal/bytealg.IndexString", "internal/abi.NoEscape", "internal/bytealg.MakeNoZero"], unfollowed := true, recurses := true, named := ["unicode/utf8.first", "unicode/utf8.acceptRanges", "internal/bytealg.MaxLen"], apart := false, laid := [("unicode/utf8.acceptRanges", laid_unicode_utf8_acceptRanges), ("unicode/utf8.first", laid_unicode_utf8_first)] }
def FnExactCountCornerSaid : Prop := fnExactCountCornerRow.holds Tryz.pinned (OpenSpec.ofChange fnExactCountCornerSpec)

/-- ITS FALSE NEIGHBOUR: 'it returns false'. Refute it at one input. -/
def fnExactCountCornerWrong : ChangeSpec := { name := "fnExactCountCorner", fn := fun _ => fun
  | [d1, d2] => { results := [.lit (.bool false)], args := [d1, d2] }
  | _ => none }
def FnExactCountCornerWrongFalsely : Prop := fnExactCountCornerRow.holds Tryz.pinned (OpenSpec.ofChange fnExactCountCornerWrong)

/-- 'laws.FnExactIsReversible': WHATEVER THE INPUT: true; the input reads as it did. -/
def fnExactIsReversibleSpec : ChangeSpec := { name := "fnExactIsReversible", fn := fun _ => fun
  | [d1, d2, d3, d4] => { results := [.lit (.bool true)], args := [d1, d2, d3, d4] }
  | _ => none }
def fnExactIsReversibleRow : OpenClaim := { program := "ytjohcjkidoalkaagreatdoor", sum := "7f7cb97337454d7f052d45da301da0b73ae2296e5ece85e9c81fc678d56ce441", func := "loop.example/g01199/laws.FnExactIsReversible", spec := "fnExactIsReversible", inPlace := ["internal/bytealg.CountString", "internal/bytealg.IndexByteString", "internal/bytealg.IndexString", "internal/abi.NoEscape", "internal/bytealg.MakeNoZero"], unfollowed := true, recurses := true, named := ["unicode/utf8.first", "unicode/utf8.acceptRanges", "internal/bytealg.MaxLen"], apart := false, laid := [("unicode/utf8.acceptRanges", laid_unicode_utf8_acceptRanges), ("unicode/utf8.first", laid_unicode_utf8_first)] }
def FnExactIsReversibleSaid : Prop := fnExactIsReversibleRow.holds Tryz.pinned (OpenSpec.ofChange fnExactIsReversibleSpec)

/-- ITS FALSE NEIGHBOUR: 'it returns false'. Refute it at one input. -/
def fnExactIsReversibleWrong : ChangeSpec := { name := "fnExactIsReversible", fn := fun _ => fun
  | [d1, d2, d3, d4] => { results := [.lit (.bool false)], args := [d1, d2, d3, d4] }
  | _ => none }
def FnExactIsReversibleWrongFalsely : Prop := fnExactIsReversibleRow.holds Tryz.pinned (OpenSpec.ofChange fnExactIsReversibleWrong)

/-- 'laws.FnExactLastingTrays': WHATEVER THE INPUT: true; the input reads as it did. -/
def fnExactLastingTraysSpec : ChangeSpec := { name := "fnExactLastingTrays", fn := fun _ => fun
  | [d] => { results := [.lit (.bool true)], args := [d] }
  | _ => none }
def fnExactLastingTraysRow : OpenClaim := { program := "ytjohcjkidoalkaagreatdoor", sum := "7f7cb97337454d7f052d45da301da0b73ae2296e5ece85e9c81fc678d56ce441", func := "loop.example/g01199/laws.FnExactLastingTrays", spec := "fnExactLastingTrays", inPlace := ["internal/bytealg.CountString", "internal/bytealg.IndexByteString", "internal/bytealg.IndexString", "internal/abi.NoEscape", "internal/bytealg.MakeNoZero"], unfollowed := true, recurses := true, named := ["unicode/utf8.first", "unicode/utf8.acceptRanges", "internal/bytealg.MaxLen"], apart := false, laid := [("unicode/utf8.acceptRanges", laid_unicode_utf8_acceptRanges), ("unicode/utf8.first", laid_unicode_utf8_first)] }
def FnExactLastingTraysSaid : Prop := fnExactLastingTraysRow.holds Tryz.pinned (OpenSpec.ofChange fnExactLastingTraysSpec)

/-- ITS FALSE NEIGHBOUR: 'it returns false'. Refute it at one input. -/
def fnExactLastingTraysWrong : ChangeSpec := { name := "fnExactLastingTrays", fn := fun _ => fun
  | [d] => { results := [.lit (.bool false)], args := [d] }
  | _ => none }
def FnExactLastingTraysWrongFalsely : Prop := fnExactLastingTraysRow.holds Tryz.pinned (OpenSpec.ofChange fnExactLastingTraysWrong)

/-- 'laws.FnExactCellsOfBall': WHATEVER THE INPUT: true; the input reads as it did. -/
def fnExactCellsOfBallSpec : ChangeSpec := { name := "fnExactCellsOfBall", fn := fun _ => fun
  | [d1, d2] => { results := [.lit (.bool true)], args := [d1, d2] }
  | _ => none }
def fnExactCellsOfBallRow : OpenClaim := { program := "ytjohcjkidoalkaagreatdoor", sum := "7f7cb97337454d7f052d45da301da0b73ae2296e5ece85e9c81fc678d56ce441", func := "loop.example/g01199/laws.FnExactCellsOfBall", spec := "fnExactCellsOfBall", inPlace := ["internal/bytealg.CountString", "internal/bytealg.IndexByteString", "internal/bytealg.IndexString", "internal/abi.NoEscape", "internal/bytealg.MakeNoZero"], unfollowed := true, recurses := true, named := ["unicode/utf8.first", "unicode/utf8.acceptRanges", "internal/bytealg.MaxLen"], apart := false, laid := [("unicode/utf8.acceptRanges", laid_unicode_utf8_acceptRanges), ("unicode/utf8.first", laid_unicode_utf8_first)] }
def FnExactCellsOfBallSaid : Prop := fnExactCellsOfBallRow.holds Tryz.pinned (OpenSpec.ofChange fnExactCellsOfBallSpec)

/-- ITS FALSE NEIGHBOUR: 'it returns false'. Refute it at one input. -/
def fnExactCellsOfBallWrong : ChangeSpec := { name := "fnExactCellsOfBall", fn := fun _ => fun
  | [d1, d2] => { results := [.lit (.bool false)], args := [d1, d2] }
  | _ => none }
def FnExactCellsOfBallWrongFalsely : Prop := fnExactCellsOfBallRow.holds Tryz.pinned (OpenSpec.ofChange fnExactCellsOfBallWrong)

/-- 'laws.FnExactAllStill': WHATEVER THE INPUT: true; the input reads as it did. -/
def fnExactAllStillSpec : ChangeSpec := { name := "fnExactAllStill", fn := fun _ => fun
  | [d1, d2] => { results := [.lit (.bool true)], args := [d1, d2] }
  | _ => none }
def fnExactAllStillRow : OpenClaim := { program := "ytjohcjkidoalkaagreatdoor", sum := "7f7cb97337454d7f052d45da301da0b73ae2296e5ece85e9c81fc678d56ce441", func := "loop.example/g01199/laws.FnExactAllStill", spec := "fnExactAllStill", inPlace := ["internal/bytealg.CountString", "internal/bytealg.IndexByteString", "internal/bytealg.IndexString", "internal/abi.NoEscape", "internal/bytealg.MakeNoZero"], unfollowed := true, recurses := true, named := ["unicode/utf8.first", "unicode/utf8.acceptRanges", "internal/bytealg.MaxLen"], apart := false, laid := [("unicode/utf8.acceptRanges", laid_unicode_utf8_acceptRanges), ("unicode/utf8.first", laid_unicode_utf8_first)] }
def FnExactAllStillSaid : Prop := fnExactAllStillRow.holds Tryz.pinned (OpenSpec.ofChange fnExactAllStillSpec)

/-- ITS FALSE NEIGHBOUR: 'it returns false'. Refute it at one input. -/
def fnExactAllStillWrong : ChangeSpec := { name := "fnExactAllStill", fn := fun _ => fun
  | [d1, d2] => { results := [.lit (.bool false)], args := [d1, d2] }
  | _ => none }
def FnExactAllStillWrongFalsely : Prop := fnExactAllStillRow.holds Tryz.pinned (OpenSpec.ofChange fnExactAllStillWrong)

/-- 'laws.FnExactClassesReached': WHATEVER THE INPUT: true; the input reads as it did. -/
def fnExactClassesReachedSpec : ChangeSpec := { name := "fnExactClassesReached", fn := fun _ => fun
  | [d] => { results := [.lit (.bool true)], args := [d] }
  | _ => none }
def fnExactClassesReachedRow : OpenClaim := { program := "ytjohcjkidoalkaagreatdoor", sum := "7f7cb97337454d7f052d45da301da0b73ae2296e5ece85e9c81fc678d56ce441", func := "loop.example/g01199/laws.FnExactClassesReached", spec := "fnExactClassesReached", inPlace := ["internal/bytealg.CountString", "internal/bytealg.IndexByteString", "internal/bytealg.IndexString", "internal/abi.NoEscape", "internal/bytealg.MakeNoZero", "internal/bytealg.abigen_runtime_cmpstring"], unfollowed := true, recurses := true, named := ["unicode/utf8.first", "unicode/utf8.acceptRanges", "internal/bytealg.MaxLen"], apart := false, laid := [("unicode/utf8.acceptRanges", laid_unicode_utf8_acceptRanges), ("unicode/utf8.first", laid_unicode_utf8_first)] }
def FnExactClassesReachedSaid : Prop := fnExactClassesReachedRow.holds Tryz.pinned (OpenSpec.ofChange fnExactClassesReachedSpec)

/-- ITS FALSE NEIGHBOUR: 'it returns false'. Refute it at one input. -/
def fnExactClassesReachedWrong : ChangeSpec := { name := "fnExactClassesReached", fn := fun _ => fun
  | [d] => { results := [.lit (.bool false)], args := [d] }
  | _ => none }
def FnExactClassesReachedWrongFalsely : Prop := fnExactClassesReachedRow.holds Tryz.pinned (OpenSpec.ofChange fnExactClassesReachedWrong)

/- THE SECOND FORM. 'bulk': how many values and letters a reading holds, each counted each time it is reached (what is shared counts as often as it is met; a slice's spare places count too). A statement '..UptoSaid' is the law's where the arguments, and the package variables that the reading takes, are together of bulk at most 1048576: NARROWER than '..Said'. Prove '..Said' where nothing that the law and all that it calls make is longer than what came in: it says more and counts as full. Else prove '..UptoSaid'. A law counts once. -/
mutual
def uptoBulk {H : Type} : DataW H → Nat
  | .lit (.string bytes) => bytes.length + 1
  | .lit _ => 1
  | .nil => 1
  | .ptr d => uptoBulk d + 1
  | .slice elems spare => uptoBulkAll elems + uptoBulkAll spare + 1
  | .agg parts => uptoBulkAll parts + 1
  | .iface _ d => uptoBulk d + 1
  | .map entries => uptoBulkEntries entries + 1
  | .held _ => 1
def uptoBulkAll {H : Type} : List (DataW H) → Nat
  | [] => 0
  | d :: r => uptoBulk d + uptoBulkAll r
def uptoBulkEntries {H : Type} : List (Lit × DataW H) → Nat
  | [] => 0
  | x :: r => uptoBulkEntry x + uptoBulkEntries r
def uptoBulkEntry {H : Type} : Lit × DataW H → Nat
  | (.string bytes, d) => bytes.length + uptoBulk d + 1
  | (_, d) => uptoBulk d + 1
 end
def uptoSmall : (H : Type) → List (DataW H) → Bool := fun _ ds => decide (uptoBulkAll ds ≤ 1048576)
def OpenSpec.upto (s : _root_.Go.ChangeSpec) : _root_.Go.OpenSpec := { _root_.Go.OpenSpec.ofChange s with cond := some uptoSmall }

/-- 'laws.FnExactReachedTrays', WHERE WHAT IT READS IS OF BULK AT MOST 1048576: true; the input reads as it did. -/
def fnExactReachedTraysUptoRow : OpenClaim := { program := "ytjohcjkidoalkaagreatdoor", sum := "7f7cb97337454d7f052d45da301da0b73ae2296e5ece85e9c81fc678d56ce441", func := "loop.example/g01199/laws.FnExactReachedTrays", spec := "fnExactReachedTrays", inPlace := ["internal/bytealg.CountString", "internal/bytealg.IndexByteString", "internal/bytealg.IndexString", "internal/abi.NoEscape", "internal/bytealg.MakeNoZero"], unfollowed := true, recurses := true, named := ["unicode/utf8.first", "unicode/utf8.acceptRanges", "internal/bytealg.MaxLen"], apart := false, laid := [("unicode/utf8.acceptRanges", laid_unicode_utf8_acceptRanges), ("unicode/utf8.first", laid_unicode_utf8_first)], narrowed := true }
def FnExactReachedTraysUptoSaid : Prop := fnExactReachedTraysUptoRow.holds Tryz.pinned (OpenSpec.upto fnExactReachedTraysSpec)

/-- 'laws.FnExactCountCorner', WHERE WHAT IT READS IS OF BULK AT MOST 1048576: true; the input reads as it did. -/
def fnExactCountCornerUptoRow : OpenClaim := { program := "ytjohcjkidoalkaagreatdoor", sum := "7f7cb97337454d7f052d45da301da0b73ae2296e5ece85e9c81fc678d56ce441", func := "loop.example/g01199/laws.FnExactCountCorner", spec := "fnExactCountCorner", inPlace := ["internal/bytealg.CountString", "internal/bytealg.IndexByteString", "internal/bytealg.IndexString", "internal/abi.NoEscape", "internal/bytealg.MakeNoZero"], unfollowed := true, recurses := true, named := ["unicode/utf8.first", "unicode/utf8.acceptRanges", "internal/bytealg.MaxLen"], apart := false, laid := [("unicode/utf8.acceptRanges", laid_unicode_utf8_acceptRanges), ("unicode/utf8.first", laid_unicode_utf8_first)], narrowed := true }
def FnExactCountCornerUptoSaid : Prop := fnExactCountCornerUptoRow.holds Tryz.pinned (OpenSpec.upto fnExactCountCornerSpec)

/-- 'laws.FnExactIsReversible', WHERE WHAT IT READS IS OF BULK AT MOST 1048576: true; the input reads as it did. -/
def fnExactIsReversibleUptoRow : OpenClaim := { program := "ytjohcjkidoalkaagreatdoor", sum := "7f7cb97337454d7f052d45da301da0b73ae2296e5ece85e9c81fc678d56ce441", func := "loop.example/g01199/laws.FnExactIsReversible", spec := "fnExactIsReversible", inPlace := ["internal/bytealg.CountString", "internal/bytealg.IndexByteString", "internal/bytealg.IndexString", "internal/abi.NoEscape", "internal/bytealg.MakeNoZero"], unfollowed := true, recurses := true, named := ["unicode/utf8.first", "unicode/utf8.acceptRanges", "internal/bytealg.MaxLen"], apart := false, laid := [("unicode/utf8.acceptRanges", laid_unicode_utf8_acceptRanges), ("unicode/utf8.first", laid_unicode_utf8_first)], narrowed := true }
def FnExactIsReversibleUptoSaid : Prop := fnExactIsReversibleUptoRow.holds Tryz.pinned (OpenSpec.upto fnExactIsReversibleSpec)

/-- 'laws.FnExactLastingTrays', WHERE WHAT IT READS IS OF BULK AT MOST 1048576: true; the input reads as it did. -/
def fnExactLastingTraysUptoRow : OpenClaim := { program := "ytjohcjkidoalkaagreatdoor", sum := "7f7cb97337454d7f052d45da301da0b73ae2296e5ece85e9c81fc678d56ce441", func := "loop.example/g01199/laws.FnExactLastingTrays", spec := "fnExactLastingTrays", inPlace := ["internal/bytealg.CountString", "internal/bytealg.IndexByteString", "internal/bytealg.IndexString", "internal/abi.NoEscape", "internal/bytealg.MakeNoZero"], unfollowed := true, recurses := true, named := ["unicode/utf8.first", "unicode/utf8.acceptRanges", "internal/bytealg.MaxLen"], apart := false, laid := [("unicode/utf8.acceptRanges", laid_unicode_utf8_acceptRanges), ("unicode/utf8.first", laid_unicode_utf8_first)], narrowed := true }
def FnExactLastingTraysUptoSaid : Prop := fnExactLastingTraysUptoRow.holds Tryz.pinned (OpenSpec.upto fnExactLastingTraysSpec)

/-- 'laws.FnExactCellsOfBall', WHERE WHAT IT READS IS OF BULK AT MOST 1048576: true; the input reads as it did. -/
def fnExactCellsOfBallUptoRow : OpenClaim := { program := "ytjohcjkidoalkaagreatdoor", sum := "7f7cb97337454d7f052d45da301da0b73ae2296e5ece85e9c81fc678d56ce441", func := "loop.example/g01199/laws.FnExactCellsOfBall", spec := "fnExactCellsOfBall", inPlace := ["internal/bytealg.CountString", "internal/bytealg.IndexByteString", "internal/bytealg.IndexString", "internal/abi.NoEscape", "internal/bytealg.MakeNoZero"], unfollowed := true, recurses := true, named := ["unicode/utf8.first", "unicode/utf8.acceptRanges", "internal/bytealg.MaxLen"], apart := false, laid := [("unicode/utf8.acceptRanges", laid_unicode_utf8_acceptRanges), ("unicode/utf8.first", laid_unicode_utf8_first)], narrowed := true }
def FnExactCellsOfBallUptoSaid : Prop := fnExactCellsOfBallUptoRow.holds Tryz.pinned (OpenSpec.upto fnExactCellsOfBallSpec)

/-- 'laws.FnExactAllStill', WHERE WHAT IT READS IS OF BULK AT MOST 1048576: true; the input reads as it did. -/
def fnExactAllStillUptoRow : OpenClaim := { program := "ytjohcjkidoalkaagreatdoor", sum := "7f7cb97337454d7f052d45da301da0b73ae2296e5ece85e9c81fc678d56ce441", func := "loop.example/g01199/laws.FnExactAllStill", spec := "fnExactAllStill", inPlace := ["internal/bytealg.CountString", "internal/bytealg.IndexByteString", "internal/bytealg.IndexString", "internal/abi.NoEscape", "internal/bytealg.MakeNoZero"], unfollowed := true, recurses := true, named := ["unicode/utf8.first", "unicode/utf8.acceptRanges", "internal/bytealg.MaxLen"], apart := false, laid := [("unicode/utf8.acceptRanges", laid_unicode_utf8_acceptRanges), ("unicode/utf8.first", laid_unicode_utf8_first)], narrowed := true }
def FnExactAllStillUptoSaid : Prop := fnExactAllStillUptoRow.holds Tryz.pinned (OpenSpec.upto fnExactAllStillSpec)

/-- 'laws.FnExactClassesReached', WHERE WHAT IT READS IS OF BULK AT MOST 1048576: true; the input reads as it did. -/
def fnExactClassesReachedUptoRow : OpenClaim := { program := "ytjohcjkidoalkaagreatdoor", sum := "7f7cb97337454d7f052d45da301da0b73ae2296e5ece85e9c81fc678d56ce441", func := "loop.example/g01199/laws.FnExactClassesReached", spec := "fnExactClassesReached", inPlace := ["internal/bytealg.CountString", "internal/bytealg.IndexByteString", "internal/bytealg.IndexString", "internal/abi.NoEscape", "internal/bytealg.MakeNoZero", "internal/bytealg.abigen_runtime_cmpstring"], unfollowed := true, recurses := true, named := ["unicode/utf8.first", "unicode/utf8.acceptRanges", "internal/bytealg.MaxLen"], apart := false, laid := [("unicode/utf8.acceptRanges", laid_unicode_utf8_acceptRanges), ("unicode/utf8.first", laid_unicode_utf8_first)], narrowed := true }
def FnExactClassesReachedUptoSaid : Prop := fnExactClassesReachedUptoRow.holds Tryz.pinned (OpenSpec.upto fnExactClassesReachedSpec)

end Rows
end Go.Proofs.YtjohcjkidoalkaaGreatDoor
