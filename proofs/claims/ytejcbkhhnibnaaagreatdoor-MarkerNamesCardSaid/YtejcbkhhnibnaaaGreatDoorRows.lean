/-
  NARROWER THAN 'FOR EVERY INPUT', by the rows' own cells (each row's printed sentence says how): MarkerNames: laid · MarkerParts: laid · MarkerHolds: loops, laid · MarkerBack: laid.
  DERIVED. THE GIVEN ROWS OF THIS SEAT. 4 by the template 'for every input the law returns true; each argument reads behind the call as it read before'; 0 by the template 'total and deterministic' (their statements: YtejcbkhhnibnaaaGreatDoorTotals.lean).
  GIVEN WITH THE SEED: the statements are not yours to turn. If you find one false, say at which input.
  Laid BY PROGRAM, IN A SANDBOX (cutbox-rows.mjs): the forced cells as the released guide's own fill.sh prints them over the translation 83e459c3a2e7d73a… (all of the seat's roots in one cut). By AI agents, Wed Nov 11 2026. No macro, syntax, notation, axiom, sorry.
-/
import Derived.Test.YtejcbkhhnibnaaaGreatDoorChecked
import GoSem.PinnedTables
import GoSem.Claim
import GoSem.ClaimJoined
import GoSem.ClaimMapViews
import Derived.JoinedTies
import Derived.KernelRfl
namespace Go.Proofs.YtejcbkhhnibnaaaGreatDoor
/- THE CELL 'sum', in the pinned program and in every row, IS THE sha256 OF THE DUMP (.gsa) THAT YtejcbkhhnibnaaaGreatDoorProg.lean LOADS. Nothing in Lean hashes anything: it is a label: what it is worth is what the hold of that sum in a sandbox is worth. -/
noncomputable def Tryz.pinned : Pinned := { name := "ytejcbkhhnibnaaagreatdoor", sum := "83e459c3a2e7d73adb39d22ab799fe37752f981f75c7c5585e11579d85f8ff78", checked := Tryz.checked }
namespace Rows
def none {H : Type} : Left H := { results := [], args := [] }

/- WHAT THE LISTED PACKAGE-LEVEL VARIABLES READ AS WHEN THE CALL BEGINS. Each datum BY PROGRAM (the guide's laid-datum.mjs) off the statement by which the dump's own 'gosem.cut.vars' lays the variable. In a bare row this is a premise. The card (YtejcbkhhnibnaaaGreatDoorCards.lean) ties it to the program's text. -/
def laid_unicode_utf8_acceptRanges {H : Type} : DataW H := .agg [.agg [.lit (.int .u8 128), .lit (.int .u8 191)], .agg [.lit (.int .u8 160), .lit (.int .u8 191)], .agg [.lit (.int .u8 128), .lit (.int .u8 159)], .agg [.lit (.int .u8 144), .lit (.int .u8 191)], .agg [.lit (.int .u8 128), .lit (.int .u8 143)], .agg [.lit (.int .u8 0), .lit (.int .u8 0)], .agg [.lit (.int .u8 0), .lit (.int .u8 0)], .agg [.lit (.int .u8 0), .lit (.int .u8 0)], .agg [.lit (.int .u8 0), .lit (.int .u8 0)], .agg [.lit (.int .u8 0), .lit (.int .u8 0)], .agg [.lit (.int .u8 0), .lit (.int .u8 0)], .agg [.lit (.int .u8 0), .lit (.int .u8 0)], .agg [.lit (.int .u8 0), .lit (.int .u8 0)], .agg [.lit (.int .u8 0), .lit (.int .u8 0)], .agg [.lit (.int .u8 0), .lit (.int .u8 0)], .agg [.lit (.int .u8 0), .lit (.int .u8 0)]]
/-- One of Go's own tables, pinned by name: the form's constant. -/
def laid_unicode_utf8_first : DataW Unit := Go.Pinned.utf8First

/-- 'dovetaillaw11.MarkerNames': WHATEVER THE INPUT: true; the input reads as it did. -/
def markerNamesSpec : ChangeSpec := { name := "markerNames", fn := fun _ => fun
  | [d] => { results := [.lit (.bool true)], args := [d] }
  | _ => none }
def markerNamesRow : OpenClaim := { program := "ytejcbkhhnibnaaagreatdoor", sum := "83e459c3a2e7d73adb39d22ab799fe37752f981f75c7c5585e11579d85f8ff78", func := "dovetail/dovetaillaw11.MarkerNames", spec := "markerNames", inPlace := ["internal/bytealg.IndexByteString", "internal/bytealg.IndexString", "internal/abi.NoEscape", "internal/bytealg.MakeNoZero", "internal/bytealg.abigen_runtime_cmpstring"], unfollowed := true, recurses := true, named := ["unicode/utf8.first", "unicode/utf8.acceptRanges", "internal/bytealg.MaxLen"], apart := false, laid := [("unicode/utf8.acceptRanges", laid_unicode_utf8_acceptRanges), ("unicode/utf8.first", laid_unicode_utf8_first)] }
def MarkerNamesSaid : Prop := markerNamesRow.holds Tryz.pinned (OpenSpec.ofChange markerNamesSpec)

/-- ITS FALSE NEIGHBOUR: 'it returns false'. Refute it at one input. -/
def markerNamesWrong : ChangeSpec := { name := "markerNames", fn := fun _ => fun
  | [d] => { results := [.lit (.bool false)], args := [d] }
  | _ => none }
def MarkerNamesWrongFalsely : Prop := markerNamesRow.holds Tryz.pinned (OpenSpec.ofChange markerNamesWrong)

/-- 'dovetaillaw11.MarkerParts': WHATEVER THE INPUT: true; the input reads as it did. -/
def markerPartsSpec : ChangeSpec := { name := "markerParts", fn := fun _ => fun
  | [d1, d2, d3, d4] => { results := [.lit (.bool true)], args := [d1, d2, d3, d4] }
  | _ => none }
def markerPartsRow : OpenClaim := { program := "ytejcbkhhnibnaaagreatdoor", sum := "83e459c3a2e7d73adb39d22ab799fe37752f981f75c7c5585e11579d85f8ff78", func := "dovetail/dovetaillaw11.MarkerParts", spec := "markerParts", inPlace := ["internal/bytealg.IndexByteString", "internal/bytealg.IndexString", "internal/abi.NoEscape", "internal/bytealg.MakeNoZero", "internal/bytealg.abigen_runtime_cmpstring"], unfollowed := true, recurses := true, named := ["unicode/utf8.first", "unicode/utf8.acceptRanges", "internal/bytealg.MaxLen"], apart := false, laid := [("unicode/utf8.acceptRanges", laid_unicode_utf8_acceptRanges), ("unicode/utf8.first", laid_unicode_utf8_first)] }
def MarkerPartsSaid : Prop := markerPartsRow.holds Tryz.pinned (OpenSpec.ofChange markerPartsSpec)

/-- ITS FALSE NEIGHBOUR: 'it returns false'. Refute it at one input. -/
def markerPartsWrong : ChangeSpec := { name := "markerParts", fn := fun _ => fun
  | [d1, d2, d3, d4] => { results := [.lit (.bool false)], args := [d1, d2, d3, d4] }
  | _ => none }
def MarkerPartsWrongFalsely : Prop := markerPartsRow.holds Tryz.pinned (OpenSpec.ofChange markerPartsWrong)

/-- 'dovetaillaw11.MarkerHolds': WHATEVER THE INPUT: true; the input reads as it did. -/
def markerHoldsSpec : ChangeSpec := { name := "markerHolds", fn := fun _ => fun
  | [d1, d2, d3] => { results := [.lit (.bool true)], args := [d1, d2, d3] }
  | _ => none }
def markerHoldsRow : OpenClaim := { program := "ytejcbkhhnibnaaagreatdoor", sum := "83e459c3a2e7d73adb39d22ab799fe37752f981f75c7c5585e11579d85f8ff78", func := "dovetail/dovetaillaw11.MarkerHolds", spec := "markerHolds", inPlace := ["internal/bytealg.IndexByteString", "internal/bytealg.IndexString", "internal/abi.NoEscape", "internal/bytealg.MakeNoZero", "internal/bytealg.abigen_runtime_cmpstring"], unfollowed := true, recurses := true, named := ["unicode/utf8.first", "unicode/utf8.acceptRanges", "internal/bytealg.MaxLen"], loops := true, apart := false, laid := [("unicode/utf8.acceptRanges", laid_unicode_utf8_acceptRanges), ("unicode/utf8.first", laid_unicode_utf8_first)] }
def MarkerHoldsSaid : Prop := markerHoldsRow.holds Tryz.pinned (OpenSpec.ofChange markerHoldsSpec)

/-- ITS FALSE NEIGHBOUR: 'it returns false'. Refute it at one input. -/
def markerHoldsWrong : ChangeSpec := { name := "markerHolds", fn := fun _ => fun
  | [d1, d2, d3] => { results := [.lit (.bool false)], args := [d1, d2, d3] }
  | _ => none }
def MarkerHoldsWrongFalsely : Prop := markerHoldsRow.holds Tryz.pinned (OpenSpec.ofChange markerHoldsWrong)

/-- 'dovetaillaw11.MarkerBack': WHATEVER THE INPUT: true; the input reads as it did. -/
def markerBackSpec : ChangeSpec := { name := "markerBack", fn := fun _ => fun
  | [d1, d2, d3] => { results := [.lit (.bool true)], args := [d1, d2, d3] }
  | _ => none }
def markerBackRow : OpenClaim := { program := "ytejcbkhhnibnaaagreatdoor", sum := "83e459c3a2e7d73adb39d22ab799fe37752f981f75c7c5585e11579d85f8ff78", func := "dovetail/dovetaillaw11.MarkerBack", spec := "markerBack", inPlace := ["internal/bytealg.IndexByteString", "internal/bytealg.IndexString", "internal/abi.NoEscape", "internal/bytealg.MakeNoZero", "internal/bytealg.abigen_runtime_cmpstring"], unfollowed := true, recurses := true, named := ["unicode/utf8.first", "unicode/utf8.acceptRanges", "internal/bytealg.MaxLen"], apart := false, laid := [("unicode/utf8.acceptRanges", laid_unicode_utf8_acceptRanges), ("unicode/utf8.first", laid_unicode_utf8_first)] }
def MarkerBackSaid : Prop := markerBackRow.holds Tryz.pinned (OpenSpec.ofChange markerBackSpec)

/-- ITS FALSE NEIGHBOUR: 'it returns false'. Refute it at one input. -/
def markerBackWrong : ChangeSpec := { name := "markerBack", fn := fun _ => fun
  | [d1, d2, d3] => { results := [.lit (.bool false)], args := [d1, d2, d3] }
  | _ => none }
def MarkerBackWrongFalsely : Prop := markerBackRow.holds Tryz.pinned (OpenSpec.ofChange markerBackWrong)

/- THE SECOND FORM. 'bulk': how many values and letters a reading holds, each counted each time it is reached (what is shared counts as often as it is met; a slice's spare places count too). A statement '..UptoSaid' is the law's where the arguments, and the package variables that the reading takes, are together of bulk at most 1048576: NARROWER than '..Said'. Prove '..Said' where nothing that the law and all that it calls make is longer than what came in: it says more and counts as full. Else prove '..UptoSaid'. A law counts once. -/
mutual
def uptoBulk {H : Type} : DataW H → Nat
  | .lit (.string bytes) => bytes.length + 1
  | .lit _ => 1
  | .nil => 1
  | .ptr d => uptoBulk d + 1
  | .slice elems spare => uptoBulkAll elems + uptoBulkAll spare + 1
  | .agg parts => uptoBulkAll parts + 1
  | .iface _ d => uptoBulk d + 1
  | .map entries => uptoBulkEntries entries + 1
  | .held _ => 1
def uptoBulkAll {H : Type} : List (DataW H) → Nat
  | [] => 0
  | d :: r => uptoBulk d + uptoBulkAll r
def uptoBulkEntries {H : Type} : List (Lit × DataW H) → Nat
  | [] => 0
  | x :: r => uptoBulkEntry x + uptoBulkEntries r
def uptoBulkEntry {H : Type} : Lit × DataW H → Nat
  | (.string bytes, d) => bytes.length + uptoBulk d + 1
  | (_, d) => uptoBulk d + 1
 end
def uptoSmall : (H : Type) → List (DataW H) → Bool := fun _ ds => decide (uptoBulkAll ds ≤ 1048576)
def OpenSpec.upto (s : _root_.Go.ChangeSpec) : _root_.Go.OpenSpec := { _root_.Go.OpenSpec.ofChange s with cond := some uptoSmall }

/-- 'dovetaillaw11.MarkerNames', WHERE WHAT IT READS IS OF BULK AT MOST 1048576: true; the input reads as it did. -/
def markerNamesUptoRow : OpenClaim := { program := "ytejcbkhhnibnaaagreatdoor", sum := "83e459c3a2e7d73adb39d22ab799fe37752f981f75c7c5585e11579d85f8ff78", func := "dovetail/dovetaillaw11.MarkerNames", spec := "markerNames", inPlace := ["internal/bytealg.IndexByteString", "internal/bytealg.IndexString", "internal/abi.NoEscape", "internal/bytealg.MakeNoZero", "internal/bytealg.abigen_runtime_cmpstring"], unfollowed := true, recurses := true, named := ["unicode/utf8.first", "unicode/utf8.acceptRanges", "internal/bytealg.MaxLen"], apart := false, laid := [("unicode/utf8.acceptRanges", laid_unicode_utf8_acceptRanges), ("unicode/utf8.first", laid_unicode_utf8_first)], narrowed := true }
def MarkerNamesUptoSaid : Prop := markerNamesUptoRow.holds Tryz.pinned (OpenSpec.upto markerNamesSpec)

/-- 'dovetaillaw11.MarkerParts', WHERE WHAT IT READS IS OF BULK AT MOST 1048576: true; the input reads as it did. -/
def markerPartsUptoRow : OpenClaim := { program := "ytejcbkhhnibnaaagreatdoor", sum := "83e459c3a2e7d73adb39d22ab799fe37752f981f75c7c5585e11579d85f8ff78", func := "dovetail/dovetaillaw11.MarkerParts", spec := "markerParts", inPlace := ["internal/bytealg.IndexByteString", "internal/bytealg.IndexString", "internal/abi.NoEscape", "internal/bytealg.MakeNoZero", "internal/bytealg.abigen_runtime_cmpstring"], unfollowed := true, recurses := true, named := ["unicode/utf8.first", "unicode/utf8.acceptRanges", "internal/bytealg.MaxLen"], apart := false, laid := [("unicode/utf8.acceptRanges", laid_unicode_utf8_acceptRanges), ("unicode/utf8.first", laid_unicode_utf8_first)], narrowed := true }
def MarkerPartsUptoSaid : Prop := markerPartsUptoRow.holds Tryz.pinned (OpenSpec.upto markerPartsSpec)

/-- 'dovetaillaw11.MarkerHolds', WHERE WHAT IT READS IS OF BULK AT MOST 1048576: true; the input reads as it did. -/
def markerHoldsUptoRow : OpenClaim := { program := "ytejcbkhhnibnaaagreatdoor", sum := "83e459c3a2e7d73adb39d22ab799fe37752f981f75c7c5585e11579d85f8ff78", func := "dovetail/dovetaillaw11.MarkerHolds", spec := "markerHolds", inPlace := ["internal/bytealg.IndexByteString", "internal/bytealg.IndexString", "internal/abi.NoEscape", "internal/bytealg.MakeNoZero", "internal/bytealg.abigen_runtime_cmpstring"], unfollowed := true, recurses := true, named := ["unicode/utf8.first", "unicode/utf8.acceptRanges", "internal/bytealg.MaxLen"], loops := true, apart := false, laid := [("unicode/utf8.acceptRanges", laid_unicode_utf8_acceptRanges), ("unicode/utf8.first", laid_unicode_utf8_first)], narrowed := true }
def MarkerHoldsUptoSaid : Prop := markerHoldsUptoRow.holds Tryz.pinned (OpenSpec.upto markerHoldsSpec)

/-- 'dovetaillaw11.MarkerBack', WHERE WHAT IT READS IS OF BULK AT MOST 1048576: true; the input reads as it did. -/
def markerBackUptoRow : OpenClaim := { program := "ytejcbkhhnibnaaagreatdoor", sum := "83e459c3a2e7d73adb39d22ab799fe37752f981f75c7c5585e11579d85f8ff78", func := "dovetail/dovetaillaw11.MarkerBack", spec := "markerBack", inPlace := ["internal/bytealg.IndexByteString", "internal/bytealg.IndexString", "internal/abi.NoEscape", "internal/bytealg.MakeNoZero", "internal/bytealg.abigen_runtime_cmpstring"], unfollowed := true, recurses := true, named := ["unicode/utf8.first", "unicode/utf8.acceptRanges", "internal/bytealg.MaxLen"], apart := false, laid := [("unicode/utf8.acceptRanges", laid_unicode_utf8_acceptRanges), ("unicode/utf8.first", laid_unicode_utf8_first)], narrowed := true }
def MarkerBackUptoSaid : Prop := markerBackUptoRow.holds Tryz.pinned (OpenSpec.upto markerBackSpec)

end Rows
end Go.Proofs.YtejcbkhhnibnaaaGreatDoor
