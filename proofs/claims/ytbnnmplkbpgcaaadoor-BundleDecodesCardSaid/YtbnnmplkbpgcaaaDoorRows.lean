/-
  NARROWER THAN 'FOR EVERY INPUT', by the rows' own cells (each row's printed sentence says how): BundleDecodes: laid · BundleHops: laid · BundleBits: laid · BundleEncodes: laid · BundleBack: laid · BundleTells: laid.
  DERIVED. THE GIVEN ROWS OF THIS SEAT. 6 by the template 'for every input the law returns true; each argument reads behind the call as it read before'; 0 by the template 'total and deterministic' (their statements: YtbnnmplkbpgcaaaDoorTotals.lean).
  GIVEN WITH THE SEED: the statements are not yours to turn. If you find one false, say at which input.
  Laid BY PROGRAM, IN A SANDBOX (cutbox-rows.mjs): the forced cells as the released guide's own fill.sh prints them over the translation 94d56f482532901a… (all of the seat's roots in one cut). By AI agents, Wed Nov 11 2026. No macro, syntax, notation, axiom, sorry.
-/
import Derived.Test.YtbnnmplkbpgcaaaDoorChecked
import GoSem.PinnedTables
import GoSem.Claim
import GoSem.ClaimJoined
import GoSem.ClaimMapViews
import Derived.JoinedTies
import Derived.KernelRfl
namespace Go.Proofs.YtbnnmplkbpgcaaaDoor
/- THE CELL 'sum', in the pinned program and in every row, IS THE sha256 OF THE DUMP (.gsa) THAT YtbnnmplkbpgcaaaDoorProg.lean LOADS. Nothing in Lean hashes anything: it is a label: what it is worth is what the hold of that sum in a sandbox is worth. -/
noncomputable def Tryd.pinned : Pinned := { name := "ytbnnmplkbpgcaaadoor", sum := "94d56f482532901a89e86c8716ad406d8bf95ea2bb76d721e47f2afae3c50e7c", checked := Tryd.checked }
namespace Rows
def none {H : Type} : Left H := { results := [], args := [] }

/- WHAT THE LISTED PACKAGE-LEVEL VARIABLES READ AS WHEN THE CALL BEGINS. Each datum BY PROGRAM (the guide's laid-datum.mjs) off the statement by which the dump's own 'gosem.cut.vars' lays the variable. In a bare row this is a premise. The card (YtbnnmplkbpgcaaaDoorCards.lean) ties it to the program's text. -/
def laid_unicode_utf8_acceptRanges {H : Type} : DataW H := .agg [.agg [.lit (.int .u8 128), .lit (.int .u8 191)], .agg [.lit (.int .u8 160), .lit (.int .u8 191)], .agg [.lit (.int .u8 128), .lit (.int .u8 159)], .agg [.lit (.int .u8 144), .lit (.int .u8 191)], .agg [.lit (.int .u8 128), .lit (.int .u8 143)], .agg [.lit (.int .u8 0), .lit (.int .u8 0)], .agg [.lit (.int .u8 0), .lit (.int .u8 0)], .agg [.lit (.int .u8 0), .lit (.int .u8 0)], .agg [.lit (.int .u8 0), .lit (.int .u8 0)], .agg [.lit (.int .u8 0), .lit (.int .u8 0)], .agg [.lit (.int .u8 0), .lit (.int .u8 0)], .agg [.lit (.int .u8 0), .lit (.int .u8 0)], .agg [.lit (.int .u8 0), .lit (.int .u8 0)], .agg [.lit (.int .u8 0), .lit (.int .u8 0)], .agg [.lit (.int .u8 0), .lit (.int .u8 0)], .agg [.lit (.int .u8 0), .lit (.int .u8 0)]]
/-- One of Go's own tables, pinned by name: the form's constant. -/
def laid_unicode_utf8_first : DataW Unit := Go.Pinned.utf8First

/-- 'heliographlaw09.BundleDecodes': WHATEVER THE INPUT: true; the input reads as it did. -/
def bundleDecodesSpec : ChangeSpec := { name := "bundleDecodes", fn := fun _ => fun
  | [d] => { results := [.lit (.bool true)], args := [d] }
  | _ => none }
def bundleDecodesRow : OpenClaim := { program := "ytbnnmplkbpgcaaadoor", sum := "94d56f482532901a89e86c8716ad406d8bf95ea2bb76d721e47f2afae3c50e7c", func := "heliograph/heliographlaw09.BundleDecodes", spec := "bundleDecodes", unfollowed := true, recurses := true, named := ["unicode/utf8.first", "unicode/utf8.acceptRanges"], apart := false, laid := [("unicode/utf8.acceptRanges", laid_unicode_utf8_acceptRanges), ("unicode/utf8.first", laid_unicode_utf8_first)] }
def BundleDecodesSaid : Prop := bundleDecodesRow.holds Tryd.pinned (OpenSpec.ofChange bundleDecodesSpec)

/-- ITS FALSE NEIGHBOUR: 'it returns false'. Refute it at one input. -/
def bundleDecodesWrong : ChangeSpec := { name := "bundleDecodes", fn := fun _ => fun
  | [d] => { results := [.lit (.bool false)], args := [d] }
  | _ => none }
def BundleDecodesWrongFalsely : Prop := bundleDecodesRow.holds Tryd.pinned (OpenSpec.ofChange bundleDecodesWrong)

/-- 'heliographlaw09.BundleHops': WHATEVER THE INPUT: true; the input reads as it did. -/
def bundleHopsSpec : ChangeSpec := { name := "bundleHops", fn := fun _ => fun
  | [d1, d2] => { results := [.lit (.bool true)], args := [d1, d2] }
  | _ => none }
def bundleHopsRow : OpenClaim := { program := "ytbnnmplkbpgcaaadoor", sum := "94d56f482532901a89e86c8716ad406d8bf95ea2bb76d721e47f2afae3c50e7c", func := "heliograph/heliographlaw09.BundleHops", spec := "bundleHops", unfollowed := true, recurses := true, named := ["unicode/utf8.first", "unicode/utf8.acceptRanges"], apart := false, laid := [("unicode/utf8.acceptRanges", laid_unicode_utf8_acceptRanges), ("unicode/utf8.first", laid_unicode_utf8_first)] }
def BundleHopsSaid : Prop := bundleHopsRow.holds Tryd.pinned (OpenSpec.ofChange bundleHopsSpec)

/-- ITS FALSE NEIGHBOUR: 'it returns false'. Refute it at one input. -/
def bundleHopsWrong : ChangeSpec := { name := "bundleHops", fn := fun _ => fun
  | [d1, d2] => { results := [.lit (.bool false)], args := [d1, d2] }
  | _ => none }
def BundleHopsWrongFalsely : Prop := bundleHopsRow.holds Tryd.pinned (OpenSpec.ofChange bundleHopsWrong)

/-- 'heliographlaw09.BundleBits': WHATEVER THE INPUT: true; the input reads as it did. -/
def bundleBitsSpec : ChangeSpec := { name := "bundleBits", fn := fun _ => fun
  | [d1, d2] => { results := [.lit (.bool true)], args := [d1, d2] }
  | _ => none }
def bundleBitsRow : OpenClaim := { program := "ytbnnmplkbpgcaaadoor", sum := "94d56f482532901a89e86c8716ad406d8bf95ea2bb76d721e47f2afae3c50e7c", func := "heliograph/heliographlaw09.BundleBits", spec := "bundleBits", unfollowed := true, recurses := true, named := ["unicode/utf8.first", "unicode/utf8.acceptRanges"], apart := false, laid := [("unicode/utf8.acceptRanges", laid_unicode_utf8_acceptRanges), ("unicode/utf8.first", laid_unicode_utf8_first)] }
def BundleBitsSaid : Prop := bundleBitsRow.holds Tryd.pinned (OpenSpec.ofChange bundleBitsSpec)

/-- ITS FALSE NEIGHBOUR: 'it returns false'. Refute it at one input. -/
def bundleBitsWrong : ChangeSpec := { name := "bundleBits", fn := fun _ => fun
  | [d1, d2] => { results := [.lit (.bool false)], args := [d1, d2] }
  | _ => none }
def BundleBitsWrongFalsely : Prop := bundleBitsRow.holds Tryd.pinned (OpenSpec.ofChange bundleBitsWrong)

/-- 'heliographlaw09.BundleEncodes': WHATEVER THE INPUT: true; the input reads as it did. -/
def bundleEncodesSpec : ChangeSpec := { name := "bundleEncodes", fn := fun _ => fun
  | [d] => { results := [.lit (.bool true)], args := [d] }
  | _ => none }
def bundleEncodesRow : OpenClaim := { program := "ytbnnmplkbpgcaaadoor", sum := "94d56f482532901a89e86c8716ad406d8bf95ea2bb76d721e47f2afae3c50e7c", func := "heliograph/heliographlaw09.BundleEncodes", spec := "bundleEncodes", unfollowed := true, recurses := true, named := ["unicode/utf8.first", "unicode/utf8.acceptRanges"], apart := false, laid := [("unicode/utf8.acceptRanges", laid_unicode_utf8_acceptRanges), ("unicode/utf8.first", laid_unicode_utf8_first)] }
def BundleEncodesSaid : Prop := bundleEncodesRow.holds Tryd.pinned (OpenSpec.ofChange bundleEncodesSpec)

/-- ITS FALSE NEIGHBOUR: 'it returns false'. Refute it at one input. -/
def bundleEncodesWrong : ChangeSpec := { name := "bundleEncodes", fn := fun _ => fun
  | [d] => { results := [.lit (.bool false)], args := [d] }
  | _ => none }
def BundleEncodesWrongFalsely : Prop := bundleEncodesRow.holds Tryd.pinned (OpenSpec.ofChange bundleEncodesWrong)

/-- 'heliographlaw09.BundleBack': WHATEVER THE INPUT: true; the input reads as it did. -/
def bundleBackSpec : ChangeSpec := { name := "bundleBack", fn := fun _ => fun
  | [d1, d2] => { results := [.lit (.bool true)], args := [d1, d2] }
  | _ => none }
def bundleBackRow : OpenClaim := { program := "ytbnnmplkbpgcaaadoor", sum := "94d56f482532901a89e86c8716ad406d8bf95ea2bb76d721e47f2afae3c50e7c", func := "heliograph/heliographlaw09.BundleBack", spec := "bundleBack", unfollowed := true, recurses := true, named := ["unicode/utf8.first", "unicode/utf8.acceptRanges"], apart := false, laid := [("unicode/utf8.acceptRanges", laid_unicode_utf8_acceptRanges), ("unicode/utf8.first", laid_unicode_utf8_first)] }
def BundleBackSaid : Prop := bundleBackRow.holds Tryd.pinned (OpenSpec.ofChange bundleBackSpec)

/-- ITS FALSE NEIGHBOUR: 'it returns false'. Refute it at one input. -/
def bundleBackWrong : ChangeSpec := { name := "bundleBack", fn := fun _ => fun
  | [d1, d2] => { results := [.lit (.bool false)], args := [d1, d2] }
  | _ => none }
def BundleBackWrongFalsely : Prop := bundleBackRow.holds Tryd.pinned (OpenSpec.ofChange bundleBackWrong)

/-- 'heliographlaw09.BundleTells': WHATEVER THE INPUT: true; the input reads as it did. -/
def bundleTellsSpec : ChangeSpec := { name := "bundleTells", fn := fun _ => fun
  | [d1, d2, d3] => { results := [.lit (.bool true)], args := [d1, d2, d3] }
  | _ => none }
def bundleTellsRow : OpenClaim := { program := "ytbnnmplkbpgcaaadoor", sum := "94d56f482532901a89e86c8716ad406d8bf95ea2bb76d721e47f2afae3c50e7c", func := "heliograph/heliographlaw09.BundleTells", spec := "bundleTells", unfollowed := true, recurses := true, named := ["unicode/utf8.first", "unicode/utf8.acceptRanges"], apart := false, laid := [("unicode/utf8.acceptRanges", laid_unicode_utf8_acceptRanges), ("unicode/utf8.first", laid_unicode_utf8_first)] }
def BundleTellsSaid : Prop := bundleTellsRow.holds Tryd.pinned (OpenSpec.ofChange bundleTellsSpec)

/-- ITS FALSE NEIGHBOUR: 'it returns false'. Refute it at one input. -/
def bundleTellsWrong : ChangeSpec := { name := "bundleTells", fn := fun _ => fun
  | [d1, d2, d3] => { results := [.lit (.bool false)], args := [d1, d2, d3] }
  | _ => none }
def BundleTellsWrongFalsely : Prop := bundleTellsRow.holds Tryd.pinned (OpenSpec.ofChange bundleTellsWrong)

/- THE SECOND FORM. 'bulk': how many values and letters a reading holds, each counted each time it is reached (what is shared counts as often as it is met; a slice's spare places count too). A statement '..UptoSaid' is the law's where the arguments, and the package variables that the reading takes, are together of bulk at most 1048576: NARROWER than '..Said'. Prove '..Said' where nothing that the law and all that it calls make is longer than what came in: it says more and counts as full. Else prove '..UptoSaid'. A law counts once. -/
mutual
def uptoBulk {H : Type} : DataW H → Nat
  | .lit (.string bytes) => bytes.length + 1
  | .lit _ => 1
  | .nil => 1
  | .ptr d => uptoBulk d + 1
  | .slice elems spare => uptoBulkAll elems + uptoBulkAll spare + 1
  | .agg parts => uptoBulkAll parts + 1
  | .iface _ d => uptoBulk d + 1
  | .map entries => uptoBulkEntries entries + 1
  | .held _ => 1
def uptoBulkAll {H : Type} : List (DataW H) → Nat
  | [] => 0
  | d :: r => uptoBulk d + uptoBulkAll r
def uptoBulkEntries {H : Type} : List (Lit × DataW H) → Nat
  | [] => 0
  | x :: r => uptoBulkEntry x + uptoBulkEntries r
def uptoBulkEntry {H : Type} : Lit × DataW H → Nat
  | (.string bytes, d) => bytes.length + uptoBulk d + 1
  | (_, d) => uptoBulk d + 1
 end
def uptoSmall : (H : Type) → List (DataW H) → Bool := fun _ ds => decide (uptoBulkAll ds ≤ 1048576)
def OpenSpec.upto (s : _root_.Go.ChangeSpec) : _root_.Go.OpenSpec := { _root_.Go.OpenSpec.ofChange s with cond := some uptoSmall }

/-- 'heliographlaw09.BundleDecodes', WHERE WHAT IT READS IS OF BULK AT MOST 1048576: true; the input reads as it did. -/
def bundleDecodesUptoRow : OpenClaim := { program := "ytbnnmplkbpgcaaadoor", sum := "94d56f482532901a89e86c8716ad406d8bf95ea2bb76d721e47f2afae3c50e7c", func := "heliograph/heliographlaw09.BundleDecodes", spec := "bundleDecodes", unfollowed := true, recurses := true, named := ["unicode/utf8.first", "unicode/utf8.acceptRanges"], apart := false, laid := [("unicode/utf8.acceptRanges", laid_unicode_utf8_acceptRanges), ("unicode/utf8.first", laid_unicode_utf8_first)], narrowed := true }
def BundleDecodesUptoSaid : Prop := bundleDecodesUptoRow.holds Tryd.pinned (OpenSpec.upto bundleDecodesSpec)

/-- 'heliographlaw09.BundleHops', WHERE WHAT IT READS IS OF BULK AT MOST 1048576: true; the input reads as it did. -/
def bundleHopsUptoRow : OpenClaim := { program := "ytbnnmplkbpgcaaadoor", sum := "94d56f482532901a89e86c8716ad406d8bf95ea2bb76d721e47f2afae3c50e7c", func := "heliograph/heliographlaw09.BundleHops", spec := "bundleHops", unfollowed := true, recurses := true, named := ["unicode/utf8.first", "unicode/utf8.acceptRanges"], apart := false, laid := [("unicode/utf8.acceptRanges", laid_unicode_utf8_acceptRanges), ("unicode/utf8.first", laid_unicode_utf8_first)], narrowed := true }
def BundleHopsUptoSaid : Prop := bundleHopsUptoRow.holds Tryd.pinned (OpenSpec.upto bundleHopsSpec)

/-- 'heliographlaw09.BundleBits', WHERE WHAT IT READS IS OF BULK AT MOST 1048576: true; the input reads as it did. -/
def bundleBitsUptoRow : OpenClaim := { program := "ytbnnmplkbpgcaaadoor", sum := "94d56f482532901a89e86c8716ad406d8bf95ea2bb76d721e47f2afae3c50e7c", func := "heliograph/heliographlaw09.BundleBits", spec := "bundleBits", unfollowed := true, recurses := true, named := ["unicode/utf8.first", "unicode/utf8.acceptRanges"], apart := false, laid := [("unicode/utf8.acceptRanges", laid_unicode_utf8_acceptRanges), ("unicode/utf8.first", laid_unicode_utf8_first)], narrowed := true }
def BundleBitsUptoSaid : Prop := bundleBitsUptoRow.holds Tryd.pinned (OpenSpec.upto bundleBitsSpec)

/-- 'heliographlaw09.BundleEncodes', WHERE WHAT IT READS IS OF BULK AT MOST 1048576: true; the input reads as it did. -/
def bundleEncodesUptoRow : OpenClaim := { program := "ytbnnmplkbpgcaaadoor", sum := "94d56f482532901a89e86c8716ad406d8bf95ea2bb76d721e47f2afae3c50e7c", func := "heliograph/heliographlaw09.BundleEncodes", spec := "bundleEncodes", unfollowed := true, recurses := true, named := ["unicode/utf8.first", "unicode/utf8.acceptRanges"], apart := false, laid := [("unicode/utf8.acceptRanges", laid_unicode_utf8_acceptRanges), ("unicode/utf8.first", laid_unicode_utf8_first)], narrowed := true }
def BundleEncodesUptoSaid : Prop := bundleEncodesUptoRow.holds Tryd.pinned (OpenSpec.upto bundleEncodesSpec)

/-- 'heliographlaw09.BundleBack', WHERE WHAT IT READS IS OF BULK AT MOST 1048576: true; the input reads as it did. -/
def bundleBackUptoRow : OpenClaim := { program := "ytbnnmplkbpgcaaadoor", sum := "94d56f482532901a89e86c8716ad406d8bf95ea2bb76d721e47f2afae3c50e7c", func := "heliograph/heliographlaw09.BundleBack", spec := "bundleBack", unfollowed := true, recurses := true, named := ["unicode/utf8.first", "unicode/utf8.acceptRanges"], apart := false, laid := [("unicode/utf8.acceptRanges", laid_unicode_utf8_acceptRanges), ("unicode/utf8.first", laid_unicode_utf8_first)], narrowed := true }
def BundleBackUptoSaid : Prop := bundleBackUptoRow.holds Tryd.pinned (OpenSpec.upto bundleBackSpec)

/-- 'heliographlaw09.BundleTells', WHERE WHAT IT READS IS OF BULK AT MOST 1048576: true; the input reads as it did. -/
def bundleTellsUptoRow : OpenClaim := { program := "ytbnnmplkbpgcaaadoor", sum := "94d56f482532901a89e86c8716ad406d8bf95ea2bb76d721e47f2afae3c50e7c", func := "heliograph/heliographlaw09.BundleTells", spec := "bundleTells", unfollowed := true, recurses := true, named := ["unicode/utf8.first", "unicode/utf8.acceptRanges"], apart := false, laid := [("unicode/utf8.acceptRanges", laid_unicode_utf8_acceptRanges), ("unicode/utf8.first", laid_unicode_utf8_first)], narrowed := true }
def BundleTellsUptoSaid : Prop := bundleTellsUptoRow.holds Tryd.pinned (OpenSpec.upto bundleTellsSpec)

end Rows
end Go.Proofs.YtbnnmplkbpgcaaaDoor
