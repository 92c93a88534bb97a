/-
  NARROWER THAN 'FOR EVERY INPUT', by the rows' own cells (each row's printed sentence says how): CborEncodes: loops, laid · CborMakes: loops, laid · CborBack: loops, laid · CborAgain: laid · CborTwo: loops, laid.
  DERIVED. THE GIVEN ROWS OF THIS SEAT. 5 by the template 'for every input the law returns true; each argument reads behind the call as it read before'; 0 by the template 'total and deterministic' (their statements: YtlelaenalbkbmaaDoorTotals.lean).
  GIVEN WITH THE SEED: the statements are not yours to turn. If you find one false, say at which input.
  Laid BY PROGRAM, IN A SANDBOX (cutbox-rows.mjs): the forced cells as the released guide's own fill.sh prints them over the translation ef243a13bc714561… (all of the seat's roots in one cut). By AI agents, Wed Nov 11 2026. No macro, syntax, notation, axiom, sorry.
-/
import Derived.Test.YtlelaenalbkbmaaDoorChecked
import GoSem.PinnedTables
import GoSem.Claim
import GoSem.ClaimJoined
import GoSem.ClaimMapViews
import Derived.JoinedTies
import Derived.KernelRfl
namespace Go.Proofs.YtlelaenalbkbmaaDoor
/- THE CELL 'sum', in the pinned program and in every row, IS THE sha256 OF THE DUMP (.gsa) THAT YtlelaenalbkbmaaDoorProg.lean LOADS. Nothing in Lean hashes anything: it is a label: what it is worth is what the hold of that sum in a sandbox is worth. -/
noncomputable def Tryd.pinned : Pinned := { name := "ytlelaenalbkbmaadoor", sum := "ef243a13bc7145619ad80b7aba49dba8f9d2f6397c3c6178c0a24627a1086428", checked := Tryd.checked }
namespace Rows
def none {H : Type} : Left H := { results := [], args := [] }

/- WHAT THE LISTED PACKAGE-LEVEL VARIABLES READ AS WHEN THE CALL BEGINS. Each datum BY PROGRAM (the guide's laid-datum.mjs) off the statement by which the dump's own 'gosem.cut.vars' lays the variable. In a bare row this is a premise. The card (YtlelaenalbkbmaaDoorCards.lean) ties it to the program's text. -/
def laid_unicode_utf8_acceptRanges {H : Type} : DataW H := .agg [.agg [.lit (.int .u8 128), .lit (.int .u8 191)], .agg [.lit (.int .u8 160), .lit (.int .u8 191)], .agg [.lit (.int .u8 128), .lit (.int .u8 159)], .agg [.lit (.int .u8 144), .lit (.int .u8 191)], .agg [.lit (.int .u8 128), .lit (.int .u8 143)], .agg [.lit (.int .u8 0), .lit (.int .u8 0)], .agg [.lit (.int .u8 0), .lit (.int .u8 0)], .agg [.lit (.int .u8 0), .lit (.int .u8 0)], .agg [.lit (.int .u8 0), .lit (.int .u8 0)], .agg [.lit (.int .u8 0), .lit (.int .u8 0)], .agg [.lit (.int .u8 0), .lit (.int .u8 0)], .agg [.lit (.int .u8 0), .lit (.int .u8 0)], .agg [.lit (.int .u8 0), .lit (.int .u8 0)], .agg [.lit (.int .u8 0), .lit (.int .u8 0)], .agg [.lit (.int .u8 0), .lit (.int .u8 0)], .agg [.lit (.int .u8 0), .lit (.int .u8 0)]]
/-- One of Go's own tables, pinned by name: the form's constant. -/
def laid_unicode_utf8_first : DataW Unit := Go.Pinned.utf8First

/-- 'heliographlaw07.CborEncodes': WHATEVER THE INPUT: true; the input reads as it did. -/
def cborEncodesSpec : ChangeSpec := { name := "cborEncodes", fn := fun _ => fun
  | [d] => { results := [.lit (.bool true)], args := [d] }
  | _ => none }
def cborEncodesRow : OpenClaim := { program := "ytlelaenalbkbmaadoor", sum := "ef243a13bc7145619ad80b7aba49dba8f9d2f6397c3c6178c0a24627a1086428", func := "heliograph/heliographlaw07.CborEncodes", spec := "cborEncodes", unfollowed := true, recurses := true, named := ["unicode/utf8.first", "unicode/utf8.acceptRanges"], loops := true, apart := false, laid := [("unicode/utf8.acceptRanges", laid_unicode_utf8_acceptRanges), ("unicode/utf8.first", laid_unicode_utf8_first)] }
def CborEncodesSaid : Prop := cborEncodesRow.holds Tryd.pinned (OpenSpec.ofChange cborEncodesSpec)

/-- ITS FALSE NEIGHBOUR: 'it returns false'. Refute it at one input. -/
def cborEncodesWrong : ChangeSpec := { name := "cborEncodes", fn := fun _ => fun
  | [d] => { results := [.lit (.bool false)], args := [d] }
  | _ => none }
def CborEncodesWrongFalsely : Prop := cborEncodesRow.holds Tryd.pinned (OpenSpec.ofChange cborEncodesWrong)

/-- 'heliographlaw07.CborMakes': WHATEVER THE INPUT: true; the input reads as it did. -/
def cborMakesSpec : ChangeSpec := { name := "cborMakes", fn := fun _ => fun
  | [d1, d2, d3] => { results := [.lit (.bool true)], args := [d1, d2, d3] }
  | _ => none }
def cborMakesRow : OpenClaim := { program := "ytlelaenalbkbmaadoor", sum := "ef243a13bc7145619ad80b7aba49dba8f9d2f6397c3c6178c0a24627a1086428", func := "heliograph/heliographlaw07.CborMakes", spec := "cborMakes", unfollowed := true, recurses := true, named := ["unicode/utf8.first", "unicode/utf8.acceptRanges"], loops := true, apart := false, laid := [("unicode/utf8.acceptRanges", laid_unicode_utf8_acceptRanges), ("unicode/utf8.first", laid_unicode_utf8_first)] }
def CborMakesSaid : Prop := cborMakesRow.holds Tryd.pinned (OpenSpec.ofChange cborMakesSpec)

/-- ITS FALSE NEIGHBOUR: 'it returns false'. Refute it at one input. -/
def cborMakesWrong : ChangeSpec := { name := "cborMakes", fn := fun _ => fun
  | [d1, d2, d3] => { results := [.lit (.bool false)], args := [d1, d2, d3] }
  | _ => none }
def CborMakesWrongFalsely : Prop := cborMakesRow.holds Tryd.pinned (OpenSpec.ofChange cborMakesWrong)

/-- 'heliographlaw07.CborBack': WHATEVER THE INPUT: true; the input reads as it did. -/
def cborBackSpec : ChangeSpec := { name := "cborBack", fn := fun _ => fun
  | [d1, d2, d3] => { results := [.lit (.bool true)], args := [d1, d2, d3] }
  | _ => none }
def cborBackRow : OpenClaim := { program := "ytlelaenalbkbmaadoor", sum := "ef243a13bc7145619ad80b7aba49dba8f9d2f6397c3c6178c0a24627a1086428", func := "heliograph/heliographlaw07.CborBack", spec := "cborBack", unfollowed := true, recurses := true, named := ["unicode/utf8.first", "unicode/utf8.acceptRanges"], loops := true, apart := false, laid := [("unicode/utf8.acceptRanges", laid_unicode_utf8_acceptRanges), ("unicode/utf8.first", laid_unicode_utf8_first)] }
def CborBackSaid : Prop := cborBackRow.holds Tryd.pinned (OpenSpec.ofChange cborBackSpec)

/-- ITS FALSE NEIGHBOUR: 'it returns false'. Refute it at one input. -/
def cborBackWrong : ChangeSpec := { name := "cborBack", fn := fun _ => fun
  | [d1, d2, d3] => { results := [.lit (.bool false)], args := [d1, d2, d3] }
  | _ => none }
def CborBackWrongFalsely : Prop := cborBackRow.holds Tryd.pinned (OpenSpec.ofChange cborBackWrong)

/-- 'heliographlaw07.CborAgain': WHATEVER THE INPUT: true; the input reads as it did. -/
def cborAgainSpec : ChangeSpec := { name := "cborAgain", fn := fun _ => fun
  | [d] => { results := [.lit (.bool true)], args := [d] }
  | _ => none }
def cborAgainRow : OpenClaim := { program := "ytlelaenalbkbmaadoor", sum := "ef243a13bc7145619ad80b7aba49dba8f9d2f6397c3c6178c0a24627a1086428", func := "heliograph/heliographlaw07.CborAgain", spec := "cborAgain", unfollowed := true, recurses := true, named := ["unicode/utf8.first", "unicode/utf8.acceptRanges"], apart := false, laid := [("unicode/utf8.acceptRanges", laid_unicode_utf8_acceptRanges), ("unicode/utf8.first", laid_unicode_utf8_first)] }
def CborAgainSaid : Prop := cborAgainRow.holds Tryd.pinned (OpenSpec.ofChange cborAgainSpec)

/-- ITS FALSE NEIGHBOUR: 'it returns false'. Refute it at one input. -/
def cborAgainWrong : ChangeSpec := { name := "cborAgain", fn := fun _ => fun
  | [d] => { results := [.lit (.bool false)], args := [d] }
  | _ => none }
def CborAgainWrongFalsely : Prop := cborAgainRow.holds Tryd.pinned (OpenSpec.ofChange cborAgainWrong)

/-- 'heliographlaw07.CborTwo': WHATEVER THE INPUT: true; the input reads as it did. -/
def cborTwoSpec : ChangeSpec := { name := "cborTwo", fn := fun _ => fun
  | [d1, d2] => { results := [.lit (.bool true)], args := [d1, d2] }
  | _ => none }
def cborTwoRow : OpenClaim := { program := "ytlelaenalbkbmaadoor", sum := "ef243a13bc7145619ad80b7aba49dba8f9d2f6397c3c6178c0a24627a1086428", func := "heliograph/heliographlaw07.CborTwo", spec := "cborTwo", unfollowed := true, recurses := true, named := ["unicode/utf8.first", "unicode/utf8.acceptRanges"], loops := true, apart := false, laid := [("unicode/utf8.acceptRanges", laid_unicode_utf8_acceptRanges), ("unicode/utf8.first", laid_unicode_utf8_first)] }
def CborTwoSaid : Prop := cborTwoRow.holds Tryd.pinned (OpenSpec.ofChange cborTwoSpec)

/-- ITS FALSE NEIGHBOUR: 'it returns false'. Refute it at one input. -/
def cborTwoWrong : ChangeSpec := { name := "cborTwo", fn := fun _ => fun
  | [d1, d2] => { results := [.lit (.bool false)], args := [d1, d2] }
  | _ => none }
def CborTwoWrongFalsely : Prop := cborTwoRow.holds Tryd.pinned (OpenSpec.ofChange cborTwoWrong)

/- THE SECOND FORM. 'bulk': how many values and letters a reading holds, each counted each time it is reached (what is shared counts as often as it is met; a slice's spare places count too). A statement '..UptoSaid' is the law's where the arguments, and the package variables that the reading takes, are together of bulk at most 1048576: NARROWER than '..Said'. Prove '..Said' where nothing that the law and all that it calls make is longer than what came in: it says more and counts as full. Else prove '..UptoSaid'. A law counts once. -/
mutual
def uptoBulk {H : Type} : DataW H → Nat
  | .lit (.string bytes) => bytes.length + 1
  | .lit _ => 1
  | .nil => 1
  | .ptr d => uptoBulk d + 1
  | .slice elems spare => uptoBulkAll elems + uptoBulkAll spare + 1
  | .agg parts => uptoBulkAll parts + 1
  | .iface _ d => uptoBulk d + 1
  | .map entries => uptoBulkEntries entries + 1
  | .held _ => 1
def uptoBulkAll {H : Type} : List (DataW H) → Nat
  | [] => 0
  | d :: r => uptoBulk d + uptoBulkAll r
def uptoBulkEntries {H : Type} : List (Lit × DataW H) → Nat
  | [] => 0
  | x :: r => uptoBulkEntry x + uptoBulkEntries r
def uptoBulkEntry {H : Type} : Lit × DataW H → Nat
  | (.string bytes, d) => bytes.length + uptoBulk d + 1
  | (_, d) => uptoBulk d + 1
 end
def uptoSmall : (H : Type) → List (DataW H) → Bool := fun _ ds => decide (uptoBulkAll ds ≤ 1048576)
def OpenSpec.upto (s : _root_.Go.ChangeSpec) : _root_.Go.OpenSpec := { _root_.Go.OpenSpec.ofChange s with cond := some uptoSmall }

/-- 'heliographlaw07.CborEncodes', WHERE WHAT IT READS IS OF BULK AT MOST 1048576: true; the input reads as it did. -/
def cborEncodesUptoRow : OpenClaim := { program := "ytlelaenalbkbmaadoor", sum := "ef243a13bc7145619ad80b7aba49dba8f9d2f6397c3c6178c0a24627a1086428", func := "heliograph/heliographlaw07.CborEncodes", spec := "cborEncodes", unfollowed := true, recurses := true, named := ["unicode/utf8.first", "unicode/utf8.acceptRanges"], loops := true, apart := false, laid := [("unicode/utf8.acceptRanges", laid_unicode_utf8_acceptRanges), ("unicode/utf8.first", laid_unicode_utf8_first)], narrowed := true }
def CborEncodesUptoSaid : Prop := cborEncodesUptoRow.holds Tryd.pinned (OpenSpec.upto cborEncodesSpec)

/-- 'heliographlaw07.CborMakes', WHERE WHAT IT READS IS OF BULK AT MOST 1048576: true; the input reads as it did. -/
def cborMakesUptoRow : OpenClaim := { program := "ytlelaenalbkbmaadoor", sum := "ef243a13bc7145619ad80b7aba49dba8f9d2f6397c3c6178c0a24627a1086428", func := "heliograph/heliographlaw07.CborMakes", spec := "cborMakes", unfollowed := true, recurses := true, named := ["unicode/utf8.first", "unicode/utf8.acceptRanges"], loops := true, apart := false, laid := [("unicode/utf8.acceptRanges", laid_unicode_utf8_acceptRanges), ("unicode/utf8.first", laid_unicode_utf8_first)], narrowed := true }
def CborMakesUptoSaid : Prop := cborMakesUptoRow.holds Tryd.pinned (OpenSpec.upto cborMakesSpec)

/-- 'heliographlaw07.CborBack', WHERE WHAT IT READS IS OF BULK AT MOST 1048576: true; the input reads as it did. -/
def cborBackUptoRow : OpenClaim := { program := "ytlelaenalbkbmaadoor", sum := "ef243a13bc7145619ad80b7aba49dba8f9d2f6397c3c6178c0a24627a1086428", func := "heliograph/heliographlaw07.CborBack", spec := "cborBack", unfollowed := true, recurses := true, named := ["unicode/utf8.first", "unicode/utf8.acceptRanges"], loops := true, apart := false, laid := [("unicode/utf8.acceptRanges", laid_unicode_utf8_acceptRanges), ("unicode/utf8.first", laid_unicode_utf8_first)], narrowed := true }
def CborBackUptoSaid : Prop := cborBackUptoRow.holds Tryd.pinned (OpenSpec.upto cborBackSpec)

/-- 'heliographlaw07.CborAgain', WHERE WHAT IT READS IS OF BULK AT MOST 1048576: true; the input reads as it did. -/
def cborAgainUptoRow : OpenClaim := { program := "ytlelaenalbkbmaadoor", sum := "ef243a13bc7145619ad80b7aba49dba8f9d2f6397c3c6178c0a24627a1086428", func := "heliograph/heliographlaw07.CborAgain", spec := "cborAgain", unfollowed := true, recurses := true, named := ["unicode/utf8.first", "unicode/utf8.acceptRanges"], apart := false, laid := [("unicode/utf8.acceptRanges", laid_unicode_utf8_acceptRanges), ("unicode/utf8.first", laid_unicode_utf8_first)], narrowed := true }
def CborAgainUptoSaid : Prop := cborAgainUptoRow.holds Tryd.pinned (OpenSpec.upto cborAgainSpec)

/-- 'heliographlaw07.CborTwo', WHERE WHAT IT READS IS OF BULK AT MOST 1048576: true; the input reads as it did. -/
def cborTwoUptoRow : OpenClaim := { program := "ytlelaenalbkbmaadoor", sum := "ef243a13bc7145619ad80b7aba49dba8f9d2f6397c3c6178c0a24627a1086428", func := "heliograph/heliographlaw07.CborTwo", spec := "cborTwo", unfollowed := true, recurses := true, named := ["unicode/utf8.first", "unicode/utf8.acceptRanges"], loops := true, apart := false, laid := [("unicode/utf8.acceptRanges", laid_unicode_utf8_acceptRanges), ("unicode/utf8.first", laid_unicode_utf8_first)], narrowed := true }
def CborTwoUptoSaid : Prop := cborTwoUptoRow.holds Tryd.pinned (OpenSpec.upto cborTwoSpec)

end Rows
end Go.Proofs.YtlelaenalbkbmaaDoor
