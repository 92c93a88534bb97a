/-
  No cell of these rows narrows 'for every input' (looked for: loops, veiled, ifaces, maps, wideKeys, modest, calm, conditions, laid).
  DERIVED. THE GIVEN ROWS OF THIS SEAT. 6 by the template 'for every input the law returns true; each argument reads behind the call as it read before'; 0 by the template 'total and deterministic' (their statements: YteggcokgkcfliaaTotals.lean).
  GIVEN WITH THE SEED: the statements are not yours to turn. If you find one false, say at which input.
  Laid BY PROGRAM, IN A SANDBOX (cutbox-rows.mjs): the forced cells as the released guide's own fill.sh prints them over the translation 51ee8007f191d796… (all of the seat's roots in one cut). By AI agents, Wed Nov 11 2026. No macro, syntax, notation, axiom, sorry.
-/
import Derived.Test.YteggcokgkcfliaaChecked
import GoSem.Claim
import GoSem.ClaimJoined
import GoSem.ClaimMapViews
import Derived.JoinedTies
import Derived.KernelRfl
namespace Go.Proofs.Yteggcokgkcfliaa
/- THE CELL 'sum', in the pinned program and in every row, IS THE sha256 OF THE DUMP (.gsa) THAT YteggcokgkcfliaaProg.lean LOADS. Nothing in Lean hashes anything: it is a label: what it is worth is what the hold of that sum in a sandbox is worth. -/
noncomputable def Try.pinned : Pinned := { name := "yteggcokgkcfliaa", sum := "51ee8007f191d796f2d305bd26257f414e7ace75654fc8bbf299cff1b5cdfe15", checked := Try.checked }
namespace Rows
def none {H : Type} : Left H := { results := [], args := [] }

/-- 'heliographlaw18.PiecesCut': WHATEVER THE INPUT: true; the input reads as it did. -/
def piecesCutSpec : ChangeSpec := { name := "piecesCut", fn := fun _ => fun
  | [d1, d2] => { results := [.lit (.bool true)], args := [d1, d2] }
  | _ => none }
def piecesCutRow : OpenClaim := { program := "yteggcokgkcfliaa", sum := "51ee8007f191d796f2d305bd26257f414e7ace75654fc8bbf299cff1b5cdfe15", func := "heliograph/heliographlaw18.PiecesCut", spec := "piecesCut", unfollowed := true, recurses := true, apart := false }
def PiecesCutSaid : Prop := piecesCutRow.holds Try.pinned (OpenSpec.ofChange piecesCutSpec)

/-- ITS FALSE NEIGHBOUR: 'it returns false'. Refute it at one input. -/
def piecesCutWrong : ChangeSpec := { name := "piecesCut", fn := fun _ => fun
  | [d1, d2] => { results := [.lit (.bool false)], args := [d1, d2] }
  | _ => none }
def PiecesCutWrongFalsely : Prop := piecesCutRow.holds Try.pinned (OpenSpec.ofChange piecesCutWrong)

/-- 'heliographlaw18.PiecesTogether': WHATEVER THE INPUT: true; the input reads as it did. -/
def piecesTogetherSpec : ChangeSpec := { name := "piecesTogether", fn := fun _ => fun
  | [d1, d2] => { results := [.lit (.bool true)], args := [d1, d2] }
  | _ => none }
def piecesTogetherRow : OpenClaim := { program := "yteggcokgkcfliaa", sum := "51ee8007f191d796f2d305bd26257f414e7ace75654fc8bbf299cff1b5cdfe15", func := "heliograph/heliographlaw18.PiecesTogether", spec := "piecesTogether", unfollowed := true, recurses := true, apart := false }
def PiecesTogetherSaid : Prop := piecesTogetherRow.holds Try.pinned (OpenSpec.ofChange piecesTogetherSpec)

/-- ITS FALSE NEIGHBOUR: 'it returns false'. Refute it at one input. -/
def piecesTogetherWrong : ChangeSpec := { name := "piecesTogether", fn := fun _ => fun
  | [d1, d2] => { results := [.lit (.bool false)], args := [d1, d2] }
  | _ => none }
def PiecesTogetherWrongFalsely : Prop := piecesTogetherRow.holds Try.pinned (OpenSpec.ofChange piecesTogetherWrong)

/-- 'heliographlaw18.PiecesAgain': WHATEVER THE INPUT: true; the input reads as it did. -/
def piecesAgainSpec : ChangeSpec := { name := "piecesAgain", fn := fun _ => fun
  | [d1, d2, d3] => { results := [.lit (.bool true)], args := [d1, d2, d3] }
  | _ => none }
def piecesAgainRow : OpenClaim := { program := "yteggcokgkcfliaa", sum := "51ee8007f191d796f2d305bd26257f414e7ace75654fc8bbf299cff1b5cdfe15", func := "heliograph/heliographlaw18.PiecesAgain", spec := "piecesAgain", unfollowed := true, recurses := true, apart := false }
def PiecesAgainSaid : Prop := piecesAgainRow.holds Try.pinned (OpenSpec.ofChange piecesAgainSpec)

/-- ITS FALSE NEIGHBOUR: 'it returns false'. Refute it at one input. -/
def piecesAgainWrong : ChangeSpec := { name := "piecesAgain", fn := fun _ => fun
  | [d1, d2, d3] => { results := [.lit (.bool false)], args := [d1, d2, d3] }
  | _ => none }
def PiecesAgainWrongFalsely : Prop := piecesAgainRow.holds Try.pinned (OpenSpec.ofChange piecesAgainWrong)

/-- 'heliographlaw18.PiecesJoin': WHATEVER THE INPUT: true; the input reads as it did. -/
def piecesJoinSpec : ChangeSpec := { name := "piecesJoin", fn := fun _ => fun
  | [d] => { results := [.lit (.bool true)], args := [d] }
  | _ => none }
def piecesJoinRow : OpenClaim := { program := "yteggcokgkcfliaa", sum := "51ee8007f191d796f2d305bd26257f414e7ace75654fc8bbf299cff1b5cdfe15", func := "heliograph/heliographlaw18.PiecesJoin", spec := "piecesJoin", unfollowed := true, recurses := true, apart := false }
def PiecesJoinSaid : Prop := piecesJoinRow.holds Try.pinned (OpenSpec.ofChange piecesJoinSpec)

/-- ITS FALSE NEIGHBOUR: 'it returns false'. Refute it at one input. -/
def piecesJoinWrong : ChangeSpec := { name := "piecesJoin", fn := fun _ => fun
  | [d] => { results := [.lit (.bool false)], args := [d] }
  | _ => none }
def PiecesJoinWrongFalsely : Prop := piecesJoinRow.holds Try.pinned (OpenSpec.ofChange piecesJoinWrong)

/-- 'heliographlaw18.PiecesBack': WHATEVER THE INPUT: true; the input reads as it did. -/
def piecesBackSpec : ChangeSpec := { name := "piecesBack", fn := fun _ => fun
  | [d1, d2, d3] => { results := [.lit (.bool true)], args := [d1, d2, d3] }
  | _ => none }
def piecesBackRow : OpenClaim := { program := "yteggcokgkcfliaa", sum := "51ee8007f191d796f2d305bd26257f414e7ace75654fc8bbf299cff1b5cdfe15", func := "heliograph/heliographlaw18.PiecesBack", spec := "piecesBack", unfollowed := true, recurses := true, apart := false }
def PiecesBackSaid : Prop := piecesBackRow.holds Try.pinned (OpenSpec.ofChange piecesBackSpec)

/-- ITS FALSE NEIGHBOUR: 'it returns false'. Refute it at one input. -/
def piecesBackWrong : ChangeSpec := { name := "piecesBack", fn := fun _ => fun
  | [d1, d2, d3] => { results := [.lit (.bool false)], args := [d1, d2, d3] }
  | _ => none }
def PiecesBackWrongFalsely : Prop := piecesBackRow.holds Try.pinned (OpenSpec.ofChange piecesBackWrong)

/-- 'heliographlaw18.PiecesLost': WHATEVER THE INPUT: true; the input reads as it did. -/
def piecesLostSpec : ChangeSpec := { name := "piecesLost", fn := fun _ => fun
  | [d1, d2, d3] => { results := [.lit (.bool true)], args := [d1, d2, d3] }
  | _ => none }
def piecesLostRow : OpenClaim := { program := "yteggcokgkcfliaa", sum := "51ee8007f191d796f2d305bd26257f414e7ace75654fc8bbf299cff1b5cdfe15", func := "heliograph/heliographlaw18.PiecesLost", spec := "piecesLost", unfollowed := true, recurses := true, apart := false }
def PiecesLostSaid : Prop := piecesLostRow.holds Try.pinned (OpenSpec.ofChange piecesLostSpec)

/-- ITS FALSE NEIGHBOUR: 'it returns false'. Refute it at one input. -/
def piecesLostWrong : ChangeSpec := { name := "piecesLost", fn := fun _ => fun
  | [d1, d2, d3] => { results := [.lit (.bool false)], args := [d1, d2, d3] }
  | _ => none }
def PiecesLostWrongFalsely : Prop := piecesLostRow.holds Try.pinned (OpenSpec.ofChange piecesLostWrong)

/- THE SECOND FORM. 'bulk': how many values and letters a reading holds, each counted each time it is reached (what is shared counts as often as it is met; a slice's spare places count too). A statement '..UptoSaid' is the law's where the arguments, and the package variables that the reading takes, are together of bulk at most 1048576: NARROWER than '..Said'. Prove '..Said' where nothing that the law and all that it calls make is longer than what came in: it says more and counts as full. Else prove '..UptoSaid'. A law counts once. -/
mutual
def uptoBulk {H : Type} : DataW H → Nat
  | .lit (.string bytes) => bytes.length + 1
  | .lit _ => 1
  | .nil => 1
  | .ptr d => uptoBulk d + 1
  | .slice elems spare => uptoBulkAll elems + uptoBulkAll spare + 1
  | .agg parts => uptoBulkAll parts + 1
  | .iface _ d => uptoBulk d + 1
  | .map entries => uptoBulkEntries entries + 1
  | .held _ => 1
def uptoBulkAll {H : Type} : List (DataW H) → Nat
  | [] => 0
  | d :: r => uptoBulk d + uptoBulkAll r
def uptoBulkEntries {H : Type} : List (Lit × DataW H) → Nat
  | [] => 0
  | x :: r => uptoBulkEntry x + uptoBulkEntries r
def uptoBulkEntry {H : Type} : Lit × DataW H → Nat
  | (.string bytes, d) => bytes.length + uptoBulk d + 1
  | (_, d) => uptoBulk d + 1
 end
def uptoSmall : (H : Type) → List (DataW H) → Bool := fun _ ds => decide (uptoBulkAll ds ≤ 1048576)
def OpenSpec.upto (s : _root_.Go.ChangeSpec) : _root_.Go.OpenSpec := { _root_.Go.OpenSpec.ofChange s with cond := some uptoSmall }

/-- 'heliographlaw18.PiecesCut', WHERE WHAT IT READS IS OF BULK AT MOST 1048576: true; the input reads as it did. -/
def piecesCutUptoRow : OpenClaim := { program := "yteggcokgkcfliaa", sum := "51ee8007f191d796f2d305bd26257f414e7ace75654fc8bbf299cff1b5cdfe15", func := "heliograph/heliographlaw18.PiecesCut", spec := "piecesCut", unfollowed := true, recurses := true, apart := false, narrowed := true }
def PiecesCutUptoSaid : Prop := piecesCutUptoRow.holds Try.pinned (OpenSpec.upto piecesCutSpec)

/-- 'heliographlaw18.PiecesTogether', WHERE WHAT IT READS IS OF BULK AT MOST 1048576: true; the input reads as it did. -/
def piecesTogetherUptoRow : OpenClaim := { program := "yteggcokgkcfliaa", sum := "51ee8007f191d796f2d305bd26257f414e7ace75654fc8bbf299cff1b5cdfe15", func := "heliograph/heliographlaw18.PiecesTogether", spec := "piecesTogether", unfollowed := true, recurses := true, apart := false, narrowed := true }
def PiecesTogetherUptoSaid : Prop := piecesTogetherUptoRow.holds Try.pinned (OpenSpec.upto piecesTogetherSpec)

/-- 'heliographlaw18.PiecesAgain', WHERE WHAT IT READS IS OF BULK AT MOST 1048576: true; the input reads as it did. -/
def piecesAgainUptoRow : OpenClaim := { program := "yteggcokgkcfliaa", sum := "51ee8007f191d796f2d305bd26257f414e7ace75654fc8bbf299cff1b5cdfe15", func := "heliograph/heliographlaw18.PiecesAgain", spec := "piecesAgain", unfollowed := true, recurses := true, apart := false, narrowed := true }
def PiecesAgainUptoSaid : Prop := piecesAgainUptoRow.holds Try.pinned (OpenSpec.upto piecesAgainSpec)

/-- 'heliographlaw18.PiecesJoin', WHERE WHAT IT READS IS OF BULK AT MOST 1048576: true; the input reads as it did. -/
def piecesJoinUptoRow : OpenClaim := { program := "yteggcokgkcfliaa", sum := "51ee8007f191d796f2d305bd26257f414e7ace75654fc8bbf299cff1b5cdfe15", func := "heliograph/heliographlaw18.PiecesJoin", spec := "piecesJoin", unfollowed := true, recurses := true, apart := false, narrowed := true }
def PiecesJoinUptoSaid : Prop := piecesJoinUptoRow.holds Try.pinned (OpenSpec.upto piecesJoinSpec)

/-- 'heliographlaw18.PiecesBack', WHERE WHAT IT READS IS OF BULK AT MOST 1048576: true; the input reads as it did. -/
def piecesBackUptoRow : OpenClaim := { program := "yteggcokgkcfliaa", sum := "51ee8007f191d796f2d305bd26257f414e7ace75654fc8bbf299cff1b5cdfe15", func := "heliograph/heliographlaw18.PiecesBack", spec := "piecesBack", unfollowed := true, recurses := true, apart := false, narrowed := true }
def PiecesBackUptoSaid : Prop := piecesBackUptoRow.holds Try.pinned (OpenSpec.upto piecesBackSpec)

/-- 'heliographlaw18.PiecesLost', WHERE WHAT IT READS IS OF BULK AT MOST 1048576: true; the input reads as it did. -/
def piecesLostUptoRow : OpenClaim := { program := "yteggcokgkcfliaa", sum := "51ee8007f191d796f2d305bd26257f414e7ace75654fc8bbf299cff1b5cdfe15", func := "heliograph/heliographlaw18.PiecesLost", spec := "piecesLost", unfollowed := true, recurses := true, apart := false, narrowed := true }
def PiecesLostUptoSaid : Prop := piecesLostUptoRow.holds Try.pinned (OpenSpec.upto piecesLostSpec)

end Rows
end Go.Proofs.Yteggcokgkcfliaa
