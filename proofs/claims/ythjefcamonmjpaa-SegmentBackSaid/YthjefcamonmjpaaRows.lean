/-
  No cell of these rows narrows 'for every input' (looked for: loops, veiled, ifaces, maps, wideKeys, modest, calm, conditions, laid).
  DERIVED. THE GIVEN ROWS OF THIS SEAT. 4 by the template 'for every input the law returns true; each argument reads behind the call as it read before'; 0 by the template 'total and deterministic' (their statements: YthjefcamonmjpaaTotals.lean).
  GIVEN WITH THE SEED: the statements are not yours to turn. If you find one false, say at which input.
  Laid BY PROGRAM, IN A SANDBOX (cutbox-rows.mjs): the forced cells as the released guide's own fill.sh prints them over the translation 5c0d432033770bc7… (all of the seat's roots in one cut). By AI agents, Wed Nov 11 2026. No macro, syntax, notation, axiom, sorry.
-/
import Derived.Test.YthjefcamonmjpaaChecked
import GoSem.Claim
import GoSem.ClaimJoined
import GoSem.ClaimMapViews
import Derived.JoinedTies
import Derived.KernelRfl
namespace Go.Proofs.Ythjefcamonmjpaa
/- THE CELL 'sum', in the pinned program and in every row, IS THE sha256 OF THE DUMP (.gsa) THAT YthjefcamonmjpaaProg.lean LOADS. Nothing in Lean hashes anything: it is a label: what it is worth is what the hold of that sum in a sandbox is worth. -/
noncomputable def Try.pinned : Pinned := { name := "ythjefcamonmjpaa", sum := "5c0d432033770bc772c6c36e3d8e2a760415823fe02d2cc1ae4932f42ea18bf1", checked := Try.checked }
namespace Rows
def none {H : Type} : Left H := { results := [], args := [] }

/-- 'heliographlaw10.SegmentSame': WHATEVER THE INPUT: true; the input reads as it did. -/
def segmentSameSpec : ChangeSpec := { name := "segmentSame", fn := fun _ => fun
  | [d1, d2] => { results := [.lit (.bool true)], args := [d1, d2] }
  | _ => none }
def segmentSameRow : OpenClaim := { program := "ythjefcamonmjpaa", sum := "5c0d432033770bc772c6c36e3d8e2a760415823fe02d2cc1ae4932f42ea18bf1", func := "heliograph/heliographlaw10.SegmentSame", spec := "segmentSame", unfollowed := true, recurses := true, apart := false }
def SegmentSameSaid : Prop := segmentSameRow.holds Try.pinned (OpenSpec.ofChange segmentSameSpec)

/-- ITS FALSE NEIGHBOUR: 'it returns false'. Refute it at one input. -/
def segmentSameWrong : ChangeSpec := { name := "segmentSame", fn := fun _ => fun
  | [d1, d2] => { results := [.lit (.bool false)], args := [d1, d2] }
  | _ => none }
def SegmentSameWrongFalsely : Prop := segmentSameRow.holds Try.pinned (OpenSpec.ofChange segmentSameWrong)

/-- 'heliographlaw10.SegmentBits': WHATEVER THE INPUT: true; the input reads as it did. -/
def segmentBitsSpec : ChangeSpec := { name := "segmentBits", fn := fun _ => fun
  | [d1, d2] => { results := [.lit (.bool true)], args := [d1, d2] }
  | _ => none }
def segmentBitsRow : OpenClaim := { program := "ythjefcamonmjpaa", sum := "5c0d432033770bc772c6c36e3d8e2a760415823fe02d2cc1ae4932f42ea18bf1", func := "heliograph/heliographlaw10.SegmentBits", spec := "segmentBits", unfollowed := true, recurses := true, apart := false }
def SegmentBitsSaid : Prop := segmentBitsRow.holds Try.pinned (OpenSpec.ofChange segmentBitsSpec)

/-- ITS FALSE NEIGHBOUR: 'it returns false'. Refute it at one input. -/
def segmentBitsWrong : ChangeSpec := { name := "segmentBits", fn := fun _ => fun
  | [d1, d2] => { results := [.lit (.bool false)], args := [d1, d2] }
  | _ => none }
def SegmentBitsWrongFalsely : Prop := segmentBitsRow.holds Try.pinned (OpenSpec.ofChange segmentBitsWrong)

/-- 'heliographlaw10.SegmentBack': WHATEVER THE INPUT: true; the input reads as it did. -/
def segmentBackSpec : ChangeSpec := { name := "segmentBack", fn := fun _ => fun
  | [d1, d2] => { results := [.lit (.bool true)], args := [d1, d2] }
  | _ => none }
def segmentBackRow : OpenClaim := { program := "ythjefcamonmjpaa", sum := "5c0d432033770bc772c6c36e3d8e2a760415823fe02d2cc1ae4932f42ea18bf1", func := "heliograph/heliographlaw10.SegmentBack", spec := "segmentBack", unfollowed := true, recurses := true, apart := false }
def SegmentBackSaid : Prop := segmentBackRow.holds Try.pinned (OpenSpec.ofChange segmentBackSpec)

/-- ITS FALSE NEIGHBOUR: 'it returns false'. Refute it at one input. -/
def segmentBackWrong : ChangeSpec := { name := "segmentBack", fn := fun _ => fun
  | [d1, d2] => { results := [.lit (.bool false)], args := [d1, d2] }
  | _ => none }
def SegmentBackWrongFalsely : Prop := segmentBackRow.holds Try.pinned (OpenSpec.ofChange segmentBackWrong)

/-- 'heliographlaw10.SegmentCut': WHATEVER THE INPUT: true; the input reads as it did. -/
def segmentCutSpec : ChangeSpec := { name := "segmentCut", fn := fun _ => fun
  | [d1, d2, d3] => { results := [.lit (.bool true)], args := [d1, d2, d3] }
  | _ => none }
def segmentCutRow : OpenClaim := { program := "ythjefcamonmjpaa", sum := "5c0d432033770bc772c6c36e3d8e2a760415823fe02d2cc1ae4932f42ea18bf1", func := "heliograph/heliographlaw10.SegmentCut", spec := "segmentCut", unfollowed := true, recurses := true, apart := false }
def SegmentCutSaid : Prop := segmentCutRow.holds Try.pinned (OpenSpec.ofChange segmentCutSpec)

/-- ITS FALSE NEIGHBOUR: 'it returns false'. Refute it at one input. -/
def segmentCutWrong : ChangeSpec := { name := "segmentCut", fn := fun _ => fun
  | [d1, d2, d3] => { results := [.lit (.bool false)], args := [d1, d2, d3] }
  | _ => none }
def SegmentCutWrongFalsely : Prop := segmentCutRow.holds Try.pinned (OpenSpec.ofChange segmentCutWrong)

/- THE SECOND FORM. 'bulk': how many values and letters a reading holds, each counted each time it is reached (what is shared counts as often as it is met; a slice's spare places count too). A statement '..UptoSaid' is the law's where the arguments, and the package variables that the reading takes, are together of bulk at most 1048576: NARROWER than '..Said'. Prove '..Said' where nothing that the law and all that it calls make is longer than what came in: it says more and counts as full. Else prove '..UptoSaid'. A law counts once. -/
mutual
def uptoBulk {H : Type} : DataW H → Nat
  | .lit (.string bytes) => bytes.length + 1
  | .lit _ => 1
  | .nil => 1
  | .ptr d => uptoBulk d + 1
  | .slice elems spare => uptoBulkAll elems + uptoBulkAll spare + 1
  | .agg parts => uptoBulkAll parts + 1
  | .iface _ d => uptoBulk d + 1
  | .map entries => uptoBulkEntries entries + 1
  | .held _ => 1
def uptoBulkAll {H : Type} : List (DataW H) → Nat
  | [] => 0
  | d :: r => uptoBulk d + uptoBulkAll r
def uptoBulkEntries {H : Type} : List (Lit × DataW H) → Nat
  | [] => 0
  | x :: r => uptoBulkEntry x + uptoBulkEntries r
def uptoBulkEntry {H : Type} : Lit × DataW H → Nat
  | (.string bytes, d) => bytes.length + uptoBulk d + 1
  | (_, d) => uptoBulk d + 1
 end
def uptoSmall : (H : Type) → List (DataW H) → Bool := fun _ ds => decide (uptoBulkAll ds ≤ 1048576)
def OpenSpec.upto (s : _root_.Go.ChangeSpec) : _root_.Go.OpenSpec := { _root_.Go.OpenSpec.ofChange s with cond := some uptoSmall }

/-- 'heliographlaw10.SegmentSame', WHERE WHAT IT READS IS OF BULK AT MOST 1048576: true; the input reads as it did. -/
def segmentSameUptoRow : OpenClaim := { program := "ythjefcamonmjpaa", sum := "5c0d432033770bc772c6c36e3d8e2a760415823fe02d2cc1ae4932f42ea18bf1", func := "heliograph/heliographlaw10.SegmentSame", spec := "segmentSame", unfollowed := true, recurses := true, apart := false, narrowed := true }
def SegmentSameUptoSaid : Prop := segmentSameUptoRow.holds Try.pinned (OpenSpec.upto segmentSameSpec)

/-- 'heliographlaw10.SegmentBits', WHERE WHAT IT READS IS OF BULK AT MOST 1048576: true; the input reads as it did. -/
def segmentBitsUptoRow : OpenClaim := { program := "ythjefcamonmjpaa", sum := "5c0d432033770bc772c6c36e3d8e2a760415823fe02d2cc1ae4932f42ea18bf1", func := "heliograph/heliographlaw10.SegmentBits", spec := "segmentBits", unfollowed := true, recurses := true, apart := false, narrowed := true }
def SegmentBitsUptoSaid : Prop := segmentBitsUptoRow.holds Try.pinned (OpenSpec.upto segmentBitsSpec)

/-- 'heliographlaw10.SegmentBack', WHERE WHAT IT READS IS OF BULK AT MOST 1048576: true; the input reads as it did. -/
def segmentBackUptoRow : OpenClaim := { program := "ythjefcamonmjpaa", sum := "5c0d432033770bc772c6c36e3d8e2a760415823fe02d2cc1ae4932f42ea18bf1", func := "heliograph/heliographlaw10.SegmentBack", spec := "segmentBack", unfollowed := true, recurses := true, apart := false, narrowed := true }
def SegmentBackUptoSaid : Prop := segmentBackUptoRow.holds Try.pinned (OpenSpec.upto segmentBackSpec)

/-- 'heliographlaw10.SegmentCut', WHERE WHAT IT READS IS OF BULK AT MOST 1048576: true; the input reads as it did. -/
def segmentCutUptoRow : OpenClaim := { program := "ythjefcamonmjpaa", sum := "5c0d432033770bc772c6c36e3d8e2a760415823fe02d2cc1ae4932f42ea18bf1", func := "heliograph/heliographlaw10.SegmentCut", spec := "segmentCut", unfollowed := true, recurses := true, apart := false, narrowed := true }
def SegmentCutUptoSaid : Prop := segmentCutUptoRow.holds Try.pinned (OpenSpec.upto segmentCutSpec)

end Rows
end Go.Proofs.Ythjefcamonmjpaa
