/-
  No cell of these rows narrows 'for every input' (looked for: loops, veiled, ifaces, maps, wideKeys, modest, calm, conditions, laid).
  DERIVED. THE GIVEN ROWS OF THIS SEAT. 4 by the template 'for every input the law returns true; each argument reads behind the call as it read before'; 0 by the template 'total and deterministic' (their statements: YtmogplhglcodjaaTotals.lean).
  GIVEN WITH THE SEED: the statements are not yours to turn. If you find one false, say at which input.
  Laid BY PROGRAM, IN A SANDBOX (cutbox-rows.mjs): the forced cells as the released guide's own fill.sh prints them over the translation b4d970e58b1a02d3… (all of the seat's roots in one cut). By AI agents, Wed Nov 11 2026. No macro, syntax, notation, axiom, sorry.
-/
import Derived.Test.YtmogplhglcodjaaChecked
import GoSem.Claim
import GoSem.ClaimJoined
import GoSem.ClaimMapViews
import Derived.JoinedTies
import Derived.KernelRfl
namespace Go.Proofs.Ytmogplhglcodjaa
/- THE CELL 'sum', in the pinned program and in every row, IS THE sha256 OF THE DUMP (.gsa) THAT YtmogplhglcodjaaProg.lean LOADS. Nothing in Lean hashes anything: it is a label: what it is worth is what the hold of that sum in a sandbox is worth. -/
noncomputable def Try.pinned : Pinned := { name := "ytmogplhglcodjaa", sum := "b4d970e58b1a02d3dea078b851ffbd29a9387666a8341d4f5f800720e523b1f2", checked := Try.checked }
namespace Rows
def none {H : Type} : Left H := { results := [], args := [] }

/-- 'heliographlaw13.PlanRoutes': WHATEVER THE INPUT: true; the input reads as it did. -/
def planRoutesSpec : ChangeSpec := { name := "planRoutes", fn := fun _ => fun
  | [d1, d2, d3] => { results := [.lit (.bool true)], args := [d1, d2, d3] }
  | _ => none }
def planRoutesRow : OpenClaim := { program := "ytmogplhglcodjaa", sum := "b4d970e58b1a02d3dea078b851ffbd29a9387666a8341d4f5f800720e523b1f2", func := "heliograph/heliographlaw13.PlanRoutes", spec := "planRoutes", unfollowed := true, recurses := true, apart := false }
def PlanRoutesSaid : Prop := planRoutesRow.holds Try.pinned (OpenSpec.ofChange planRoutesSpec)

/-- ITS FALSE NEIGHBOUR: 'it returns false'. Refute it at one input. -/
def planRoutesWrong : ChangeSpec := { name := "planRoutes", fn := fun _ => fun
  | [d1, d2, d3] => { results := [.lit (.bool false)], args := [d1, d2, d3] }
  | _ => none }
def PlanRoutesWrongFalsely : Prop := planRoutesRow.holds Try.pinned (OpenSpec.ofChange planRoutesWrong)

/-- 'heliographlaw13.PlanEarlier': WHATEVER THE INPUT: true; the input reads as it did. -/
def planEarlierSpec : ChangeSpec := { name := "planEarlier", fn := fun _ => fun
  | [d1, d2, d3] => { results := [.lit (.bool true)], args := [d1, d2, d3] }
  | _ => none }
def planEarlierRow : OpenClaim := { program := "ytmogplhglcodjaa", sum := "b4d970e58b1a02d3dea078b851ffbd29a9387666a8341d4f5f800720e523b1f2", func := "heliograph/heliographlaw13.PlanEarlier", spec := "planEarlier", unfollowed := true, recurses := true, apart := false }
def PlanEarlierSaid : Prop := planEarlierRow.holds Try.pinned (OpenSpec.ofChange planEarlierSpec)

/-- ITS FALSE NEIGHBOUR: 'it returns false'. Refute it at one input. -/
def planEarlierWrong : ChangeSpec := { name := "planEarlier", fn := fun _ => fun
  | [d1, d2, d3] => { results := [.lit (.bool false)], args := [d1, d2, d3] }
  | _ => none }
def PlanEarlierWrongFalsely : Prop := planEarlierRow.holds Try.pinned (OpenSpec.ofChange planEarlierWrong)

/-- 'heliographlaw13.PlanChecks': WHATEVER THE INPUT: true; the input reads as it did. -/
def planChecksSpec : ChangeSpec := { name := "planChecks", fn := fun _ => fun
  | [d1, d2] => { results := [.lit (.bool true)], args := [d1, d2] }
  | _ => none }
def planChecksRow : OpenClaim := { program := "ytmogplhglcodjaa", sum := "b4d970e58b1a02d3dea078b851ffbd29a9387666a8341d4f5f800720e523b1f2", func := "heliograph/heliographlaw13.PlanChecks", spec := "planChecks", unfollowed := true, recurses := true, apart := false }
def PlanChecksSaid : Prop := planChecksRow.holds Try.pinned (OpenSpec.ofChange planChecksSpec)

/-- ITS FALSE NEIGHBOUR: 'it returns false'. Refute it at one input. -/
def planChecksWrong : ChangeSpec := { name := "planChecks", fn := fun _ => fun
  | [d1, d2] => { results := [.lit (.bool false)], args := [d1, d2] }
  | _ => none }
def PlanChecksWrongFalsely : Prop := planChecksRow.holds Try.pinned (OpenSpec.ofChange planChecksWrong)

/-- 'heliographlaw13.PlanSame': WHATEVER THE INPUT: true; the input reads as it did. -/
def planSameSpec : ChangeSpec := { name := "planSame", fn := fun _ => fun
  | [d1, d2, d3] => { results := [.lit (.bool true)], args := [d1, d2, d3] }
  | _ => none }
def planSameRow : OpenClaim := { program := "ytmogplhglcodjaa", sum := "b4d970e58b1a02d3dea078b851ffbd29a9387666a8341d4f5f800720e523b1f2", func := "heliograph/heliographlaw13.PlanSame", spec := "planSame", unfollowed := true, recurses := true, apart := false }
def PlanSameSaid : Prop := planSameRow.holds Try.pinned (OpenSpec.ofChange planSameSpec)

/-- ITS FALSE NEIGHBOUR: 'it returns false'. Refute it at one input. -/
def planSameWrong : ChangeSpec := { name := "planSame", fn := fun _ => fun
  | [d1, d2, d3] => { results := [.lit (.bool false)], args := [d1, d2, d3] }
  | _ => none }
def PlanSameWrongFalsely : Prop := planSameRow.holds Try.pinned (OpenSpec.ofChange planSameWrong)

/- THE SECOND FORM. 'bulk': how many values and letters a reading holds, each counted each time it is reached (what is shared counts as often as it is met; a slice's spare places count too). A statement '..UptoSaid' is the law's where the arguments, and the package variables that the reading takes, are together of bulk at most 1048576: NARROWER than '..Said'. Prove '..Said' where nothing that the law and all that it calls make is longer than what came in: it says more and counts as full. Else prove '..UptoSaid'. A law counts once. -/
mutual
def uptoBulk {H : Type} : DataW H → Nat
  | .lit (.string bytes) => bytes.length + 1
  | .lit _ => 1
  | .nil => 1
  | .ptr d => uptoBulk d + 1
  | .slice elems spare => uptoBulkAll elems + uptoBulkAll spare + 1
  | .agg parts => uptoBulkAll parts + 1
  | .iface _ d => uptoBulk d + 1
  | .map entries => uptoBulkEntries entries + 1
  | .held _ => 1
def uptoBulkAll {H : Type} : List (DataW H) → Nat
  | [] => 0
  | d :: r => uptoBulk d + uptoBulkAll r
def uptoBulkEntries {H : Type} : List (Lit × DataW H) → Nat
  | [] => 0
  | x :: r => uptoBulkEntry x + uptoBulkEntries r
def uptoBulkEntry {H : Type} : Lit × DataW H → Nat
  | (.string bytes, d) => bytes.length + uptoBulk d + 1
  | (_, d) => uptoBulk d + 1
 end
def uptoSmall : (H : Type) → List (DataW H) → Bool := fun _ ds => decide (uptoBulkAll ds ≤ 1048576)
def OpenSpec.upto (s : _root_.Go.ChangeSpec) : _root_.Go.OpenSpec := { _root_.Go.OpenSpec.ofChange s with cond := some uptoSmall }

/-- 'heliographlaw13.PlanRoutes', WHERE WHAT IT READS IS OF BULK AT MOST 1048576: true; the input reads as it did. -/
def planRoutesUptoRow : OpenClaim := { program := "ytmogplhglcodjaa", sum := "b4d970e58b1a02d3dea078b851ffbd29a9387666a8341d4f5f800720e523b1f2", func := "heliograph/heliographlaw13.PlanRoutes", spec := "planRoutes", unfollowed := true, recurses := true, apart := false, narrowed := true }
def PlanRoutesUptoSaid : Prop := planRoutesUptoRow.holds Try.pinned (OpenSpec.upto planRoutesSpec)

/-- 'heliographlaw13.PlanEarlier', WHERE WHAT IT READS IS OF BULK AT MOST 1048576: true; the input reads as it did. -/
def planEarlierUptoRow : OpenClaim := { program := "ytmogplhglcodjaa", sum := "b4d970e58b1a02d3dea078b851ffbd29a9387666a8341d4f5f800720e523b1f2", func := "heliograph/heliographlaw13.PlanEarlier", spec := "planEarlier", unfollowed := true, recurses := true, apart := false, narrowed := true }
def PlanEarlierUptoSaid : Prop := planEarlierUptoRow.holds Try.pinned (OpenSpec.upto planEarlierSpec)

/-- 'heliographlaw13.PlanChecks', WHERE WHAT IT READS IS OF BULK AT MOST 1048576: true; the input reads as it did. -/
def planChecksUptoRow : OpenClaim := { program := "ytmogplhglcodjaa", sum := "b4d970e58b1a02d3dea078b851ffbd29a9387666a8341d4f5f800720e523b1f2", func := "heliograph/heliographlaw13.PlanChecks", spec := "planChecks", unfollowed := true, recurses := true, apart := false, narrowed := true }
def PlanChecksUptoSaid : Prop := planChecksUptoRow.holds Try.pinned (OpenSpec.upto planChecksSpec)

/-- 'heliographlaw13.PlanSame', WHERE WHAT IT READS IS OF BULK AT MOST 1048576: true; the input reads as it did. -/
def planSameUptoRow : OpenClaim := { program := "ytmogplhglcodjaa", sum := "b4d970e58b1a02d3dea078b851ffbd29a9387666a8341d4f5f800720e523b1f2", func := "heliograph/heliographlaw13.PlanSame", spec := "planSame", unfollowed := true, recurses := true, apart := false, narrowed := true }
def PlanSameUptoSaid : Prop := planSameUptoRow.holds Try.pinned (OpenSpec.upto planSameSpec)

end Rows
end Go.Proofs.Ytmogplhglcodjaa
