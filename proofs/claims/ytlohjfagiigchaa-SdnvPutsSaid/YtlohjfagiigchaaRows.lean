/-
  No cell of these rows narrows 'for every input' (looked for: loops, veiled, ifaces, maps, wideKeys, modest, calm, conditions, laid).
  DERIVED. THE GIVEN ROWS OF THIS SEAT. 7 by the template 'for every input the law returns true; each argument reads behind the call as it read before'; 0 by the template 'total and deterministic' (their statements: YtlohjfagiigchaaTotals.lean).
  GIVEN WITH THE SEED: the statements are not yours to turn. If you find one false, say at which input.
  Laid BY PROGRAM, IN A SANDBOX (cutbox-rows.mjs): the forced cells as the released guide's own fill.sh prints them over the translation d56e1dfa4902888c… (all of the seat's roots in one cut). By AI agents, Wed Nov 11 2026. No macro, syntax, notation, axiom, sorry.
-/
import Derived.Test.YtlohjfagiigchaaChecked
import GoSem.Claim
import GoSem.ClaimJoined
import GoSem.ClaimMapViews
import Derived.JoinedTies
import Derived.KernelRfl
namespace Go.Proofs.Ytlohjfagiigchaa
/- THE CELL 'sum', in the pinned program and in every row, IS THE sha256 OF THE DUMP (.gsa) THAT YtlohjfagiigchaaProg.lean LOADS. Nothing in Lean hashes anything: it is a label: what it is worth is what the hold of that sum in a sandbox is worth. -/
noncomputable def Try.pinned : Pinned := { name := "ytlohjfagiigchaa", sum := "d56e1dfa4902888cf874a34615efa8556f2eaf326aa25d6a03593b43c027ab8e", checked := Try.checked }
namespace Rows
def none {H : Type} : Left H := { results := [], args := [] }

/-- 'heliographlaw08.SdnvGets': WHATEVER THE INPUT: true; the input reads as it did. -/
def sdnvGetsSpec : ChangeSpec := { name := "sdnvGets", fn := fun _ => fun
  | [d] => { results := [.lit (.bool true)], args := [d] }
  | _ => none }
def sdnvGetsRow : OpenClaim := { program := "ytlohjfagiigchaa", sum := "d56e1dfa4902888cf874a34615efa8556f2eaf326aa25d6a03593b43c027ab8e", func := "heliograph/heliographlaw08.SdnvGets", spec := "sdnvGets", apart := false }
def SdnvGetsSaid : Prop := sdnvGetsRow.holds Try.pinned (OpenSpec.ofChange sdnvGetsSpec)

/-- ITS FALSE NEIGHBOUR: 'it returns false'. Refute it at one input. -/
def sdnvGetsWrong : ChangeSpec := { name := "sdnvGets", fn := fun _ => fun
  | [d] => { results := [.lit (.bool false)], args := [d] }
  | _ => none }
def SdnvGetsWrongFalsely : Prop := sdnvGetsRow.holds Try.pinned (OpenSpec.ofChange sdnvGetsWrong)

/-- 'heliographlaw08.SdnvBack': WHATEVER THE INPUT: true; the input reads as it did. -/
def sdnvBackSpec : ChangeSpec := { name := "sdnvBack", fn := fun _ => fun
  | [d1, d2] => { results := [.lit (.bool true)], args := [d1, d2] }
  | _ => none }
def sdnvBackRow : OpenClaim := { program := "ytlohjfagiigchaa", sum := "d56e1dfa4902888cf874a34615efa8556f2eaf326aa25d6a03593b43c027ab8e", func := "heliograph/heliographlaw08.SdnvBack", spec := "sdnvBack", apart := false }
def SdnvBackSaid : Prop := sdnvBackRow.holds Try.pinned (OpenSpec.ofChange sdnvBackSpec)

/-- ITS FALSE NEIGHBOUR: 'it returns false'. Refute it at one input. -/
def sdnvBackWrong : ChangeSpec := { name := "sdnvBack", fn := fun _ => fun
  | [d1, d2] => { results := [.lit (.bool false)], args := [d1, d2] }
  | _ => none }
def SdnvBackWrongFalsely : Prop := sdnvBackRow.holds Try.pinned (OpenSpec.ofChange sdnvBackWrong)

/-- 'heliographlaw08.SdnvOnce': WHATEVER THE INPUT: true; the input reads as it did. -/
def sdnvOnceSpec : ChangeSpec := { name := "sdnvOnce", fn := fun _ => fun
  | [d] => { results := [.lit (.bool true)], args := [d] }
  | _ => none }
def sdnvOnceRow : OpenClaim := { program := "ytlohjfagiigchaa", sum := "d56e1dfa4902888cf874a34615efa8556f2eaf326aa25d6a03593b43c027ab8e", func := "heliograph/heliographlaw08.SdnvOnce", spec := "sdnvOnce", apart := false }
def SdnvOnceSaid : Prop := sdnvOnceRow.holds Try.pinned (OpenSpec.ofChange sdnvOnceSpec)

/-- ITS FALSE NEIGHBOUR: 'it returns false'. Refute it at one input. -/
def sdnvOnceWrong : ChangeSpec := { name := "sdnvOnce", fn := fun _ => fun
  | [d] => { results := [.lit (.bool false)], args := [d] }
  | _ => none }
def SdnvOnceWrongFalsely : Prop := sdnvOnceRow.holds Try.pinned (OpenSpec.ofChange sdnvOnceWrong)

/-- 'heliographlaw08.SdnvRises': WHATEVER THE INPUT: true; the input reads as it did. -/
def sdnvRisesSpec : ChangeSpec := { name := "sdnvRises", fn := fun _ => fun
  | [d1, d2] => { results := [.lit (.bool true)], args := [d1, d2] }
  | _ => none }
def sdnvRisesRow : OpenClaim := { program := "ytlohjfagiigchaa", sum := "d56e1dfa4902888cf874a34615efa8556f2eaf326aa25d6a03593b43c027ab8e", func := "heliograph/heliographlaw08.SdnvRises", spec := "sdnvRises", inPlace := ["internal/bytealg.Compare"], apart := false }
def SdnvRisesSaid : Prop := sdnvRisesRow.holds Try.pinned (OpenSpec.ofChange sdnvRisesSpec)

/-- ITS FALSE NEIGHBOUR: 'it returns false'. Refute it at one input. -/
def sdnvRisesWrong : ChangeSpec := { name := "sdnvRises", fn := fun _ => fun
  | [d1, d2] => { results := [.lit (.bool false)], args := [d1, d2] }
  | _ => none }
def SdnvRisesWrongFalsely : Prop := sdnvRisesRow.holds Try.pinned (OpenSpec.ofChange sdnvRisesWrong)

/-- 'heliographlaw08.SdnvPuts': WHATEVER THE INPUT: true; the input reads as it did. -/
def sdnvPutsSpec : ChangeSpec := { name := "sdnvPuts", fn := fun _ => fun
  | [d1, d2] => { results := [.lit (.bool true)], args := [d1, d2] }
  | _ => none }
def sdnvPutsRow : OpenClaim := { program := "ytlohjfagiigchaa", sum := "d56e1dfa4902888cf874a34615efa8556f2eaf326aa25d6a03593b43c027ab8e", func := "heliograph/heliographlaw08.SdnvPuts", spec := "sdnvPuts", apart := false }
def SdnvPutsSaid : Prop := sdnvPutsRow.holds Try.pinned (OpenSpec.ofChange sdnvPutsSpec)

/-- ITS FALSE NEIGHBOUR: 'it returns false'. Refute it at one input. -/
def sdnvPutsWrong : ChangeSpec := { name := "sdnvPuts", fn := fun _ => fun
  | [d1, d2] => { results := [.lit (.bool false)], args := [d1, d2] }
  | _ => none }
def SdnvPutsWrongFalsely : Prop := sdnvPutsRow.holds Try.pinned (OpenSpec.ofChange sdnvPutsWrong)

/-- 'heliographlaw08.SdnvRows': WHATEVER THE INPUT: true; the input reads as it did. -/
def sdnvRowsSpec : ChangeSpec := { name := "sdnvRows", fn := fun _ => fun
  | [d1, d2] => { results := [.lit (.bool true)], args := [d1, d2] }
  | _ => none }
def sdnvRowsRow : OpenClaim := { program := "ytlohjfagiigchaa", sum := "d56e1dfa4902888cf874a34615efa8556f2eaf326aa25d6a03593b43c027ab8e", func := "heliograph/heliographlaw08.SdnvRows", spec := "sdnvRows", apart := false }
def SdnvRowsSaid : Prop := sdnvRowsRow.holds Try.pinned (OpenSpec.ofChange sdnvRowsSpec)

/-- ITS FALSE NEIGHBOUR: 'it returns false'. Refute it at one input. -/
def sdnvRowsWrong : ChangeSpec := { name := "sdnvRows", fn := fun _ => fun
  | [d1, d2] => { results := [.lit (.bool false)], args := [d1, d2] }
  | _ => none }
def SdnvRowsWrongFalsely : Prop := sdnvRowsRow.holds Try.pinned (OpenSpec.ofChange sdnvRowsWrong)

/-- 'heliographlaw08.SdnvMany': WHATEVER THE INPUT: true; the input reads as it did. -/
def sdnvManySpec : ChangeSpec := { name := "sdnvMany", fn := fun _ => fun
  | [d1, d2] => { results := [.lit (.bool true)], args := [d1, d2] }
  | _ => none }
def sdnvManyRow : OpenClaim := { program := "ytlohjfagiigchaa", sum := "d56e1dfa4902888cf874a34615efa8556f2eaf326aa25d6a03593b43c027ab8e", func := "heliograph/heliographlaw08.SdnvMany", spec := "sdnvMany", apart := false }
def SdnvManySaid : Prop := sdnvManyRow.holds Try.pinned (OpenSpec.ofChange sdnvManySpec)

/-- ITS FALSE NEIGHBOUR: 'it returns false'. Refute it at one input. -/
def sdnvManyWrong : ChangeSpec := { name := "sdnvMany", fn := fun _ => fun
  | [d1, d2] => { results := [.lit (.bool false)], args := [d1, d2] }
  | _ => none }
def SdnvManyWrongFalsely : Prop := sdnvManyRow.holds Try.pinned (OpenSpec.ofChange sdnvManyWrong)

/- THE SECOND FORM. 'bulk': how many values and letters a reading holds, each counted each time it is reached (what is shared counts as often as it is met; a slice's spare places count too). A statement '..UptoSaid' is the law's where the arguments, and the package variables that the reading takes, are together of bulk at most 1048576: NARROWER than '..Said'. Prove '..Said' where nothing that the law and all that it calls make is longer than what came in: it says more and counts as full. Else prove '..UptoSaid'. A law counts once. -/
mutual
def uptoBulk {H : Type} : DataW H → Nat
  | .lit (.string bytes) => bytes.length + 1
  | .lit _ => 1
  | .nil => 1
  | .ptr d => uptoBulk d + 1
  | .slice elems spare => uptoBulkAll elems + uptoBulkAll spare + 1
  | .agg parts => uptoBulkAll parts + 1
  | .iface _ d => uptoBulk d + 1
  | .map entries => uptoBulkEntries entries + 1
  | .held _ => 1
def uptoBulkAll {H : Type} : List (DataW H) → Nat
  | [] => 0
  | d :: r => uptoBulk d + uptoBulkAll r
def uptoBulkEntries {H : Type} : List (Lit × DataW H) → Nat
  | [] => 0
  | x :: r => uptoBulkEntry x + uptoBulkEntries r
def uptoBulkEntry {H : Type} : Lit × DataW H → Nat
  | (.string bytes, d) => bytes.length + uptoBulk d + 1
  | (_, d) => uptoBulk d + 1
 end
def uptoSmall : (H : Type) → List (DataW H) → Bool := fun _ ds => decide (uptoBulkAll ds ≤ 1048576)
def OpenSpec.upto (s : _root_.Go.ChangeSpec) : _root_.Go.OpenSpec := { _root_.Go.OpenSpec.ofChange s with cond := some uptoSmall }

/-- 'heliographlaw08.SdnvGets', WHERE WHAT IT READS IS OF BULK AT MOST 1048576: true; the input reads as it did. -/
def sdnvGetsUptoRow : OpenClaim := { program := "ytlohjfagiigchaa", sum := "d56e1dfa4902888cf874a34615efa8556f2eaf326aa25d6a03593b43c027ab8e", func := "heliograph/heliographlaw08.SdnvGets", spec := "sdnvGets", apart := false, narrowed := true }
def SdnvGetsUptoSaid : Prop := sdnvGetsUptoRow.holds Try.pinned (OpenSpec.upto sdnvGetsSpec)

/-- 'heliographlaw08.SdnvBack', WHERE WHAT IT READS IS OF BULK AT MOST 1048576: true; the input reads as it did. -/
def sdnvBackUptoRow : OpenClaim := { program := "ytlohjfagiigchaa", sum := "d56e1dfa4902888cf874a34615efa8556f2eaf326aa25d6a03593b43c027ab8e", func := "heliograph/heliographlaw08.SdnvBack", spec := "sdnvBack", apart := false, narrowed := true }
def SdnvBackUptoSaid : Prop := sdnvBackUptoRow.holds Try.pinned (OpenSpec.upto sdnvBackSpec)

/-- 'heliographlaw08.SdnvOnce', WHERE WHAT IT READS IS OF BULK AT MOST 1048576: true; the input reads as it did. -/
def sdnvOnceUptoRow : OpenClaim := { program := "ytlohjfagiigchaa", sum := "d56e1dfa4902888cf874a34615efa8556f2eaf326aa25d6a03593b43c027ab8e", func := "heliograph/heliographlaw08.SdnvOnce", spec := "sdnvOnce", apart := false, narrowed := true }
def SdnvOnceUptoSaid : Prop := sdnvOnceUptoRow.holds Try.pinned (OpenSpec.upto sdnvOnceSpec)

/-- 'heliographlaw08.SdnvRises', WHERE WHAT IT READS IS OF BULK AT MOST 1048576: true; the input reads as it did. -/
def sdnvRisesUptoRow : OpenClaim := { program := "ytlohjfagiigchaa", sum := "d56e1dfa4902888cf874a34615efa8556f2eaf326aa25d6a03593b43c027ab8e", func := "heliograph/heliographlaw08.SdnvRises", spec := "sdnvRises", inPlace := ["internal/bytealg.Compare"], apart := false, narrowed := true }
def SdnvRisesUptoSaid : Prop := sdnvRisesUptoRow.holds Try.pinned (OpenSpec.upto sdnvRisesSpec)

/-- 'heliographlaw08.SdnvPuts', WHERE WHAT IT READS IS OF BULK AT MOST 1048576: true; the input reads as it did. -/
def sdnvPutsUptoRow : OpenClaim := { program := "ytlohjfagiigchaa", sum := "d56e1dfa4902888cf874a34615efa8556f2eaf326aa25d6a03593b43c027ab8e", func := "heliograph/heliographlaw08.SdnvPuts", spec := "sdnvPuts", apart := false, narrowed := true }
def SdnvPutsUptoSaid : Prop := sdnvPutsUptoRow.holds Try.pinned (OpenSpec.upto sdnvPutsSpec)

/-- 'heliographlaw08.SdnvRows', WHERE WHAT IT READS IS OF BULK AT MOST 1048576: true; the input reads as it did. -/
def sdnvRowsUptoRow : OpenClaim := { program := "ytlohjfagiigchaa", sum := "d56e1dfa4902888cf874a34615efa8556f2eaf326aa25d6a03593b43c027ab8e", func := "heliograph/heliographlaw08.SdnvRows", spec := "sdnvRows", apart := false, narrowed := true }
def SdnvRowsUptoSaid : Prop := sdnvRowsUptoRow.holds Try.pinned (OpenSpec.upto sdnvRowsSpec)

/-- 'heliographlaw08.SdnvMany', WHERE WHAT IT READS IS OF BULK AT MOST 1048576: true; the input reads as it did. -/
def sdnvManyUptoRow : OpenClaim := { program := "ytlohjfagiigchaa", sum := "d56e1dfa4902888cf874a34615efa8556f2eaf326aa25d6a03593b43c027ab8e", func := "heliograph/heliographlaw08.SdnvMany", spec := "sdnvMany", apart := false, narrowed := true }
def SdnvManyUptoSaid : Prop := sdnvManyUptoRow.holds Try.pinned (OpenSpec.upto sdnvManySpec)

end Rows
end Go.Proofs.Ytlohjfagiigchaa
