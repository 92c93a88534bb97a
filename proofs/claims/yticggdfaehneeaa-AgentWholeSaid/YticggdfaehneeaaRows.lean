/-
  No cell of these rows narrows 'for every input' (looked for: loops, veiled, ifaces, maps, wideKeys, modest, calm, conditions, laid).
  DERIVED. THE GIVEN ROWS OF THIS SEAT. 4 by the template 'for every input the law returns true; each argument reads behind the call as it read before'; 0 by the template 'total and deterministic' (their statements: YticggdfaehneeaaTotals.lean).
  GIVEN WITH THE SEED: the statements are not yours to turn. If you find one false, say at which input.
  Laid BY PROGRAM, IN A SANDBOX (cutbox-rows.mjs): the forced cells as the released guide's own fill.sh prints them over the translation 56ded9a79254bd56… (all of the seat's roots in one cut). By AI agents, Wed Nov 11 2026. No macro, syntax, notation, axiom, sorry.
-/
import Derived.Test.YticggdfaehneeaaChecked
import GoSem.Claim
import GoSem.ClaimJoined
import GoSem.ClaimMapViews
import Derived.JoinedTies
import Derived.KernelRfl
namespace Go.Proofs.Yticggdfaehneeaa
/- THE CELL 'sum', in the pinned program and in every row, IS THE sha256 OF THE DUMP (.gsa) THAT YticggdfaehneeaaProg.lean LOADS. Nothing in Lean hashes anything: it is a label: what it is worth is what the hold of that sum in a sandbox is worth. -/
noncomputable def Try.pinned : Pinned := { name := "yticggdfaehneeaa", sum := "56ded9a79254bd564f6d965876fd577332146e975e3e27df481e32c0a67bdc2c", checked := Try.checked }
namespace Rows
def none {H : Type} : Left H := { results := [], args := [] }

/-- 'heliographlaw19.AgentMakes': WHATEVER THE INPUT: true; the input reads as it did. -/
def agentMakesSpec : ChangeSpec := { name := "agentMakes", fn := fun _ => fun
  | [d1, d2, d3] => { results := [.lit (.bool true)], args := [d1, d2, d3] }
  | _ => none }
def agentMakesRow : OpenClaim := { program := "yticggdfaehneeaa", sum := "56ded9a79254bd564f6d965876fd577332146e975e3e27df481e32c0a67bdc2c", func := "heliograph/heliographlaw19.AgentMakes", spec := "agentMakes", unfollowed := true, recurses := true, apart := false }
def AgentMakesSaid : Prop := agentMakesRow.holds Try.pinned (OpenSpec.ofChange agentMakesSpec)

/-- ITS FALSE NEIGHBOUR: 'it returns false'. Refute it at one input. -/
def agentMakesWrong : ChangeSpec := { name := "agentMakes", fn := fun _ => fun
  | [d1, d2, d3] => { results := [.lit (.bool false)], args := [d1, d2, d3] }
  | _ => none }
def AgentMakesWrongFalsely : Prop := agentMakesRow.holds Try.pinned (OpenSpec.ofChange agentMakesWrong)

/-- 'heliographlaw19.AgentWhole': WHATEVER THE INPUT: true; the input reads as it did. -/
def agentWholeSpec : ChangeSpec := { name := "agentWhole", fn := fun _ => fun
  | [d1, d2, d3] => { results := [.lit (.bool true)], args := [d1, d2, d3] }
  | _ => none }
def agentWholeRow : OpenClaim := { program := "yticggdfaehneeaa", sum := "56ded9a79254bd564f6d965876fd577332146e975e3e27df481e32c0a67bdc2c", func := "heliograph/heliographlaw19.AgentWhole", spec := "agentWhole", unfollowed := true, recurses := true, apart := false }
def AgentWholeSaid : Prop := agentWholeRow.holds Try.pinned (OpenSpec.ofChange agentWholeSpec)

/-- ITS FALSE NEIGHBOUR: 'it returns false'. Refute it at one input. -/
def agentWholeWrong : ChangeSpec := { name := "agentWhole", fn := fun _ => fun
  | [d1, d2, d3] => { results := [.lit (.bool false)], args := [d1, d2, d3] }
  | _ => none }
def AgentWholeWrongFalsely : Prop := agentWholeRow.holds Try.pinned (OpenSpec.ofChange agentWholeWrong)

/-- 'heliographlaw19.AgentOnce': WHATEVER THE INPUT: true; the input reads as it did. -/
def agentOnceSpec : ChangeSpec := { name := "agentOnce", fn := fun _ => fun
  | [d1, d2, d3] => { results := [.lit (.bool true)], args := [d1, d2, d3] }
  | _ => none }
def agentOnceRow : OpenClaim := { program := "yticggdfaehneeaa", sum := "56ded9a79254bd564f6d965876fd577332146e975e3e27df481e32c0a67bdc2c", func := "heliograph/heliographlaw19.AgentOnce", spec := "agentOnce", unfollowed := true, recurses := true, apart := false }
def AgentOnceSaid : Prop := agentOnceRow.holds Try.pinned (OpenSpec.ofChange agentOnceSpec)

/-- ITS FALSE NEIGHBOUR: 'it returns false'. Refute it at one input. -/
def agentOnceWrong : ChangeSpec := { name := "agentOnce", fn := fun _ => fun
  | [d1, d2, d3] => { results := [.lit (.bool false)], args := [d1, d2, d3] }
  | _ => none }
def AgentOnceWrongFalsely : Prop := agentOnceRow.holds Try.pinned (OpenSpec.ofChange agentOnceWrong)

/-- 'heliographlaw19.AgentExpires': WHATEVER THE INPUT: true; the input reads as it did. -/
def agentExpiresSpec : ChangeSpec := { name := "agentExpires", fn := fun _ => fun
  | [d1, d2, d3] => { results := [.lit (.bool true)], args := [d1, d2, d3] }
  | _ => none }
def agentExpiresRow : OpenClaim := { program := "yticggdfaehneeaa", sum := "56ded9a79254bd564f6d965876fd577332146e975e3e27df481e32c0a67bdc2c", func := "heliograph/heliographlaw19.AgentExpires", spec := "agentExpires", unfollowed := true, recurses := true, apart := false }
def AgentExpiresSaid : Prop := agentExpiresRow.holds Try.pinned (OpenSpec.ofChange agentExpiresSpec)

/-- ITS FALSE NEIGHBOUR: 'it returns false'. Refute it at one input. -/
def agentExpiresWrong : ChangeSpec := { name := "agentExpires", fn := fun _ => fun
  | [d1, d2, d3] => { results := [.lit (.bool false)], args := [d1, d2, d3] }
  | _ => none }
def AgentExpiresWrongFalsely : Prop := agentExpiresRow.holds Try.pinned (OpenSpec.ofChange agentExpiresWrong)

/- THE SECOND FORM. 'bulk': how many values and letters a reading holds, each counted each time it is reached (what is shared counts as often as it is met; a slice's spare places count too). A statement '..UptoSaid' is the law's where the arguments, and the package variables that the reading takes, are together of bulk at most 1048576: NARROWER than '..Said'. Prove '..Said' where nothing that the law and all that it calls make is longer than what came in: it says more and counts as full. Else prove '..UptoSaid'. A law counts once. -/
mutual
def uptoBulk {H : Type} : DataW H → Nat
  | .lit (.string bytes) => bytes.length + 1
  | .lit _ => 1
  | .nil => 1
  | .ptr d => uptoBulk d + 1
  | .slice elems spare => uptoBulkAll elems + uptoBulkAll spare + 1
  | .agg parts => uptoBulkAll parts + 1
  | .iface _ d => uptoBulk d + 1
  | .map entries => uptoBulkEntries entries + 1
  | .held _ => 1
def uptoBulkAll {H : Type} : List (DataW H) → Nat
  | [] => 0
  | d :: r => uptoBulk d + uptoBulkAll r
def uptoBulkEntries {H : Type} : List (Lit × DataW H) → Nat
  | [] => 0
  | x :: r => uptoBulkEntry x + uptoBulkEntries r
def uptoBulkEntry {H : Type} : Lit × DataW H → Nat
  | (.string bytes, d) => bytes.length + uptoBulk d + 1
  | (_, d) => uptoBulk d + 1
 end
def uptoSmall : (H : Type) → List (DataW H) → Bool := fun _ ds => decide (uptoBulkAll ds ≤ 1048576)
def OpenSpec.upto (s : _root_.Go.ChangeSpec) : _root_.Go.OpenSpec := { _root_.Go.OpenSpec.ofChange s with cond := some uptoSmall }

/-- 'heliographlaw19.AgentMakes', WHERE WHAT IT READS IS OF BULK AT MOST 1048576: true; the input reads as it did. -/
def agentMakesUptoRow : OpenClaim := { program := "yticggdfaehneeaa", sum := "56ded9a79254bd564f6d965876fd577332146e975e3e27df481e32c0a67bdc2c", func := "heliograph/heliographlaw19.AgentMakes", spec := "agentMakes", unfollowed := true, recurses := true, apart := false, narrowed := true }
def AgentMakesUptoSaid : Prop := agentMakesUptoRow.holds Try.pinned (OpenSpec.upto agentMakesSpec)

/-- 'heliographlaw19.AgentWhole', WHERE WHAT IT READS IS OF BULK AT MOST 1048576: true; the input reads as it did. -/
def agentWholeUptoRow : OpenClaim := { program := "yticggdfaehneeaa", sum := "56ded9a79254bd564f6d965876fd577332146e975e3e27df481e32c0a67bdc2c", func := "heliograph/heliographlaw19.AgentWhole", spec := "agentWhole", unfollowed := true, recurses := true, apart := false, narrowed := true }
def AgentWholeUptoSaid : Prop := agentWholeUptoRow.holds Try.pinned (OpenSpec.upto agentWholeSpec)

/-- 'heliographlaw19.AgentOnce', WHERE WHAT IT READS IS OF BULK AT MOST 1048576: true; the input reads as it did. -/
def agentOnceUptoRow : OpenClaim := { program := "yticggdfaehneeaa", sum := "56ded9a79254bd564f6d965876fd577332146e975e3e27df481e32c0a67bdc2c", func := "heliograph/heliographlaw19.AgentOnce", spec := "agentOnce", unfollowed := true, recurses := true, apart := false, narrowed := true }
def AgentOnceUptoSaid : Prop := agentOnceUptoRow.holds Try.pinned (OpenSpec.upto agentOnceSpec)

/-- 'heliographlaw19.AgentExpires', WHERE WHAT IT READS IS OF BULK AT MOST 1048576: true; the input reads as it did. -/
def agentExpiresUptoRow : OpenClaim := { program := "yticggdfaehneeaa", sum := "56ded9a79254bd564f6d965876fd577332146e975e3e27df481e32c0a67bdc2c", func := "heliograph/heliographlaw19.AgentExpires", spec := "agentExpires", unfollowed := true, recurses := true, apart := false, narrowed := true }
def AgentExpiresUptoSaid : Prop := agentExpiresUptoRow.holds Try.pinned (OpenSpec.upto agentExpiresSpec)

end Rows
end Go.Proofs.Yticggdfaehneeaa
