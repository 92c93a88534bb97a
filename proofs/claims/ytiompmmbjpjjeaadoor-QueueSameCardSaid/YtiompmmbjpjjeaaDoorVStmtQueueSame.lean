/- What QueueSame has to answer, told plainly. -/
import Derived.Test.YtiompmmbjpjjeaaDoorVP3
import Derived.RowKit
namespace Go.Proofs.YtiompmmbjpjjeaaDoorV
open Go Go.RowKit
set_option linter.unusedVariables false
def GT56 (x : T56) : Prop := (((Lit.int .i64 x.Key_Source).wf = true ∧ (Lit.int .u32 x.Key_Seq).wf = true ∧ (Lit.int .i64 x.Key_Offset).wf = true) ∧ (Lit.int .i64 x.To).wf = true ∧ (Lit.int .i64 x.Contact).wf = true)
def GT44 (x : T44) : Prop := ((Lit.int .i64 x.Source).wf = true ∧ (Lit.int .u32 x.Seq).wf = true ∧ (Lit.int .i64 x.Offset).wf = true)
def GT37 (x : T37) : Prop := ((x.Go.length ≤ maxLen ∧ x.Go.length * 40 ≤ 140737488351232 ∧ ∀ y ∈ x.Go, GT56 y) ∧ (x.Waits.length ≤ maxLen ∧ x.Waits.length * 24 ≤ 140737488351232 ∧ ∀ y ∈ x.Waits, GT44 y) ∧ (x.Stuck.length ≤ maxLen ∧ x.Stuck.length * 24 ≤ 140737488351232 ∧ ∀ y ∈ x.Stuck, GT44 y) ∧ (x.Left.length ≤ maxLen ∧ x.Left.length * 8 ≤ 140737488351232 ∧ ∀ y ∈ x.Left, (Lit.int .i64 y).wf = true))
def StmtQueueSame : Prop := ∀ (x0 : T37) (x1 : T37), GT37 x0 → GT37 x1 → ∃ k, f7_arrrrzarrrrz k x0.Go x0.Waits x0.Stuck x0.Left x1.Go x1.Waits x1.Stuck x1.Left = some (.o0 true)
end Go.Proofs.YtiompmmbjpjjeaaDoorV
