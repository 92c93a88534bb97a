/- What PlanSame has to answer, told plainly. -/
import Derived.Test.YtmogplhglcodjaaVP1
import Derived.RowKit
namespace Go.Proofs.YtmogplhglcodjaaV
open Go Go.RowKit
set_option linter.unusedVariables false
def GT44 (x : T44) : Prop := ((Lit.int .i64 x.From).wf = true ∧ (Lit.int .i64 x.To).wf = true ∧ (Lit.int .i64 x.Start).wf = true ∧ (Lit.int .i64 x.End).wf = true ∧ (Lit.int .i64 x.Rate).wf = true ∧ (Lit.int .i64 x.Delay).wf = true)
def GT24 (x : T24) : Prop := ((Lit.int .i64 x.Nodes).wf = true ∧ (x.Contacts.length ≤ maxLen ∧ x.Contacts.length * 48 ≤ 140737488351232 ∧ ∀ y ∈ x.Contacts, GT44 y))
def StmtPlanSame : Prop := ∀ (x0 : T24) (x1 : T24) (x2 : T44), GT24 x0 → GT24 x1 → GT44 x2 → ∃ k, f6_airzairzai6z k x0.Nodes x0.Contacts x1.Nodes x1.Contacts x2.From x2.To x2.Start x2.End x2.Rate x2.Delay = some (.o0 true)
end Go.Proofs.YtmogplhglcodjaaV
