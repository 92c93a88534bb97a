/- What PlanRoutes has to answer, told plainly. -/
import Derived.Test.YtmogplhglcodjaaVP8
import Derived.RowKit
namespace Go.Proofs.YtmogplhglcodjaaV
open Go Go.RowKit
set_option linter.unusedVariables false
def GT44 (x : T44) : Prop := ((Lit.int .i64 x.From).wf = true ∧ (Lit.int .i64 x.To).wf = true ∧ (Lit.int .i64 x.Start).wf = true ∧ (Lit.int .i64 x.End).wf = true ∧ (Lit.int .i64 x.Rate).wf = true ∧ (Lit.int .i64 x.Delay).wf = true)
def GT24 (x : T24) : Prop := ((Lit.int .i64 x.Nodes).wf = true ∧ (x.Contacts.length ≤ maxLen ∧ x.Contacts.length * 48 ≤ 140737488351232 ∧ ∀ y ∈ x.Contacts, GT44 y))
def GT27 (x : T27) : Prop := ((Lit.int .i64 x.From).wf = true ∧ (Lit.int .i64 x.To).wf = true ∧ (Lit.int .i64 x.Now).wf = true ∧ (Lit.int .i64 x.Need).wf = true)
def StmtPlanRoutes : Prop := ∀ (x0 : T24) (x1 : List Int) (x2 : T27), GT24 x0 → (x1.length ≤ maxLen ∧ x1.length * 8 ≤ 140737488351232 ∧ ∀ y ∈ x1, (Lit.int .i64 y).wf = true) → GT27 x2 → ∃ k, f3_airzrai4z k x0.Nodes x0.Contacts x1 x2.From x2.To x2.Now x2.Need = some (.o0 true)
end Go.Proofs.YtmogplhglcodjaaV
