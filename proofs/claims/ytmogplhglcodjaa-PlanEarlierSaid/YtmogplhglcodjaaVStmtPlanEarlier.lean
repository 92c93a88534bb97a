/- What PlanEarlier has to answer, told plainly. -/
import Derived.Test.YtmogplhglcodjaaVP5
import Derived.RowKit
namespace Go.Proofs.YtmogplhglcodjaaV
open Go Go.RowKit
set_option linter.unusedVariables false
def GT44 (x : T44) : Prop := ((Lit.int .i64 x.From).wf = true ∧ (Lit.int .i64 x.To).wf = true ∧ (Lit.int .i64 x.Start).wf = true ∧ (Lit.int .i64 x.End).wf = true ∧ (Lit.int .i64 x.Rate).wf = true ∧ (Lit.int .i64 x.Delay).wf = true)
def GT24 (x : T24) : Prop := ((Lit.int .i64 x.Nodes).wf = true ∧ (x.Contacts.length ≤ maxLen ∧ x.Contacts.length * 48 ≤ 140737488351232 ∧ ∀ y ∈ x.Contacts, GT44 y))
def GT27 (x : T27) : Prop := ((Lit.int .i64 x.From).wf = true ∧ (Lit.int .i64 x.To).wf = true ∧ (Lit.int .i64 x.Now).wf = true ∧ (Lit.int .i64 x.Need).wf = true)
def StmtPlanEarlier : Prop := ∀ (x0 : T24) (x1 : T27) (x2 : List Int), GT24 x0 → GT27 x1 → (x2.length ≤ maxLen ∧ x2.length * 8 ≤ 140737488351232 ∧ ∀ y ∈ x2, (Lit.int .i64 y).wf = true) → ∃ k, f4_airzai4zr k x0.Nodes x0.Contacts x1.From x1.To x1.Now x1.Need x2 = some (.o0 true)
end Go.Proofs.YtmogplhglcodjaaV
