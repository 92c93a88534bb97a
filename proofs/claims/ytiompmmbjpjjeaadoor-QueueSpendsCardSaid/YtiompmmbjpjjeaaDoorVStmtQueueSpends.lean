/- What QueueSpends has to answer, told plainly. -/
import Derived.Test.YtiompmmbjpjjeaaDoorVP5
import Derived.RowKit
namespace Go.Proofs.YtiompmmbjpjjeaaDoorV
open Go Go.RowKit
set_option linter.unusedVariables false
def GT54 (x : T54) : Prop := ((Lit.int .i64 x.From).wf = true ∧ (Lit.int .i64 x.To).wf = true ∧ (Lit.int .i64 x.Start).wf = true ∧ (Lit.int .i64 x.End).wf = true ∧ (Lit.int .i64 x.Rate).wf = true ∧ (Lit.int .i64 x.Delay).wf = true)
def GT24 (x : T24) : Prop := ((Lit.int .i64 x.Nodes).wf = true ∧ (x.Contacts.length ≤ maxLen ∧ x.Contacts.length * 48 ≤ 140737488351232 ∧ ∀ y ∈ x.Contacts, GT54 y))
def GT58 (x : T58) : Prop := ((Lit.int .i64 x.E0).wf = true ∧ (Lit.int .i64 x.E1).wf = true)
def StmtQueueSpends : Prop := ∀ (x0 : T24) (x1 : List Int) (x2 : T58), GT24 x0 → (x1.length ≤ maxLen ∧ x1.length * 8 ≤ 140737488351232 ∧ ∀ y ∈ x1, (Lit.int .i64 y).wf = true) → GT58 x2 → ∃ k, f5_airzraiiz k x0.Nodes x0.Contacts x1 x2.E0 x2.E1 = some (.o0 true)
end Go.Proofs.YtiompmmbjpjjeaaDoorV
