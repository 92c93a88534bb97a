/- What PiecesJoin has to answer, told plainly. -/
import Derived.Test.YteggcokgkcfliaaVP10
import Derived.RowKit
namespace Go.Proofs.YteggcokgkcfliaaV
open Go Go.RowKit
set_option linter.unusedVariables false
def GT25 (x : T25) : Prop := ((Lit.int .i64 x.Source).wf = true ∧ (Lit.int .i64 x.Dest).wf = true ∧ (Lit.int .u32 x.Seq).wf = true ∧ (Lit.int .i64 x.Created).wf = true ∧ (Lit.int .i64 x.Lifetime).wf = true ∧ (Lit.int .i64 x.HopLimit).wf = true ∧ (Lit.int .i64 x.Hops).wf = true ∧ (Lit.int .i64 x.Priority).wf = true ∧ (Lit.int .i64 x.Offset).wf = true ∧ (Lit.int .i64 x.Total).wf = true ∧ (x.Payload.length ≤ maxLen ∧ x.Payload.length * 1 ≤ 140737488351232 ∧ ∀ y ∈ x.Payload, (Lit.int .u8 y).wf = true))
def StmtPiecesJoin : Prop := ∀ (x0 : List T25), (x0.length ≤ maxLen ∧ x0.length * 104 ≤ 140737488351232 ∧ ∀ y ∈ x0, GT25 y) → ∃ k, f6_r k x0 = some (.o0 true)
end Go.Proofs.YteggcokgkcfliaaV
