/- What PiecesAgain has to answer, told plainly. -/
import Derived.Test.YteggcokgkcfliaaVP7
import Derived.RowKit
namespace Go.Proofs.YteggcokgkcfliaaV
open Go Go.RowKit
set_option linter.unusedVariables false
def GT25 (x : T25) : Prop := ((Lit.int .i64 x.Source).wf = true ∧ (Lit.int .i64 x.Dest).wf = true ∧ (Lit.int .u32 x.Seq).wf = true ∧ (Lit.int .i64 x.Created).wf = true ∧ (Lit.int .i64 x.Lifetime).wf = true ∧ (Lit.int .i64 x.HopLimit).wf = true ∧ (Lit.int .i64 x.Hops).wf = true ∧ (Lit.int .i64 x.Priority).wf = true ∧ (Lit.int .i64 x.Offset).wf = true ∧ (Lit.int .i64 x.Total).wf = true ∧ (x.Payload.length ≤ maxLen ∧ x.Payload.length * 1 ≤ 140737488351232 ∧ ∀ y ∈ x.Payload, (Lit.int .u8 y).wf = true))
def StmtPiecesAgain : Prop := ∀ (x0 : T25) (x1 : Int) (x2 : Int), GT25 x0 → (Lit.int .i64 x1).wf = true → (Lit.int .i64 x2).wf = true → ∃ k, f5_ai10rzii k x0.Source x0.Dest x0.Seq x0.Created x0.Lifetime x0.HopLimit x0.Hops x0.Priority x0.Offset x0.Total x0.Payload x1 x2 = some (.o0 true)
end Go.Proofs.YteggcokgkcfliaaV
