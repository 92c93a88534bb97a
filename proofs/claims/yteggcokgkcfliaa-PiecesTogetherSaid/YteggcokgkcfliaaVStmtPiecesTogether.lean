/- What PiecesTogether has to answer, told plainly. -/
import Derived.Test.YteggcokgkcfliaaVP4
import Derived.RowKit
namespace Go.Proofs.YteggcokgkcfliaaV
open Go Go.RowKit
set_option linter.unusedVariables false
def GT25 (x : T25) : Prop := ((Lit.int .i64 x.Source).wf = true ∧ (Lit.int .i64 x.Dest).wf = true ∧ (Lit.int .u32 x.Seq).wf = true ∧ (Lit.int .i64 x.Created).wf = true ∧ (Lit.int .i64 x.Lifetime).wf = true ∧ (Lit.int .i64 x.HopLimit).wf = true ∧ (Lit.int .i64 x.Hops).wf = true ∧ (Lit.int .i64 x.Priority).wf = true ∧ (Lit.int .i64 x.Offset).wf = true ∧ (Lit.int .i64 x.Total).wf = true ∧ (x.Payload.length ≤ maxLen ∧ x.Payload.length * 1 ≤ 140737488351232 ∧ ∀ y ∈ x.Payload, (Lit.int .u8 y).wf = true))
def StmtPiecesTogether : Prop := ∀ (x0 : T25) (x1 : T25), GT25 x0 → GT25 x1 → ∃ k, f4_ai10rzai10rz k x0.Source x0.Dest x0.Seq x0.Created x0.Lifetime x0.HopLimit x0.Hops x0.Priority x0.Offset x0.Total x0.Payload x1.Source x1.Dest x1.Seq x1.Created x1.Lifetime x1.HopLimit x1.Hops x1.Priority x1.Offset x1.Total x1.Payload = some (.o0 true)
end Go.Proofs.YteggcokgkcfliaaV
