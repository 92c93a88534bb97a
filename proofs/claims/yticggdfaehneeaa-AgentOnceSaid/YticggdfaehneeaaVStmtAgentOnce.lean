/- What AgentOnce has to answer,told plainly. -/
import Derived.Test.YticggdfaehneeaaVP13
import Derived.RowKit
namespace Go.Proofs.YticggdfaehneeaaV
open Go Go.RowKit
set_option linter.unusedVariables false
def GT65 (x : T65) : Prop := (((Lit.int .i64 x.Key_Source).wf = true ∧ (Lit.int .u32 x.Key_Seq).wf = true ∧ (Lit.int .i64 x.Key_Offset).wf = true) ∧ (Lit.int .i64 x.N).wf = true)
def GT39 (x : T39) : Prop := ((Lit.int .i64 x.Source).wf = true ∧ (Lit.int .i64 x.Dest).wf = true ∧ (Lit.int .u32 x.Seq).wf = true ∧ (Lit.int .i64 x.Created).wf = true ∧ (Lit.int .i64 x.Lifetime).wf = true ∧ (Lit.int .i64 x.HopLimit).wf = true ∧ (Lit.int .i64 x.Hops).wf = true ∧ (Lit.int .i64 x.Priority).wf = true ∧ (Lit.int .i64 x.Offset).wf = true ∧ (Lit.int .i64 x.Total).wf = true ∧ (x.Payload.length ≤ maxLen ∧ x.Payload.length * 1 ≤ 140737488351232 ∧ ∀ y ∈ x.Payload,(Lit.int .u8 y).wf = true))
def GT26 (x : T26) : Prop := ((Lit.int .i64 x.Node).wf = true ∧ (Lit.int .u32 x.Next).wf = true ∧ (x.Seen.length ≤ maxLen ∧ x.Seen.length * 32 ≤ 140737488351232 ∧ ∀ y ∈ x.Seen,GT65 y) ∧ (x.Parts.length ≤ maxLen ∧ x.Parts.length * 104 ≤ 140737488351232 ∧ ∀ y ∈ x.Parts,GT39 y))
def StmtAgentOnce : Prop := ∀ (x0 : T26) (x1 : T39) (x2 : Int),GT26 x0 → GT39 x1 → (Lit.int .i64 x2).wf = true → ∃ k,f5_aiirrzai10rzi k x0.Node x0.Next x0.Seen x0.Parts x1.Source x1.Dest x1.Seq x1.Created x1.Lifetime x1.HopLimit x1.Hops x1.Priority x1.Offset x1.Total x1.Payload x2 = some (.o0 true)
end Go.Proofs.YticggdfaehneeaaV