/- What SegmentBack has to answer, told plainly. -/
import Derived.Test.YthjefcamonmjpaaVP10
import Derived.RowKit
namespace Go.Proofs.YthjefcamonmjpaaV
open Go Go.RowKit
set_option linter.unusedVariables false
def GT45 (x : T45) : Prop := ((Lit.int .i64 x.At).wf = true ∧ (Lit.int .i64 x.N).wf = true)
def GT26 (x : T26) : Prop := ((Lit.int .i64 x.Kind).wf = true ∧ (Lit.int .i64 x.Source).wf = true ∧ (Lit.int .u32 x.Session).wf = true ∧ (Lit.int .u32 x.Serial).wf = true ∧ (Lit.int .u32 x.Checks).wf = true ∧ (Lit.int .i64 x.Offset).wf = true ∧ (Lit.int .i64 x.Total).wf = true ∧ (Lit.int .i64 x.Lower).wf = true ∧ (Lit.int .i64 x.Upper).wf = true ∧ (Lit.int .i64 x.Reason).wf = true ∧ True ∧ (x.Data.length ≤ maxLen ∧ x.Data.length * 1 ≤ 140737488351232 ∧ ∀ y ∈ x.Data, (Lit.int .u8 y).wf = true) ∧ (x.Claims.length ≤ maxLen ∧ x.Claims.length * 16 ≤ 140737488351232 ∧ ∀ y ∈ x.Claims, GT45 y))
def StmtSegmentBack : Prop := ∀ (x0 : T26) (x1 : List Int), GT26 x0 → (x1.length ≤ maxLen ∧ x1.length * 1 ≤ 140737488351232 ∧ ∀ y ∈ x1, (Lit.int .u8 y).wf = true) → ∃ k, f5_ai10brrzr k x0.Kind x0.Source x0.Session x0.Serial x0.Checks x0.Offset x0.Total x0.Lower x0.Upper x0.Reason x0.Check x0.Data x0.Claims x1 = some (.o0 true)
end Go.Proofs.YthjefcamonmjpaaV
