/- What AgentWhole has to answer,told plainly. -/
import Derived.Test.YticggdfaehneeaaVP14
import Derived.RowKit
namespace Go.Proofs.YticggdfaehneeaaV
open Go Go.RowKit
set_option linter.unusedVariables false
def StmtAgentWhole:Prop:=∀ (x0:List Int) (x1:Int) (x2:List Int),(x0.length≤maxLen∧x0.length * 1≤140737488351232∧∀ y∈x0,(Lit.int .u8 y).wf=true)→(Lit.int .i64 x1).wf=true→(x2.length≤maxLen∧x2.length * 8≤140737488351232∧∀ y∈x2,(Lit.int .i64 y).wf=true)→∃ k,f4 k x0 x1 x2=some (.o0 true)
end Go.Proofs.YticggdfaehneeaaV