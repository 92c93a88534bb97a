/- What CborAgain has to answer,told plainly. -/
import Derived.Test.YtlelaenalbkbmaaDoorVP6
import Derived.RowKit
namespace Go.Proofs.YtlelaenalbkbmaaDoorV
open Go Go.RowKit
set_option linter.unusedVariables false
def StmtCborAgain:Prop:=∀ (x0:List Int),(x0.length≤maxLen∧x0.length * 1≤140737488351232∧∀ y∈x0,(Lit.int .u8 y).wf=true)→∃ k,f6 k x0=some (.o0 true)
end Go.Proofs.YtlelaenalbkbmaaDoorV