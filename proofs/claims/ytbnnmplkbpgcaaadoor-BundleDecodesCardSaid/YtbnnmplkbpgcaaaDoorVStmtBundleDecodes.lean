/- What BundleDecodes has to answer,told plainly. -/
import Derived.Test.YtbnnmplkbpgcaaaDoorVP16
import Derived.RowKit
namespace Go.Proofs.YtbnnmplkbpgcaaaDoorV
open Go Go.RowKit
set_option linter.unusedVariables false
def StmtBundleDecodes:Prop:=∀ (x0:List Int),(x0.length≤maxLen∧x0.length * 1≤140737488351232∧∀ y∈x0,(Lit.int .u8 y).wf=true)→∃ k,f3 k x0=some (.o0 true)
end Go.Proofs.YtbnnmplkbpgcaaaDoorV