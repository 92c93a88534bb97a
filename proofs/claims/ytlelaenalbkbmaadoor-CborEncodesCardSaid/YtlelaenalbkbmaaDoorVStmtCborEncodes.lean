/- What CborEncodes has to answer,told plainly. -/
import Derived.Test.YtlelaenalbkbmaaDoorVP7
import Derived.RowKit
namespace Go.Proofs.YtlelaenalbkbmaaDoorV
open Go Go.RowKit
set_option linter.unusedVariables false
def GT49 (x:T49):Prop:=(((Lit.int .i64 x.Item_Kind).wf=true∧(Lit.int .u64 x.Item_Num).wf=true∧(x.Item_Bytes.length≤maxLen∧x.Item_Bytes.length * 1≤140737488351232∧∀ y∈x.Item_Bytes,(Lit.int .u8 y).wf=true)∧(x.Item_Items.length≤maxLen∧x.Item_Items.length * 64≤140737488351232∧∀ y∈x.Item_Items,True))∧True∧True)
def StmtCborEncodes:Prop:=∀ (x0:List T49),(x0.length≤maxLen∧x0.length * 72≤140737488351232∧∀ y∈x0,GT49 y)→∃ k,f3 k x0=some (.o0 true)
end Go.Proofs.YtlelaenalbkbmaaDoorV