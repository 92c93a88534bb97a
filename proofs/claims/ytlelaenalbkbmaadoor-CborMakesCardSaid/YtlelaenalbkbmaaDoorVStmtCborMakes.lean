/- What CborMakes has to answer,told plainly. -/
import Derived.Test.YtlelaenalbkbmaaDoorVP4
import Derived.RowKit
namespace Go.Proofs.YtlelaenalbkbmaaDoorV
open Go Go.RowKit
set_option linter.unusedVariables false
def GT49 (x:T49):Prop:=(((Lit.int .i64 x.Item_Kind).wf=true∧(Lit.int .u64 x.Item_Num).wf=true∧(x.Item_Bytes.length≤maxLen∧x.Item_Bytes.length * 1≤140737488351232∧∀ y∈x.Item_Bytes,(Lit.int .u8 y).wf=true)∧(x.Item_Items.length≤maxLen∧x.Item_Items.length * 64≤140737488351232∧∀ y∈x.Item_Items,True))∧True∧True)
def StmtCborMakes:Prop:=∀ (x0:Int) (x1:List Int) (x2:List T49),(Lit.int .u64 x0).wf=true→(x1.length≤maxLen∧x1.length * 1≤140737488351232∧∀ y∈x1,(Lit.int .u8 y).wf=true)→(x2.length≤maxLen∧x2.length * 72≤140737488351232∧∀ y∈x2,GT49 y)→∃ k,f4 k x0 x1 x2=some (.o0 true)
end Go.Proofs.YtlelaenalbkbmaaDoorV