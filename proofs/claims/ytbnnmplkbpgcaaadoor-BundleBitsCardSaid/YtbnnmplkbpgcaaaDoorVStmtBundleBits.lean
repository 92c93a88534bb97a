/- What BundleBits has to answer,told plainly. -/
import Derived.Test.YtbnnmplkbpgcaaaDoorVP11
import Derived.RowKit
namespace Go.Proofs.YtbnnmplkbpgcaaaDoorV
open Go Go.RowKit
set_option linter.unusedVariables false
def GT26 (x:T26):Prop:=((Lit.int .i64 x.Source).wf=true∧(Lit.int .i64 x.Dest).wf=true∧(Lit.int .u32 x.Seq).wf=true∧(Lit.int .i64 x.Created).wf=true∧(Lit.int .i64 x.Lifetime).wf=true∧(Lit.int .i64 x.HopLimit).wf=true∧(Lit.int .i64 x.Hops).wf=true∧(Lit.int .i64 x.Priority).wf=true∧(Lit.int .i64 x.Offset).wf=true∧(Lit.int .i64 x.Total).wf=true∧(x.Payload.length≤maxLen∧x.Payload.length * 1≤140737488351232∧∀ y∈x.Payload,(Lit.int .u8 y).wf=true))
def StmtBundleBits:Prop:=∀ (x0:T26) (x1:Int),GT26 x0→(Lit.int .i64 x1).wf=true→∃ k,f5 k x0.Source x0.Dest x0.Seq x0.Created x0.Lifetime x0.HopLimit x0.Hops x0.Priority x0.Offset x0.Total x0.Payload x1=some (.o0 true)
end Go.Proofs.YtbnnmplkbpgcaaaDoorV