/- What QueueEach has to answer,told plainly. -/
import Derived.Test.YtiompmmbjpjjeaaDoorVP18
import Derived.RowKit
namespace Go.Proofs.YtiompmmbjpjjeaaDoorV
open Go Go.RowKit
set_option linter.unusedVariables false
def GT54 (x:T54):Prop:=((Lit.int .i64 x.From).wf=true∧(Lit.int .i64 x.To).wf=true∧(Lit.int .i64 x.Start).wf=true∧(Lit.int .i64 x.End).wf=true∧(Lit.int .i64 x.Rate).wf=true∧(Lit.int .i64 x.Delay).wf=true)
def GT44 (x:T44):Prop:=((Lit.int .i64 x.Source).wf=true∧(Lit.int .u32 x.Seq).wf=true∧(Lit.int .i64 x.Offset).wf=true)
def GT28 (x:T28):Prop:=((Lit.int .i64 x.Node).wf=true∧((Lit.int .i64 x.Plan_Nodes).wf=true∧(x.Plan_Contacts.length≤maxLen∧x.Plan_Contacts.length * 48≤140737488351232∧∀ y∈x.Plan_Contacts,GT54 y))∧(x.Left.length≤maxLen∧x.Left.length * 8≤140737488351232∧∀ y∈x.Left,(Lit.int .i64 y).wf=true)∧(Lit.int .i64 x.Now).wf=true∧(x.Busy.length≤maxLen∧x.Busy.length * 24≤140737488351232∧∀ y∈x.Busy,GT44 y)∧(Lit.int .i64 x.Room).wf=true)
def GT47 (x:T47):Prop:=((Lit.int .i64 x.Source).wf=true∧(Lit.int .i64 x.Dest).wf=true∧(Lit.int .u32 x.Seq).wf=true∧(Lit.int .i64 x.Created).wf=true∧(Lit.int .i64 x.Lifetime).wf=true∧(Lit.int .i64 x.HopLimit).wf=true∧(Lit.int .i64 x.Hops).wf=true∧(Lit.int .i64 x.Priority).wf=true∧(Lit.int .i64 x.Offset).wf=true∧(Lit.int .i64 x.Total).wf=true∧(x.Payload.length≤maxLen∧x.Payload.length * 1≤140737488351232∧∀ y∈x.Payload,(Lit.int .u8 y).wf=true))
def GT31 (x:T31):Prop:=((x.List.length≤maxLen∧x.List.length * 104≤140737488351232∧∀ y∈x.List,GT47 y))
def StmtQueueEach:Prop:=∀ (x0:T28) (x1:T31),GT28 x0→GT31 x1→∃ k,f6 k x0.Node x0.Plan_Nodes x0.Plan_Contacts x0.Left x0.Now x0.Busy x0.Room x1.List=some (.o0 true)
end Go.Proofs.YtiompmmbjpjjeaaDoorV