/- For each Go function told here: the plain function of what it answers, and that the translated program's call answers just that, wherever the plain function answers at all. Written by a program of this session, out of the translation. -/
import Derived.Test.YtglkfbegkfgaoaaProg
import Derived.Below
import Derived.Deep.Draws
import Derived.Deep.AppendLies
import Derived.Maps.AppendAt
import Derived.OwnWalk
import Derived.Laws.BytesArg
import Derived.Laws.MakeOwn
import Derived.Laws.OwnMore
import Derived.Deep.OwnRows
import Derived.Tactics
import Derived.Lib.ConvBytes
import Derived.Laws.Slices
import Derived.WalkKit
import Derived.KernelRfl
import Derived.RowKit3
import Derived.Deep.LoopGhost
import Derived.Deep.QuietTactic
import Derived.BigQuiet
import Derived.WideLaws
import Derived.Deep.DeepCutAuto
import Derived.Deep.CutBlock
import Derived.Deep.RegionHeld3
import Derived.Laws.Rows
import Derived.Lib.AppendStr
import Derived.ArgAppend
import Derived.Laws.IdiomCopy
import Derived.OrdersHeld
import Derived.Laws.BitsLemmas
import Derived.RowKit
import Derived.Test.YtglkfbegkfgaoaaWWords
import Derived.Test.YtglkfbegkfgaoaaWLast
import Derived.Test.YtglkfbegkfgaoaaWTab
import Derived.Test.YtglkfbegkfgaoaaWFour
import Derived.Test.YtglkfbegkfgaoaaWQPut
import Derived.Test.YtglkfbegkfgaoaaWApart
import Derived.Test.YtglkfbegkfgaoaaWArr
import Derived.Test.YtglkfbegkfgaoaaWZeros
import Derived.Test.YtglkfbegkfgaoaaWFoot
import Derived.Test.YtglkfbegkfgaoaaWKept
import Derived.Test.YtglkfbegkfgaoaaWShare
import Derived.Test.YtglkfbegkfgaoaaWN
import Derived.Test.YtglkfbegkfgaoaaWFootNe
import Derived.Test.YtglkfbegkfgaoaaWAt
import Derived.Test.YtglkfbegkfgaoaaWEqStruct
import Derived.Test.YtglkfbegkfgaoaaWRepsOne
import Derived.Test.YtglkfbegkfgaoaaWInv
import Derived.Test.YtglkfbegkfgaoaaWInvWords
import Derived.Test.YtglkfbegkfgaoaaWGuard
import Derived.Test.YtglkfbegkfgaoaaWNEv
import Derived.Test.YtglkfbegkfgaoaaWMore
import Derived.Test.YtglkfbegkfgaoaaHOwn
namespace Go.Proofs.Ytglkfbegkfgaoaa.P
open Go.RowKit Go.Proofs.YtglkfbegkfgaoaaW.PrintWords Go.Proofs.YtglkfbegkfgaoaaW.PrintLast Go.Proofs.YtglkfbegkfgaoaaW.PrintMore
attribute [local go_sem] max2_int min2_int max_two min_two max_three min_three max_four min_four   -- for this text's walks alone
set_option linter.unusedVariables false
set_option linter.unusedSimpArgs false



def errW : Option Int → Value
  | none => .nilIface
  | some c => .iface 0 (.int .i64 c)
theorem errW_none : errW none = .nilIface := rfl
theorem errW_some (c : Int) : errW (some c) = .iface 0 (.int .i64 c) := rfl

theorem info5 : (Try.prog.info? 5).map (fun i => (i.zero, i.size, i.bytes)) = some (some (.int .u8 0), 1, 1) := by kernel_rfl
-- the values' own types

end Go.Proofs.Ytglkfbegkfgaoaa.P
