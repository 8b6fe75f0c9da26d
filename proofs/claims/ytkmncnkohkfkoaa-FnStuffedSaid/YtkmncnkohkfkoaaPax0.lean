/- A part of a proof that laws of the given program hold for every input: no condition. -/
import Derived.Test.YtkmncnkohkfkoaaProg
import Derived.Below
import Derived.Deep.Draws
import Derived.Deep.AppendLies
import Derived.Maps.AppendAt
import Derived.OwnWalk
import Derived.Laws.BytesArg
import Derived.Laws.MakeOwn
import Derived.Laws.OwnMore
import Derived.Deep.OwnRows
import Derived.Tactics
import Derived.Lib.ConvBytes
import Derived.Laws.Slices
import Derived.WalkKit
import Derived.KernelRfl
import Derived.RowKit3
import Derived.Deep.LoopGhost
import Derived.Deep.QuietTactic
import Derived.BigQuiet
import Derived.WideLaws
import Derived.Deep.DeepCutAuto
import Derived.Deep.CutBlock
import Derived.Deep.RegionHeld3
import Derived.Laws.Rows
import Derived.Lib.AppendStr
import Derived.ArgAppend
import Derived.Laws.IdiomCopy
import Derived.OrdersHeld
import Derived.Laws.BitsLemmas
import Derived.RowKit
import Derived.Test.YtkmncnkohkfkoaaWWords
import Derived.Test.YtkmncnkohkfkoaaWLast
import Derived.Test.YtkmncnkohkfkoaaWTab
import Derived.Test.YtkmncnkohkfkoaaWFour
import Derived.Test.YtkmncnkohkfkoaaWQPut
import Derived.Test.YtkmncnkohkfkoaaWApart
import Derived.Test.YtkmncnkohkfkoaaWArr
import Derived.Test.YtkmncnkohkfkoaaWZeros
import Derived.Test.YtkmncnkohkfkoaaWFoot
import Derived.Test.YtkmncnkohkfkoaaWKept
import Derived.Test.YtkmncnkohkfkoaaWShare
import Derived.Test.YtkmncnkohkfkoaaWN
import Derived.Test.YtkmncnkohkfkoaaWFootNe
import Derived.Test.YtkmncnkohkfkoaaWAt
import Derived.Test.YtkmncnkohkfkoaaWEqStruct
import Derived.Test.YtkmncnkohkfkoaaWRepsOne
import Derived.Test.YtkmncnkohkfkoaaWInv
import Derived.Test.YtkmncnkohkfkoaaWInvWords
import Derived.Test.YtkmncnkohkfkoaaWGuard
import Derived.Test.YtkmncnkohkfkoaaWNEv
import Derived.Test.YtkmncnkohkfkoaaWMore
namespace Go.Proofs.Ytkmncnkohkfkoaa.Pa
open Go.RowKit Go.Proofs.YtkmncnkohkfkoaaW.PrintWords Go.Proofs.YtkmncnkohkfkoaaW.PrintLast Go.Proofs.YtkmncnkohkfkoaaW.PrintMore
attribute [local go_sem] max2_int min2_int max_two min_two max_three min_three max_four min_four   -- for this text's walks alone
set_option linter.unusedVariables false
set_option linter.unusedSimpArgs false



def errW : Option Int → Value
  | none => .nilIface
  | some c => .iface 0 (.int .i64 c)
theorem errW_none : errW none = .nilIface := rfl
theorem errW_some (c : Int) : errW (some c) = .iface 0 (.int .i64 c) := rfl

theorem info3 : (Try.prog.info? 3).map (fun i => (i.zero, i.size, i.bytes)) = some (some (.int .i64 0), 1, 8) := by kernel_rfl
-- the values' own types

end Go.Proofs.Ytkmncnkohkfkoaa.Pa
