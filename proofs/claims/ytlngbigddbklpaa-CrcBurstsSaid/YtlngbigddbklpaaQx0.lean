-- Written by this session's own driver (wip/hybrid.py) of the kit's printer; contracts marked FOREIGN are by hand.
import Derived.Test.YtlngbigddbklpaaProg
import Derived.Below
import Derived.Deep.Draws
import Derived.Deep.AppendLies
import Derived.Maps.AppendAt
import Derived.OwnWalk
import Derived.Laws.BytesArg
import Derived.Laws.MakeOwn
import Derived.Laws.OwnMore
import Derived.Deep.OwnRows
import Derived.Tactics
import Derived.Lib.ConvBytes
import Derived.Laws.Slices
import Derived.WalkKit
import Derived.KernelRfl
import Derived.RowKit3
import Derived.Deep.LoopGhost
import Derived.Deep.QuietTactic
import Derived.BigQuiet
import Derived.WideLaws
import Derived.Deep.DeepCutAuto
import Derived.Deep.CutBlock
import Derived.Deep.RegionHeld3
import Derived.Laws.Rows
import Derived.Lib.AppendStr
import Derived.ArgAppend
import Derived.Laws.IdiomCopy
import Derived.OrdersHeld
import Derived.Laws.BitsLemmas
import Derived.RowKit
import Derived.LoopN
import Derived.Test.YtlngbigddbklpaaWWords
import Derived.Test.YtlngbigddbklpaaWLast
import Derived.Test.YtlngbigddbklpaaWTab
import Derived.Test.YtlngbigddbklpaaWFour
import Derived.Test.YtlngbigddbklpaaWQPut
import Derived.Test.YtlngbigddbklpaaWApart
import Derived.Test.YtlngbigddbklpaaWArr
import Derived.Test.YtlngbigddbklpaaWZeros
import Derived.Test.YtlngbigddbklpaaWFoot
import Derived.Test.YtlngbigddbklpaaWKept
import Derived.Test.YtlngbigddbklpaaWShare
import Derived.Test.YtlngbigddbklpaaWN
import Derived.Test.YtlngbigddbklpaaWFootNe
import Derived.Test.YtlngbigddbklpaaWAt
import Derived.Test.YtlngbigddbklpaaWEqStruct
import Derived.Test.YtlngbigddbklpaaWRepsOne
import Derived.Test.YtlngbigddbklpaaWInv
import Derived.Test.YtlngbigddbklpaaWInvWords
import Derived.Test.YtlngbigddbklpaaWGuard
import Derived.Test.YtlngbigddbklpaaWNEv
import Derived.Test.YtlngbigddbklpaaWMore
namespace Go.Proofs.Ytlngbigddbklpaa.Q
open Go.RowKit Go.Proofs.YtlngbigddbklpaaW.PrintWords Go.Proofs.YtlngbigddbklpaaW.PrintLast Go.Proofs.YtlngbigddbklpaaW.PrintMore
attribute [local go_sem] max2_int min2_int max_two min_two max_three min_three max_four min_four   -- for this text's walks alone
set_option linter.unusedVariables false
set_option linter.unusedSimpArgs false



def errW : Option Int → Value
  | none => .nilIface
  | some c => .iface 0 (.int .i64 c)
theorem errW_none : errW none = .nilIface := rfl
theorem errW_some (c : Int) : errW (some c) = .iface 0 (.int .i64 c) := rfl

theorem info5 : (Try.prog.info? 5).map (fun i => (i.zero, i.size, i.bytes)) = some (some (.int .u8 0), 1, 1) := by kernel_rfl
-- the values' own types

end Go.Proofs.Ytlngbigddbklpaa.Q
