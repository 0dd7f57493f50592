-- Printed by myprint.py, a program of this session's repo, over the kit's printer; hand texts of the session stand in it
import Derived.Test.YtddomdjphkalcaaProg
import Derived.Below
import Derived.Deep.Draws
import Derived.Deep.AppendLies
import Derived.Maps.AppendAt
import Derived.OwnWalk
import Derived.Laws.BytesArg
import Derived.Laws.MakeOwn
import Derived.Laws.OwnMore
import Derived.Deep.OwnRows
import Derived.Tactics
import Derived.Lib.ConvBytes
import Derived.Laws.Slices
import Derived.WalkKit
import Derived.KernelRfl
import Derived.RowKit3
import Derived.Deep.LoopGhost
import Derived.Deep.QuietTactic
import Derived.BigQuiet
import Derived.WideLaws
import Derived.Deep.DeepCutAuto
import Derived.Deep.CutBlock
import Derived.Deep.RegionHeld3
import Derived.Laws.Rows
import Derived.Lib.AppendStr
import Derived.ArgAppend
import Derived.Laws.IdiomCopy
import Derived.OrdersHeld
import Derived.Laws.BitsLemmas
import Derived.RowKit
import Derived.Laws.RangeString
import Derived.Laws.RangeAny
import Derived.RegionTactic
import Derived.ChangeAlike
import Derived.RegionTactic
import Derived.ChangeAlike
import Derived.Test.YtddomdjphkalcaaWWords
import Derived.Test.YtddomdjphkalcaaWLast
import Derived.Test.YtddomdjphkalcaaWTab
import Derived.Test.YtddomdjphkalcaaWFour
import Derived.Test.YtddomdjphkalcaaWQPut
import Derived.Test.YtddomdjphkalcaaWApart
import Derived.Test.YtddomdjphkalcaaWArr
import Derived.Test.YtddomdjphkalcaaWZeros
import Derived.Test.YtddomdjphkalcaaWFoot
import Derived.Test.YtddomdjphkalcaaWKept
import Derived.Test.YtddomdjphkalcaaWShare
import Derived.Test.YtddomdjphkalcaaWN
import Derived.Test.YtddomdjphkalcaaWFootNe
import Derived.Test.YtddomdjphkalcaaWAt
import Derived.Test.YtddomdjphkalcaaWEqStruct
import Derived.Test.YtddomdjphkalcaaWRepsOne
import Derived.Test.YtddomdjphkalcaaWInv
import Derived.Test.YtddomdjphkalcaaWInvWords
import Derived.Test.YtddomdjphkalcaaWGuard
import Derived.Test.YtddomdjphkalcaaWNEv
import Derived.Test.YtddomdjphkalcaaWMore
namespace Go.Proofs.Ytddomdjphkalcaa.Px
open Go.RowKit Go.Proofs.YtddomdjphkalcaaW.PrintWords Go.Proofs.YtddomdjphkalcaaW.PrintLast Go.Proofs.YtddomdjphkalcaaW.PrintMore
attribute [local go_sem] max2_int min2_int max_two min_two max_three min_three max_four min_four   -- for this text's walks alone
set_option linter.unusedVariables false
set_option linter.unusedSimpArgs false



def errW : Option Int → Value
  | none => .nilIface
  | some c => .iface 0 (.int .i64 c)
theorem errW_none : errW none = .nilIface := rfl
theorem errW_some (c : Int) : errW (some c) = .iface 0 (.int .i64 c) := rfl

theorem info9 : (Try.prog.info? 9).map (fun i => (i.zero, i.size, i.bytes)) = some (some (.string ⟨#[]⟩), 1, 16) := by kernel_rfl
-- the values' own types

end Go.Proofs.Ytddomdjphkalcaa.Px
