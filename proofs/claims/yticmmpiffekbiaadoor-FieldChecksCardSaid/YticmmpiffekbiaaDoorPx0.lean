-- Printed by myprint.py, a program of this session's repo, over the kit's printer; hand texts of the session stand in it
import Derived.Test.YticmmpiffekbiaaDoorProg
import Derived.Below
import Derived.Deep.Draws
import Derived.Deep.AppendLies
import Derived.Maps.AppendAt
import Derived.OwnWalk
import Derived.Laws.BytesArg
import Derived.Laws.MakeOwn
import Derived.Laws.OwnMore
import Derived.Deep.OwnRows
import Derived.Tactics
import Derived.Lib.ConvBytes
import Derived.Laws.Slices
import Derived.WalkKit
import Derived.KernelRfl
import Derived.RowKit3
import Derived.Deep.LoopGhost
import Derived.Deep.QuietTactic
import Derived.BigQuiet
import Derived.WideLaws
import Derived.Deep.DeepCutAuto
import Derived.Deep.CutBlock
import Derived.Deep.RegionHeld3
import Derived.Laws.Rows
import Derived.Lib.AppendStr
import Derived.ArgAppend
import Derived.Laws.IdiomCopy
import Derived.OrdersHeld
import Derived.Laws.BitsLemmas
import Derived.RowKit
import Derived.Laws.RangeString
import Derived.Laws.RangeAny
import Derived.Test.YticmmpiffekbiaaDoorWWords
import Derived.Test.YticmmpiffekbiaaDoorWLast
import Derived.Test.YticmmpiffekbiaaDoorWTab
import Derived.Test.YticmmpiffekbiaaDoorWFour
import Derived.Test.YticmmpiffekbiaaDoorWQPut
import Derived.Test.YticmmpiffekbiaaDoorWApart
import Derived.Test.YticmmpiffekbiaaDoorWArr
import Derived.Test.YticmmpiffekbiaaDoorWZeros
import Derived.Test.YticmmpiffekbiaaDoorWFoot
import Derived.Test.YticmmpiffekbiaaDoorWKept
import Derived.Test.YticmmpiffekbiaaDoorWShare
import Derived.Test.YticmmpiffekbiaaDoorWN
import Derived.Test.YticmmpiffekbiaaDoorWFootNe
import Derived.Test.YticmmpiffekbiaaDoorWAt
import Derived.Test.YticmmpiffekbiaaDoorWEqStruct
import Derived.Test.YticmmpiffekbiaaDoorWRepsOne
import Derived.Test.YticmmpiffekbiaaDoorWInv
import Derived.Test.YticmmpiffekbiaaDoorWInvWords
import Derived.Test.YticmmpiffekbiaaDoorWGuard
import Derived.Test.YticmmpiffekbiaaDoorWNEv
import Derived.Test.YticmmpiffekbiaaDoorWMore
namespace Go.Proofs.YticmmpiffekbiaaDoor.Px
open Go.RowKit Go.Proofs.YticmmpiffekbiaaDoorW.PrintWords Go.Proofs.YticmmpiffekbiaaDoorW.PrintLast Go.Proofs.YticmmpiffekbiaaDoorW.PrintMore
attribute [local go_sem] max2_int min2_int max_two min_two max_three min_three max_four min_four   -- for this text's walks alone
set_option linter.unusedVariables false
set_option linter.unusedSimpArgs false



def errW : Option Int → Value
  | none => .nilIface
  | some c => .iface 0 (.int .i64 c)
theorem errW_none : errW none = .nilIface := rfl
theorem errW_some (c : Int) : errW (some c) = .iface 0 (.int .i64 c) := rfl

theorem info9 : (Tryd.prog.info? 9).map (fun i => (i.zero, i.size, i.bytes)) = some (some (.string ⟨#[]⟩), 1, 16) := by kernel_rfl
-- the values' own types

theorem isEmpty_bne (l : List UInt8) : l.isEmpty = !(l != []) := by cases l <;> rfl
theorem isEmpty_bne' (l : List UInt8) : (l != []) = !l.isEmpty := by cases l <;> rfl
theorem lit_size (l : List UInt8) : (ByteArray.mk l.toArray).size = l.length := by simp [ByteArray.size]

end Go.Proofs.YticmmpiffekbiaaDoor.Px
