-- Written by ownprint.py, a program of this session (out of the kit's print, with contracts of the session's own).
import Derived.Test.YtjekpecobkaaoaaDoorProg
import Derived.Below
import Derived.Deep.Draws
import Derived.Deep.AppendLies
import Derived.Maps.AppendAt
import Derived.OwnWalk
import Derived.Laws.BytesArg
import Derived.Laws.MakeOwn
import Derived.Laws.OwnMore
import Derived.Deep.OwnRows
import Derived.Tactics
import Derived.Lib.ConvBytes
import Derived.Laws.Slices
import Derived.WalkKit
import Derived.KernelRfl
import Derived.RowKit3
import Derived.Deep.LoopGhost
import Derived.Deep.QuietTactic
import Derived.BigQuiet
import Derived.WideLaws
import Derived.Deep.DeepCutAuto
import Derived.Deep.CutBlock
import Derived.Deep.RegionHeld3
import Derived.Laws.Rows
import Derived.Lib.AppendStr
import Derived.ArgAppend
import Derived.Laws.IdiomCopy
import Derived.OrdersHeld
import Derived.Laws.BitsLemmas
import Derived.RowKit
import Derived.Lib.TrailingZeros
import Derived.Laws.Bits64b
import Derived.WalkSpells
import Derived.Test.YtjekpecobkaaoaaDoorWWords
import Derived.Test.YtjekpecobkaaoaaDoorWLast
import Derived.Test.YtjekpecobkaaoaaDoorWTab
import Derived.Test.YtjekpecobkaaoaaDoorWFour
import Derived.Test.YtjekpecobkaaoaaDoorWQPut
import Derived.Test.YtjekpecobkaaoaaDoorWApart
import Derived.Test.YtjekpecobkaaoaaDoorWArr
import Derived.Test.YtjekpecobkaaoaaDoorWZeros
import Derived.Test.YtjekpecobkaaoaaDoorWFoot
import Derived.Test.YtjekpecobkaaoaaDoorWKept
import Derived.Test.YtjekpecobkaaoaaDoorWShare
import Derived.Test.YtjekpecobkaaoaaDoorWN
import Derived.Test.YtjekpecobkaaoaaDoorWFootNe
import Derived.Test.YtjekpecobkaaoaaDoorWAt
import Derived.Test.YtjekpecobkaaoaaDoorWEqStruct
import Derived.Test.YtjekpecobkaaoaaDoorWRepsOne
import Derived.Test.YtjekpecobkaaoaaDoorWInv
import Derived.Test.YtjekpecobkaaoaaDoorWInvWords
import Derived.Test.YtjekpecobkaaoaaDoorWGuard
import Derived.Test.YtjekpecobkaaoaaDoorWNEv
import Derived.Test.YtjekpecobkaaoaaDoorWMore
namespace Go.Proofs.YtjekpecobkaaoaaDoor.PAll
open Go.RowKit Go.Proofs.YtjekpecobkaaoaaDoorW.PrintWords Go.Proofs.YtjekpecobkaaoaaDoorW.PrintLast Go.Proofs.YtjekpecobkaaoaaDoorW.PrintMore
attribute [local go_sem] max2_int min2_int max_two min_two max_three min_three max_four min_four   -- for this text's walks alone
set_option linter.unusedVariables false
set_option linter.unusedSimpArgs false



def errW : Option Int → Value
  | none => .nilIface
  | some c => .iface 0 (.int .i64 c)
theorem errW_none : errW none = .nilIface := rfl
theorem errW_some (c : Int) : errW (some c) = .iface 0 (.int .i64 c) := rfl

theorem info3 : (Tryd.prog.info? 3).map (fun i => (i.zero, i.size, i.bytes)) = some (some (.int .i64 0), 1, 8) := by kernel_rfl
theorem info5 : (Tryd.prog.info? 5).map (fun i => (i.zero, i.size, i.bytes)) = some (some (.int .u8 0), 1, 1) := by kernel_rfl
theorem info23 : (Tryd.prog.info? 23).map (fun i => (i.zero, i.size, i.bytes)) = some (some (.int .u64 0), 1, 8) := by kernel_rfl
-- the values' own types

end Go.Proofs.YtjekpecobkaaoaaDoor.PAll
