-- Out of the translation, by a program of this session: each function that a law comes to as a Lean function, and that the machine's call does what it says. Lean checks it.
import Derived.Test.YtheimnfgiigfoaaDoorProg
import Derived.Test.YtheimnfgiigfoaaDoorShelf
import Derived.Test.YtheimnfgiigfoaaDoorHand
import Derived.Below
import Derived.Deep.Draws
import Derived.Deep.AppendLies
import Derived.Maps.AppendAt
import Derived.OwnWalk
import Derived.Laws.BytesArg
import Derived.Laws.MakeOwn
import Derived.Laws.OwnMore
import Derived.Deep.OwnRows
import Derived.Tactics
import Derived.Lib.ConvBytes
import Derived.Laws.Slices
import Derived.WalkKit
import Derived.KernelRfl
import Derived.RowKit3
import Derived.Deep.LoopGhost
import Derived.Deep.QuietTactic
import Derived.BigQuiet
import Derived.WideLaws
import Derived.Deep.DeepCutAuto
import Derived.Deep.CutBlock
import Derived.Deep.RegionHeld3
import Derived.Laws.Rows
import Derived.Lib.AppendStr
import Derived.ArgAppend
import Derived.Laws.IdiomCopy
import Derived.OrdersHeld
import Derived.Laws.BitsLemmas
import Derived.RowKit
import Derived.Test.YtheimnfgiigfoaaDoorDigit
import Derived.Test.YtheimnfgiigfoaaDoorWWords
import Derived.Test.YtheimnfgiigfoaaDoorWLast
import Derived.Test.YtheimnfgiigfoaaDoorWTab
import Derived.Test.YtheimnfgiigfoaaDoorWFour
import Derived.Test.YtheimnfgiigfoaaDoorWQPut
import Derived.Test.YtheimnfgiigfoaaDoorWApart
import Derived.Test.YtheimnfgiigfoaaDoorWArr
import Derived.Test.YtheimnfgiigfoaaDoorWZeros
import Derived.Test.YtheimnfgiigfoaaDoorWFoot
import Derived.Test.YtheimnfgiigfoaaDoorWKept
import Derived.Test.YtheimnfgiigfoaaDoorWShare
import Derived.Test.YtheimnfgiigfoaaDoorWN
import Derived.Test.YtheimnfgiigfoaaDoorWFootNe
import Derived.Test.YtheimnfgiigfoaaDoorWAt
import Derived.Test.YtheimnfgiigfoaaDoorWEqStruct
import Derived.Test.YtheimnfgiigfoaaDoorWRepsOne
import Derived.Test.YtheimnfgiigfoaaDoorWInv
import Derived.Test.YtheimnfgiigfoaaDoorWInvWords
import Derived.Test.YtheimnfgiigfoaaDoorWGuard
import Derived.Test.YtheimnfgiigfoaaDoorWNEv
import Derived.Test.YtheimnfgiigfoaaDoorWMore
namespace Go.Proofs.YtheimnfgiigfoaaDoor.PR
open Go.RowKit Go.Proofs.YtheimnfgiigfoaaDoorW.PrintWords Go.Proofs.YtheimnfgiigfoaaDoorW.PrintLast Go.Proofs.YtheimnfgiigfoaaDoorW.PrintMore
attribute [local go_sem] max2_int min2_int max_two min_two max_three min_three max_four min_four   -- for this text's walks alone
set_option linter.unusedVariables false
set_option linter.unusedSimpArgs false



def errW : Option Int → Value
  | none => .nilIface
  | some c => .iface 0 (.int .i64 c)
theorem errW_none : errW none = .nilIface := rfl
theorem errW_some (c : Int) : errW (some c) = .iface 0 (.int .i64 c) := rfl

theorem info3 : (Tryd.prog.info? 3).map (fun i => (i.zero, i.size, i.bytes)) = some (some (.int .i64 0), 1, 8) := by kernel_rfl
theorem info5 : (Tryd.prog.info? 5).map (fun i => (i.zero, i.size, i.bytes)) = some (some (.int .u8 0), 1, 1) := by kernel_rfl
-- the values' own types

end Go.Proofs.YtheimnfgiigfoaaDoor.PR
