-- Out of the translation, by a program of this session: each function that a law comes to as a Lean function, and that the machine's call does what it says. Lean checks it.
import Derived.Test.YtmmmfippfoginaaDoorProg
import Derived.Test.YtmmmfippfoginaaDoorShelf
import Derived.Test.YtmmmfippfoginaaDoorHand
import Derived.Below
import Derived.Deep.Draws
import Derived.Deep.AppendLies
import Derived.Maps.AppendAt
import Derived.OwnWalk
import Derived.Laws.BytesArg
import Derived.Laws.MakeOwn
import Derived.Laws.OwnMore
import Derived.Deep.OwnRows
import Derived.Tactics
import Derived.Lib.ConvBytes
import Derived.Laws.Slices
import Derived.WalkKit
import Derived.KernelRfl
import Derived.RowKit3
import Derived.Deep.LoopGhost
import Derived.Deep.QuietTactic
import Derived.BigQuiet
import Derived.WideLaws
import Derived.Deep.DeepCutAuto
import Derived.Deep.CutBlock
import Derived.Deep.RegionHeld3
import Derived.Laws.Rows
import Derived.Lib.AppendStr
import Derived.ArgAppend
import Derived.Laws.IdiomCopy
import Derived.OrdersHeld
import Derived.Laws.BitsLemmas
import Derived.RowKit
import Derived.Test.YtmmmfippfoginaaDoorDigit
import Derived.Test.YtmmmfippfoginaaDoorEnc
import Derived.Test.YtmmmfippfoginaaDoorOctet
import Derived.Test.YtmmmfippfoginaaDoorRead2
import Derived.Test.YtmmmfippfoginaaDoorWWords
import Derived.Test.YtmmmfippfoginaaDoorWLast
import Derived.Test.YtmmmfippfoginaaDoorWTab
import Derived.Test.YtmmmfippfoginaaDoorWFour
import Derived.Test.YtmmmfippfoginaaDoorWQPut
import Derived.Test.YtmmmfippfoginaaDoorWApart
import Derived.Test.YtmmmfippfoginaaDoorWArr
import Derived.Test.YtmmmfippfoginaaDoorWZeros
import Derived.Test.YtmmmfippfoginaaDoorWFoot
import Derived.Test.YtmmmfippfoginaaDoorWKept
import Derived.Test.YtmmmfippfoginaaDoorWShare
import Derived.Test.YtmmmfippfoginaaDoorWN
import Derived.Test.YtmmmfippfoginaaDoorWFootNe
import Derived.Test.YtmmmfippfoginaaDoorWAt
import Derived.Test.YtmmmfippfoginaaDoorWEqStruct
import Derived.Test.YtmmmfippfoginaaDoorWRepsOne
import Derived.Test.YtmmmfippfoginaaDoorWInv
import Derived.Test.YtmmmfippfoginaaDoorWInvWords
import Derived.Test.YtmmmfippfoginaaDoorWGuard
import Derived.Test.YtmmmfippfoginaaDoorWNEv
import Derived.Test.YtmmmfippfoginaaDoorWMore
namespace Go.Proofs.YtmmmfippfoginaaDoor.PR
open Go.RowKit Go.Proofs.YtmmmfippfoginaaDoorW.PrintWords Go.Proofs.YtmmmfippfoginaaDoorW.PrintLast Go.Proofs.YtmmmfippfoginaaDoorW.PrintMore
attribute [local go_sem] max2_int min2_int max_two min_two max_three min_three max_four min_four   -- for this text's walks alone
set_option linter.unusedVariables false
set_option linter.unusedSimpArgs false



def errW : Option Int → Value
  | none => .nilIface
  | some c => .iface 0 (.int .i64 c)
theorem errW_none : errW none = .nilIface := rfl
theorem errW_some (c : Int) : errW (some c) = .iface 0 (.int .i64 c) := rfl

theorem info5 : (Tryd.prog.info? 5).map (fun i => (i.zero, i.size, i.bytes)) = some (some (.int .u8 0), 1, 1) := by kernel_rfl
-- the values' own types

end Go.Proofs.YtmmmfippfoginaaDoor.PR
