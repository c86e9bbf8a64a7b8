/- Functions of the program as plain Lean functions, each with a proof that the machine's call comes to it; written for this seat's claims by a program of mine. -/
import Derived.Test.YtaeldfojleijbaaProg
import Derived.Below
import Derived.Deep.Draws
import Derived.Deep.AppendLies
import Derived.Maps.AppendAt
import Derived.OwnWalk
import Derived.Laws.BytesArg
import Derived.Laws.MakeOwn
import Derived.Laws.OwnMore
import Derived.Deep.OwnRows
import Derived.Tactics
import Derived.Lib.ConvBytes
import Derived.Laws.Slices
import Derived.WalkKit
import Derived.KernelRfl
import Derived.RowKit3
import Derived.Deep.LoopGhost
import Derived.Deep.QuietTactic
import Derived.BigQuiet
import Derived.WideLaws
import Derived.Deep.DeepCutAuto
import Derived.Deep.CutBlock
import Derived.Deep.RegionHeld3
import Derived.Laws.Rows
import Derived.Lib.AppendStr
import Derived.ArgAppend
import Derived.Laws.IdiomCopy
import Derived.OrdersHeld
import Derived.Laws.BitsLemmas
import Derived.RowKit
import Derived.Test.YtaeldfojleijbaaMyCell2
import Derived.Test.YtaeldfojleijbaaWWords
import Derived.Test.YtaeldfojleijbaaWLast
import Derived.Test.YtaeldfojleijbaaWTab
import Derived.Test.YtaeldfojleijbaaWFour
import Derived.Test.YtaeldfojleijbaaWQPut
import Derived.Test.YtaeldfojleijbaaWApart
import Derived.Test.YtaeldfojleijbaaWArr
import Derived.Test.YtaeldfojleijbaaWZeros
import Derived.Test.YtaeldfojleijbaaWFoot
import Derived.Test.YtaeldfojleijbaaWKept
import Derived.Test.YtaeldfojleijbaaWShare
import Derived.Test.YtaeldfojleijbaaWN
import Derived.Test.YtaeldfojleijbaaWFootNe
import Derived.Test.YtaeldfojleijbaaWAt
import Derived.Test.YtaeldfojleijbaaWEqStruct
import Derived.Test.YtaeldfojleijbaaWRepsOne
import Derived.Test.YtaeldfojleijbaaWInv
import Derived.Test.YtaeldfojleijbaaWInvWords
import Derived.Test.YtaeldfojleijbaaWGuard
import Derived.Test.YtaeldfojleijbaaWNEv
import Derived.Test.YtaeldfojleijbaaWMore
namespace Go.Proofs.Ytaeldfojleijbaa.PSbc
open Go.RowKit Go.Proofs.YtaeldfojleijbaaW.PrintWords Go.Proofs.YtaeldfojleijbaaW.PrintLast Go.Proofs.YtaeldfojleijbaaW.PrintMore
attribute [local go_sem] max2_int min2_int max_two min_two max_three min_three max_four min_four   -- for this text's walks alone
attribute [local go_sem] Go.Proofs.Ytaeldfojleijbaa.Cell2.cell_set_off Go.Proofs.Ytaeldfojleijbaa.Cell2.set_drewN
set_option linter.unusedVariables false
set_option linter.unusedSimpArgs false



def errW : Option Int → Value
  | none => .nilIface
  | some c => .iface 0 (.int .i64 c)
theorem errW_none : errW none = .nilIface := rfl
theorem errW_some (c : Int) : errW (some c) = .iface 0 (.int .i64 c) := rfl

-- the values' own types

end Go.Proofs.Ytaeldfojleijbaa.PSbc
