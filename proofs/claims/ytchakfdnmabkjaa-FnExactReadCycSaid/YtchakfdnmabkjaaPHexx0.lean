/- Functions of the program as plain Lean functions, each with a proof that the machine's call comes to it; written for this seat's claims by a program of mine. -/
import Derived.Test.YtchakfdnmabkjaaProg
import Derived.Below
import Derived.Deep.Draws
import Derived.Deep.AppendLies
import Derived.Maps.AppendAt
import Derived.OwnWalk
import Derived.Laws.BytesArg
import Derived.Laws.MakeOwn
import Derived.Laws.OwnMore
import Derived.Deep.OwnRows
import Derived.Tactics
import Derived.Lib.ConvBytes
import Derived.Laws.Slices
import Derived.WalkKit
import Derived.KernelRfl
import Derived.RowKit3
import Derived.Deep.LoopGhost
import Derived.Deep.QuietTactic
import Derived.BigQuiet
import Derived.WideLaws
import Derived.Deep.DeepCutAuto
import Derived.Deep.CutBlock
import Derived.Deep.RegionHeld3
import Derived.Laws.Rows
import Derived.Lib.AppendStr
import Derived.ArgAppend
import Derived.Laws.IdiomCopy
import Derived.OrdersHeld
import Derived.Laws.BitsLemmas
import Derived.RowKit
import Derived.Test.YtchakfdnmabkjaaMyCell2
import Derived.Test.YtchakfdnmabkjaaWWords
import Derived.Test.YtchakfdnmabkjaaWLast
import Derived.Test.YtchakfdnmabkjaaWTab
import Derived.Test.YtchakfdnmabkjaaWFour
import Derived.Test.YtchakfdnmabkjaaWQPut
import Derived.Test.YtchakfdnmabkjaaWApart
import Derived.Test.YtchakfdnmabkjaaWArr
import Derived.Test.YtchakfdnmabkjaaWZeros
import Derived.Test.YtchakfdnmabkjaaWFoot
import Derived.Test.YtchakfdnmabkjaaWKept
import Derived.Test.YtchakfdnmabkjaaWShare
import Derived.Test.YtchakfdnmabkjaaWN
import Derived.Test.YtchakfdnmabkjaaWFootNe
import Derived.Test.YtchakfdnmabkjaaWAt
import Derived.Test.YtchakfdnmabkjaaWEqStruct
import Derived.Test.YtchakfdnmabkjaaWRepsOne
import Derived.Test.YtchakfdnmabkjaaWInv
import Derived.Test.YtchakfdnmabkjaaWInvWords
import Derived.Test.YtchakfdnmabkjaaWGuard
import Derived.Test.YtchakfdnmabkjaaWNEv
import Derived.Test.YtchakfdnmabkjaaWMore
namespace Go.Proofs.Ytchakfdnmabkjaa.PHex
open Go.RowKit Go.Proofs.YtchakfdnmabkjaaW.PrintWords Go.Proofs.YtchakfdnmabkjaaW.PrintLast Go.Proofs.YtchakfdnmabkjaaW.PrintMore
attribute [local go_sem] max2_int min2_int max_two min_two max_three min_three max_four min_four   -- for this text's walks alone
attribute [local go_sem] Go.Proofs.Ytchakfdnmabkjaa.Cell2.cell_set_off Go.Proofs.Ytchakfdnmabkjaa.Cell2.set_drewN Go.Proofs.Ytchakfdnmabkjaa.Cell2.not_beq_bool
set_option linter.unusedVariables false
set_option linter.unusedSimpArgs false



def errW : Option Int → Value
  | none => .nilIface
  | some c => .iface 0 (.int .i64 c)
theorem errW_none : errW none = .nilIface := rfl
theorem errW_some (c : Int) : errW (some c) = .iface 0 (.int .i64 c) := rfl

theorem info5 : (Try.prog.info? 5).map (fun i => (i.zero, i.size, i.bytes)) = some (some (.int .u8 0), 1, 1) := by kernel_rfl
-- the values' own types

end Go.Proofs.Ytchakfdnmabkjaa.PHex
