/- Functions of the program as plain Lean functions, each with a proof that the machine's call comes to it; written for this seat's claims by a program of mine. -/
import Derived.Test.YtecccbecflbcfaaProg
import Derived.Below
import Derived.Deep.Draws
import Derived.Deep.AppendLies
import Derived.Maps.AppendAt
import Derived.OwnWalk
import Derived.Laws.BytesArg
import Derived.Laws.MakeOwn
import Derived.Laws.OwnMore
import Derived.Deep.OwnRows
import Derived.Tactics
import Derived.Lib.ConvBytes
import Derived.Laws.Slices
import Derived.WalkKit
import Derived.KernelRfl
import Derived.RowKit3
import Derived.Deep.LoopGhost
import Derived.Deep.QuietTactic
import Derived.BigQuiet
import Derived.WideLaws
import Derived.Deep.DeepCutAuto
import Derived.Deep.CutBlock
import Derived.Deep.RegionHeld3
import Derived.Laws.Rows
import Derived.Lib.AppendStr
import Derived.ArgAppend
import Derived.Laws.IdiomCopy
import Derived.OrdersHeld
import Derived.Laws.BitsLemmas
import Derived.RowKit
import Derived.Test.YtecccbecflbcfaaMyCell2
import Derived.Test.YtecccbecflbcfaaWWords
import Derived.Test.YtecccbecflbcfaaWLast
import Derived.Test.YtecccbecflbcfaaWTab
import Derived.Test.YtecccbecflbcfaaWFour
import Derived.Test.YtecccbecflbcfaaWQPut
import Derived.Test.YtecccbecflbcfaaWApart
import Derived.Test.YtecccbecflbcfaaWArr
import Derived.Test.YtecccbecflbcfaaWZeros
import Derived.Test.YtecccbecflbcfaaWFoot
import Derived.Test.YtecccbecflbcfaaWKept
import Derived.Test.YtecccbecflbcfaaWShare
import Derived.Test.YtecccbecflbcfaaWN
import Derived.Test.YtecccbecflbcfaaWFootNe
import Derived.Test.YtecccbecflbcfaaWAt
import Derived.Test.YtecccbecflbcfaaWEqStruct
import Derived.Test.YtecccbecflbcfaaWRepsOne
import Derived.Test.YtecccbecflbcfaaWInv
import Derived.Test.YtecccbecflbcfaaWInvWords
import Derived.Test.YtecccbecflbcfaaWGuard
import Derived.Test.YtecccbecflbcfaaWNEv
import Derived.Test.YtecccbecflbcfaaWMore
namespace Go.Proofs.Ytecccbecflbcfaa.PEasy
open Go.RowKit Go.Proofs.YtecccbecflbcfaaW.PrintWords Go.Proofs.YtecccbecflbcfaaW.PrintLast Go.Proofs.YtecccbecflbcfaaW.PrintMore
attribute [local go_sem] max2_int min2_int max_two min_two max_three min_three max_four min_four   -- for this text's walks alone
attribute [local go_sem] Go.Proofs.Ytecccbecflbcfaa.Cell2.cell_set_off Go.Proofs.Ytecccbecflbcfaa.Cell2.set_drewN
set_option linter.unusedVariables false
set_option linter.unusedSimpArgs false



def errW : Option Int → Value
  | none => .nilIface
  | some c => .iface 0 (.int .i64 c)
theorem errW_none : errW none = .nilIface := rfl
theorem errW_some (c : Int) : errW (some c) = .iface 0 (.int .i64 c) := rfl

theorem info3 : (Try.prog.info? 3).map (fun i => (i.zero, i.size, i.bytes)) = some (some (.int .i64 0), 1, 8) := by kernel_rfl
-- the values' own types

end Go.Proofs.Ytecccbecflbcfaa.PEasy
