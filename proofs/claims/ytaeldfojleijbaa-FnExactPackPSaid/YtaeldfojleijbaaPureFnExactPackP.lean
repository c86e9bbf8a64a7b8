/- The plain side of FnExactPackP: what the program's function and the reference's compute is the same. -/
import Derived.Test.YtaeldfojleijbaaPFnExactPackPx1
import Derived.OpenShut
namespace Go.Proofs.Ytaeldfojleijbaa.Pure
open Go.RowKit Go.Proofs.Ytaeldfojleijbaa.PFnExactPackP Go.Proofs.YtaeldfojleijbaaW.PrintWords Go.Proofs.YtaeldfojleijbaaW.PrintLast

theorem u8n {a : Int} (h : (Lit.int .u8 a).wf = true) : ∃ n : Nat, n < 256 ∧ a = (n : Int) := by
  have := bounds_u8 h
  exact ⟨a.toNat, by omega, by omega⟩

theorem FnExactPackP : ∀ (s0_0 : Bool) (s0_1 : Bool) (s0_2 : Bool) (s0_3 : Bool) (s0_4 : Bool) (s0_5 : Bool) (a1 : Bool), laws_FnExactPackP.f s0_0 s0_1 s0_2 s0_3 s0_4 s0_5 a1 = some true := by
  decide +kernel

end Go.Proofs.Ytaeldfojleijbaa.Pure
