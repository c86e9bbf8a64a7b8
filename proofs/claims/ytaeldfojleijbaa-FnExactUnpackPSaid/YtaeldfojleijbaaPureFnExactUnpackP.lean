/- The plain side of FnExactUnpackP: what the program's function and the reference's compute is the same. -/
import Derived.Test.YtaeldfojleijbaaPFnExactUnpackPx1
import Derived.OpenShut
namespace Go.Proofs.Ytaeldfojleijbaa.Pure
open Go.RowKit Go.Proofs.Ytaeldfojleijbaa.PFnExactUnpackP Go.Proofs.YtaeldfojleijbaaW.PrintWords Go.Proofs.YtaeldfojleijbaaW.PrintLast

/-- YOURS: ∀ (a0 : Int), (Lit.int .u8 a0).wf = true → laws_FnExactUnpackP.f a0 = some true
What it reaches (each with k first where it has rounds; `.mono`: more rounds tell the same; `.l0`, ..: its loops, with `.mono_l`): spec_UnpackP.f, impl_has.f, impl_UnpackP.f, laws_eqFlags.f, laws_FnExactUnpackP.f -/
theorem u8n {a : Int} (h : (Lit.int .u8 a).wf = true) : ∃ n : Nat, n < 256 ∧ a = (n : Int) := by
  have := bounds_u8 h
  exact ⟨a.toNat, by omega, by omega⟩

theorem FnExactUnpackP : laws_FnExactUnpackP.Pure := by
  intro a0 h
  obtain ⟨n, hn, rfl⟩ := u8n h
  clear h
  revert n
  decide +kernel

end Go.Proofs.Ytaeldfojleijbaa.Pure
