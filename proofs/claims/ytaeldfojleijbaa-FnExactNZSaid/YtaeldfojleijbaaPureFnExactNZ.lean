/- The plain side of FnExactNZ: what the program's function and the reference's compute is the same. -/
import Derived.Test.YtaeldfojleijbaaPFnExactNZx1
import Derived.OpenShut
namespace Go.Proofs.Ytaeldfojleijbaa.Pure
open Go.RowKit Go.Proofs.Ytaeldfojleijbaa.PFnExactNZ Go.Proofs.YtaeldfojleijbaaW.PrintWords Go.Proofs.YtaeldfojleijbaaW.PrintLast

theorem u8n {a : Int} (h : (Lit.int .u8 a).wf = true) : ∃ n : Nat, n < 256 ∧ a = (n : Int) := by
  have := bounds_u8 h
  exact ⟨a.toNat, by omega, by omega⟩

theorem FnExactNZ : ∀ (a0 : Int) (s1_0 : Bool) (s1_1 : Bool) (s1_2 : Bool) (s1_3 : Bool) (s1_4 : Bool) (s1_5 : Bool), (Lit.int .u8 a0).wf = true → laws_FnExactNZ.f a0 s1_0 s1_1 s1_2 s1_3 s1_4 s1_5 = some true := by
  intro a0 b0 b1 b2 b3 b4 b5 h
  obtain ⟨n, hn, rfl⟩ := u8n h
  clear h
  revert b0 b1 b2 b3 b4 b5
  revert n
  decide +kernel

end Go.Proofs.Ytaeldfojleijbaa.Pure
