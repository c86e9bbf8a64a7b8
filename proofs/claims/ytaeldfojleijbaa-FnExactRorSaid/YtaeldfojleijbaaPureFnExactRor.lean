/- The plain side of FnExactRor: what the program's function and the reference's compute answers as the law says. -/
import Derived.Test.YtaeldfojleijbaaPAllx13
import Derived.OpenShut
namespace Go.Proofs.Ytaeldfojleijbaa.Pure
open Go.RowKit Go.Proofs.Ytaeldfojleijbaa.PAll Go.Proofs.YtaeldfojleijbaaW.PrintWords Go.Proofs.YtaeldfojleijbaaW.PrintLast

theorem u8n {a : Int} (h : (Lit.int .u8 a).wf = true) : ∃ n : Nat, n < 256 ∧ a = (n : Int) := by
  have := bounds_u8 h
  exact ⟨a.toNat, by omega, by omega⟩
theorem byt {P : Int → Prop} (h : ∀ n : Nat, n < 256 → P (n : Int)) {a : Int} (h0 : 0 ≤ a) (h1 : a ≤ 255) : P a := by
  have := h a.toNat (by omega)
  rwa [Int.toNat_of_nonneg h0] at this

theorem FnExactRor : ∀ (a0 : Int) (a1_0 : Bool) (a1_1 : Bool) (a1_2 : Bool) (a1_3 : Bool) (a1_4 : Bool) (a1_5 : Bool), (Lit.int .u8 a0).wf = true → laws_FnExactRor.f a0 a1_0 a1_1 a1_2 a1_3 a1_4 a1_5 = some true := by
  intro a0 b0 b1 b2 b3 b4 b5 h
  obtain ⟨n, hn, rfl⟩ := u8n h
  clear h
  revert b0 b1 b2 b3 b4 b5
  revert n
  decide +kernel

end Go.Proofs.Ytaeldfojleijbaa.Pure
