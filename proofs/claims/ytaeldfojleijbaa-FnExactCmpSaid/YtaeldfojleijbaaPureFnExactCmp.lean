/- The plain side of FnExactCmp: what the program's function and the reference's compute answers as the law says. -/
import Derived.Test.YtaeldfojleijbaaPAllx5
import Derived.OpenShut
namespace Go.Proofs.Ytaeldfojleijbaa.Pure
open Go.RowKit Go.Proofs.Ytaeldfojleijbaa.PAll Go.Proofs.YtaeldfojleijbaaW.PrintWords Go.Proofs.YtaeldfojleijbaaW.PrintLast

theorem u8n {a : Int} (h : (Lit.int .u8 a).wf = true) : ∃ n : Nat, n < 256 ∧ a = (n : Int) := by
  have := bounds_u8 h
  exact ⟨a.toNat, by omega, by omega⟩
theorem byt {P : Int → Prop} (h : ∀ n : Nat, n < 256 → P (n : Int)) {a : Int} (h0 : 0 ≤ a) (h1 : a ≤ 255) : P a := by
  have := h a.toNat (by omega)
  rwa [Int.toNat_of_nonneg h0] at this

theorem has7 {a : Int} (h0 : 0 ≤ a) (h1 : a ≤ 255) : impl_has.f a 7 = some (decide (a ≥ 128)) :=
  byt (P := fun a => impl_has.f a 7 = some (decide (a ≥ 128))) (by decide +kernel) h0 h1
theorem eqFlags_refl (b0 b1 b2 b3 b4 b5 : Bool) : laws_eqFlags.f b0 b1 b2 b3 b4 b5 b0 b1 b2 b3 b4 b5 = some true := by
  simp [laws_eqFlags.f]

theorem NZ_eq {a : Int} (h0 : 0 ≤ a) (h1 : a ≤ 255) (b0 b1 b2 b3 b4 b5 : Bool) : impl_NZ.f a b0 b1 b2 b3 b4 b5 = spec_NZ.f a b0 b1 b2 b3 b4 b5 := by
  simp only [impl_NZ.f, spec_NZ.f, has7 h0 h1, Option.bind_some]

theorem FnExactCmp : ∀ (a0 : Int) (a1 : Int) (a2_0 : Bool) (a2_1 : Bool) (a2_2 : Bool) (a2_3 : Bool) (a2_4 : Bool) (a2_5 : Bool), (Lit.int .u8 a0).wf = true → (Lit.int .u8 a1).wf = true → laws_FnExactCmp.f a0 a1 a2_0 a2_1 a2_2 a2_3 a2_4 a2_5 = some true := by
  intro a m b0 b1 b2 b3 b4 b5 ha hm
  have h1 := bounds_u8 hm
  have h2 := bounds_u8 ha
  have h3 : 0 ≤ (a - m) % 256 := by omega
  have h4 : (a - m) % 256 ≤ 255 := by omega
  simp only [laws_FnExactCmp.f, laws_toFlags.f, spec_Cmp.f, impl_Cmp.f, NZ_eq h3 h4, spec_NZ.f, Option.bind_some, eqFlags_refl, if_true]

end Go.Proofs.Ytaeldfojleijbaa.Pure
