/- The plain side of FnExactSbc: the program's function and the reference's come to the same. -/
import Derived.Test.YtaeldfojleijbaaPAlux6
import Derived.OpenShut
namespace Go.Proofs.Ytaeldfojleijbaa.Pure
open Go.RowKit Go.Proofs.Ytaeldfojleijbaa.PAlu Go.Proofs.YtaeldfojleijbaaW.PrintWords Go.Proofs.YtaeldfojleijbaaW.PrintLast
theorem eqFlags_reflSbc (b0 b1 b2 b3 b4 b5 : Bool) : laws_eqFlags.f b0 b1 b2 b3 b4 b5 b0 b1 b2 b3 b4 b5 = some true := by
  simp [laws_eqFlags.f]
theorem FnExactSbc : ∀ (a0 : Int) (a1 : Int) (a2_0 : Bool) (a2_1 : Bool) (a2_2 : Bool) (a2_3 : Bool) (a2_4 : Bool) (a2_5 : Bool), (Lit.int .u8 a0).wf = true → (Lit.int .u8 a1).wf = true → laws_FnExactSbc.f a0 a1 a2_0 a2_1 a2_2 a2_3 a2_4 a2_5 = some true := by
  intro a b b0 b1 b2 b3 b4 b5 ha hb
  have h1 := bounds_u8 hb
  have h2 := bounds_u8 ha
  have ho : Alu.byteOk a b = true := Alu.byteOk_mk (by omega) (by omega) (by omega) (by omega)
  have hi : impl_Sbc.f a b b0 b1 b2 b3 b4 b5 = some (Alu.sbc a b b2 b3 b5) := if_pos ho
  have hs : spec_Sbc.f a b b0 b1 b2 b3 b4 b5 = some (Alu.sbc a b b2 b3 b5) := if_pos ho
  simp only [laws_FnExactSbc.f, laws_toFlags.f, Option.bind_some, hi, hs, eqFlags_reflSbc, if_true]
end Go.Proofs.Ytaeldfojleijbaa.Pure
