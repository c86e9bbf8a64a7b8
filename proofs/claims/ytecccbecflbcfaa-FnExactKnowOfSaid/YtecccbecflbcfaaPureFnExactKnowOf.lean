/- The plain side of FnExactKnowOf: both functions know the same. -/
import Derived.Test.YtecccbecflbcfaaMyLoops
import Derived.Test.YtecccbecflbcfaaPEasyx11
namespace Go.Proofs.Ytecccbecflbcfaa.Pure
open Go.RowKit Go.Proofs.Ytecccbecflbcfaa.PEasy Go.Proofs.Ytecccbecflbcfaa.Plain Go.Proofs.YtecccbecflbcfaaW.PrintWords Go.Proofs.YtecccbecflbcfaaW.PrintLast

theorem one_eq (c : Bool) : impl_one.f c = spec_l02Bit.f c 1 := by cases c <;> decide +kernel
theorem bit_some (c : Bool) : ∃ t : Int, spec_l02Bit.f c 1 = some t := by cases c <;> exact ⟨_, rfl⟩
theorem FnExactKnowOf : ∀ (a0_0 : Int) (a0_1 : Int) (a0_2 : Int) (a0_3 : Int) (a0_4 : Int) (a0_5 : Bool) (a0_6 : Bool) (a0_7 : Bool) (a0_8 : Bool) (a0_9 : Bool) (a0_10 : Bool), (Lit.int .u8 a0_0).wf = true → (Lit.int .u8 a0_1).wf = true → (Lit.int .u8 a0_2).wf = true → (Lit.int .u8 a0_3).wf = true → (Lit.int .u16 a0_4).wf = true → laws_FnExactKnowOf.f a0_0 a0_1 a0_2 a0_3 a0_4 a0_5 a0_6 a0_7 a0_8 a0_9 a0_10 = some true := by
  intro a0 a1 a2 a3 a4 b0 b1 b2 b3 b4 b5 _ _ _ _ _
  obtain ⟨t0, h0⟩ := bit_some b0
  obtain ⟨t1, h1⟩ := bit_some b1
  obtain ⟨t2, h2⟩ := bit_some b2
  obtain ⟨t3, h3⟩ := bit_some b3
  obtain ⟨t4, h4⟩ := bit_some b4
  obtain ⟨t5, h5⟩ := bit_some b5
  simp [laws_FnExactKnowOf.f, laws_toCpu.f, laws_toFlags.f, spec_KnowOf.f, impl_KnowOf.f, one_eq, h0, h1, h2, h3, h4, h5, spec_l09Of.f, laws_eqKnow.f, rd]
end Go.Proofs.Ytecccbecflbcfaa.Pure
