/- The plain side of FnExactOnlyPC: both functions know the same. -/
import Derived.Test.YtecccbecflbcfaaMyLoops
import Derived.Test.YtecccbecflbcfaaPEasyx6
namespace Go.Proofs.Ytecccbecflbcfaa.Pure
open Go.RowKit Go.Proofs.Ytecccbecflbcfaa.PEasy Go.Proofs.Ytecccbecflbcfaa.Plain Go.Proofs.YtecccbecflbcfaaW.PrintWords Go.Proofs.YtecccbecflbcfaaW.PrintLast

theorem FnExactOnlyPC : ∀ (a0 : Int), (Lit.int .i64 a0).wf = true → laws_FnExactOnlyPC.f a0 = some true := by
  intro a _
  by_cases h0 : a ≥ 0
  · by_cases h1 : a ≤ 65535
    · simp [laws_FnExactOnlyPC.f, spec_OnlyPC.f, impl_OnlyPC.f, spec_l01In.f, impl_within.f, impl_nothing.f, spec_l09Of.f, laws_eqKnow.f, rd, h0, h1]
    · simp [laws_FnExactOnlyPC.f, spec_OnlyPC.f, impl_OnlyPC.f, spec_l01In.f, impl_within.f, impl_nothing.f, spec_l09Of.f, laws_eqKnow.f, rd, h0, h1]
  · simp [laws_FnExactOnlyPC.f, spec_OnlyPC.f, impl_OnlyPC.f, spec_l01In.f, impl_within.f, impl_nothing.f, spec_l09Of.f, laws_eqKnow.f, rd, h0]
end Go.Proofs.Ytecccbecflbcfaa.Pure
