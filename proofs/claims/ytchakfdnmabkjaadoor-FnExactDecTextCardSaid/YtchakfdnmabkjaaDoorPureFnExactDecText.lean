/- The plain side of FnExactDecText. -/
import Derived.Test.YtchakfdnmabkjaaDoorPureDecBase
import Derived.Test.YtchakfdnmabkjaaDoorPDecx2
namespace Go.Proofs.YtchakfdnmabkjaaDoor.Pure
open Go.RowKit Go.Proofs.YtchakfdnmabkjaaDoor.PDec Go.Proofs.YtchakfdnmabkjaaDoor.Plain Go.Proofs.YtchakfdnmabkjaaDoor.Str Go.Proofs.YtchakfdnmabkjaaDoor.DecDec Go.Proofs.YtchakfdnmabkjaaDoorW.PrintWords Go.Proofs.YtchakfdnmabkjaaDoorW.PrintLast Go.Proofs.YtchakfdnmabkjaaDoorW.PrintMore

theorem FnExactDecText : ∀ (a0 : Int), (Lit.int .i64 a0).wf = true → ∃ k, laws_FnExactDecText.f k a0 = some true := by
  intro n w
  obtain ⟨h0, h1⟩ : -9223372036854775808 ≤ n ∧ n ≤ 9223372036854775807 := by simpa [Lit.wf, IntKind.min, IntKind.max, IntKind.signed, IntKind.bits] using w
  refine ⟨21, ?_⟩
  simp only [laws_FnExactDecText.f, specDec_eq n h0 h1 21 (by omega), impl_DecText.f, if_pos (And.intro h0 h1), Option.bind_some]
  exact if_pos rfl
end Go.Proofs.YtchakfdnmabkjaaDoor.Pure
