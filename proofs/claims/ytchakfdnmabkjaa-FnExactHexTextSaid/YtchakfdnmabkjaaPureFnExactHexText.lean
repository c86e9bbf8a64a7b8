/- The plain side of FnExactHexText: both functions make the same digits. -/
import Derived.Test.YtchakfdnmabkjaaPureEasyHex
import Derived.Test.YtchakfdnmabkjaaPEasyx1
namespace Go.Proofs.Ytchakfdnmabkjaa.Pure
open Go.RowKit Go.Proofs.Ytchakfdnmabkjaa.PEasy Go.Proofs.Ytchakfdnmabkjaa.Plain Go.Proofs.Ytchakfdnmabkjaa.Str Go.Proofs.Ytchakfdnmabkjaa.HexEasy Go.Proofs.YtchakfdnmabkjaaW.PrintWords Go.Proofs.YtchakfdnmabkjaaW.PrintLast

theorem FnExactHexText : ∀ (a0 : Int) (a1 : Int), (Lit.int .i64 a0).wf = true → (Lit.int .i64 a1).wf = true → ∃ k, laws_FnExactHexText.f k a0 a1 = some true := by
  intro a d ha _
  obtain ⟨l, _, h⟩ := hex_same (bounds_i64 ha).2 d
  obtain ⟨h1, h2⟩ := h 11 (by omega)
  exact ⟨11, by simp only [laws_FnExactHexText.f, h1, h2, Option.bind_some, if_true]⟩
end Go.Proofs.Ytchakfdnmabkjaa.Pure
