/- The plain side of FnExactReadHex: the program's function and the reference's come to the same. -/
import Derived.Test.YtchakfdnmabkjaaPureHexReadHex
import Derived.Test.YtchakfdnmabkjaaPHexx2
namespace Go.Proofs.Ytchakfdnmabkjaa.Pure
open Go.RowKit Go.Proofs.Ytchakfdnmabkjaa.PHex Go.Proofs.YtchakfdnmabkjaaW.PrintWords Go.Proofs.YtchakfdnmabkjaaW.PrintLast
theorem FnExactReadHex : ∀ (a0 : ByteArray) (a1 : Int), a0.size ≤ 140737488351232 → (Lit.int .i64 a1).wf = true → ∃ k, laws_FnExactReadHex.f k a0 a1 = some true := by
  intro s a _ _
  obtain ⟨r, h1, h2, _⟩ := ReadHex.readHex_both s a
  refine ⟨11, ?_⟩
  simp only [laws_FnExactReadHex.f]
  by_cases hs : (s.size : Int) > 1048576
  · rw [if_pos hs]
  · rw [if_neg hs, h1 11 (by omega), h2 11 (by omega)]
    simp
end Go.Proofs.Ytchakfdnmabkjaa.Pure
