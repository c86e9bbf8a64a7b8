/- The plain side of FnExactWords: the program's words and the reference's are the same, and two calls share nothing. -/
import Derived.Test.YtchakfdnmabkjaaPureWrdWords
import Derived.Test.YtchakfdnmabkjaaPureWrdRows
import Derived.Test.YtchakfdnmabkjaaPWrdx3
namespace Go.Proofs.Ytchakfdnmabkjaa.Pure
open Go.RowKit Go.Proofs.Ytchakfdnmabkjaa.PWrd Go.Proofs.Ytchakfdnmabkjaa.Plain Go.Proofs.Ytchakfdnmabkjaa.WordWrd Go.Proofs.Ytchakfdnmabkjaa.RowsWrd Go.Proofs.YtchakfdnmabkjaaW.PrintWords Go.Proofs.YtchakfdnmabkjaaW.PrintLast
theorem FnExactWords : ∀ (a0 : ByteArray), a0.size ≤ 140737488351232 → ∃ k, laws_FnExactWords.f k a0 = some true := by
  intro s _
  by_cases hs : (s.size : Int) > 1048576
  · exact ⟨0, by simp only [laws_FnExactWords.f]; rw [if_pos hs]⟩
  · have h1 : s.size ≤ 1048576 := by omega
    have hl := words_length s
    refine ⟨4000000, ?_⟩
    have e1 := spec_words s h1 4000000 (by omega)
    have e2 := impl_words s (by omega)
    generalize wordsOf s = r at e1 e2 hl
    simp only [laws_FnExactWords.f]
    rw [if_neg hs]
    simp only [e1, e2, Option.bind_some, eqRow_refl r (by omega) 4000000 (by omega), if_true, mark_row r (by omega) 4000000 (by omega), held_row r.length (by omega) 4000000 (by omega)]
    rw [if_neg (by omega), if_neg (by omega)]
end Go.Proofs.Ytchakfdnmabkjaa.Pure
