/- The plain side of FnExactLines: the program's lines and the reference's are the same, and two calls share nothing. -/
import Derived.Test.YtchakfdnmabkjaaDoorPureLinLines
import Derived.Test.YtchakfdnmabkjaaDoorPureLinRows
import Derived.Test.YtchakfdnmabkjaaDoorPLinx4
namespace Go.Proofs.YtchakfdnmabkjaaDoor.Pure
open Go.RowKit Go.Proofs.YtchakfdnmabkjaaDoor.PLin Go.Proofs.YtchakfdnmabkjaaDoor.Plain Go.Proofs.YtchakfdnmabkjaaDoor.Str Go.Proofs.YtchakfdnmabkjaaDoor.LinesLin Go.Proofs.YtchakfdnmabkjaaDoor.RowsLin Go.Proofs.YtchakfdnmabkjaaDoorW.PrintWords Go.Proofs.YtchakfdnmabkjaaDoorW.PrintLast
theorem FnExactLines : ∀ (a0 : ByteArray), a0.size ≤ 140737488351232 → ∃ k, laws_FnExactLines.f k a0 = some true := by
  intro s _
  by_cases hs : (s.size : Int) > 1048576
  · exact ⟨0, by simp only [laws_FnExactLines.f]; rw [if_pos hs]⟩
  · obtain ⟨l, rfl⟩ : ∃ l, s = S l := ⟨s.data.toList, (S_data s).symm⟩
    rw [S_size] at hs
    have h1 : l.length ≤ 1048576 := by omega
    have hl := linesOf_length l
    refine ⟨4000000, ?_⟩
    have e1 := specLines_eq l h1 4000000 (by omega)
    have e2 : impl_Lines.f (S l) = some (linesOf (S l)) := by unfold impl_Lines.f; exact if_pos (by rw [S_size]; exact h1)
    generalize linesOf (S l) = r at e1 e2 hl
    simp only [laws_FnExactLines.f, S_size]
    rw [if_neg hs]
    simp only [e1, e2, Option.bind_some, eqRow_refl r (by omega) 4000000 (by omega), if_true, mark_row r (by omega) 4000000 (by omega), held_row r.length (by omega) 4000000 (by omega)]
    rw [if_neg (by omega), if_neg (by omega)]
end Go.Proofs.YtchakfdnmabkjaaDoor.Pure
