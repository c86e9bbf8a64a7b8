/- The plain side of FnExactReadDec. -/
import Derived.Test.YtchakfdnmabkjaaDoorPureDecRead
import Derived.Test.YtchakfdnmabkjaaDoorPDecx5
namespace Go.Proofs.YtchakfdnmabkjaaDoor.Pure
open Go.RowKit Go.Proofs.YtchakfdnmabkjaaDoor.PDec Go.Proofs.YtchakfdnmabkjaaDoor.Plain Go.Proofs.YtchakfdnmabkjaaDoor.Str Go.Proofs.YtchakfdnmabkjaaDoor.DecDec Go.Proofs.YtchakfdnmabkjaaDoorW.PrintWords Go.Proofs.YtchakfdnmabkjaaDoorW.PrintLast Go.Proofs.YtchakfdnmabkjaaDoorW.PrintMore

theorem FnExactReadDec : ∀ (a0 : ByteArray), a0.size ≤ 140737488351232 → ∃ k, laws_FnExactReadDec.f k a0 = some true := by
  intro s hs
  refine ⟨41, ?_⟩
  simp only [laws_FnExactReadDec.f]
  by_cases hl : (s.size : Int) > 1048576
  · rw [if_pos hl]
  · rw [if_neg hl]
    obtain ⟨l, rfl⟩ : ∃ l, s = S l := ⟨s.data.toList, (S_data s).symm⟩
    rw [specRead_eq l 41 (by omega)]
    simp only [impl_ReadDec.f, Option.bind_some]
    rw [if_pos (by omega)]
    simp only [Option.bind_some, if_true]
end Go.Proofs.YtchakfdnmabkjaaDoor.Pure
