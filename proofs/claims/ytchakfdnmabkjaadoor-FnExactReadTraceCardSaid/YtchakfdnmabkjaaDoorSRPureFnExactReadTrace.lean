import Derived.Test.YtchakfdnmabkjaaDoorSRPureTrcTrace
import Derived.Test.YtchakfdnmabkjaaDoorSRPureTrcCMarks
import Derived.Test.YtchakfdnmabkjaaDoorSRPTrcx17
namespace Go.Proofs.YtchakfdnmabkjaaDoor.Pure
open Go.RowKit Go.Proofs.YtchakfdnmabkjaaDoor.PTrc Go.Proofs.YtchakfdnmabkjaaDoor.Plain Go.Proofs.YtchakfdnmabkjaaDoor.Str Go.Proofs.YtchakfdnmabkjaaDoor.RdTTrc Go.Proofs.YtchakfdnmabkjaaDoor.CRowsTrc Go.Proofs.YtchakfdnmabkjaaDoor.CMarksTrc Go.Proofs.YtchakfdnmabkjaaDoorW.PrintWords Go.Proofs.YtchakfdnmabkjaaDoorW.PrintLast Go.Proofs.YtchakfdnmabkjaaDoorW.PrintMore
theorem FnExactReadTrace : ∀ (a0 : ByteArray), a0.size ≤ 140737488351232 → ∃ k, laws_FnExactReadTrace.f k a0 = some true := by
  intro s _
  by_cases hs : (s.size : Int) > 1048576
  · exact ⟨0, by simp only [laws_FnExactReadTrace.f]; rw [if_pos hs]⟩
  · obtain ⟨l, rfl⟩ : ∃ l, s = S l := ⟨s.data.toList, (S_data s).symm⟩
    rw [S_size] at hs
    obtain ⟨⟨out, n⟩, h1, h2, h3⟩ := readTrace_both l (by omega)
    refine ⟨1300003, ?_⟩
    have ho : out.length ≤ 1200 := h1
    have g1 := h2 1300003 (by decide)
    have g2 := h3 1300003 (by decide)
    have g3 := h3 1300002 (by decide)
    have step : laws_FnExactReadTrace.j0 1300003 (S l) out n out (n != n) = some true := by
      have c1 := markCycS_eq out (by omega) 1300002 (by omega)
      have c2 := heldCycS_eq out.length (by omega) 1300002 (by omega)
      have c3 := heldCycS_eq out.length (by omega) 1300001 (by omega)
      have c4 := eqCycS_refl out (by omega) 1300002 (by omega)
      simp only [laws_FnExactReadTrace.j0, bne_self_eq_false, Bool.false_eq_true, if_false, c1, c2, Option.bind_some, g3, c4, if_true, laws_FnExactReadTrace.j1, c3]
      rw [if_neg (by omega), if_neg (by omega)]
    simp only [laws_FnExactReadTrace.f, S_size]
    rw [if_neg hs, g1, g2]
    simp only [Option.bind_some, eqCycS_refl out (by omega) 1300003 (by omega), if_true]
    exact step
end Go.Proofs.YtchakfdnmabkjaaDoor.Pure
