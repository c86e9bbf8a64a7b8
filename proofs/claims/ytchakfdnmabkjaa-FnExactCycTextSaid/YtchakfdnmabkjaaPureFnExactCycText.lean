/- The plain side of FnExactCycText: both functions make the same text. -/
import Derived.Test.YtchakfdnmabkjaaPureEasyHex
import Derived.Test.YtchakfdnmabkjaaPEasyx3
namespace Go.Proofs.Ytchakfdnmabkjaa.Pure
open Go.RowKit Go.Proofs.Ytchakfdnmabkjaa.PEasy Go.Proofs.Ytchakfdnmabkjaa.Plain Go.Proofs.Ytchakfdnmabkjaa.Str Go.Proofs.Ytchakfdnmabkjaa.HexEasy Go.Proofs.YtchakfdnmabkjaaW.PrintWords Go.Proofs.YtchakfdnmabkjaaW.PrintLast

theorem FnExactCycText : ∀ (a0_0 : Int) (a0_1 : Int) (a0_2 : Bool), (Lit.int .u16 a0_0).wf = true → (Lit.int .u8 a0_1).wf = true → ∃ k, laws_FnExactCycText.f k a0_0 a0_1 a0_2 = some true := by
  intro a d b ha hd
  have h1 := bounds_u16 ha
  have h2 := bounds_u8 hd
  have w1 : wrap64 a = a := w64 (by omega) (by omega)
  have w2 : wrap64 d = d := w64 (by omega) (by omega)
  obtain ⟨x, hx, hX⟩ := hex_same (show a ≤ 9223372036854775807 by omega) 4
  obtain ⟨y, hy, hY⟩ := hex_same (show d ≤ 9223372036854775807 by omega) 2
  obtain ⟨p1, p2⟩ := hX 11 (by omega)
  obtain ⟨q1, q2⟩ := hY 11 (by omega)
  have e : (⟨#[32]⟩ : ByteArray) = S [32] := rfl
  refine ⟨11, ?_⟩
  have s1 : (S x).size + 1 ≤ 9223372036854775807 := by rw [S_size]; omega
  have s2 : (S (x ++ [32])).size + (S y).size ≤ 9223372036854775807 := by rw [S_size, S_size]; simp; omega
  have s3 : (S (x ++ [32] ++ y)).size + 2 ≤ 9223372036854775807 := by rw [S_size]; simp; omega
  cases b <;> simp only [laws_FnExactCycText.f, laws_toCyc.f, spec_CycText.f, impl_CycText.f, w1, w2, p1, p2, q1, q2, e, S_append, Option.bind_some, if_pos s1, if_pos s2, if_pos s3, if_true, Bool.false_eq_true, if_false]
end Go.Proofs.Ytchakfdnmabkjaa.Pure
