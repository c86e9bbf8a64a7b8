/- The plain side of FnMoves: a byte moved up and down with its carry is as it was. -/
import Derived.Test.YthdeemkhbajfgaaPureDraw
import Derived.Test.YthdeemkhbajfgaaPAllx40
namespace Go.Proofs.Ythdeemkhbajfgaa.Pure
open Go.RowKit Go.Proofs.Ythdeemkhbajfgaa.PAll Go.Proofs.Ythdeemkhbajfgaa.Plain Go.Proofs.Ythdeemkhbajfgaa.Draw Go.Proofs.YthdeemkhbajfgaaW.PrintWords Go.Proofs.YthdeemkhbajfgaaW.PrintLast Go.Proofs.YthdeemkhbajfgaaW.PrintMore

theorem FnMoves : ∀ (l0 : List Int), l0.length ≤ maxLen → (∀ x ∈ l0, (Lit.int .u8 x).wf = true) → ∃ k, laws_FnMoves.f k l0 = some true := by
  intro l _ _
  by_cases hs : l.length ≤ 1048576
  · obtain ⟨s, hn⟩ := new_some l hs
    have a0 : At l 0 := ⟨by omega, by omega, hs⟩
    obtain ⟨b, i1, s1, e1, b0, b1, a1⟩ := l02Byte_some a0 s
    obtain ⟨f0, f1, f2, f3, f4, f5, i2, s2, e2, a2⟩ := l02Flags_some a1 s1
    refine ⟨4002, ?_⟩
    have hd : spec_DrawRol.f 4002 l = some (b, f0, f1, f2, f3, f4, f5) := by simp only [spec_DrawRol.f, hn 4002 (by omega), Option.bind_some, e1, e2]
    simp only [laws_FnMoves.f, big_small hs, hd, Option.bind_some, Bool.false_eq_true, if_false]
    clear hd e1 e2 a2 a1 hn a0 i1 s1 i2 s2 s hs
    obtain ⟨n, hn, rfl⟩ : ∃ n : Nat, n < 256 ∧ b = (n : Int) := ⟨b.toNat, by omega, by omega⟩
    clear b0 b1
    revert f0 f1 f2 f3 f4 f5
    revert n
    decide +kernel
  · exact ⟨1, by simp only [laws_FnMoves.f, big_big hs, Option.bind_some, if_true]⟩
end Go.Proofs.Ythdeemkhbajfgaa.Pure
