/- The plain side of FnCompare: what is compared has the flags of a difference without D, but for V. -/
import Derived.Test.YthdeemkhbajfgaaPureAluAlu
import Derived.Test.YthdeemkhbajfgaaPAlux7
namespace Go.Proofs.Ythdeemkhbajfgaa.Pure
open Go.RowKit Go.Proofs.Ythdeemkhbajfgaa.PAlu Go.Proofs.Ythdeemkhbajfgaa.Plain Go.Proofs.Ythdeemkhbajfgaa.DrawAlu Go.Proofs.Ythdeemkhbajfgaa.AluAlu Go.Proofs.YthdeemkhbajfgaaW.PrintWords Go.Proofs.YthdeemkhbajfgaaW.PrintLast Go.Proofs.YthdeemkhbajfgaaW.PrintMore

theorem FnCompare : ∀ (l0 : List Int), l0.length ≤ maxLen → (∀ x ∈ l0, (Lit.int .u8 x).wf = true) → ∃ k, laws_FnCompare.f k l0 = some true := by
  intro l _ _
  by_cases hs : l.length ≤ 1048576
  · obtain ⟨s, hn⟩ := new_some l hs
    have a0 : At l 0 := ⟨by omega, by omega, hs⟩
    obtain ⟨x, i3, s3, e3, x0, x1, a3⟩ := l02Byte_some a0 s
    obtain ⟨y, i4, s4, e4, y0, y1, a4⟩ := l02Byte_some a3 s3
    obtain ⟨g0, g1, g2, g3, g4, g5, i5, s5, e5, _⟩ := l02Flags_some a4 s4
    refine ⟨4002, ?_⟩
    have hd : spec_DrawCmp.f 4002 l = some (x, y, g0, g1, g2, g3, g4, g5) := by simp only [spec_DrawCmp.f, hn 4002 (by omega), Option.bind_some, e3, e4, e5]
    have hS : (x + (255 - y) + 1) % 256 = (x - y) % 256 := by omega
    have hC : decide (x + (255 - y) + 1 > 255) = decide (x ≥ y) := by rw [Bool.eq_iff_iff]; simp only [decide_eq_true_eq]; omega
    have d0 : 0 ≤ (x - y) % 256 := by omega
    have d1 : (x - y) % 256 ≤ 255 := by omega
    have h6 : impl_has.f y 6 = some ((Go.bits .and .u8 y 64) != 0) := byt (P := fun m => impl_has.f m 6 = some ((Go.bits .and .u8 m 64) != 0)) (by decide +kernel) y0 y1
    have hb := sbcF x0 x1 y0 y1 false false false false true 1 rfl
    simp only [plain, hS, hC] at hb
    simp only [laws_FnCompare.f, big_small hs, hd, impl_Cmp.f, impl_NZ.f, impl_BitTest.f, has7 d0 d1, has7 y0 y1, h6, hb, Option.bind_some, Bool.false_eq_true, if_false, beq_self_eq_true, if_true]
  · exact ⟨1, by simp only [laws_FnCompare.f, big_big hs, Option.bind_some, if_true]⟩
end Go.Proofs.Ythdeemkhbajfgaa.Pure
