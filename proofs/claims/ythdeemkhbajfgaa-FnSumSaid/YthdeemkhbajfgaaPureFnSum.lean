/- The plain side of FnSum: without D a sum has the low byte of the numbers' sum, and C tells the rest; a difference is the sum with all bits turned. -/
import Derived.Test.YthdeemkhbajfgaaPureAluAlu
import Derived.Test.YthdeemkhbajfgaaPAlux5
namespace Go.Proofs.Ythdeemkhbajfgaa.Pure
open Go.RowKit Go.Proofs.Ythdeemkhbajfgaa.PAlu Go.Proofs.Ythdeemkhbajfgaa.Plain Go.Proofs.Ythdeemkhbajfgaa.DrawAlu Go.Proofs.Ythdeemkhbajfgaa.AluAlu Go.Proofs.YthdeemkhbajfgaaW.PrintWords Go.Proofs.YthdeemkhbajfgaaW.PrintLast Go.Proofs.YthdeemkhbajfgaaW.PrintMore

theorem FnSum : ∀ (l0 : List Int), l0.length ≤ maxLen → (∀ x ∈ l0, (Lit.int .u8 x).wf = true) → ∃ k, laws_FnSum.f k l0 = some true := by
  intro l _ _
  by_cases hs : l.length ≤ 1048576
  · obtain ⟨s, hn⟩ := new_some l hs
    have a0 : At l 0 := ⟨by omega, by omega, hs⟩
    obtain ⟨x, i3, s3, e3, x0, x1, a3⟩ := l02Byte_some a0 s
    obtain ⟨y, i4, s4, e4, y0, y1, a4⟩ := l02Byte_some a3 s3
    obtain ⟨g0, g1, g2, g3, g4, g5, i5, s5, e5, _⟩ := l02Flags_some a4 s4
    refine ⟨4002, ?_⟩
    have hd : spec_DrawAdc.f 4002 l = some (x, y, g0, g1, g2, g3, g4, g5) := by simp only [spec_DrawAdc.f, hn 4002 (by omega), Option.bind_some, e3, e4, e5]
    have e : (255 - y) % 256 = 255 - y := by omega
    obtain ⟨t, ht⟩ : ∃ t : Int, t = if g5 = true then 1 else 0 := ⟨_, rfl⟩
    have q0 : 0 ≤ 255 - y := by omega
    have q1 : 255 - y ≤ 255 := by omega
    simp only [laws_FnSum.f, big_small hs, hd, adcF x0 x1 y0 y1 g0 g1 g3 g4 g5 t ht, Option.bind_some, Bool.false_eq_true, if_false, laws_FnSum.j0, e, adcF x0 x1 q0 q1 g0 g1 g3 g4 g5 t ht, sbcF x0 x1 y0 y1 g0 g1 g3 g4 g5 t ht, plain]
    have w1 : wrap64 x = x := w64 (by omega) (by omega)
    have w2 : wrap64 y = y := w64 (by omega) (by omega)
    have w3 : wrap64 (x + y) = x + y := w64 (by omega) (by omega)
    have w4 : wrap64 (x + y + 1) = x + y + 1 := w64 (by omega) (by omega)
    cases g5 with
    | true =>
      obtain rfl : t = 1 := ht
      have w5 : wrap64 ((x + y + 1) % 256) = (x + y + 1) % 256 := w64 (by omega) (by omega)
      have w6 : wrap64 ((x + y + 1) % 256 + 256) = (x + y + 1) % 256 + 256 := w64 (by omega) (by omega)
      simp only [w1, w2, w3, w4, w5, w6]
      by_cases hc : x + y + 1 > 255
      · rw [decide_eq_true hc]
        simp only [if_true]
        rw [if_pos (by omega)]
        simp
      · rw [decide_eq_false hc]
        simp only [if_true, Bool.false_eq_true, if_false]
        rw [if_pos (by omega)]
        simp
    | false =>
      obtain rfl : t = 0 := ht
      have w5 : wrap64 ((x + y + 0) % 256) = (x + y + 0) % 256 := w64 (by omega) (by omega)
      have w6 : wrap64 ((x + y + 0) % 256 + 256) = (x + y + 0) % 256 + 256 := w64 (by omega) (by omega)
      simp only [w1, w2, w3, w4, w5, w6]
      by_cases hc : x + y + 0 > 255
      · rw [decide_eq_true hc]
        simp only [if_true, Bool.false_eq_true, if_false]
        rw [if_pos (by omega)]
        simp
      · rw [decide_eq_false hc]
        simp only [Bool.false_eq_true, if_false]
        rw [if_pos (by omega)]
        simp
  · exact ⟨1, by simp only [laws_FnSum.f, big_big hs, Option.bind_some, if_true]⟩
end Go.Proofs.Ythdeemkhbajfgaa.Pure
