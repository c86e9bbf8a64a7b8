import Derived.Test.YtecccbecflbcfaaSLPureDuoLessW
import Derived.Test.YtecccbecflbcfaaSLPureDuoDraw2
import Derived.Test.YtecccbecflbcfaaSLPDuox19
namespace Go.Proofs.Ytecccbecflbcfaa.Pure
open Go.RowKit Go.Proofs.Ytecccbecflbcfaa.PDuo Go.Proofs.Ytecccbecflbcfaa.Know Go.Proofs.Ytecccbecflbcfaa.Plain Go.Proofs.YtecccbecflbcfaaW.PrintWords Go.Proofs.YtecccbecflbcfaaW.PrintLast Go.Proofs.YtecccbecflbcfaaW.PrintMore
open Go.Proofs.Ytecccbecflbcfaa.DrawDuo
theorem less_fin (l : List Int) (h : l.length ≤ 1048576) (a0 a1 a2 a3 a4 a5 a6 a7 a8 a9 a10 b0 b1 b2 b3 b4 b5 b6 b7 b8 b9 b10 : Int) (k : Nat) (hk : 100 < k) (hD : spec_DrawLess.f (k + 1) l = some (a0, a1, a2, a3, a4, a5, a6, a7, a8, a9, a10, b0, b1, b2, b3, b4, b5, b6, b7, b8, b9, b10)) : laws_FnLess.f (k + 1) l = some true := by
  obtain ⟨r, hr, hT, hE⟩ := less_law a0 a1 a2 a3 a4 a5 a6 a7 a8 a9 a10 b0 b1 b2 b3 b4 b5 b6 b7 b8 b9 b10
  obtain ⟨q, hq, _, _⟩ := less_law b0 b1 b2 b3 b4 b5 b6 b7 b8 b9 b10 a0 a1 a2 a3 a4 a5 a6 a7 a8 a9 a10
  have hS := (specLess_eq a0 a1 a2 a3 a4 a5 a6 a7 a8 a9 a10 b0 b1 b2 b3 b4 b5 b6 b7 b8 b9 b10 (k + 1) (by omega)).trans hr
  simp only [laws_FnLess.f, big_small h, hD, hr, hS, Option.bind_some]
  cases r with
  | false => simp [laws_FnLess.j0]
  | true =>
    obtain ⟨hM, hN, na, nb, k1, k2, hle⟩ := hT rfl
    have hj : laws_FnLess.j0 (k + 1) true false a0 a1 a2 a3 a4 a5 a6 a7 a8 a9 a10 b0 b1 b2 b3 b4 b5 b6 b7 b8 b9 b10 = some true := by
      simp [laws_FnLess.j0, hM, hN, only_none, none_known, k1, k2, hle]
    cases q with
    | false => simp [hq, hj]
    | true =>
      obtain ⟨rfl, rfl, rfl, rfl, rfl, rfl, rfl, rfl, rfl, rfl, rfl⟩ := hE hr hq
      simp [hq, hj]
theorem FnLess : ∀ (l0_0 : List (Int)), l0_0.length ≤ maxLen → (∀ x ∈ l0_0, (Lit.int .u8 x).wf = true) → ∃ k, laws_FnLess.f k l0_0 = some true := by
  intro l hm hw
  by_cases h : l.length ≤ 1048576
  · obtain ⟨s, hs⟩ := new_some l h
    have p0 : At l 0 := ⟨by omega, by omega, h⟩
    obtain ⟨c0, c1, c2, c3, c4, d0, d1, d2, d3, d4, d5, i1, s1, e1, p1⟩ := cpu_some p0 s
    obtain ⟨a0, a1, a2, a3, a4, a5, a6, a7, a8, a9, a10, i2, s2, e2, p2⟩ := any_some p1 s1 c0 c1 c2 c3 c4 d0 d1 d2 d3 d4 d5
    obtain ⟨ob, i3, s3, e3, p3⟩ := once_some p2 s2 2
    cases ob with
    | true =>
      obtain ⟨b0, b1, b2, b3, b4, b5, b6, b7, b8, b9, b10, hb⟩ := know_some c0 c1 c2 c3 c4 d0 d1 d2 d3 d4 d5
      exact ⟨5000 + 1, less_fin l h a0 a1 a2 a3 a4 a5 a6 a7 a8 a9 a10 b0 b1 b2 b3 b4 b5 b6 b7 b8 b9 b10 5000 (by omega) (by simp only [spec_DrawLess.f, hs (5000 + 1) (by omega), e1, e2 (5000 + 1) (by omega), e3, hb, Option.bind_some, if_true])⟩
    | false =>
      obtain ⟨b0, b1, b2, b3, b4, b5, b6, b7, b8, b9, b10, i4, s4, e4, p4⟩ := any_some p3 s3 c0 c1 c2 c3 c4 d0 d1 d2 d3 d4 d5
      exact ⟨5000 + 1, less_fin l h a0 a1 a2 a3 a4 a5 a6 a7 a8 a9 a10 b0 b1 b2 b3 b4 b5 b6 b7 b8 b9 b10 5000 (by omega) (by simp only [spec_DrawLess.f, hs (5000 + 1) (by omega), e1, e2 (5000 + 1) (by omega), e3, e4 (5000 + 1) (by omega), Option.bind_some, Bool.false_eq_true, if_false])⟩
  · refine ⟨1, ?_⟩
    simp only [laws_FnLess.f, big_big h, Option.bind_some, if_true]
end Go.Proofs.Ytecccbecflbcfaa.Pure
