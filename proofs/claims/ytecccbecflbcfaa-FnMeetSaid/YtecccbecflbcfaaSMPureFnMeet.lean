import Derived.Test.YtecccbecflbcfaaSMPureDuoWords
import Derived.Test.YtecccbecflbcfaaSMPureDuoDraw2
import Derived.Test.YtecccbecflbcfaaSMPDuox15
namespace Go.Proofs.Ytecccbecflbcfaa.Pure
open Go.RowKit Go.Proofs.Ytecccbecflbcfaa.PDuo Go.Proofs.Ytecccbecflbcfaa.Know Go.Proofs.Ytecccbecflbcfaa.Plain Go.Proofs.YtecccbecflbcfaaW.PrintWords Go.Proofs.YtecccbecflbcfaaW.PrintLast Go.Proofs.YtecccbecflbcfaaW.PrintMore
open Go.Proofs.Ytecccbecflbcfaa.DrawDuo
theorem FnMeet : ∀ (l0_0 : List (Int)), l0_0.length ≤ maxLen → (∀ x ∈ l0_0, (Lit.int .u8 x).wf = true) → ∃ k, laws_FnMeet.f k l0_0 = some true := by
  intro l hm hw
  by_cases h : l.length ≤ 1048576
  · obtain ⟨s, hs⟩ := new_some l h
    have p0 : At l 0 := ⟨by omega, by omega, h⟩
    obtain ⟨c0, c1, c2, c3, c4, d0, d1, d2, d3, d4, d5, i1, s1, e1, p1⟩ := cpu_some p0 s
    obtain ⟨a0, a1, a2, a3, a4, a5, a6, a7, a8, a9, a10, i2, s2, e2, p2⟩ := any_some p1 s1 c0 c1 c2 c3 c4 d0 d1 d2 d3 d4 d5
    obtain ⟨b0, b1, b2, b3, b4, b5, b6, b7, b8, b9, b10, i3, s3, e3, p3⟩ := any_some p2 s2 c0 c1 c2 c3 c4 d0 d1 d2 d3 d4 d5
    obtain ⟨m0, m1, m2, m3, m4, m5, m6, m7, m8, m9, m10, ok, hM, hz, ho⟩ := meet_law a0 a1 a2 a3 a4 a5 a6 a7 a8 a9 a10 b0 b1 b2 b3 b4 b5 b6 b7 b8 b9 b10
    have hM' := (meet_comm a0 a1 a2 a3 a4 a5 a6 a7 a8 a9 a10 b0 b1 b2 b3 b4 b5 b6 b7 b8 b9 b10).trans hM
    have hS := (specMeet_eq a0 a1 a2 a3 a4 a5 a6 a7 a8 a9 a10 b0 b1 b2 b3 b4 b5 b6 b7 b8 b9 b10 5000 (by omega)).trans hM
    have hj : laws_FnMeet.j0 5000 ok false a0 a1 a2 a3 a4 a5 a6 a7 a8 a9 a10 b0 b1 b2 b3 b4 b5 b6 b7 b8 b9 b10 m0 m1 m2 m3 m4 m5 m6 m7 m8 m9 m10 = some true := by
      cases ok with
      | false =>
        obtain ⟨rfl, rfl, rfl, rfl, rfl, rfl, rfl, rfl, rfl, rfl, rfl⟩ := hz rfl
        simp [laws_FnMeet.j0]
      | true =>
        obtain ⟨h1, h2, h3, n, na, nb, k1, k2, k3, l1, l2⟩ := ho rfl
        have g1 : n ≥ na := l1
        have g2 : n ≥ nb := l2
        simp [laws_FnMeet.j0, h1, h2, h3, k1, k2, k3, g1, g2]
    refine ⟨5000, ?_⟩
    simp only [laws_FnMeet.f, big_small h, Option.bind_some, spec_DrawMeet.f, hs 5000 (by omega), e1, e2 5000 (by omega), e3 5000 (by omega), hM, hM', hS]
    simp [hj]
  · refine ⟨1, ?_⟩
    simp only [laws_FnMeet.f, big_big h, Option.bind_some, if_true]
end Go.Proofs.Ytecccbecflbcfaa.Pure
