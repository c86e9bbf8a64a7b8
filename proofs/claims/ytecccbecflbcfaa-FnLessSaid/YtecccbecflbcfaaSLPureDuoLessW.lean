import Derived.Test.YtecccbecflbcfaaSLPureDuoWords
import Derived.Test.YtecccbecflbcfaaSLPDuox16
namespace Go.Proofs.Ytecccbecflbcfaa.Pure
open Go.RowKit Go.Proofs.Ytecccbecflbcfaa.PDuo Go.Proofs.Ytecccbecflbcfaa.Know Go.Proofs.Ytecccbecflbcfaa.Plain Go.Proofs.YtecccbecflbcfaaW.PrintWords Go.Proofs.YtecccbecflbcfaaW.PrintLast Go.Proofs.YtecccbecflbcfaaW.PrintMore
theorem only_none : impl_OnlyPC.f (-1) = some ((-1), (-1), (-1), (-1), (-1), (-1), (-1), (-1), (-1), (-1), (-1)) := rfl
theorem none_known : impl_Known.f (-1) (-1) (-1) (-1) (-1) (-1) (-1) (-1) (-1) (-1) (-1) = some 0 := by decide +kernel
theorem none_at (i : Nat) (h : i < 11) : pAt (ints (-1) (-1) (-1) (-1) (-1) (-1) (-1) (-1) (-1) (-1) (-1)) i = -1 := by
  rcases i with _|_|_|_|_|_|_|_|_|_|_|i <;> first | rfl | omega
theorem less_law (a0 a1 a2 a3 a4 a5 a6 a7 a8 a9 a10 b0 b1 b2 b3 b4 b5 b6 b7 b8 b9 b10 : Int) : ∃ r : Bool, impl_Less.f a0 a1 a2 a3 a4 a5 a6 a7 a8 a9 a10 b0 b1 b2 b3 b4 b5 b6 b7 b8 b9 b10 = some r ∧ (r = true → impl_Meet.f a0 a1 a2 a3 a4 a5 a6 a7 a8 a9 a10 b0 b1 b2 b3 b4 b5 b6 b7 b8 b9 b10 = some (b0, b1, b2, b3, b4, b5, b6, b7, b8, b9, b10, true) ∧ impl_Less.f (-1) (-1) (-1) (-1) (-1) (-1) (-1) (-1) (-1) (-1) (-1) a0 a1 a2 a3 a4 a5 a6 a7 a8 a9 a10 = some true ∧ (∃ na nb : Int, impl_Known.f a0 a1 a2 a3 a4 a5 a6 a7 a8 a9 a10 = some na ∧ impl_Known.f b0 b1 b2 b3 b4 b5 b6 b7 b8 b9 b10 = some nb ∧ na ≤ nb)) ∧
    (impl_Less.f a0 a1 a2 a3 a4 a5 a6 a7 a8 a9 a10 b0 b1 b2 b3 b4 b5 b6 b7 b8 b9 b10 = some true → impl_Less.f b0 b1 b2 b3 b4 b5 b6 b7 b8 b9 b10 a0 a1 a2 a3 a4 a5 a6 a7 a8 a9 a10 = some true → a0 = b0 ∧ a1 = b1 ∧ a2 = b2 ∧ a3 = b3 ∧ a4 = b4 ∧ a5 = b5 ∧ a6 = b6 ∧ a7 = b7 ∧ a8 = b8 ∧ a9 = b9 ∧ a10 = b10) := by
  have hl : ∀ (c0 c1 c2 c3 c4 c5 c6 c7 c8 c9 c10 d0 d1 d2 d3 d4 d5 d6 d7 d8 d9 d10 : Int), impl_Less.f c0 c1 c2 c3 c4 c5 c6 c7 c8 c9 c10 d0 d1 d2 d3 d4 d5 d6 d7 d8 d9 d10 = some ((List.range 11).all (okAt (ints c0 c1 c2 c3 c4 c5 c6 c7 c8 c9 c10)) && (List.range 11).all (okAt (ints d0 d1 d2 d3 d4 d5 d6 d7 d8 d9 d10)) && (List.range 11).all (lessAt (ints c0 c1 c2 c3 c4 c5 c6 c7 c8 c9 c10) (ints d0 d1 d2 d3 d4 d5 d6 d7 d8 d9 d10))) := by
    intro c0 c1 c2 c3 c4 c5 c6 c7 c8 c9 c10 d0 d1 d2 d3 d4 d5 d6 d7 d8 d9 d10
    simp only [impl_Less.f, impl_KnowOk.f, impl_less.f, Option.bind_some]
    cases (List.range 11).all (okAt (ints c0 c1 c2 c3 c4 c5 c6 c7 c8 c9 c10)) <;> cases (List.range 11).all (okAt (ints d0 d1 d2 d3 d4 d5 d6 d7 d8 d9 d10)) <;> simp
  refine ⟨_, hl a0 a1 a2 a3 a4 a5 a6 a7 a8 a9 a10 b0 b1 b2 b3 b4 b5 b6 b7 b8 b9 b10, ?_, ?_⟩
  · intro h
    simp only [Bool.and_eq_true] at h
    obtain ⟨⟨hA, hB⟩, hL⟩ := h
    have hF : (List.range 11).all (fun i => fits1 (pAt (ints a0 a1 a2 a3 a4 a5 a6 a7 a8 a9 a10) i) (pAt (ints b0 b1 b2 b3 b4 b5 b6 b7 b8 b9 b10) i)) = true := all_yes _ (fun i hi => by
      have := less_nonneg hL i hi
      unfold fits1
      by_cases h0 : pAt (ints a0 a1 a2 a3 a4 a5 a6 a7 a8 a9 a10) i < 0
      · rw [decide_eq_true h0]; rfl
      · have he := this (by omega)
        rw [he]; simp)
    have hm : ∀ i, i < 11 → meet1 (pAt (ints a0 a1 a2 a3 a4 a5 a6 a7 a8 a9 a10) i) (pAt (ints b0 b1 b2 b3 b4 b5 b6 b7 b8 b9 b10) i) = pAt (ints b0 b1 b2 b3 b4 b5 b6 b7 b8 b9 b10) i := by
      intro i hi
      have := less_nonneg hL i hi
      unfold meet1
      split
      · rfl
      · exact this (by omega)
    have hnone : (List.range 11).all (lessAt (ints (-1) (-1) (-1) (-1) (-1) (-1) (-1) (-1) (-1) (-1) (-1)) (ints a0 a1 a2 a3 a4 a5 a6 a7 a8 a9 a10)) = true := all_yes _ (fun i hi => by
      simp only [lessAt, none_at i hi]; rfl)
    have hno : (List.range 11).all (okAt (ints (-1) (-1) (-1) (-1) (-1) (-1) (-1) (-1) (-1) (-1) (-1))) = true := by decide +kernel
    refine ⟨?_, ?_, knownUp (ints a0 a1 a2 a3 a4 a5 a6 a7 a8 a9 a10) 11, knownUp (ints b0 b1 b2 b3 b4 b5 b6 b7 b8 b9 b10) 11, ?_, ?_, ?_⟩
    · simp only [impl_Meet.f, impl_KnowOk.f, Option.bind_some, hA, hB, hF, if_true]
      have e0 := hm 0 (by omega)
      have e1 := hm 1 (by omega)
      have e2 := hm 2 (by omega)
      have e3 := hm 3 (by omega)
      have e4 := hm 4 (by omega)
      have e5 := hm 5 (by omega)
      have e6 := hm 6 (by omega)
      have e7 := hm 7 (by omega)
      have e8 := hm 8 (by omega)
      have e9 := hm 9 (by omega)
      have e10 := hm 10 (by omega)
      simp only [pAt, ints, List.getD_cons_zero, List.getD_cons_succ] at e0 e1 e2 e3 e4 e5 e6 e7 e8 e9 e10
      rw [e0, e1, e2, e3, e4, e5, e6, e7, e8, e9, e10]
    · rw [hl, hno, hA, hnone]; rfl
    · simp only [impl_Known.f, impl_KnowOk.f, Option.bind_some, hA, if_true]
    · simp only [impl_Known.f, impl_KnowOk.f, Option.bind_some, hB, if_true]
    · exact known_le _ _ (fun i hi h0 => by rw [← less_nonneg hL i hi h0]; exact h0) 11 (Nat.le_refl _)
  · intro h1 h2
    rw [hl] at h1 h2
    have h1 := Option.some.inj h1
    have h2 := Option.some.inj h2
    simp only [Bool.and_eq_true] at h1 h2
    obtain ⟨⟨hA, hB⟩, hL⟩ := h1
    obtain ⟨_, hR⟩ := h2
    have key : ∀ i, i < 11 → pAt (ints a0 a1 a2 a3 a4 a5 a6 a7 a8 a9 a10) i = pAt (ints b0 b1 b2 b3 b4 b5 b6 b7 b8 b9 b10) i := by
      intro i hi
      have x1 := less_nonneg hL i hi
      have x2 := less_nonneg hR i hi
      have y1 := ok_low (all_get hA i hi)
      have y2 := ok_low (all_get hB i hi)
      by_cases g1 : 0 ≤ pAt (ints a0 a1 a2 a3 a4 a5 a6 a7 a8 a9 a10) i
      · exact x1 g1
      · by_cases g2 : 0 ≤ pAt (ints b0 b1 b2 b3 b4 b5 b6 b7 b8 b9 b10) i
        · exact (x2 g2).symm
        · omega
    exact ⟨key 0 (by omega), key 1 (by omega), key 2 (by omega), key 3 (by omega), key 4 (by omega), key 5 (by omega), key 6 (by omega), key 7 (by omega), key 8 (by omega), key 9 (by omega), key 10 (by omega)⟩
end Go.Proofs.Ytecccbecflbcfaa.Pure
