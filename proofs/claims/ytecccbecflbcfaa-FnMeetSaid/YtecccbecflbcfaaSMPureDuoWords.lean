import Derived.Test.YtecccbecflbcfaaSMPureDuoMeet
import Derived.Test.YtecccbecflbcfaaSMPureDuoBase
import Derived.Test.YtecccbecflbcfaaSMMyDuoLess
import Derived.Test.YtecccbecflbcfaaSMPDuox0
import Derived.Test.YtecccbecflbcfaaSMPDuox4
import Derived.Test.YtecccbecflbcfaaSMPDuox3
import Derived.Test.YtecccbecflbcfaaSMMyDuoKnown
namespace Go.Proofs.Ytecccbecflbcfaa.Pure
open Go.RowKit Go.Proofs.Ytecccbecflbcfaa.PDuo Go.Proofs.Ytecccbecflbcfaa.Know Go.Proofs.Ytecccbecflbcfaa.Plain Go.Proofs.YtecccbecflbcfaaW.PrintWords Go.Proofs.YtecccbecflbcfaaW.PrintLast Go.Proofs.YtecccbecflbcfaaW.PrintMore
theorem fits_comm (x y : Int) : fits1 x y = fits1 y x := by
  unfold fits1
  by_cases hx : x < 0 <;> by_cases hy : y < 0 <;> by_cases he : x = y
  all_goals first
    | (subst he; simp_all; done)
    | (have he' : ¬ y = x := fun e => he e.symm; have h1 : (x != y) = true := bne_iff_ne.mpr he; have h2 : (y != x) = true := bne_iff_ne.mpr he'; simp [hx, hy, h1, h2]; done)
    | (have he' : ¬ y = x := fun e => he e.symm; have h1 : (x != y) = true := bne_iff_ne.mpr he; have h2 : (y != x) = true := bne_iff_ne.mpr he'; rw [h1, h2]; simp [hx, hy]; omega)
theorem fits_cases {x y : Int} (h : fits1 x y = true) : x < 0 ∨ y < 0 ∨ x = y := by
  unfold fits1 at h
  by_cases hx : x < 0
  · exact Or.inl hx
  · by_cases hy : y < 0
    · exact Or.inr (Or.inl hy)
    · refine Or.inr (Or.inr ?_)
      by_cases he : y = x
      · exact he.symm
      · have h2 : (y != x) = true := bne_iff_ne.mpr he
        have h3 : decide (y ≥ 0) = true := decide_eq_true (by omega)
        have h4 : decide (x < 0) = false := decide_eq_false hx
        rw [h2, h3, h4] at h
        exact absurd h (by decide)
theorem meet1_comm {x y : Int} (hx : -1 ≤ x) (hy : -1 ≤ y) (h : fits1 x y = true) : meet1 y x = meet1 x y := by
  have := fits_cases h
  unfold meet1
  by_cases h1 : x < 0 <;> by_cases h2 : y < 0 <;> simp only [h1, h2, if_true, if_false] <;> omega
theorem meet1_self (x : Int) : meet1 x x = x := by unfold meet1; split <;> rfl
theorem fits1_self (x : Int) : fits1 x x = true := by unfold fits1; simp
theorem pAt_M (a0 a1 a2 a3 a4 a5 a6 a7 a8 a9 a10 b0 b1 b2 b3 b4 b5 b6 b7 b8 b9 b10 : Int) (i : Nat) (h : i < 11) : pAt (ints (meet1 a0 b0) (meet1 a1 b1) (meet1 a2 b2) (meet1 a3 b3) (meet1 a4 b4) (meet1 a5 b5) (meet1 a6 b6) (meet1 a7 b7) (meet1 a8 b8) (meet1 a9 b9) (meet1 a10 b10)) i = meet1 (pAt (ints a0 a1 a2 a3 a4 a5 a6 a7 a8 a9 a10) i) (pAt (ints b0 b1 b2 b3 b4 b5 b6 b7 b8 b9 b10) i) := by
  rcases i with _|_|_|_|_|_|_|_|_|_|_|i <;> first | rfl | omega
theorem all_get {p : Nat → Bool} (h : (List.range 11).all p = true) (i : Nat) (hi : i < 11) : p i = true := List.all_eq_true.mp h i (List.mem_range.2 hi)
theorem ok_low {l : List Int} {i : Nat} (h : okAt l i = true) : -1 ≤ pAt l i := by
  simp only [okAt, Bool.and_eq_true, decide_eq_true_eq] at h; exact h.1
theorem meet1_or (x y : Int) : meet1 x y = x ∨ meet1 x y = y := by unfold meet1; split <;> simp
theorem ok_M (a0 a1 a2 a3 a4 a5 a6 a7 a8 a9 a10 b0 b1 b2 b3 b4 b5 b6 b7 b8 b9 b10 : Int) (hA : (List.range 11).all (okAt (ints a0 a1 a2 a3 a4 a5 a6 a7 a8 a9 a10)) = true) (hB : (List.range 11).all (okAt (ints b0 b1 b2 b3 b4 b5 b6 b7 b8 b9 b10)) = true) : (List.range 11).all (okAt (ints (meet1 a0 b0) (meet1 a1 b1) (meet1 a2 b2) (meet1 a3 b3) (meet1 a4 b4) (meet1 a5 b5) (meet1 a6 b6) (meet1 a7 b7) (meet1 a8 b8) (meet1 a9 b9) (meet1 a10 b10))) = true := by
  apply all_yes
  intro i hi
  have ha := all_get hA i hi
  have hb := all_get hB i hi
  simp only [okAt, pAt_M a0 a1 a2 a3 a4 a5 a6 a7 a8 a9 a10 b0 b1 b2 b3 b4 b5 b6 b7 b8 b9 b10 i hi] at ha hb ⊢
  rcases meet1_or (pAt (ints a0 a1 a2 a3 a4 a5 a6 a7 a8 a9 a10) i) (pAt (ints b0 b1 b2 b3 b4 b5 b6 b7 b8 b9 b10) i) with e | e <;> rw [e] <;> assumption
theorem less_a (a0 a1 a2 a3 a4 a5 a6 a7 a8 a9 a10 b0 b1 b2 b3 b4 b5 b6 b7 b8 b9 b10 : Int) (_hF : (List.range 11).all (fitAt (ints a0 a1 a2 a3 a4 a5 a6 a7 a8 a9 a10) (ints b0 b1 b2 b3 b4 b5 b6 b7 b8 b9 b10)) = true) : (List.range 11).all (lessAt (ints a0 a1 a2 a3 a4 a5 a6 a7 a8 a9 a10) (ints (meet1 a0 b0) (meet1 a1 b1) (meet1 a2 b2) (meet1 a3 b3) (meet1 a4 b4) (meet1 a5 b5) (meet1 a6 b6) (meet1 a7 b7) (meet1 a8 b8) (meet1 a9 b9) (meet1 a10 b10))) = true := by
  apply all_yes
  intro i hi
  simp only [lessAt, pAt_M a0 a1 a2 a3 a4 a5 a6 a7 a8 a9 a10 b0 b1 b2 b3 b4 b5 b6 b7 b8 b9 b10 i hi]
  by_cases h0 : pAt (ints a0 a1 a2 a3 a4 a5 a6 a7 a8 a9 a10) i ≥ 0
  · have : meet1 (pAt (ints a0 a1 a2 a3 a4 a5 a6 a7 a8 a9 a10) i) (pAt (ints b0 b1 b2 b3 b4 b5 b6 b7 b8 b9 b10) i) = pAt (ints a0 a1 a2 a3 a4 a5 a6 a7 a8 a9 a10) i := if_neg (by omega)
    rw [this]; simp
  · simp [h0]
theorem less_b (a0 a1 a2 a3 a4 a5 a6 a7 a8 a9 a10 b0 b1 b2 b3 b4 b5 b6 b7 b8 b9 b10 : Int) (hF : (List.range 11).all (fitAt (ints a0 a1 a2 a3 a4 a5 a6 a7 a8 a9 a10) (ints b0 b1 b2 b3 b4 b5 b6 b7 b8 b9 b10)) = true) : (List.range 11).all (lessAt (ints b0 b1 b2 b3 b4 b5 b6 b7 b8 b9 b10) (ints (meet1 a0 b0) (meet1 a1 b1) (meet1 a2 b2) (meet1 a3 b3) (meet1 a4 b4) (meet1 a5 b5) (meet1 a6 b6) (meet1 a7 b7) (meet1 a8 b8) (meet1 a9 b9) (meet1 a10 b10))) = true := by
  apply all_yes
  intro i hi
  simp only [lessAt, pAt_M a0 a1 a2 a3 a4 a5 a6 a7 a8 a9 a10 b0 b1 b2 b3 b4 b5 b6 b7 b8 b9 b10 i hi]
  by_cases h0 : pAt (ints b0 b1 b2 b3 b4 b5 b6 b7 b8 b9 b10) i ≥ 0
  · have hc := fits_cases (all_get hF i hi)
    have : meet1 (pAt (ints a0 a1 a2 a3 a4 a5 a6 a7 a8 a9 a10) i) (pAt (ints b0 b1 b2 b3 b4 b5 b6 b7 b8 b9 b10) i) = pAt (ints b0 b1 b2 b3 b4 b5 b6 b7 b8 b9 b10) i := by
      unfold meet1
      by_cases h1 : pAt (ints a0 a1 a2 a3 a4 a5 a6 a7 a8 a9 a10) i < 0
      · rw [if_pos h1]
      · rw [if_neg h1]; omega
    rw [this]; simp
  · simp [h0]
theorem known_le (l m : List Int) (h : ∀ i, i < 11 → 0 ≤ pAt l i → 0 ≤ pAt m i) : ∀ n, n ≤ 11 → knownUp l n ≤ knownUp m n
  | 0, _ => Int.le_refl _
  | n + 1, hn => by
    have ih := known_le l m h n (by omega)
    have hb : 0 ≤ bitsAt n := by unfold bitsAt; (repeat' split) <;> omega
    simp only [knownUp]
    by_cases h0 : 0 ≤ pAt l n
    · rw [if_pos h0, if_pos (h n (by omega) h0)]; omega
    · rw [if_neg h0]; split <;> omega
theorem less_nonneg {l m : List Int} (h : (List.range 11).all (lessAt l m) = true) (i : Nat) (hi : i < 11) (h0 : 0 ≤ pAt l i) : pAt l i = pAt m i := by
  have := all_get h i hi
  simp only [lessAt] at this
  have h1 : decide (pAt l i ≥ 0) = true := decide_eq_true h0
  rw [h1] at this
  simpa using this
theorem meet_comm (a0 a1 a2 a3 a4 a5 a6 a7 a8 a9 a10 b0 b1 b2 b3 b4 b5 b6 b7 b8 b9 b10 : Int) : impl_Meet.f b0 b1 b2 b3 b4 b5 b6 b7 b8 b9 b10 a0 a1 a2 a3 a4 a5 a6 a7 a8 a9 a10 = impl_Meet.f a0 a1 a2 a3 a4 a5 a6 a7 a8 a9 a10 b0 b1 b2 b3 b4 b5 b6 b7 b8 b9 b10 := by
  simp only [impl_Meet.f, impl_KnowOk.f, Option.bind_some]
  cases hA : (List.range 11).all (okAt (ints a0 a1 a2 a3 a4 a5 a6 a7 a8 a9 a10)) <;> cases hB : (List.range 11).all (okAt (ints b0 b1 b2 b3 b4 b5 b6 b7 b8 b9 b10))
  · rfl
  · rfl
  · rfl
  · have hc : (List.range 11).all (fun i => fits1 (pAt (ints b0 b1 b2 b3 b4 b5 b6 b7 b8 b9 b10) i) (pAt (ints a0 a1 a2 a3 a4 a5 a6 a7 a8 a9 a10) i)) = (List.range 11).all (fun i => fits1 (pAt (ints a0 a1 a2 a3 a4 a5 a6 a7 a8 a9 a10) i) (pAt (ints b0 b1 b2 b3 b4 b5 b6 b7 b8 b9 b10) i)) := by
      congr 1; funext i; exact fits_comm _ _
    simp only [if_true, hc]
    by_cases hF : (List.range 11).all (fun i => fits1 (pAt (ints a0 a1 a2 a3 a4 a5 a6 a7 a8 a9 a10) i) (pAt (ints b0 b1 b2 b3 b4 b5 b6 b7 b8 b9 b10) i)) = true
    · rw [if_pos hF, if_pos hF]
      have hm : ∀ i, i < 11 → meet1 (pAt (ints b0 b1 b2 b3 b4 b5 b6 b7 b8 b9 b10) i) (pAt (ints a0 a1 a2 a3 a4 a5 a6 a7 a8 a9 a10) i) = meet1 (pAt (ints a0 a1 a2 a3 a4 a5 a6 a7 a8 a9 a10) i) (pAt (ints b0 b1 b2 b3 b4 b5 b6 b7 b8 b9 b10) i) := fun i hi => meet1_comm (ok_low (all_get hA i hi)) (ok_low (all_get hB i hi)) (all_get (p := fun i => fits1 (pAt (ints a0 a1 a2 a3 a4 a5 a6 a7 a8 a9 a10) i) (pAt (ints b0 b1 b2 b3 b4 b5 b6 b7 b8 b9 b10) i)) hF i hi)
      have e0 := hm 0 (by omega)
      have e1 := hm 1 (by omega)
      have e2 := hm 2 (by omega)
      have e3 := hm 3 (by omega)
      have e4 := hm 4 (by omega)
      have e5 := hm 5 (by omega)
      have e6 := hm 6 (by omega)
      have e7 := hm 7 (by omega)
      have e8 := hm 8 (by omega)
      have e9 := hm 9 (by omega)
      have e10 := hm 10 (by omega)
      simp only [pAt, ints, List.getD_cons_zero, List.getD_cons_succ] at e0 e1 e2 e3 e4 e5 e6 e7 e8 e9 e10
      rw [e0, e1, e2, e3, e4, e5, e6, e7, e8, e9, e10]
    · rw [if_neg hF, if_neg hF]
theorem meet_self (a0 a1 a2 a3 a4 a5 a6 a7 a8 a9 a10 : Int) (hA : (List.range 11).all (okAt (ints a0 a1 a2 a3 a4 a5 a6 a7 a8 a9 a10)) = true) : impl_Meet.f a0 a1 a2 a3 a4 a5 a6 a7 a8 a9 a10 a0 a1 a2 a3 a4 a5 a6 a7 a8 a9 a10 = some (a0, a1, a2, a3, a4, a5, a6, a7, a8, a9, a10, true) := by
  have hF : (List.range 11).all (fun i => fits1 (pAt (ints a0 a1 a2 a3 a4 a5 a6 a7 a8 a9 a10) i) (pAt (ints a0 a1 a2 a3 a4 a5 a6 a7 a8 a9 a10) i)) = true := all_yes _ (fun i _ => fits1_self _)
  simp only [impl_Meet.f, impl_KnowOk.f, Option.bind_some, hA, hF, if_true, meet1_self]
theorem meet_law (a0 a1 a2 a3 a4 a5 a6 a7 a8 a9 a10 b0 b1 b2 b3 b4 b5 b6 b7 b8 b9 b10 : Int) : ∃ (m0 m1 m2 m3 m4 m5 m6 m7 m8 m9 m10 : Int) (ok : Bool), impl_Meet.f a0 a1 a2 a3 a4 a5 a6 a7 a8 a9 a10 b0 b1 b2 b3 b4 b5 b6 b7 b8 b9 b10 = some (m0, m1, m2, m3, m4, m5, m6, m7, m8, m9, m10, ok) ∧
    (ok = false → m0 = 0 ∧ m1 = 0 ∧ m2 = 0 ∧ m3 = 0 ∧ m4 = 0 ∧ m5 = 0 ∧ m6 = 0 ∧ m7 = 0 ∧ m8 = 0 ∧ m9 = 0 ∧ m10 = 0) ∧
    (ok = true → impl_Meet.f a0 a1 a2 a3 a4 a5 a6 a7 a8 a9 a10 a0 a1 a2 a3 a4 a5 a6 a7 a8 a9 a10 = some (a0, a1, a2, a3, a4, a5, a6, a7, a8, a9, a10, true) ∧ impl_Less.f a0 a1 a2 a3 a4 a5 a6 a7 a8 a9 a10 m0 m1 m2 m3 m4 m5 m6 m7 m8 m9 m10 = some true ∧ impl_Less.f b0 b1 b2 b3 b4 b5 b6 b7 b8 b9 b10 m0 m1 m2 m3 m4 m5 m6 m7 m8 m9 m10 = some true ∧
      ∃ n na nb : Int, impl_Known.f m0 m1 m2 m3 m4 m5 m6 m7 m8 m9 m10 = some n ∧ impl_Known.f a0 a1 a2 a3 a4 a5 a6 a7 a8 a9 a10 = some na ∧ impl_Known.f b0 b1 b2 b3 b4 b5 b6 b7 b8 b9 b10 = some nb ∧ na ≤ n ∧ nb ≤ n) := by
  by_cases hA : (List.range 11).all (okAt (ints a0 a1 a2 a3 a4 a5 a6 a7 a8 a9 a10)) = true
  · by_cases hB : (List.range 11).all (okAt (ints b0 b1 b2 b3 b4 b5 b6 b7 b8 b9 b10)) = true
    · by_cases hF : (List.range 11).all (fun i => fits1 (pAt (ints a0 a1 a2 a3 a4 a5 a6 a7 a8 a9 a10) i) (pAt (ints b0 b1 b2 b3 b4 b5 b6 b7 b8 b9 b10) i)) = true
      · refine ⟨meet1 a0 b0, meet1 a1 b1, meet1 a2 b2, meet1 a3 b3, meet1 a4 b4, meet1 a5 b5, meet1 a6 b6, meet1 a7 b7, meet1 a8 b8, meet1 a9 b9, meet1 a10 b10, true, ?_, fun e => absurd e (by decide), fun _ => ?_⟩
        · simp only [impl_Meet.f, impl_KnowOk.f, Option.bind_some, hA, hB, hF, if_true]
        · have hM := ok_M a0 a1 a2 a3 a4 a5 a6 a7 a8 a9 a10 b0 b1 b2 b3 b4 b5 b6 b7 b8 b9 b10 hA hB
          have la := less_a a0 a1 a2 a3 a4 a5 a6 a7 a8 a9 a10 b0 b1 b2 b3 b4 b5 b6 b7 b8 b9 b10 hF
          have lb := less_b a0 a1 a2 a3 a4 a5 a6 a7 a8 a9 a10 b0 b1 b2 b3 b4 b5 b6 b7 b8 b9 b10 hF
          refine ⟨meet_self a0 a1 a2 a3 a4 a5 a6 a7 a8 a9 a10 hA, ?_, ?_, knownUp (ints (meet1 a0 b0) (meet1 a1 b1) (meet1 a2 b2) (meet1 a3 b3) (meet1 a4 b4) (meet1 a5 b5) (meet1 a6 b6) (meet1 a7 b7) (meet1 a8 b8) (meet1 a9 b9) (meet1 a10 b10)) 11, knownUp (ints a0 a1 a2 a3 a4 a5 a6 a7 a8 a9 a10) 11, knownUp (ints b0 b1 b2 b3 b4 b5 b6 b7 b8 b9 b10) 11, ?_, ?_, ?_, ?_, ?_⟩
          · simp only [impl_Less.f, impl_KnowOk.f, impl_less.f, Option.bind_some, hA, hM, la, if_true]
          · simp only [impl_Less.f, impl_KnowOk.f, impl_less.f, Option.bind_some, hB, hM, lb, if_true]
          · simp only [impl_Known.f, impl_KnowOk.f, Option.bind_some, hM, if_true]
          · simp only [impl_Known.f, impl_KnowOk.f, Option.bind_some, hA, if_true]
          · simp only [impl_Known.f, impl_KnowOk.f, Option.bind_some, hB, if_true]
          · exact known_le _ _ (fun i hi h0 => by rw [← less_nonneg la i hi h0]; exact h0) 11 (Nat.le_refl _)
          · exact known_le _ _ (fun i hi h0 => by rw [← less_nonneg lb i hi h0]; exact h0) 11 (Nat.le_refl _)
      · refine ⟨0, 0, 0, 0, 0, 0, 0, 0, 0, 0, 0, false, ?_, fun _ => by simp, fun e => absurd e (by decide)⟩
        simp only [impl_Meet.f, impl_KnowOk.f, Option.bind_some, hA, hB, if_true]
        exact if_neg hF
    · refine ⟨0, 0, 0, 0, 0, 0, 0, 0, 0, 0, 0, false, ?_, fun _ => by simp, fun e => absurd e (by decide)⟩
      simp only [impl_Meet.f, impl_KnowOk.f, Option.bind_some, hA, if_true]
      exact if_neg hB
  · refine ⟨0, 0, 0, 0, 0, 0, 0, 0, 0, 0, 0, false, ?_, fun _ => by simp, fun e => absurd e (by decide)⟩
    simp only [impl_Meet.f, impl_KnowOk.f, Option.bind_some]
    exact if_neg hA
end Go.Proofs.Ytecccbecflbcfaa.Pure
