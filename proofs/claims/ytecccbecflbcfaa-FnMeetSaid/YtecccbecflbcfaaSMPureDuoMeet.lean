import Derived.Test.YtecccbecflbcfaaSMPureDuoBase
import Derived.Test.YtecccbecflbcfaaSMMyDuoMeet
import Derived.Test.YtecccbecflbcfaaSMPDuox6
namespace Go.Proofs.Ytecccbecflbcfaa.Pure
open Go.RowKit Go.Proofs.Ytecccbecflbcfaa.PDuo Go.Proofs.Ytecccbecflbcfaa.Know Go.Proofs.Ytecccbecflbcfaa.Plain Go.Proofs.YtecccbecflbcfaaW.PrintWords Go.Proofs.YtecccbecflbcfaaW.PrintLast Go.Proofs.YtecccbecflbcfaaW.PrintMore
def fitAt (a b : List Int) (i : Nat) : Bool := fits1 (pAt a i) (pAt b i)
theorem meet_run (a0 a1 a2 a3 a4 a5 a6 a7 a8 a9 a10 b0 b1 b2 b3 b4 b5 b6 b7 b8 b9 b10 : Int) : ∀ d i k : Nat, i + d = 11 → 2 * d + 1 < k → spec_Meet.l0 k (mixUp (ints a0 a1 a2 a3 a4 a5 a6 a7 a8 a9 a10) (ints b0 b1 b2 b3 b4 b5 b6 b7 b8 b9 b10) i) (ints b0 b1 b2 b3 b4 b5 b6 b7 b8 b9 b10) (i : Int) = if (List.range' i d).all (fitAt (ints a0 a1 a2 a3 a4 a5 a6 a7 a8 a9 a10) (ints b0 b1 b2 b3 b4 b5 b6 b7 b8 b9 b10)) = true then some (meet1 a0 b0, meet1 a1 b1, meet1 a2 b2, meet1 a3 b3, meet1 a4 b4, meet1 a5 b5, meet1 a6 b6, meet1 a7 b7, meet1 a8 b8, meet1 a9 b9, meet1 a10 b10, true) else some (0, 0, 0, 0, 0, 0, 0, 0, 0, 0, 0, false)
  | 0, i, k, hd, hk => by
    obtain ⟨k, rfl⟩ : ∃ j, k = j + 1 := ⟨k - 1, by omega⟩
    have : i = 11 := by omega
    subst this
    simp only [spec_Meet.l0, mixUp_len]
    refine (if_neg (by simp)).trans ?_
    rfl
  | d + 1, i, k, hd, hk => by
    obtain ⟨k, rfl⟩ : ∃ j, k = j + 1 + 1 := ⟨k - 2, by omega⟩
    have hi : i < 11 := by omega
    have ih := meet_run a0 a1 a2 a3 a4 a5 a6 a7 a8 a9 a10 b0 b1 b2 b3 b4 b5 b6 b7 b8 b9 b10 d (i + 1) k (by omega) (by omega)
    have hM := mixUp_set (ints a0 a1 a2 a3 a4 a5 a6 a7 a8 a9 a10) (ints b0 b1 b2 b3 b4 b5 b6 b7 b8 b9 b10) i hi
    have hK := mixUp_keep (ints a0 a1 a2 a3 a4 a5 a6 a7 a8 a9 a10) (ints b0 b1 b2 b3 b4 b5 b6 b7 b8 b9 b10) i hi
    have hF : (List.range' i (d + 1)).all (fitAt (ints a0 a1 a2 a3 a4 a5 a6 a7 a8 a9 a10) (ints b0 b1 b2 b3 b4 b5 b6 b7 b8 b9 b10)) = (fitAt (ints a0 a1 a2 a3 a4 a5 a6 a7 a8 a9 a10) (ints b0 b1 b2 b3 b4 b5 b6 b7 b8 b9 b10) i && (List.range' (i + 1) d).all (fitAt (ints a0 a1 a2 a3 a4 a5 a6 a7 a8 a9 a10) (ints b0 b1 b2 b3 b4 b5 b6 b7 b8 b9 b10))) := by rw [List.range'_succ]; rfl
    rw [hF]
    have hj : ∀ b : Bool, b = (!fitAt (ints a0 a1 a2 a3 a4 a5 a6 a7 a8 a9 a10) (ints b0 b1 b2 b3 b4 b5 b6 b7 b8 b9 b10) i) → spec_Meet.j2 (k + 1) (mixUp (ints a0 a1 a2 a3 a4 a5 a6 a7 a8 a9 a10) (ints b0 b1 b2 b3 b4 b5 b6 b7 b8 b9 b10) i) (ints b0 b1 b2 b3 b4 b5 b6 b7 b8 b9 b10) (i : Int) b = if (fitAt (ints a0 a1 a2 a3 a4 a5 a6 a7 a8 a9 a10) (ints b0 b1 b2 b3 b4 b5 b6 b7 b8 b9 b10) i && (List.range' (i + 1) d).all (fitAt (ints a0 a1 a2 a3 a4 a5 a6 a7 a8 a9 a10) (ints b0 b1 b2 b3 b4 b5 b6 b7 b8 b9 b10))) = true then some (meet1 a0 b0, meet1 a1 b1, meet1 a2 b2, meet1 a3 b3, meet1 a4 b4, meet1 a5 b5, meet1 a6 b6, meet1 a7 b7, meet1 a8 b8, meet1 a9 b9, meet1 a10 b10, true) else some (0, 0, 0, 0, 0, 0, 0, 0, 0, 0, 0, false) := by
      intro b hb
      simp only [spec_Meet.j2, mixUp_len, ints_len]
      cases hf : fitAt (ints a0 a1 a2 a3 a4 a5 a6 a7 a8 a9 a10) (ints b0 b1 b2 b3 b4 b5 b6 b7 b8 b9 b10) i with
      | false => rw [hf] at hb; subst hb; rfl
      | true =>
        rw [hf] at hb
        subst hb
        refine (if_neg (by simp)).trans ((if_pos (by omega)).trans ((if_pos (by omega)).trans ?_))
        rw [rd_pAt, rd_pAt, mixUp_at (ints a0 a1 a2 a3 a4 a5 a6 a7 a8 a9 a10) (ints b0 b1 b2 b3 b4 b5 b6 b7 b8 b9 b10) i hi, wsucc (by omega), set_int]
        rw [Bool.true_and, ← ih]
        by_cases h0 : pAt (ints a0 a1 a2 a3 a4 a5 a6 a7 a8 a9 a10) i < 0
        · refine (if_pos h0).trans ((if_pos (by omega)).trans ?_)
          have hm : meet1 (pAt (ints a0 a1 a2 a3 a4 a5 a6 a7 a8 a9 a10) i) (pAt (ints b0 b1 b2 b3 b4 b5 b6 b7 b8 b9 b10) i) = pAt (ints b0 b1 b2 b3 b4 b5 b6 b7 b8 b9 b10) i := if_pos h0
          rw [← hM, hm]
        · refine (if_neg h0).trans ?_
          rw [← hK (if_neg h0)]
    simp only [spec_Meet.l0, mixUp_len, ints_len]
    refine (if_pos (by omega)).trans ((if_pos (by omega)).trans ?_)
    rw [rd_pAt, rd_pAt, mixUp_at (ints a0 a1 a2 a3 a4 a5 a6 a7 a8 a9 a10) (ints b0 b1 b2 b3 b4 b5 b6 b7 b8 b9 b10) i hi]
    by_cases h0 : pAt (ints a0 a1 a2 a3 a4 a5 a6 a7 a8 a9 a10) i ≥ 0
    · refine (if_pos h0).trans ((if_pos (by omega)).trans ?_)
      by_cases h1 : pAt (ints b0 b1 b2 b3 b4 b5 b6 b7 b8 b9 b10) i ≥ 0
      · refine (if_pos h1).trans ?_
        refine hj _ ?_
        have n0 : ¬ pAt (ints a0 a1 a2 a3 a4 a5 a6 a7 a8 a9 a10) i < 0 := by omega
        simp only [fitAt, fits1]
        rw [decide_eq_false n0, decide_eq_true h1]
        by_cases he : pAt (ints a0 a1 a2 a3 a4 a5 a6 a7 a8 a9 a10) i = pAt (ints b0 b1 b2 b3 b4 b5 b6 b7 b8 b9 b10) i
        · simp [he]
        · have he' : ¬ pAt (ints b0 b1 b2 b3 b4 b5 b6 b7 b8 b9 b10) i = pAt (ints a0 a1 a2 a3 a4 a5 a6 a7 a8 a9 a10) i := fun e => he e.symm
          rw [show (pAt (ints a0 a1 a2 a3 a4 a5 a6 a7 a8 a9 a10) i != pAt (ints b0 b1 b2 b3 b4 b5 b6 b7 b8 b9 b10) i) = true from bne_iff_ne.mpr he, show (pAt (ints b0 b1 b2 b3 b4 b5 b6 b7 b8 b9 b10) i != pAt (ints a0 a1 a2 a3 a4 a5 a6 a7 a8 a9 a10) i) = true from bne_iff_ne.mpr he']; rfl
      · refine (if_neg h1).trans (hj _ ?_)
        simp only [fitAt, fits1]
        rw [decide_eq_false h1]
        simp
    · refine (if_neg h0).trans (hj _ ?_)
      have n0 : pAt (ints a0 a1 a2 a3 a4 a5 a6 a7 a8 a9 a10) i < 0 := by omega
      simp only [fitAt, fits1]
      rw [decide_eq_true n0]
      simp
theorem specMeet_eq (a0 a1 a2 a3 a4 a5 a6 a7 a8 a9 a10 b0 b1 b2 b3 b4 b5 b6 b7 b8 b9 b10 : Int) (k : Nat) (hk : 40 < k) : spec_Meet.f k a0 a1 a2 a3 a4 a5 a6 a7 a8 a9 a10 b0 b1 b2 b3 b4 b5 b6 b7 b8 b9 b10 = impl_Meet.f a0 a1 a2 a3 a4 a5 a6 a7 a8 a9 a10 b0 b1 b2 b3 b4 b5 b6 b7 b8 b9 b10 := by
  obtain ⟨k, rfl⟩ : ∃ j, k = j + 1 := ⟨k - 1, by omega⟩
  simp only [spec_Meet.f, impl_Meet.f, ok_same a0 a1 a2 a3 a4 a5 a6 a7 a8 a9 a10 (k + 1) (by omega), ok_same b0 b1 b2 b3 b4 b5 b6 b7 b8 b9 b10 (k + 1) (by omega), impl_KnowOk.f, Option.bind_some, spec_Meet.j0, spec_l09List.f]
  have hr := meet_run a0 a1 a2 a3 a4 a5 a6 a7 a8 a9 a10 b0 b1 b2 b3 b4 b5 b6 b7 b8 b9 b10 11 0 k (by omega) (by omega)
  have h0 : mixUp (ints a0 a1 a2 a3 a4 a5 a6 a7 a8 a9 a10) (ints b0 b1 b2 b3 b4 b5 b6 b7 b8 b9 b10) 0 = (ints a0 a1 a2 a3 a4 a5 a6 a7 a8 a9 a10) := rfl
  rw [h0, ← List.range_eq_range'] at hr
  cases (List.range 11).all (okAt (ints a0 a1 a2 a3 a4 a5 a6 a7 a8 a9 a10)) <;> cases (List.range 11).all (okAt (ints b0 b1 b2 b3 b4 b5 b6 b7 b8 b9 b10))
  · rfl
  · rfl
  · rfl
  · exact hr
end Go.Proofs.Ytecccbecflbcfaa.Pure
