/- The plain side of FnExactKnown. -/
import Derived.Test.YtecccbecflbcfaaPureKnowBase
import Derived.Test.YtecccbecflbcfaaMyKnowKnown
import Derived.Test.YtecccbecflbcfaaPKnowx10
namespace Go.Proofs.Ytecccbecflbcfaa.Pure
open Go.RowKit Go.Proofs.Ytecccbecflbcfaa.PKnow Go.Proofs.Ytecccbecflbcfaa.Know Go.Proofs.Ytecccbecflbcfaa.Plain Go.Proofs.YtecccbecflbcfaaW.PrintWords Go.Proofs.YtecccbecflbcfaaW.PrintLast Go.Proofs.YtecccbecflbcfaaW.PrintMore

theorem specKnown_eq (a0 a1 a2 a3 a4 a5 a6 a7 a8 a9 a10 : Int) (k : Nat) (hk : 20 < k) : spec_Known.f k a0 a1 a2 a3 a4 a5 a6 a7 a8 a9 a10 = impl_Known.f a0 a1 a2 a3 a4 a5 a6 a7 a8 a9 a10 := by
  simp only [spec_Known.f, impl_Known.f, ok_same a0 a1 a2 a3 a4 a5 a6 a7 a8 a9 a10 k (by omega), impl_KnowOk.f, Option.bind_some, spec_l09List.f]
  congr 1
  have := loop_run (fun k x i => spec_Known.l0 k (ints a0 a1 a2 a3 a4 a5 a6 a7 a8 a9 a10) x i) (fun i => knownUp (ints a0 a1 a2 a3 a4 a5 a6 a7 a8 a9 a10) i) 11 (knownUp (ints a0 a1 a2 a3 a4 a5 a6 a7 a8 a9 a10) 11) ?_ ?_ k (by omega)
  · exact this
  · intro k i hi
    have hb := knownUp_bound (ints a0 a1 a2 a3 a4 a5 a6 a7 a8 a9 a10) i
    have c1 : (i : Int) < ((11 : Nat) : Int) := by omega
    have c2 : 0 ≤ (i : Int) := by omega
    simp only [spec_Known.l0, ints_len]
    refine (if_pos (by omega)).trans ((if_pos (by omega)).trans ?_)
    rw [rd_pAt, wsucc (by omega)]
    have hU : knownUp (ints a0 a1 a2 a3 a4 a5 a6 a7 a8 a9 a10) (i + 1) = if 0 ≤ pAt (ints a0 a1 a2 a3 a4 a5 a6 a7 a8 a9 a10) i then knownUp (ints a0 a1 a2 a3 a4 a5 a6 a7 a8 a9 a10) i + bitsAt i else knownUp (ints a0 a1 a2 a3 a4 a5 a6 a7 a8 a9 a10) i := rfl
    by_cases h0 : pAt (ints a0 a1 a2 a3 a4 a5 a6 a7 a8 a9 a10) i < 0
    · rw [if_pos h0, hU, if_neg (by omega)]
    · have hU2 : knownUp (ints a0 a1 a2 a3 a4 a5 a6 a7 a8 a9 a10) (i + 1) = knownUp (ints a0 a1 a2 a3 a4 a5 a6 a7 a8 a9 a10) i + bitsAt i := hU.trans (if_pos (Int.not_lt.1 h0))
      rw [if_neg h0, hU2]
      clear hU hU2
      generalize knownUp (ints a0 a1 a2 a3 a4 a5 a6 a7 a8 a9 a10) i = u at hb ⊢
      have hw : ∀ z : Int, 0 ≤ z → z ≤ 16 → wrap64 (u + z) = u + z := fun z z0 z1 => w64 (by omega) (by omega)
      by_cases h4 : i < 4
      · have e4 : bitsAt i = 8 := if_pos h4
        refine (if_pos (by omega)).trans ?_
        rw [hw 8 (by omega) (by omega), e4]
      · refine (if_neg (by omega)).trans ?_
        by_cases h5 : i = 4
        · have e4 : bitsAt i = 16 := by subst h5; rfl
          refine (if_pos (by omega)).trans ?_
          rw [hw 16 (by omega) (by omega), e4]
        · have e4 : bitsAt i = 1 := (if_neg h4).trans (if_neg h5)
          refine (if_neg (by omega)).trans ?_
          rw [hw 1 (by omega) (by omega), e4]
  · intro k
    simp [spec_Known.l0, ints_len]
theorem FnExactKnown : ∀ (a0_0 : Int) (a0_1 : Int) (a0_2 : Int) (a0_3 : Int) (a0_4 : Int) (a0_5 : Int) (a0_6 : Int) (a0_7 : Int) (a0_8 : Int) (a0_9 : Int) (a0_10 : Int), (Lit.int .i64 a0_0).wf = true → (Lit.int .i64 a0_1).wf = true → (Lit.int .i64 a0_2).wf = true → (Lit.int .i64 a0_3).wf = true → (Lit.int .i64 a0_4).wf = true → (Lit.int .i64 a0_5).wf = true → (Lit.int .i64 a0_6).wf = true → (Lit.int .i64 a0_7).wf = true → (Lit.int .i64 a0_8).wf = true → (Lit.int .i64 a0_9).wf = true → (Lit.int .i64 a0_10).wf = true → ∃ k, laws_FnExactKnown.f k a0_0 a0_1 a0_2 a0_3 a0_4 a0_5 a0_6 a0_7 a0_8 a0_9 a0_10 = some true := by
  intro a0 a1 a2 a3 a4 a5 a6 a7 a8 a9 a10
  intros
  refine ⟨40, ?_⟩
  have hr : ∃ r, impl_Known.f a0 a1 a2 a3 a4 a5 a6 a7 a8 a9 a10 = some r := by
    simp only [impl_Known.f, impl_KnowOk.f, Option.bind_some]
    split
    · exact ⟨_, rfl⟩
    · exact ⟨_, rfl⟩
  obtain ⟨r, hr⟩ := hr
  simp only [laws_FnExactKnown.f, laws_toKnow.f, Option.bind_some, specKnown_eq a0 a1 a2 a3 a4 a5 a6 a7 a8 a9 a10 40 (by omega), hr]
  simp
end Go.Proofs.Ytecccbecflbcfaa.Pure
