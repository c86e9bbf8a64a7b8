import Derived.Test.YtecccbecflbcfaaSLPureDuoBase
import Derived.Test.YtecccbecflbcfaaSLMyDuoLess
import Derived.Test.YtecccbecflbcfaaSLPDuox17
import Derived.Test.YtecccbecflbcfaaSLPDuox3
namespace Go.Proofs.Ytecccbecflbcfaa.Pure
open Go.RowKit Go.Proofs.Ytecccbecflbcfaa.PDuo Go.Proofs.Ytecccbecflbcfaa.Know Go.Proofs.Ytecccbecflbcfaa.Plain Go.Proofs.YtecccbecflbcfaaW.PrintWords Go.Proofs.YtecccbecflbcfaaW.PrintLast Go.Proofs.YtecccbecflbcfaaW.PrintMore
theorem specLess_eq (a0 a1 a2 a3 a4 a5 a6 a7 a8 a9 a10 b0 b1 b2 b3 b4 b5 b6 b7 b8 b9 b10 : Int) (k : Nat) (hk : 30 < k) : spec_Less.f k a0 a1 a2 a3 a4 a5 a6 a7 a8 a9 a10 b0 b1 b2 b3 b4 b5 b6 b7 b8 b9 b10 = impl_Less.f a0 a1 a2 a3 a4 a5 a6 a7 a8 a9 a10 b0 b1 b2 b3 b4 b5 b6 b7 b8 b9 b10 := by
  have hA : ∀ k, 13 < k + 1 → spec_KnowOk.f k a0 a1 a2 a3 a4 a5 a6 a7 a8 a9 a10 = some ((List.range 11).all (okAt (ints a0 a1 a2 a3 a4 a5 a6 a7 a8 a9 a10))) := fun k hk => specOk_eq a0 a1 a2 a3 a4 a5 a6 a7 a8 a9 a10 k (by omega)
  have hB : ∀ k, 13 < k + 1 → spec_KnowOk.f k b0 b1 b2 b3 b4 b5 b6 b7 b8 b9 b10 = some ((List.range 11).all (okAt (ints b0 b1 b2 b3 b4 b5 b6 b7 b8 b9 b10))) := fun k hk => specOk_eq b0 b1 b2 b3 b4 b5 b6 b7 b8 b9 b10 k (by omega)
  unfold spec_Less.f
  simp only [spec_l09List.f, Option.bind_some]
  have := all_run0 (fun k i => spec_Less.l0 k (ints a0 a1 a2 a3 a4 a5 a6 a7 a8 a9 a10) (ints b0 b1 b2 b3 b4 b5 b6 b7 b8 b9 b10) i a0 a1 a2 a3 a4 a5 a6 a7 a8 a9 a10 b0 b1 b2 b3 b4 b5 b6 b7 b8 b9 b10) (lessAt (ints a0 a1 a2 a3 a4 a5 a6 a7 a8 a9 a10) (ints b0 b1 b2 b3 b4 b5 b6 b7 b8 b9 b10)) 11 13 ((List.range 11).all (okAt (ints a0 a1 a2 a3 a4 a5 a6 a7 a8 a9 a10)) && (List.range 11).all (okAt (ints b0 b1 b2 b3 b4 b5 b6 b7 b8 b9 b10))) ?_ ?_ k (by omega)
  · refine Eq.trans this ?_
    simp only [impl_Less.f, impl_KnowOk.f, impl_less.f, Option.bind_some]
    cases (List.range 11).all (okAt (ints a0 a1 a2 a3 a4 a5 a6 a7 a8 a9 a10)) <;> cases (List.range 11).all (okAt (ints b0 b1 b2 b3 b4 b5 b6 b7 b8 b9 b10)) <;> simp
  · intro k i hi
    have c1 : (i : Int) < ((11 : Nat) : Int) := by omega
    have c2 : 0 ≤ (i : Int) := by omega
    simp only [spec_Less.l0, ints_len]
    refine (if_pos (by omega)).trans ((if_pos (by omega)).trans ?_)
    rw [rd_pAt, rd_pAt, wsucc (by omega)]
    simp only [lessAt]
    by_cases h0 : pAt (ints a0 a1 a2 a3 a4 a5 a6 a7 a8 a9 a10) i ≥ 0
    · refine (if_pos h0).trans ((if_pos (by omega)).trans ?_)
      by_cases he : pAt (ints a0 a1 a2 a3 a4 a5 a6 a7 a8 a9 a10) i = pAt (ints b0 b1 b2 b3 b4 b5 b6 b7 b8 b9 b10) i
      · rw [if_pos he]; simp [he]
      · rw [if_neg he]; simp [he, h0]
    · refine (if_neg h0).trans ?_; simp [h0]
  · intro k hk
    simp only [spec_Less.l0, ints_len]
    refine (if_neg (by simp)).trans ?_
    rw [hA k (by omega), Option.bind_some, hB k (by omega)]
    cases (List.range 11).all (okAt (ints a0 a1 a2 a3 a4 a5 a6 a7 a8 a9 a10)) <;> cases (List.range 11).all (okAt (ints b0 b1 b2 b3 b4 b5 b6 b7 b8 b9 b10)) <;> simp
end Go.Proofs.Ytecccbecflbcfaa.Pure
