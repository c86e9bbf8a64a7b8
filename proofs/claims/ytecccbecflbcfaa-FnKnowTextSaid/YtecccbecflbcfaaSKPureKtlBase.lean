import Derived.Test.YtecccbecflbcfaaSKMyLoops
import Derived.Test.YtecccbecflbcfaaSKMyFields
import Derived.Test.YtecccbecflbcfaaSKMyKtlKnowOk
import Derived.Test.YtecccbecflbcfaaSKPKtlx4
namespace Go.Proofs.Ytecccbecflbcfaa.Pure
open Go.RowKit Go.Proofs.Ytecccbecflbcfaa.PKtl Go.Proofs.Ytecccbecflbcfaa.Know Go.Proofs.Ytecccbecflbcfaa.Plain Go.Proofs.YtecccbecflbcfaaW.PrintWords Go.Proofs.YtecccbecflbcfaaW.PrintLast Go.Proofs.YtecccbecflbcfaaW.PrintMore
theorem all_run (F : Nat → Int → Option Bool) (p : Nat → Bool) (n m : Nat) (r : Bool) (step : ∀ k i : Nat, i < n → F (k + 1) (i : Int) = if p i = true then F k ((i + 1 : Nat) : Int) else some false) (stop : ∀ k, m < k → F (k + 1) (n : Int) = some r) :
    ∀ d i k : Nat, i + d = n → d + m + 1 < k → F k (i : Int) = some ((List.range' i d).all p && r)
  | 0, i, k, hd, hk => by
    obtain ⟨k, rfl⟩ : ∃ j, k = j + 1 := ⟨k - 1, by omega⟩
    have : i = n := by omega
    subst this
    rw [stop k (by omega)]
    simp
  | d + 1, i, k, hd, hk => by
    obtain ⟨k, rfl⟩ : ∃ j, k = j + 1 := ⟨k - 1, by omega⟩
    rw [step k i (by omega)]
    have ih := all_run F p n m r step stop d (i + 1) k (by omega) (by omega)
    by_cases hp : p i = true
    · rw [if_pos hp, ih]
      simp [List.range'_succ, hp]
    · rw [if_neg hp]
      simp [List.range'_succ, Bool.eq_false_iff.mpr hp]
theorem all_run0 (F : Nat → Int → Option Bool) (p : Nat → Bool) (n m : Nat) (r : Bool) (step : ∀ k i : Nat, i < n → F (k + 1) (i : Int) = if p i = true then F k ((i + 1 : Nat) : Int) else some false) (stop : ∀ k, m < k → F (k + 1) (n : Int) = some r) (k : Nat) (hk : n + m + 1 < k) :
    F k 0 = some ((List.range n).all p && r) := by
  have := all_run F p n m r step stop n 0 k (by omega) (by omega)
  rw [List.range_eq_range']
  exact this
theorem ints_len (a0 a1 a2 a3 a4 a5 a6 a7 a8 a9 a10 : Int) : (ints a0 a1 a2 a3 a4 a5 a6 a7 a8 a9 a10).length = 11 := rfl
theorem rd_pAt (l : List Int) (i : Nat) : rd l (i : Int) = pAt l i := by simp [rd, pAt]
theorem most_lim (i : Nat) : spec_l09Most.f (i : Int) = some (lim i) := by
  simp only [spec_l09Most.f, lim]
  by_cases h4 : i < 4
  · rw [if_pos h4, if_pos (by omega)]
  · rw [if_neg h4, if_neg (by omega)]
    by_cases h5 : i = 4
    · subst h5; rfl
    · rw [if_neg h5, if_neg (by omega)]
theorem in_ok (x m : Int) : spec_l01In.f x (-1) m = some (decide (-1 ≤ x) && decide (x ≤ m)) := by
  simp only [spec_l01In.f]
  by_cases hx : x ≥ -1
  · rw [if_pos hx]
    have : -1 ≤ x := hx
    simp [this]
  · rw [if_neg hx]
    have : ¬ -1 ≤ x := hx
    simp [this]
theorem specOk_eq (a0 a1 a2 a3 a4 a5 a6 a7 a8 a9 a10 : Int) (k : Nat) (hk : 12 < k) : spec_KnowOk.f k a0 a1 a2 a3 a4 a5 a6 a7 a8 a9 a10 = some ((List.range 11).all (okAt (ints a0 a1 a2 a3 a4 a5 a6 a7 a8 a9 a10))) := by
  unfold spec_KnowOk.f
  simp only [spec_l09List.f, Option.bind_some]
  have := all_run0 (fun k i => spec_KnowOk.l0 k (ints a0 a1 a2 a3 a4 a5 a6 a7 a8 a9 a10) i) (okAt (ints a0 a1 a2 a3 a4 a5 a6 a7 a8 a9 a10)) 11 0 true ?_ ?_ k (by omega)
  · refine Eq.trans this (by simp)
  · intro k i hi
    have c1 : (i : Int) < ((11 : Nat) : Int) := by omega
    have c2 : 0 ≤ (i : Int) := by omega
    simp only [spec_KnowOk.l0, ints_len]
    refine (if_pos (by omega)).trans ((if_pos (by omega)).trans ?_)
    rw [most_lim, Option.bind_some, rd_pAt, in_ok, Option.bind_some, wsucc (by omega)]
    rfl
  · intro k _
    simp [spec_KnowOk.l0, ints_len]
end Go.Proofs.Ytecccbecflbcfaa.Pure
