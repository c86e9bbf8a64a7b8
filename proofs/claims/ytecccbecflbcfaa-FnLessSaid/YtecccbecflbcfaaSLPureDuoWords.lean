import Derived.Test.YtecccbecflbcfaaSLPureDuoBase
import Derived.Test.YtecccbecflbcfaaSLMyDuoMeet
import Derived.Test.YtecccbecflbcfaaSLPDuox0
import Derived.Test.YtecccbecflbcfaaSLPDuox4
import Derived.Test.YtecccbecflbcfaaSLPDuox5
import Derived.Test.YtecccbecflbcfaaSLPureDuoLess
import Derived.Test.YtecccbecflbcfaaSLMyDuoKnown
namespace Go.Proofs.Ytecccbecflbcfaa.Pure
open Go.RowKit Go.Proofs.Ytecccbecflbcfaa.PDuo Go.Proofs.Ytecccbecflbcfaa.Know Go.Proofs.Ytecccbecflbcfaa.Plain Go.Proofs.YtecccbecflbcfaaW.PrintWords Go.Proofs.YtecccbecflbcfaaW.PrintLast Go.Proofs.YtecccbecflbcfaaW.PrintMore
theorem all_get {p : Nat → Bool} (h : (List.range 11).all p = true) (i : Nat) (hi : i < 11) : p i = true := List.all_eq_true.mp h i (List.mem_range.2 hi)
theorem ok_low {l : List Int} {i : Nat} (h : okAt l i = true) : -1 ≤ pAt l i := by
  simp only [okAt, Bool.and_eq_true, decide_eq_true_eq] at h; exact h.1
theorem known_le (l m : List Int) (h : ∀ i, i < 11 → 0 ≤ pAt l i → 0 ≤ pAt m i) : ∀ n, n ≤ 11 → knownUp l n ≤ knownUp m n
  | 0, _ => Int.le_refl _
  | n + 1, hn => by
    have ih := known_le l m h n (by omega)
    have hb : 0 ≤ bitsAt n := by unfold bitsAt; (repeat' split) <;> omega
    simp only [knownUp]
    by_cases h0 : 0 ≤ pAt l n
    · rw [if_pos h0, if_pos (h n (by omega) h0)]; omega
    · rw [if_neg h0]; split <;> omega
theorem less_nonneg {l m : List Int} (h : (List.range 11).all (lessAt l m) = true) (i : Nat) (hi : i < 11) (h0 : 0 ≤ pAt l i) : pAt l i = pAt m i := by
  have := all_get h i hi
  simp only [lessAt] at this
  have h1 : decide (pAt l i ≥ 0) = true := decide_eq_true h0
  rw [h1] at this
  simpa using this
end Go.Proofs.Ytecccbecflbcfaa.Pure
