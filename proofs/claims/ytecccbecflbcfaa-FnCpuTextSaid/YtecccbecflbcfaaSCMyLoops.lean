import Derived.Test.YtecccbecflbcfaaSCWMore
import Derived.OpenShut
namespace Go.Proofs.Ytecccbecflbcfaa.Plain
open Go.RowKit Go.Proofs.YtecccbecflbcfaaW.PrintWords Go.Proofs.YtecccbecflbcfaaW.PrintLast Go.Proofs.YtecccbecflbcfaaW.PrintMore
theorem loop_run {σ ρ : Type} (F : Nat → σ → Int → Option ρ) (S : Nat → σ) (n : Nat) (r : ρ) (step : ∀ k i : Nat, i < n → F (k + 1) (S i) (i : Int) = F k (S (i + 1)) ((i + 1 : Nat) : Int)) (stop : ∀ k : Nat, F (k + 1) (S n) (n : Int) = some r) :
    ∀ k, n < k → F k (S 0) 0 = some r := by
  have key : ∀ d i k : Nat, i + d = n → d < k → F k (S i) (i : Int) = some r := by
    intro d
    induction d with
    | zero =>
      intro i k hi hk
      obtain ⟨k, rfl⟩ : ∃ m, k = m + 1 := ⟨k - 1, by omega⟩
      obtain rfl : i = n := by omega
      exact stop k
    | succ d ih =>
      intro i k hi hk
      obtain ⟨k, rfl⟩ : ∃ m, k = m + 1 := ⟨k - 1, by omega⟩
      rw [step k i (by omega)]
      exact ih (i + 1) k (by omega) (by omega)
  intro k hk
  exact key n 0 k (by omega) hk
theorem w64 {x : Int} (h0 : -9223372036854775808 ≤ x) (h1 : x ≤ 9223372036854775807) : wrap64 x = x := by unfold wrap64; omega
theorem wsucc {i : Nat} (h : i < 9223372036854775807) : wrap64 ((i : Int) + 1) = ((i + 1 : Nat) : Int) := by unfold wrap64; omega
theorem getD_lt {α : Type} (l : List α) (d : α) (i : Nat) (h : i < l.length) : l.getD i d = l[i] := by
  rw [List.getD_eq_getElem?_getD, List.getElem?_eq_getElem h]; rfl
end Go.Proofs.Ytecccbecflbcfaa.Plain
