import Derived.Test.YthdeemkhbajfgaaSUWMore
import Derived.OpenShut
namespace Go.Proofs.Ythdeemkhbajfgaa.Plain
open Go.RowKit Go.Proofs.YthdeemkhbajfgaaW.PrintWords Go.Proofs.YthdeemkhbajfgaaW.PrintLast Go.Proofs.YthdeemkhbajfgaaW.PrintMore
theorem loop_run {σ ρ : Type} (F : Nat → σ → Int → Option ρ) (S : Nat → σ) (n : Nat) (r : ρ) (step : ∀ k i : Nat, i < n → F (k + 1) (S i) (i : Int) = F k (S (i + 1)) ((i + 1 : Nat) : Int)) (stop : ∀ k : Nat, F (k + 1) (S n) (n : Int) = some r) :
    ∀ k, n < k → F k (S 0) 0 = some r := by
  have key : ∀ d i k : Nat, i + d = n → d < k → F k (S i) (i : Int) = some r := by
    intro d
    induction d with
    | zero =>
      intro i k hi hk
      obtain ⟨k, rfl⟩ : ∃ m, k = m + 1 := ⟨k - 1, by omega⟩
      obtain rfl : i = n := by omega
      exact stop k
    | succ d ih =>
      intro i k hi hk
      obtain ⟨k, rfl⟩ : ∃ m, k = m + 1 := ⟨k - 1, by omega⟩
      rw [step k i (by omega)]
      exact ih (i + 1) k (by omega) (by omega)
  intro k hk
  exact key n 0 k (by omega) hk
theorem w64 {x : Int} (h0 : -9223372036854775808 ≤ x) (h1 : x ≤ 9223372036854775807) : wrap64 x = x := by unfold wrap64; omega
theorem wsucc {i : Nat} (h : i < 9223372036854775807) : wrap64 ((i : Int) + 1) = ((i + 1 : Nat) : Int) := by unfold wrap64; omega
theorem getD_lt {α : Type} (l : List α) (d : α) (i : Nat) (h : i < l.length) : l.getD i d = l[i] := by
  rw [List.getD_eq_getElem?_getD, List.getElem?_eq_getElem h]; rfl
theorem rd_nat (l : List Int) (i : Nat) (h : i < l.length) : rd l (i : Int) = l[i] := getD_lt l 0 i h
def Mix {α : Type} (new old : List α) (i : Nat) : List α := new.take i ++ old.drop i
theorem mix_zero {α : Type} (new old : List α) : Mix new old 0 = old := by simp [Mix]
theorem mix_full {α : Type} (new old : List α) (h : new.length = old.length) : Mix new old new.length = new := by
  simp only [Mix, List.take_length]
  rw [h, List.drop_length, List.append_nil]
theorem mix_length {α : Type} (new old : List α) (h : new.length = old.length) (i : Nat) : (Mix new old i).length = new.length := by
  simp only [Mix, List.length_append, List.length_take, List.length_drop]; omega
theorem mix_set {α : Type} (new old : List α) (h : new.length = old.length) (i : Nat) (hi : i < new.length) (v : α) (hv : v = new[i]) : (Mix new old i).set i v = Mix new old (i + 1) := by
  subst hv
  apply List.ext_getElem?
  intro j
  simp only [Mix]
  by_cases hj : j = i
  · subst hj
    rw [List.getElem?_set_self (by simp only [List.length_append, List.length_take, List.length_drop]; omega), List.getElem?_append_left (by simp only [List.length_take]; omega), List.getElem?_take, if_pos (by omega), List.getElem?_eq_getElem hi]
  · rw [List.getElem?_set_ne (by omega)]
    rcases Nat.lt_or_ge j i with hlt | hge
    · rw [List.getElem?_append_left (by simp only [List.length_take]; omega), List.getElem?_append_left (by simp only [List.length_take]; omega), List.getElem?_take, List.getElem?_take, if_pos hlt, if_pos (by omega)]
    · rw [List.getElem?_append_right (by simp only [List.length_take]; omega), List.getElem?_append_right (by simp only [List.length_take]; omega)]
      simp only [List.length_take, List.getElem?_drop]
      rw [show i + (j - min i new.length) = j by omega, show i + 1 + (j - min (i + 1) new.length) = j by omega]
theorem set_int {α : Type} (l : List α) (i : Nat) (v : α) : l.set ((i : Int)).toNat v = l.set i v := by simp
end Go.Proofs.Ythdeemkhbajfgaa.Plain
