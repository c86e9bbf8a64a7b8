/- Plain lemmas on decimal numerals: the reference's text of a number is the library's numeral. -/
import Derived.Test.YtchakfdnmabkjaaDoorMyStr
import Derived.Test.YtchakfdnmabkjaaDoorPDecx1
import Derived.Lib.ItoaNum
import Derived.Lib.AtoiTie
namespace Go.Proofs.YtchakfdnmabkjaaDoor.DecDec
open Go.RowKit Go.Proofs.YtchakfdnmabkjaaDoor.PDec Go.Proofs.YtchakfdnmabkjaaDoor.Plain Go.Proofs.YtchakfdnmabkjaaDoor.Str Go.Proofs.YtchakfdnmabkjaaDoorW.PrintWords Go.Proofs.YtchakfdnmabkjaaDoorW.PrintLast
open Go.Lib (decDigits itoa)

/-- The digits of a number, none of nought. -/
def dd (u : Nat) : List UInt8 := if u = 0 then [] else decDigits u
theorem decDigits_step (u : Nat) : decDigits u = if u < 10 then [UInt8.ofNat (48 + u)] else decDigits (u / 10) ++ [UInt8.ofNat (48 + u % 10)] := by
  rw [decDigits]
  split <;> rfl
theorem dd_step (u : Nat) (h : u ≠ 0) : dd u = dd (u / 10) ++ [UInt8.ofNat (48 + u % 10)] := by
  unfold dd
  rw [if_neg h, decDigits_step]
  by_cases hu : u < 10
  · rw [if_pos hu, if_pos (by omega), show u % 10 = u by omega]; rfl
  · rw [if_neg hu, if_neg (by omega)]
theorem cut_dec (m : Nat) (h : m < 10) : (⟨#[48, 49, 50, 51, 52, 53, 54, 55, 56, 57]⟩ : ByteArray).extract m (m + 1) = S [UInt8.ofNat (48 + m)] := by
  have key : ∀ m, m < 10 → (([48, 49, 50, 51, 52, 53, 54, 55, 56, 57] : List UInt8).drop m).take (m + 1 - m) = [UInt8.ofNat (48 + m)] := by decide
  rw [show (⟨#[48, 49, 50, 51, 52, 53, 54, 55, 56, 57]⟩ : ByteArray) = S [48, 49, 50, 51, 52, 53, 54, 55, 56, 57] from rfl, S_extract, key m h]
/-- The two ways of a digit. -/
theorem tmod_abs (m : Int) (h0 : -9223372036854775808 ≤ m) (h1 : m ≤ 9223372036854775807) :
    (Int.tmod m 10 < 0 → wrap64 (-(Int.tmod m 10)) = ((m.natAbs % 10 : Nat) : Int)) ∧ (¬ Int.tmod m 10 < 0 → Int.tmod m 10 = ((m.natAbs % 10 : Nat) : Int)) ∧ (wrap64 (Int.tdiv m 10)).natAbs = m.natAbs / 10 ∧ -9223372036854775808 ≤ wrap64 (Int.tdiv m 10) ∧ wrap64 (Int.tdiv m 10) ≤ 9223372036854775807 := by
  rcases Int.le_total 0 m with hm | hm
  · rw [Int.tmod_eq_emod_of_nonneg hm, Int.tdiv_eq_ediv_of_nonneg hm, w64 (x := m / 10) (by omega) (by omega)]
    omega
  · obtain ⟨n, rfl⟩ : ∃ n : Nat, m = -(n : Int) := ⟨m.natAbs, by omega⟩
    rw [Int.neg_tmod, Int.neg_tdiv, Int.tmod_eq_emod_of_nonneg (by omega), Int.tdiv_eq_ediv_of_nonneg (by omega), w64 (x := -((n : Int) / 10)) (by omega) (by omega), w64 (by omega) (by omega)]
    omega
def pre (x0 : Int) : List UInt8 := if x0 < 0 then [45] else []
theorem specDec_stop (x0 : Int) (acc : List UInt8) (k : Nat) (ha : acc.length ≤ 1000) : spec_DecText.l0 (k + 1) x0 (S acc) 0 = some (S (pre x0 ++ acc)) := by
  simp only [spec_DecText.l0]
  rw [if_pos trivial]
  unfold pre
  by_cases hx : x0 < 0
  · rw [if_pos hx, if_pos hx, if_pos (by simp only [S_size]; omega), show (⟨#[45]⟩ : ByteArray) = S [45] from rfl, S_append]
  · rw [if_neg hx, if_neg hx]; rfl
theorem specDec_step (x0 m : Int) (acc : List UInt8) (k : Nat) (hm : m ≠ 0) (h0 : -9223372036854775808 ≤ m) (h1 : m ≤ 9223372036854775807) (ha : acc.length ≤ 1000) :
    spec_DecText.l0 (k + 1) x0 (S acc) m = spec_DecText.l0 k x0 (S (UInt8.ofNat (48 + m.natAbs % 10) :: acc)) (wrap64 (Int.tdiv m 10)) := by
  obtain ⟨e1, e2, _, _, _⟩ := tmod_abs m h0 h1
  have hlt : m.natAbs % 10 < 10 := Nat.mod_lt _ (by decide)
  have hw : wrap64 (((m.natAbs % 10 : Nat) : Int) + 1) = ((m.natAbs % 10 + 1 : Nat) : Int) := by
    clear e1 e2
    rw [w64 (by omega) (by omega)]; omega
  simp only [spec_DecText.l0]
  rw [if_neg hm]
  by_cases hneg : Int.tmod m 10 < 0
  · rw [if_pos hneg, e1 hneg, hw]
    clear e1 e2 hneg
    simp only [Int.toNat_natCast, cut_dec _ hlt, S_append, S_size]
    rw [if_pos (by omega), if_pos (by omega), if_pos (by omega), if_pos (by simp; omega)]
    rfl
  · rw [if_neg hneg, e2 hneg, hw]
    clear e1 e2 hneg
    simp only [Int.toNat_natCast, cut_dec _ hlt, S_append, S_size]
    rw [if_pos (by omega), if_pos (by omega), if_pos (by omega), if_pos (by simp; omega)]
    rfl
theorem specDec_loop (x0 : Int) : ∀ (j u : Nat) (m : Int) (acc : List UInt8) (k : Nat), m.natAbs = u → -9223372036854775808 ≤ m → m ≤ 9223372036854775807 → u < 10 ^ j → j < k → acc.length + j ≤ 1000 →
    spec_DecText.l0 k x0 (S acc) m = some (S (pre x0 ++ (dd u ++ acc)))
  | j, u, m, acc, 0, _, _, _, _, hk, _ => absurd hk (Nat.not_lt_zero _)
  | j, u, m, acc, k + 1, hu, h0, h1, hj, hk, ha => by
    by_cases hm : m = 0
    · have hu0 : u = 0 := by omega
      subst hu0 hm
      rw [specDec_stop x0 acc k (by omega)]
      rfl
    · have hu0 : u ≠ 0 := by omega
      cases j with
      | zero => simp at hj; omega
      | succ j =>
        have hj' : u / 10 < 10 ^ j := Nat.div_lt_of_lt_mul (by rw [Nat.pow_succ, Nat.mul_comm] at hj; exact hj)
        obtain ⟨_, _, e3, e4, e5⟩ := tmod_abs m h0 h1
        rw [specDec_step x0 m acc k hm h0 h1 (by omega), specDec_loop x0 j (u / 10) (wrap64 (Int.tdiv m 10)) (UInt8.ofNat (48 + m.natAbs % 10) :: acc) k (by rw [e3, hu]) e4 e5 hj' (Nat.lt_of_succ_lt_succ hk) (by simp only [List.length_cons]; omega), dd_step u hu0, hu, List.append_assoc]
        rfl
theorem natAbs_lt {n : Int} (h0 : -9223372036854775808 ≤ n) (h1 : n ≤ 9223372036854775807) : n.natAbs < 10 ^ 20 := by
  have : (10 : Nat) ^ 20 = 100000000000000000000 := by decide
  omega
theorem itoa_dd (n : Int) (h : n ≠ 0) : pre n ++ (dd n.natAbs ++ []) = itoa n := by
  unfold pre dd itoa
  rw [if_neg (show ¬ n.natAbs = 0 by omega), List.append_nil]
  by_cases hn : n < 0
  · rw [if_pos hn, if_pos hn]; rfl
  · rw [if_neg hn, if_neg hn, show n.toNat = n.natAbs by omega]; rfl
/-- The reference's text of a number is its numeral. -/
theorem specDec_eq (n : Int) (h0 : -9223372036854775808 ≤ n) (h1 : n ≤ 9223372036854775807) (k : Nat) (hk : 20 < k) : spec_DecText.f k n = some (S (itoa n)) := by
  unfold spec_DecText.f
  by_cases hn : n = 0
  · subst hn
    rw [if_pos rfl]
    have : itoa 0 = [48] := by
      unfold itoa
      rw [if_neg (by omega), decDigits_step]
      rfl
    rw [this]; rfl
  · rw [if_neg hn, show (⟨#[]⟩ : ByteArray) = S [] from rfl, specDec_loop n 20 n.natAbs n [] k rfl h0 h1 (natAbs_lt h0 h1) hk (by simp), itoa_dd n hn]
end Go.Proofs.YtchakfdnmabkjaaDoor.DecDec
