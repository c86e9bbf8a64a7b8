/- The plain side of FnDec: a number comes back from its numeral, digits in base 16 come back, too. -/
import Derived.Test.YtchakfdnmabkjaaDoorPureDecRead
import Derived.Lib.ItoaLen
import Derived.Test.YtchakfdnmabkjaaDoorPureDecDraw
import Derived.Test.YtchakfdnmabkjaaDoorPureDecRound
import Derived.Test.YtchakfdnmabkjaaDoorPDecx9
namespace Go.Proofs.YtchakfdnmabkjaaDoor.Pure
open Go.RowKit Go.Proofs.YtchakfdnmabkjaaDoor.PDec Go.Proofs.YtchakfdnmabkjaaDoor.Plain Go.Proofs.YtchakfdnmabkjaaDoor.Str Go.Proofs.YtchakfdnmabkjaaDoor.DecDec Go.Proofs.YtchakfdnmabkjaaDoor.DrawDec Go.Proofs.YtchakfdnmabkjaaDoor.HexDec Go.Proofs.YtchakfdnmabkjaaDoor.ReadDec Go.Proofs.YtchakfdnmabkjaaDoorW.PrintWords Go.Proofs.YtchakfdnmabkjaaDoorW.PrintLast Go.Proofs.YtchakfdnmabkjaaDoorW.PrintMore
open Go.Lib (itoa)

theorem digit_mod (n i d : Nat) (h : i < d) : n % 16 ^ d / 16 ^ i % 16 = n / 16 ^ i % 16 := by
  rw [← Nat.mod_mul_right_div_self, ← Nat.mod_mul_right_div_self, ← Nat.pow_succ, Nat.mod_mod_of_dvd _ (Nat.pow_dvd_pow 16 (show i + 1 ≤ d by omega))]
theorem hexL_mod (n d : Nat) : ∀ i, i ≤ d → hexL (n % 16 ^ d) i = hexL n i
  | 0, _ => rfl
  | i + 1, h => by simp only [hexL]; rw [digit_mod n i d (by omega), hexL_mod n d i (by omega)]
theorem hex_back (n d : Nat) (h1 : 1 ≤ d) (hd : d ≤ 8) (k : Nat) (hk : 10 < k) : impl_ReadHex.f k (S (hexL n d)) (d : Int) = some ((n % 16 ^ d : Nat) : Int) := by
  rw [← hexL_mod n d d (Nat.le_refl _)]
  exact round_hex (n % 16 ^ d) d h1 hd (Nat.mod_lt _ (Nat.pow_pos (by decide))) k hk
theorem and_low (n j : Nat) (hn : n ≤ 9223372036854775807) (hj : j ≤ 62) : Go.bits .and .i64 (n : Int) ((2 ^ j - 1 : Nat) : Int) = ((n % 2 ^ j : Nat) : Int) := by
  have hp : 2 ^ j ≤ 2 ^ 62 := Nat.pow_le_pow_right (by decide) hj
  have hp0 : 0 < 2 ^ j := Nat.pow_pos (by decide)
  have e62 : (2 : Nat) ^ 62 = 4611686018427387904 := by decide
  have hm := Nat.mod_lt n hp0
  have key : (BitVec.ofInt 64 (n : Int) &&& BitVec.ofInt 64 ((2 ^ j - 1 : Nat) : Int)).toNat = n % 2 ^ j := by
    rw [BitVec.toNat_and, BitVec.ofInt_natCast, BitVec.ofInt_natCast, BitVec.toNat_ofNat, BitVec.toNat_ofNat, Nat.mod_eq_of_lt (show n < 2 ^ 64 by omega), Nat.mod_eq_of_lt (show 2 ^ j - 1 < 2 ^ 64 by omega), Nat.and_two_pow_sub_one_eq_mod]
  show IntKind.i64.wrap ((BitVec.ofInt 64 (n : Int) &&& BitVec.ofInt 64 ((2 ^ j - 1 : Nat) : Int)).toNat : Int) = _
  rw [key, IntKind.wrap_i64]
  omega
theorem mask_of (d : Nat) (h1 : 1 ≤ d) (h7 : d ≤ 7) : 0 ≤ IntKind.u64.wrap (wrap64 (4 * (d : Int))) ∧ wrap64 ((shl .i64 1 (IntKind.u64.wrap (wrap64 (4 * (d : Int))))) - 1) = ((2 ^ (4 * d) - 1 : Nat) : Int) := by
  have key : ∀ d : Nat, d < 8 → 0 ≤ IntKind.u64.wrap (wrap64 (4 * (d : Int))) ∧ wrap64 ((shl .i64 1 (IntKind.u64.wrap (wrap64 (4 * (d : Int))))) - 1) = ((2 ^ (4 * d) - 1 : Nat) : Int) := by decide +kernel
  exact key d (by omega)
theorem pow16 (d : Nat) : 2 ^ (4 * d) = 16 ^ d := by rw [Nat.pow_mul]
theorem hexL_ne (n d : Nat) (h : 1 ≤ d) : hexL n d ≠ [] := by
  intro e
  have := hexL_length n d
  rw [e] at this
  simp at this; omega
theorem decLast (n : Int) (h0 : -9223372036854775808 ≤ n) (h1 : n ≤ 9223372036854775807) (k : Nat) (hk : 1 < k) : laws_FnDec.j1 k n (S (itoa n)) = some true := by
  obtain ⟨k, rfl⟩ : ∃ m, k = m + 1 + 1 := ⟨k - 2, by omega⟩
  have hl := readDec_itoa n
  have hs : (S (itoa n)).size ≤ 281474976710656 := by
    have := Go.Lib.itoa_length_le n h0 h1
    rw [S_size]; omega
  have hr : impl_ReadDec.f (S (itoa n)) = some (readDec (S (itoa n))) := by unfold impl_ReadDec.f; rw [if_pos hs]
  simp only [laws_FnDec.j1, laws_FnDec.j2, hr, Option.bind_some, hl]
  by_cases a0 : 0 ≤ n
  · rw [if_pos a0]
    by_cases a1 : n ≤ 999999999
    · rw [if_pos (decide_eq_true a1), if_pos (And.intro a0 a1)]; simp
    · rw [if_neg (by simp [a1]), if_neg (by omega)]; simp
  · rw [if_neg a0, if_neg (by simp), if_neg (by omega)]; simp
theorem decMid (n m d : Int) (h0 : -9223372036854775808 ≤ n) (h1 : n ≤ 9223372036854775807) (m0 : -9223372036854775808 ≤ m) (m1 : m ≤ 9223372036854775807) (k : Nat) (hk : 20 < k) :
    ∃ h : ByteArray, impl_HexText.f k m d = some h ∧ spec_HexText.f k m d = some h ∧ laws_FnDec.j0 k n (S (itoa n)) m d h false = some true := by
  obtain ⟨k, rfl⟩ : ∃ j, k = j + 1 := ⟨k - 1, by omega⟩
  by_cases hb : m < 0 ∨ ¬ (1 ≤ d ∧ d ≤ 8)
  · refine ⟨S [], implHex_none m d hb _ (by omega), specHex_none m d hb _ (by omega), ?_⟩
    simp only [laws_FnDec.j0, S_toList]
    rw [if_neg (by decide), if_pos trivial]
    exact decLast n h0 h1 k (by omega)
  · obtain ⟨e, rfl⟩ := Int.eq_ofNat_of_zero_le (show 0 ≤ d by omega)
    obtain ⟨u, rfl⟩ := Int.eq_ofNat_of_zero_le (show 0 ≤ m by omega)
    have he1 : 1 ≤ e := by omega
    have he8 : e ≤ 8 := by omega
    have hlast := decLast n h0 h1 k (by omega)
    refine ⟨S (hexL u e), implHex_eq u (by omega) e he1 he8 _ (by omega), specHex_eq u (by omega) e he1 he8 _ (by omega), ?_⟩
    simp only [laws_FnDec.j0, S_toList]
    rw [if_neg (by decide), if_neg (hexL_ne u e he1), hex_back u e he1 he8 k (by omega)]
    simp only [Option.bind_some]
    by_cases h7 : e ≤ 7
    · obtain ⟨q0, q1⟩ := mask_of e he1 h7
      rw [if_pos (by omega), if_pos q0, q1, and_low u (4 * e) (by omega) (by omega), pow16, if_pos rfl]
      exact hlast
    · have : e = 8 := by omega
      subst this
      have hm := and_low u 32 (by omega) (by omega)
      rw [if_neg (by omega), show (4294967295 : Int) = ((2 ^ 32 - 1 : Nat) : Int) from rfl, hm, if_pos (by rfl)]
      exact hlast
theorem FnDec : ∀ (l0_0 : List (Int)), l0_0.length ≤ maxLen → (∀ x ∈ l0_0, (Lit.int .u8 x).wf = true) → ∃ k, laws_FnDec.f k l0_0 = some true := by
  intro l hmax hb
  by_cases h : l.length ≤ 1048576
  · obtain ⟨s, hs⟩ := new_some l h
    have a0 : At l 0 := ⟨by omega, by omega, h⟩
    obtain ⟨n, i1, s1, e1, a1, n0, n1⟩ := num_some a0 s
    obtain ⟨d, i2, s2, e2, a2, _⟩ := below_some a1 s1 11
    obtain ⟨t, e3, e4, e5⟩ := decMid n n (wrap64 (d - 1)) n0 n1 n0 n1 5000 (by decide)
    refine ⟨5000, ?_⟩
    simp only [laws_FnDec.f, big_small h, Option.bind_some]
    rw [if_neg (by decide)]
    have hd : impl_DecText.f n = some (S (itoa n)) := by unfold impl_DecText.f; exact if_pos ⟨n0, n1⟩
    simp only [spec_DrawDecText.f, spec_DrawHexText.f, hs 5000 (by decide), Option.bind_some, e1, e2, hd, e3, e4, specDec_eq n n0 n1 5000 (by decide)]
    rw [if_pos trivial, show (t.toList != t.toList) = false by simp]
    exact e5
  · refine ⟨0, ?_⟩
    simp only [laws_FnDec.f, big_big h, Option.bind_some]
    rw [if_pos trivial]
end Go.Proofs.YtchakfdnmabkjaaDoor.Pure
