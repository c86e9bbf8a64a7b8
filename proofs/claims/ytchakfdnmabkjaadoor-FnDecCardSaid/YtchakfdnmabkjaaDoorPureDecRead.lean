/- Plain lemmas on decimal numerals that are read: the reference's reading is the program's. -/
import Derived.Test.YtchakfdnmabkjaaDoorPureDecBase
import Derived.Test.YtchakfdnmabkjaaDoorPDecx2
import Derived.Test.YtchakfdnmabkjaaDoorMyDecXReadDec
namespace Go.Proofs.YtchakfdnmabkjaaDoor.DecDec
open Go.RowKit Go.Proofs.YtchakfdnmabkjaaDoor.PDec Go.Proofs.YtchakfdnmabkjaaDoor.Plain Go.Proofs.YtchakfdnmabkjaaDoor.Str Go.Proofs.YtchakfdnmabkjaaDoorW.PrintWords Go.Proofs.YtchakfdnmabkjaaDoorW.PrintLast
open Go.Lib (decDigits itoa decFrom digitVal)

theorem decFrom_append (a b : List UInt8) : ∀ acc, decFrom acc (a ++ b) = (decFrom acc a).bind fun m => decFrom m b := by
  induction a with
  | nil => intro acc; rfl
  | cons c r ih =>
    intro acc
    simp only [List.cons_append, decFrom]
    cases digitVal c with
    | none => rfl
    | some d => exact ih _
theorem digit_of (m : Nat) (h : m < 10) : digitVal (UInt8.ofNat (48 + m)) = some m := by
  have key : ∀ m, m < 10 → digitVal (UInt8.ofNat (48 + m)) = some m := by decide
  exact key m h
/-- A numeral spells its number. -/
theorem decFrom_digits : ∀ (n u : Nat), u < n → decFrom 0 (decDigits u) = some u
  | 0, u, h => absurd h (Nat.not_lt_zero _)
  | n + 1, u, h => by
    rw [decDigits_step]
    by_cases hu : u < 10
    · rw [if_pos hu]
      simp only [decFrom, digit_of u hu]
      simp
    · rw [if_neg hu, decFrom_append, decFrom_digits n (u / 10) (by omega)]
      simp only [Option.bind_some, decFrom, digit_of (u % 10) (Nat.mod_lt _ (by decide))]
      congr 1
      omega
theorem digits_ne (u : Nat) : decDigits u ≠ [] := by
  rw [decDigits_step]
  split <;> simp
theorem digits_length : ∀ (j u : Nat), u < 10 ^ (j + 1) → (decDigits u).length ≤ j + 1
  | j, u, h => by
    rw [decDigits_step]
    by_cases hu : u < 10
    · rw [if_pos hu]; simp
    · rw [if_neg hu]
      cases j with
      | zero => omega
      | succ j =>
        have := digits_length j (u / 10) (Nat.div_lt_of_lt_mul (by rw [Nat.pow_succ, Nat.mul_comm] at h; exact h))
        simp only [List.length_append, List.length_cons, List.length_nil]
        omega
/-- Whoever is a number of 0 .. 999999999: its numeral. -/
theorem itoa_small {v : Int} (h0 : 0 ≤ v) : itoa v = decDigits v.toNat := by
  unfold Go.Lib.itoa
  rw [if_neg (by omega)]
theorem small_length {v : Int} (h0 : 0 ≤ v) (h1 : v ≤ 999999999) : (itoa v).length ≤ 9 := by
  rw [itoa_small h0]
  exact digits_length 8 v.toNat (by have : (10 : Nat) ^ (8 + 1) = 1000000000 := by decide
                                    omega)
theorem small_dec {v : Int} (h0 : 0 ≤ v) : decFrom 0 (itoa v) = some v.toNat := by
  rw [itoa_small h0]
  exact decFrom_digits (v.toNat + 1) _ (Nat.lt_succ_self _)
theorem small_ne {v : Int} (h0 : 0 ≤ v) : itoa v ≠ [] := by
  rw [itoa_small h0]; exact digits_ne _
theorem atoi_of_dec {l : List UInt8} {m : Nat} (hne : l ≠ []) (h : decFrom 0 l = some m) : Lib.atoi l = some (m : Int) := by
  cases l with
  | nil => exact absurd rfl hne
  | cons c r =>
    have hc : (c == 45) = false ∧ (c == 43) = false := by
      constructor
      · cases hc : (c == 45) with
        | false => rfl
        | true =>
          have : c = 45 := by simpa using hc
          subst this
          simp [decFrom, digitVal] at h
      · cases hc : (c == 43) with
        | false => rfl
        | true =>
          have : c = 43 := by simpa using hc
          subst this
          simp [decFrom, digitVal] at h
    simp only [Lib.atoi, hc.1, hc.2, Lib.decNat, List.isEmpty_cons, h]
    rfl
theorem small_atoi {v : Int} (h0 : 0 ≤ v) (h1 : v ≤ 999999999) : Lib.atoiAll (itoa v) = .ok v := by
  rw [Lib.atoiAll_short _ (by have := small_length h0 h1; omega), atoi_of_dec (small_ne h0) (small_dec h0)]
  simp only [Lib.NumEnd.ofOption]
  congr 1
  omega
/-- The program's reading: of a numeral of 0 .. 999999999 its number; of everything else -1. -/
theorem readDec_hit {v : Int} (h0 : 0 ≤ v) (h1 : v ≤ 999999999) : readDec (S (itoa v)) = v := by
  unfold readDec
  rw [show (S (itoa v)).data.toList = itoa v from rfl, small_atoi h0 h1]
  simp only [if_pos (And.intro h0 h1)]
  exact if_pos rfl
theorem readDec_miss {l : List UInt8} (h : ∀ v : Int, 0 ≤ v → v ≤ 999999999 → itoa v ≠ l) : readDec (S l) = -1 := by
  unfold readDec
  split
  · rename_i v _
    by_cases hv : 0 ≤ v ∧ v ≤ 999999999
    · rw [if_pos hv, if_neg]
      intro he
      have e : itoa v = l := by
        have h1 := he
        rw [show (⟨(Lib.itoa v).toArray⟩ : ByteArray) = S (itoa v) from rfl, S_toList, S_toList] at h1
        exact h1
      exact h v hv.1 hv.2 e
    · rw [if_neg hv]
  · rfl
/-- One digit more. -/
theorem l01Digit_eq (b : UInt8) : spec_l01Digit.f (b.toNat : Int) = some (digitVal b).isSome := by
  have hb : b.toNat < 256 := b.toNat_lt
  simp only [spec_l01Digit.f, spec_l01In.f]
  rw [w64 (by omega) (by omega)]
  unfold Go.Lib.digitVal
  by_cases h1 : (b.toNat : Int) ≥ 48
  · rw [if_pos h1]
    by_cases h2 : b.toNat ≤ 57
    · rw [if_pos (by omega)]; simp; omega
    · rw [if_neg (by omega)]; simp; omega
  · rw [if_neg h1, if_neg (by omega)]; rfl
/-- How the reference ends. -/
def fin (l : List UInt8) (m : Nat) : Int := if l = [] then -1 else if itoa (m : Int) = l then (m : Int) else -1
theorem specRead_loop (l : List UInt8) (hl : l.length ≤ 9) : ∀ (r : List UInt8) (i acc k : Nat), l.drop i = r → i + r.length = l.length → acc < 10 ^ i → r.length + 30 < k →
    spec_ReadDec.l0 k (S l) (acc : Int) (i : Int) = some (match decFrom acc r with | some m => fin l m | none => -1)
  | r, i, acc, 0, _, _, _, hk => absurd hk (Nat.not_lt_zero _)
  | [], i, acc, k + 1, hr, hi, ha, hk => by
    have hp : 10 ^ i ≤ 10 ^ 9 := Nat.pow_le_pow_right (by decide) (by simp at hi; omega)
    have e9 : (10 : Nat) ^ 9 = 1000000000 := by decide
    simp only [spec_ReadDec.l0, decFrom, S_size]
    rw [if_neg (by simp at hi; omega), S_toList, specDec_eq (acc : Int) (by omega) (by omega) k (by simp at hk; omega)]
    unfold fin
    by_cases hn : l = []
    · rw [if_pos hn, if_pos hn]
    · rw [if_neg hn, if_neg hn]
      simp only [Option.bind_some, S_toList]
      by_cases he : itoa (acc : Int) = l
      · rw [if_pos he, if_pos he]
      · rw [if_neg he, if_neg he]
  | b :: r, i, acc, k + 1, hr, hi, ha, hk => by
    have hil : i < l.length := by simp at hi; omega
    have hb : l[i] = b := by
      have := congrArg (·[0]?) hr
      simpa [List.getElem?_eq_getElem hil] using this
    have hp : 10 ^ i ≤ 10 ^ 8 := Nat.pow_le_pow_right (by decide) (by omega)
    have e8 : (10 : Nat) ^ 8 = 100000000 := by decide
    have hb2 : b.toNat < 256 := b.toNat_lt
    simp only [spec_ReadDec.l0, S_size]
    rw [if_pos (by omega), if_pos (by omega), bt_S l i hil, hb, l01Digit_eq]
    simp only [Option.bind_some, decFrom]
    cases hd : digitVal b with
    | none => simp
    | some d =>
      have hd2 : 48 ≤ b.toNat ∧ b.toNat ≤ 57 ∧ d = b.toNat - 48 := by
        unfold Go.Lib.digitVal at hd
        by_cases h : 48 ≤ b.toNat ∧ b.toNat ≤ 57
        · rw [if_pos h] at hd
          exact ⟨h.1, h.2, (Option.some.inj hd).symm⟩
        · rw [if_neg h] at hd; cases hd
      simp only [Option.isSome_some, if_true]
      rw [if_neg (by omega), wsucc (by omega)]
      have hv : wrap64 ((wrap64 ((wrap64 (10 * (acc : Int))) + (wrap64 (b.toNat : Int)))) - 48) = ((acc * 10 + d : Nat) : Int) := by
        rw [w64 (x := 10 * (acc : Int)) (by omega) (by omega), w64 (x := (b.toNat : Int)) (by omega) (by omega), w64 (x := 10 * (acc : Int) + (b.toNat : Int)) (by omega) (by omega), w64 (by omega) (by omega)]
        omega
      rw [hv]
      exact specRead_loop l hl r (i + 1) (acc * 10 + d) k (by rw [← List.drop_drop, hr]; rfl) (by simp at hi; omega) (by rw [Nat.pow_succ]; omega) (by simp at hk; omega)
theorem specRead_long (l : List UInt8) (hl : 9 < l.length) (k : Nat) (hk : 0 < k) : spec_ReadDec.f k (S l) = some (-1) := by
  obtain ⟨k, rfl⟩ : ∃ m, k = m + 1 := ⟨k - 1, by omega⟩
  unfold spec_ReadDec.f
  simp only [spec_ReadDec.l0, S_size]
  have hb := bt_S l 0 (by omega)
  rw [if_pos (by omega), if_pos (by omega), show (0 : Int) = ((0 : Nat) : Int) from rfl, hb, l01Digit_eq]
  simp only [Option.bind_some]
  split
  · rw [if_pos (by omega)]
  · rfl
/-- The reference reads as the program does. -/
theorem specRead_eq (l : List UInt8) (k : Nat) (hk : 40 < k) : spec_ReadDec.f k (S l) = some (readDec (S l)) := by
  by_cases hl : l.length ≤ 9
  · have h := specRead_loop l hl l 0 0 k rfl (by simp) (by decide) (by omega)
    unfold spec_ReadDec.f
    have e0 : ((0 : Nat) : Int) = 0 := rfl
    rw [e0] at h
    rw [h]
    congr 1
    by_cases hx : ∃ v : Int, 0 ≤ v ∧ v ≤ 999999999 ∧ itoa v = l
    · obtain ⟨v, h0, h1, rfl⟩ := hx
      rw [readDec_hit h0 h1, small_dec h0]
      simp only [fin]
      rw [if_neg (small_ne h0), show ((v.toNat : Nat) : Int) = v by omega, if_pos rfl]
    · rw [readDec_miss (fun v h0 h1 he => hx ⟨v, h0, h1, he⟩)]
      cases hd : decFrom 0 l with
      | none => rfl
      | some m =>
        simp only [fin]
        have hlt := Go.Lib.decFrom_lt l 0 m hd
        have hp : 10 ^ l.length ≤ 10 ^ 9 := Nat.pow_le_pow_right (by decide) hl
        have e9 : (10 : Nat) ^ 9 = 1000000000 := by decide
        by_cases hn : l = []
        · rw [if_pos hn]
        · rw [if_neg hn, if_neg (fun he => hx ⟨(m : Int), by omega, by omega, he⟩)]
  · rw [specRead_long l (by omega) k (by omega), readDec_miss]
    intro v h0 h1 he
    have := small_length h0 h1
    rw [he] at this
    omega
/-- What comes back from a numeral. -/
theorem readDec_itoa (n : Int) : readDec (S (itoa n)) = if 0 ≤ n ∧ n ≤ 999999999 then n else -1 := by
  by_cases h : 0 ≤ n ∧ n ≤ 999999999
  · rw [if_pos h, readDec_hit h.1 h.2]
  · rw [if_neg h, readDec_miss]
    intro v h0 h1 he
    have hv := small_dec h0
    rw [he] at hv
    by_cases hn : 0 ≤ n
    · rw [small_dec hn] at hv
      have := Option.some.inj hv
      omega
    · unfold Go.Lib.itoa at hv
      rw [if_pos (by omega)] at hv
      simp [decFrom, digitVal] at hv
end Go.Proofs.YtchakfdnmabkjaaDoor.DecDec
