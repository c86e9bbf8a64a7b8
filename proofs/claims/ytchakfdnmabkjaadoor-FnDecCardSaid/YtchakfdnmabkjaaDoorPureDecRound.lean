/- Digits are read back: the program's ReadHex on the texts of digits. -/
import Derived.Test.YtchakfdnmabkjaaDoorPureDecHex
import Derived.Test.YtchakfdnmabkjaaDoorPDecx8
import Derived.Laws.BytesArg
namespace Go.Proofs.YtchakfdnmabkjaaDoor.ReadDec
open Go.RowKit Go.Proofs.YtchakfdnmabkjaaDoor.PDec Go.Proofs.YtchakfdnmabkjaaDoor.Plain Go.Proofs.YtchakfdnmabkjaaDoor.Str Go.Proofs.YtchakfdnmabkjaaDoor.HexDec Go.Proofs.YtchakfdnmabkjaaDoorW.PrintWords Go.Proofs.YtchakfdnmabkjaaDoorW.PrintLast

theorem byt {P : Int → Prop} (h : ∀ n : Nat, n < 256 → P (n : Int)) {a : Int} (h0 : 0 ≤ a) (h1 : a ≤ 255) : P a := by
  have := h a.toNat (by omega)
  rwa [Int.toNat_of_nonneg h0] at this
def hv (c : Int) : Int := if 48 ≤ c ∧ c ≤ 57 then c - 48 else if 65 ≤ c ∧ c ≤ 70 then c - 55 else -1
theorem idx_hv {c : Int} (h0 : 0 ≤ c) (h1 : c ≤ 255) : strings_IndexByte.f (⟨#[48, 49, 50, 51, 52, 53, 54, 55, 56, 57, 65, 66, 67, 68, 69, 70]⟩ : ByteArray) c = some (hv c) :=
  byt (P := fun c => strings_IndexByte.f (⟨#[48, 49, 50, 51, 52, 53, 54, 55, 56, 57, 65, 66, 67, 68, 69, 70]⟩ : ByteArray) c = some (hv c)) (by decide +kernel) h0 h1
theorem bt_rng (s : ByteArray) (i : Int) : 0 ≤ bt s i ∧ bt s i ≤ 255 := by
  unfold bt
  split
  · have := s[i.toNat].toNat_lt; omega
  · omega
theorem hv_dig (v : Nat) (h : v < 16) : hv ((dig v).toNat : Int) = (v : Int) := by
  have key : ∀ v, v < 16 → hv ((dig v).toNat : Int) = (v : Int) := by decide
  exact key v h
theorem hexL_get (n : Nat) : ∀ (d i : Nat) (h : i < (hexL n d).length), (hexL n d)[i] = dig (n / 16 ^ (d - 1 - i) % 16)
  | 0, i, h => absurd h (by simp [hexL])
  | d + 1, 0, h => by simp [hexL]
  | d + 1, i + 1, h => by
    simp only [hexL, List.getElem_cons_succ]
    rw [hexL_get n d i (by simpa [hexL] using h)]
    congr 4; omega
theorem pow_dvd_step (n m : Nat) : 16 * (n / 16 ^ (m + 1)) + n / 16 ^ m % 16 = n / 16 ^ m := by
  rw [Nat.pow_succ, ← Nat.div_div_eq_div_mul]; omega
theorem round_run (n d : Nat) (hd : d ≤ 8) (hn : n < 16 ^ d) : ∀ (m i : Nat), i + m = d → ∀ k, m < k → impl_ReadHex.l0 k (S (hexL n d)) ((n / 16 ^ m : Nat) : Int) (d : Int) (i : Int) = some (n : Int) := by
  have hbig : n < 4294967296 := Nat.lt_of_lt_of_le hn (by have := Nat.pow_le_pow_right (show 0 < 16 by omega) hd; omega)
  intro m
  induction m with
  | zero =>
    intro i hi k hk
    obtain ⟨k, rfl⟩ : ∃ j, k = j + 1 := ⟨k - 1, by omega⟩
    simp only [impl_ReadHex.l0]
    rw [if_neg (by omega)]
    simp
  | succ m ih =>
    intro i hi k hk
    obtain ⟨k, rfl⟩ : ∃ j, k = j + 1 := ⟨k - 1, by omega⟩
    have hl : i < (hexL n d).length := by rw [hexL_length]; omega
    have hb : bt (S (hexL n d)) (i : Int) = ((dig (n / 16 ^ m % 16)).toNat : Int) := by
      rw [bt_S _ _ hl, hexL_get n d i hl, show d - 1 - i = m by omega]
    have hlt : n / 16 ^ m % 16 < 16 := Nat.mod_lt _ (by omega)
    obtain ⟨c0, c1⟩ := bt_rng (S (hexL n d)) (i : Int)
    have hI := idx_hv c0 c1
    rw [hb, hv_dig _ hlt] at hI
    have hs := pow_dvd_step n m
    have hle : n / 16 ^ m ≤ n := Nat.div_le_self _ _
    simp only [impl_ReadHex.l0]
    rw [if_pos (by omega), if_pos (by omega), if_pos (by rw [S_size]; omega), hb, hI]
    simp only [Option.bind_some]
    rw [if_neg (by omega), wsucc (by omega), w64 (x := 16 * ((n / 16 ^ (m + 1) : Nat) : Int)) (by omega) (by omega), w64 (by omega) (by omega), show 16 * ((n / 16 ^ (m + 1) : Nat) : Int) + ((n / 16 ^ m % 16 : Nat) : Int) = ((n / 16 ^ m : Nat) : Int) by omega]
    exact ih (i + 1) (by omega) k (by omega)
theorem round_hex (n d : Nat) (h1 : 1 ≤ d) (hd : d ≤ 8) (hn : n < 16 ^ d) (k : Nat) (hk : 10 < k) : impl_ReadHex.f k (S (hexL n d)) (d : Int) = some (n : Int) := by
  obtain ⟨k, rfl⟩ : ∃ j, k = j + 1 := ⟨k - 1, by omega⟩
  have hr := round_run n d hd hn d 0 (by omega) k (by omega)
  rw [Nat.div_eq_of_lt hn] at hr
  simp only [impl_ReadHex.f, impl_within.f]
  rw [if_pos (by omega), decide_eq_true (by omega)]
  simp only [Option.bind_some, if_true, impl_ReadHex.j0]
  rw [if_neg (by rw [S_size, hexL_length]; simp)]
  exact hr
/-- Marks that stand for unknown digits are no number. -/
theorem read_marks (d : Nat) (hd : d = 2 ∨ d = 4) (k : Nat) (hk : 10 < k) : impl_ReadHex.f k (S (List.replicate d 63)) (d : Int) = some (-1) := by
  obtain ⟨k, rfl⟩ : ∃ j, k = j + 1 := ⟨k - 1, by omega⟩
  have hb : bt (S (List.replicate d 63)) (0 : Int) = 63 := by rcases hd with rfl | rfl <;> rfl
  have hI : strings_IndexByte.f (⟨#[48, 49, 50, 51, 52, 53, 54, 55, 56, 57, 65, 66, 67, 68, 69, 70]⟩ : ByteArray) 63 = some (-1) := idx_hv (by omega) (by omega)
  simp only [impl_ReadHex.f, impl_within.f]
  rw [if_pos (by omega), decide_eq_true (by omega)]
  simp only [Option.bind_some, if_true, impl_ReadHex.j0]
  rw [if_neg (by rw [S_size, List.length_replicate]; simp)]
  obtain ⟨k, rfl⟩ : ∃ j, k = j + 1 := ⟨k - 1, by omega⟩
  simp only [impl_ReadHex.l0]
  rw [if_pos (by omega), if_pos (by omega), if_pos (by rw [S_size, List.length_replicate]; omega), hb, hI, Option.bind_some, if_pos (by omega)]
end Go.Proofs.YtchakfdnmabkjaaDoor.ReadDec
