import Derived.Test.YtchakfdnmabkjaaDoorSRPureTrcHex
import Derived.Test.YtchakfdnmabkjaaDoorSRPureTrcReadHex
import Derived.Test.YtchakfdnmabkjaaDoorSRPTrcx10
import Derived.Test.YtchakfdnmabkjaaDoorSRPTrcx3
namespace Go.Proofs.YtchakfdnmabkjaaDoor.CycTrc
open Go.RowKit Go.Proofs.YtchakfdnmabkjaaDoor.PTrc Go.Proofs.YtchakfdnmabkjaaDoor.Plain Go.Proofs.YtchakfdnmabkjaaDoor.Str Go.Proofs.YtchakfdnmabkjaaDoor.HexTrc Go.Proofs.YtchakfdnmabkjaaDoor.ReadTrc Go.Proofs.YtchakfdnmabkjaaDoorW.PrintWords Go.Proofs.YtchakfdnmabkjaaDoorW.PrintLast
theorem hv_dig (v : Nat) (h : v < 16) : hv ((dig v).toNat : Int) = (v : Int) := by
  have key : ∀ v, v < 16 → hv ((dig v).toNat : Int) = (v : Int) := by decide
  exact key v h
theorem hexL_get (n : Nat) : ∀ (d i : Nat) (h : i < (hexL n d).length), (hexL n d)[i] = dig (n / 16 ^ (d - 1 - i) % 16)
  | 0, i, h => absurd h (by simp [hexL])
  | d + 1, 0, h => by simp [hexL]
  | d + 1, i + 1, h => by
    simp only [hexL, List.getElem_cons_succ]
    rw [hexL_get n d i (by simpa [hexL] using h)]
    congr 4; omega
theorem pow_dvd_step (n m : Nat) : 16 * (n / 16 ^ (m + 1)) + n / 16 ^ m % 16 = n / 16 ^ m := by
  rw [Nat.pow_succ, ← Nat.div_div_eq_div_mul]; omega
theorem round_run (n d : Nat) (hd : d ≤ 8) (hn : n < 16 ^ d) : ∀ (m i : Nat), i + m = d → ∀ k, m < k → impl_ReadHex.l0 k (S (hexL n d)) ((n / 16 ^ m : Nat) : Int) (d : Int) (i : Int) = some (n : Int) := by
  have hbig : n < 4294967296 := Nat.lt_of_lt_of_le hn (by have := Nat.pow_le_pow_right (show 0 < 16 by omega) hd; omega)
  intro m
  induction m with
  | zero =>
    intro i hi k hk
    obtain ⟨k, rfl⟩ : ∃ j, k = j + 1 := ⟨k - 1, by omega⟩
    simp only [impl_ReadHex.l0]
    rw [if_neg (by omega)]
    simp
  | succ m ih =>
    intro i hi k hk
    obtain ⟨k, rfl⟩ : ∃ j, k = j + 1 := ⟨k - 1, by omega⟩
    have hl : i < (hexL n d).length := by rw [hexL_length]; omega
    have hb : bt (S (hexL n d)) (i : Int) = ((dig (n / 16 ^ m % 16)).toNat : Int) := by
      rw [bt_S _ _ hl, hexL_get n d i hl, show d - 1 - i = m by omega]
    have hlt : n / 16 ^ m % 16 < 16 := Nat.mod_lt _ (by omega)
    obtain ⟨c0, c1⟩ := bt_rng (S (hexL n d)) (i : Int)
    have hI := idx_hv c0 c1
    rw [hb, hv_dig _ hlt] at hI
    have hs := pow_dvd_step n m
    have hle : n / 16 ^ m ≤ n := Nat.div_le_self _ _
    simp only [impl_ReadHex.l0]
    rw [if_pos (by omega), if_pos (by omega), if_pos (by rw [S_size]; omega), hb, hI]
    simp only [Option.bind_some]
    rw [if_neg (by omega), wsucc (by omega), w64 (x := 16 * ((n / 16 ^ (m + 1) : Nat) : Int)) (by omega) (by omega), w64 (by omega) (by omega), show 16 * ((n / 16 ^ (m + 1) : Nat) : Int) + ((n / 16 ^ m % 16 : Nat) : Int) = ((n / 16 ^ m : Nat) : Int) by omega]
    exact ih (i + 1) (by omega) k (by omega)
theorem round_hex (n d : Nat) (h1 : 1 ≤ d) (hd : d ≤ 8) (hn : n < 16 ^ d) (k : Nat) (hk : 10 < k) : impl_ReadHex.f k (S (hexL n d)) (d : Int) = some (n : Int) := by
  obtain ⟨k, rfl⟩ : ∃ j, k = j + 1 := ⟨k - 1, by omega⟩
  have hr := round_run n d hd hn d 0 (by omega) k (by omega)
  rw [Nat.div_eq_of_lt hn] at hr
  simp only [impl_ReadHex.f, impl_within.f]
  rw [if_pos (by omega), decide_eq_true (by omega)]
  simp only [Option.bind_some, if_true, impl_ReadHex.j0]
  rw [if_neg (by rw [S_size, hexL_length]; simp)]
  exact hr
def cycL (x y : Nat) (q : Bool) : List UInt8 := hexL x 4 ++ [32] ++ hexL y 2 ++ [32, if q = true then 119 else 114]
theorem implCyc_eq (x y : Nat) (hx : x ≤ 65535) (hy : y ≤ 255) (q : Bool) (k : Nat) (hk : 10 < k) : impl_CycText.f k (x : Int) (y : Int) q = some (S (cycL x y q)) := by
  have p := implHex_eq x (by omega) 4 (by omega) (by omega) k (by omega)
  have p2 := implHex_eq y (by omega) 2 (by omega) (by omega) k (by omega)
  have w1 : wrap64 (x : Int) = x := w64 (by omega) (by omega)
  have w2 : wrap64 (y : Int) = y := w64 (by omega) (by omega)
  have e : (⟨#[32]⟩ : ByteArray) = S [32] := rfl
  have l1 := hexL_length x 4
  have l2 := hexL_length y 2
  have s1 : (S (hexL x 4)).size + 1 ≤ 9223372036854775807 := by rw [S_size]; omega
  have s2 : (S (hexL x 4 ++ [32])).size + (S (hexL y 2)).size ≤ 9223372036854775807 := by rw [S_size, S_size]; simp; omega
  have s3 : (S (hexL x 4 ++ [32] ++ hexL y 2)).size + 2 ≤ 9223372036854775807 := by rw [S_size]; simp; omega
  have f1 : (⟨#[32, 119]⟩ : ByteArray) = S [32, 119] := rfl
  have f2 : (⟨#[32, 114]⟩ : ByteArray) = S [32, 114] := rfl
  rw [show ((4 : Nat) : Int) = 4 from rfl] at p
  rw [show ((2 : Nat) : Int) = 2 from rfl] at p2
  cases q <;> simp only [impl_CycText.f, w1, w2, p, p2, e, f1, f2, S_append, Option.bind_some, if_pos s1, if_pos s2, if_pos s3, if_true, Bool.false_eq_true, if_false, cycL]
theorem specCyc_eq (x y : Nat) (hx : x ≤ 65535) (hy : y ≤ 255) (q : Bool) (k : Nat) (hk : 10 < k) : spec_CycText.f k (x : Int) (y : Int) q = some (S (cycL x y q)) := by
  have p := specHex_eq x (by omega) 4 (by omega) (by omega) k (by omega)
  have p2 := specHex_eq y (by omega) 2 (by omega) (by omega) k (by omega)
  have w1 : wrap64 (x : Int) = x := w64 (by omega) (by omega)
  have w2 : wrap64 (y : Int) = y := w64 (by omega) (by omega)
  have e : (⟨#[32]⟩ : ByteArray) = S [32] := rfl
  have l1 := hexL_length x 4
  have l2 := hexL_length y 2
  have s1 : (S (hexL x 4)).size + 1 ≤ 9223372036854775807 := by rw [S_size]; omega
  have s2 : (S (hexL x 4 ++ [32])).size + (S (hexL y 2)).size ≤ 9223372036854775807 := by rw [S_size, S_size]; simp; omega
  have s3 : (S (hexL x 4 ++ [32] ++ hexL y 2)).size + 2 ≤ 9223372036854775807 := by rw [S_size]; simp; omega
  have f1 : (⟨#[32, 119]⟩ : ByteArray) = S [32, 119] := rfl
  have f2 : (⟨#[32, 114]⟩ : ByteArray) = S [32, 114] := rfl
  rw [show ((4 : Nat) : Int) = 4 from rfl] at p
  rw [show ((2 : Nat) : Int) = 2 from rfl] at p2
  cases q <;> simp only [spec_CycText.f, w1, w2, p, p2, e, f1, f2, S_append, Option.bind_some, if_pos s1, if_pos s2, if_pos s3, if_true, Bool.false_eq_true, if_false, cycL]
theorem cut_addr (x y : Nat) (q : Bool) : (S (cycL x y q)).extract 0 4 = S (hexL x 4) := by
  rw [S_extract]; rfl
theorem cut_data (x y : Nat) (q : Bool) : (S (cycL x y q)).extract 5 7 = S (hexL y 2) := by
  rw [S_extract]; rfl
theorem S_of {s : ByteArray} {l : List UInt8} (h : (S l).toList = s.toList) : s = S l := by
  rw [S_toList, Lib.toList_data] at h
  rw [h, S_data]
end Go.Proofs.YtchakfdnmabkjaaDoor.CycTrc
