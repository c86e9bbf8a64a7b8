import Derived.Test.YtchakfdnmabkjaaDoorSRMyStr
import Derived.Test.YtchakfdnmabkjaaDoorSRPTrcx2
import Derived.Test.YtchakfdnmabkjaaDoorSRPTrcx9
import Derived.Laws.BytesArg
namespace Go.Proofs.YtchakfdnmabkjaaDoor.HexTrc
open Go.RowKit Go.Proofs.YtchakfdnmabkjaaDoor.PTrc Go.Proofs.YtchakfdnmabkjaaDoor.Plain Go.Proofs.YtchakfdnmabkjaaDoor.Str Go.Proofs.YtchakfdnmabkjaaDoorW.PrintWords Go.Proofs.YtchakfdnmabkjaaDoorW.PrintLast
def dig (n : Nat) : UInt8 := if n < 10 then UInt8.ofNat (48 + n) else UInt8.ofNat (55 + n)
def hexL (n : Nat) : Nat → List UInt8
  | 0 => []
  | i + 1 => dig (n / 16 ^ i % 16) :: hexL n i
theorem hexL_length (n i : Nat) : (hexL n i).length = i := by induction i with
  | zero => rfl
  | succ i ih => simp [hexL, ih]
theorem cut_dig (m : Nat) (h : m < 16) : (⟨#[48, 49, 50, 51, 52, 53, 54, 55, 56, 57, 65, 66, 67, 68, 69, 70]⟩ : ByteArray).extract m (m + 1) = S [dig m] := by
  have key : ∀ m, m < 16 → (([48, 49, 50, 51, 52, 53, 54, 55, 56, 57, 65, 66, 67, 68, 69, 70] : List UInt8).drop m).take (m + 1 - m) = [dig m] := by decide
  rw [show (⟨#[48, 49, 50, 51, 52, 53, 54, 55, 56, 57, 65, 66, 67, 68, 69, 70]⟩ : ByteArray) = S [48, 49, 50, 51, 52, 53, 54, 55, 56, 57, 65, 66, 67, 68, 69, 70] from rfl, S_extract, key m h]
theorem bt_dig (m : Nat) (h : m < 16) : bt (⟨#[48, 49, 50, 51, 52, 53, 54, 55, 56, 57, 65, 66, 67, 68, 69, 70]⟩ : ByteArray) (m : Int) = ((dig m).toNat : Int) := by
  have key : ∀ m, (h : m < 16) → (([48, 49, 50, 51, 52, 53, 54, 55, 56, 57, 65, 66, 67, 68, 69, 70] : List UInt8)[m]'h).toNat = (dig m).toNat := by decide
  rw [show (⟨#[48, 49, 50, 51, 52, 53, 54, 55, 56, 57, 65, 66, 67, 68, 69, 70]⟩ : ByteArray) = S [48, 49, 50, 51, 52, 53, 54, 55, 56, 57, 65, 66, 67, 68, 69, 70] from rfl, bt_S _ _ h, key m h]
theorem step16 (n i : Nat) (h : n ≤ 9223372036854775807) : Int.tmod ((n / 16 ^ i : Nat) : Int) 16 = ((n / 16 ^ i % 16 : Nat) : Int) ∧ wrap64 (Int.tdiv ((n / 16 ^ i : Nat) : Int) 16) = ((n / 16 ^ (i + 1) : Nat) : Int) := by
  have hle : n / 16 ^ i ≤ n := Nat.div_le_self _ _
  rw [Nat.pow_succ, ← Nat.div_div_eq_div_mul]
  generalize n / 16 ^ i = m at *
  constructor
  · rw [Int.tmod_eq_emod_of_nonneg (by omega)]; rfl
  · rw [Int.tdiv_eq_ediv_of_nonneg (by omega), w64 (by omega) (by omega)]; omega
theorem specHex_eq (n : Nat) (hn : n ≤ 9223372036854775807) (d : Nat) (hd : 1 ≤ d) (hd8 : d ≤ 8) (k : Nat) (hk : d + 1 < k) : spec_HexText.f k (n : Int) (d : Int) = some (S (hexL n d)) := by
  obtain ⟨k, rfl⟩ : ∃ m, k = m + 1 := ⟨k - 1, by omega⟩
  have hin : spec_l01In.f (d : Int) 1 8 = some true := by simp only [spec_l01In.f]; rw [if_pos (by omega), decide_eq_true (by omega)]
  simp only [spec_HexText.f]
  rw [if_neg (by omega), hin]
  simp only [Option.bind_some, spec_HexText.j0, Bool.not_true, Bool.false_eq_true, if_false]
  have := loop_run (fun k (s : Int × ByteArray) i => spec_HexText.l0 k s.1 (d : Int) s.2 i) (fun i => (((n / 16 ^ i : Nat) : Int), S (hexL n i))) d (S (hexL n d)) ?_ ?_ k (by omega)
  · simp only [Nat.pow_zero, Nat.div_one] at this
    exact this
  · intro k i hi
    obtain ⟨h1, h2⟩ := step16 n i hn
    have hlt : n / 16 ^ i % 16 < 16 := Nat.mod_lt _ (by omega)
    have hw : wrap64 (((n / 16 ^ i % 16 : Nat) : Int) + 1) = ((n / 16 ^ i % 16 + 1 : Nat) : Int) := by rw [w64 (by omega) (by omega)]; omega
    simp only [spec_HexText.l0, h1, h2, hw, Int.toNat_natCast, cut_dig _ hlt]
    have hsz := hexL_length n i
    rw [if_pos (by omega), if_pos (by omega), if_pos (by omega), if_pos (by omega), if_pos (by rw [S_size, S_size, hsz]; simp; omega), wsucc (by omega), S_append]
    rfl
  · intro k
    simp only [spec_HexText.l0]
    rw [if_neg (by omega)]
def row (n d i : Nat) : List Int := List.replicate (d - i) 0 ++ (hexL n i).map fun b => (b.toNat : Int)
theorem row_length (n d i : Nat) (h : i ≤ d) : (row n d i).length = d := by simp [row, hexL_length]; omega
theorem row_set (n d i : Nat) (h : i < d) : (row n d i).set (d - 1 - i) ((dig (n / 16 ^ i % 16)).toNat : Int) = row n d (i + 1) := by
  simp only [row, hexL, List.map_cons]
  rw [List.set_append_left _ _ (by simp; omega)]
  have : List.replicate (d - i) (0 : Int) = List.replicate (d - (i + 1)) 0 ++ [0] := by
    rw [← List.replicate_succ', show d - (i + 1) + 1 = d - i by omega]
  rw [this, List.set_append_right _ _ (by simp; omega)]
  simp only [List.length_replicate, show d - 1 - i - (d - (i + 1)) = 0 by omega, List.set_cons_zero, List.append_assoc, List.singleton_append]
theorem strOf_hex (l : List UInt8) : strOfNums (l.map fun b => (b.toNat : Int)) = S l := by
  unfold strOfNums S
  congr 2
  rw [List.map_map]
  exact (List.map_congr_left (fun b _ => by simp)).trans (List.map_id l)
theorem implHex_eq (n : Nat) (hn : n ≤ 9223372036854775807) (d : Nat) (hd : 1 ≤ d) (hd8 : d ≤ 8) (k : Nat) (hk : d + 1 < k) : impl_HexText.f k (n : Int) (d : Int) = some (S (hexL n d)) := by
  obtain ⟨k, rfl⟩ : ∃ m, k = m + 1 := ⟨k - 1, by omega⟩
  have hin : impl_within.f (d : Int) 1 8 = some true := by simp only [impl_within.f]; rw [if_pos (by omega), decide_eq_true (by omega)]
  simp only [impl_HexText.f]
  rw [if_neg (by omega), hin]
  simp only [Option.bind_some, impl_HexText.j0, Bool.not_true, Bool.false_eq_true, if_false, Int.toNat_natCast]
  rw [if_pos (by omega), if_pos (by omega), w64 (by omega) (by omega)]
  have := loop_run (fun k (s : Int × List Int × Int) _ => impl_HexText.l0 k s.1 s.2.1 s.2.2) (fun i => (((n / 16 ^ i : Nat) : Int), row n d i, (d : Int) - 1 - (i : Int))) d (S (hexL n d)) ?_ ?_ k (by omega)
  · simpa [row, hexL] using this
  · intro k i hi
    obtain ⟨h1, h2⟩ := step16 n i hn
    have hlt : n / 16 ^ i % 16 < 16 := Nat.mod_lt _ (by omega)
    have hl := row_length n d i (by omega)
    simp only [impl_HexText.l0, h1, h2, bt_dig _ hlt]
    rw [if_pos (by omega), if_pos (by omega), if_pos (by omega), if_pos (by omega), if_pos (by omega), show ((d : Int) - 1 - (i : Int)).toNat = d - 1 - i by omega, row_set n d i hi, w64 (by omega) (by omega)]
    congr 1
    omega
  · intro k
    simp only [impl_HexText.l0]
    rw [if_neg (by omega)]
    simp only [row, Nat.sub_self, List.replicate_zero, List.nil_append, strOf_hex]
end Go.Proofs.YtchakfdnmabkjaaDoor.HexTrc
