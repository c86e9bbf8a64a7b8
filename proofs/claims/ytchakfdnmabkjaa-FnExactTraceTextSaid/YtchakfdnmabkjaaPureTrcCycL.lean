/- Plain lemmas on the texts of cycles: the text of a cycle is known byte by byte. -/
import Derived.Test.YtchakfdnmabkjaaPureTrcHex
import Derived.Test.YtchakfdnmabkjaaPTrcx4
import Derived.Test.YtchakfdnmabkjaaPTrcx1
namespace Go.Proofs.Ytchakfdnmabkjaa.CycLTrc
open Go.RowKit Go.Proofs.Ytchakfdnmabkjaa.PTrc Go.Proofs.Ytchakfdnmabkjaa.Plain Go.Proofs.Ytchakfdnmabkjaa.Str Go.Proofs.Ytchakfdnmabkjaa.HexTrc Go.Proofs.YtchakfdnmabkjaaW.PrintWords Go.Proofs.YtchakfdnmabkjaaW.PrintLast

/-- The text of a cycle, byte by byte. -/
def cycL (x y : Nat) (q : Bool) : List UInt8 := hexL x 4 ++ [32] ++ hexL y 2 ++ [32, if q = true then 119 else 114]
theorem cycL_length (x y : Nat) (q : Bool) : (cycL x y q).length = 9 := by simp [cycL, hexL_length]
theorem implCyc_eq (x y : Nat) (hx : x ≤ 65535) (hy : y ≤ 255) (q : Bool) (k : Nat) (hk : 10 < k) : impl_CycText.f k (x : Int) (y : Int) q = some (S (cycL x y q)) := by
  have p := implHex_eq x (by omega) 4 (by omega) (by omega) k (by omega)
  have p2 := implHex_eq y (by omega) 2 (by omega) (by omega) k (by omega)
  have w1 : wrap64 (x : Int) = x := w64 (by omega) (by omega)
  have w2 : wrap64 (y : Int) = y := w64 (by omega) (by omega)
  have e : (⟨#[32]⟩ : ByteArray) = S [32] := rfl
  have l1 := hexL_length x 4
  have l2 := hexL_length y 2
  have s1 : (S (hexL x 4)).size + 1 ≤ 9223372036854775807 := by rw [S_size]; omega
  have s2 : (S (hexL x 4 ++ [32])).size + (S (hexL y 2)).size ≤ 9223372036854775807 := by rw [S_size, S_size]; simp; omega
  have s3 : (S (hexL x 4 ++ [32] ++ hexL y 2)).size + 2 ≤ 9223372036854775807 := by rw [S_size]; simp; omega
  have f1 : (⟨#[32, 119]⟩ : ByteArray) = S [32, 119] := rfl
  have f2 : (⟨#[32, 114]⟩ : ByteArray) = S [32, 114] := rfl
  rw [show ((4 : Nat) : Int) = 4 from rfl] at p
  rw [show ((2 : Nat) : Int) = 2 from rfl] at p2
  cases q <;> simp only [impl_CycText.f, w1, w2, p, p2, e, f1, f2, S_append, Option.bind_some, if_pos s1, if_pos s2, if_pos s3, if_true, Bool.false_eq_true, if_false, cycL]
theorem specCyc_eq (x y : Nat) (hx : x ≤ 65535) (hy : y ≤ 255) (q : Bool) (k : Nat) (hk : 10 < k) : spec_CycText.f k (x : Int) (y : Int) q = some (S (cycL x y q)) := by
  have p := specHex_eq x (by omega) 4 (by omega) (by omega) k (by omega)
  have p2 := specHex_eq y (by omega) 2 (by omega) (by omega) k (by omega)
  have w1 : wrap64 (x : Int) = x := w64 (by omega) (by omega)
  have w2 : wrap64 (y : Int) = y := w64 (by omega) (by omega)
  have e : (⟨#[32]⟩ : ByteArray) = S [32] := rfl
  have l1 := hexL_length x 4
  have l2 := hexL_length y 2
  have s1 : (S (hexL x 4)).size + 1 ≤ 9223372036854775807 := by rw [S_size]; omega
  have s2 : (S (hexL x 4 ++ [32])).size + (S (hexL y 2)).size ≤ 9223372036854775807 := by rw [S_size, S_size]; simp; omega
  have s3 : (S (hexL x 4 ++ [32] ++ hexL y 2)).size + 2 ≤ 9223372036854775807 := by rw [S_size]; simp; omega
  have f1 : (⟨#[32, 119]⟩ : ByteArray) = S [32, 119] := rfl
  have f2 : (⟨#[32, 114]⟩ : ByteArray) = S [32, 114] := rfl
  rw [show ((4 : Nat) : Int) = 4 from rfl] at p
  rw [show ((2 : Nat) : Int) = 2 from rfl] at p2
  cases q <;> simp only [spec_CycText.f, w1, w2, p, p2, e, f1, f2, S_append, Option.bind_some, if_pos s1, if_pos s2, if_pos s3, if_true, Bool.false_eq_true, if_false, cycL]
theorem cut_addr (x y : Nat) (q : Bool) : (S (cycL x y q)).extract 0 4 = S (hexL x 4) := by
  rw [S_extract]; rfl
theorem cut_data (x y : Nat) (q : Bool) : (S (cycL x y q)).extract 5 7 = S (hexL y 2) := by
  rw [S_extract]; rfl
theorem bt_last (x y : Nat) (q : Bool) : (bt (S (cycL x y q)) 8 == 119) = q := by
  have := bt_S (cycL x y q) 8 (by rw [cycL_length]; omega)
  rw [show ((8 : Nat) : Int) = 8 from rfl] at this
  rw [this]
  cases q <;> rfl
theorem S_of {s : ByteArray} {l : List UInt8} (h : (S l).toList = s.toList) : s = S l := by
  rw [S_toList, Lib.toList_data] at h
  rw [h, S_data]
end Go.Proofs.Ytchakfdnmabkjaa.CycLTrc
