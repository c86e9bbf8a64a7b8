import Derived.Test.YtecccbecflbcfaaSCPureKtlText
import Derived.Test.YtecccbecflbcfaaSCPureKtlRound
import Derived.Test.YtecccbecflbcfaaSCMyKtlReadKnow
set_option linter.unusedSimpArgs false
namespace Go.Proofs.Ytecccbecflbcfaa.Pure
open Go.RowKit Go.Proofs.Ytecccbecflbcfaa.PKtl Go.Proofs.Ytecccbecflbcfaa.Plain Go.Proofs.Ytecccbecflbcfaa.Str Go.Proofs.Ytecccbecflbcfaa.HexKtl Go.Proofs.Ytecccbecflbcfaa.ReadKtl Go.Proofs.Ytecccbecflbcfaa.Know Go.Proofs.YtecccbecflbcfaaW.PrintWords Go.Proofs.YtecccbecflbcfaaW.PrintLast Go.Proofs.YtecccbecflbcfaaW.PrintMore
def mkU (i : Nat) (x : Int) : UInt8 := if x = -1 then 63 else if x = 0 then 45 else ([78, 86, 68, 73, 90, 67] : List UInt8).getD i 0
theorem mark_S (i : Nat) (hi : i < 6) (x : Int) : markB i x = S [mkU i x] := by
  unfold markB mkU
  split
  · rfl
  · split
    · rfl
    · rcases i with _|_|_|_|_|_|i <;> first | rfl | omega
def kl (k0 k1 k2 k3 k4 k5 k6 k7 k8 k9 k10 : Int) : List UInt8 := [65, 61] ++ digC k0 2 ++ [32, 88, 61] ++ digC k1 2 ++ [32, 89, 61] ++ digC k2 2 ++ [32, 83, 61] ++ digC k3 2 ++ [32, 80, 67, 61] ++ digC k4 4 ++ [32] ++ [mkU 0 k5, mkU 1 k6, mkU 2 k7, mkU 3 k8, mkU 4 k9, mkU 5 k10]
theorem kl_length (k0 k1 k2 k3 k4 k5 k6 k7 k8 k9 k10 : Int) : (kl k0 k1 k2 k3 k4 k5 k6 k7 k8 k9 k10).length = 34 := by simp [kl, digC_length]
theorem ktext_S (k0 k1 k2 k3 k4 k5 k6 k7 k8 k9 k10 : Int) : ktext k0 k1 k2 k3 k4 k5 k6 k7 k8 k9 k10 = S (kl k0 k1 k2 k3 k4 k5 k6 k7 k8 k9 k10) := by
  have hm : ∀ out : ByteArray, marksUp (ints k0 k1 k2 k3 k4 k5 k6 k7 k8 k9 k10) out 6 = out ++ markB 0 k5 ++ markB 1 k6 ++ markB 2 k7 ++ markB 3 k8 ++ markB 4 k9 ++ markB 5 k10 := fun _ => rfl
  unfold ktext
  rw [hm, mark_S 0 (by omega), mark_S 1 (by omega), mark_S 2 (by omega), mark_S 3 (by omega), mark_S 4 (by omega), mark_S 5 (by omega)]
  unfold headB
  rw [show (⟨#[65, 61]⟩ : ByteArray) = S [65, 61] from rfl, show (⟨#[32, 88, 61]⟩ : ByteArray) = S [32, 88, 61] from rfl, show (⟨#[32, 89, 61]⟩ : ByteArray) = S [32, 89, 61] from rfl, show (⟨#[32, 83, 61]⟩ : ByteArray) = S [32, 83, 61] from rfl, show (⟨#[32, 80, 67, 61]⟩ : ByteArray) = S [32, 80, 67, 61] from rfl, show (⟨#[32]⟩ : ByteArray) = S [32] from rfl]
  simp only [S_append]
  unfold kl
  simp only [List.append_assoc, List.cons_append, List.nil_append]
theorem two_of_len {l : List UInt8} (h : l.length = 2) : ∃ a b, l = [a, b] := by
  match l, h with
  | [a, b], _ => exact ⟨a, b, rfl⟩
theorem four_of_len {l : List UInt8} (h : l.length = 4) : ∃ a b c d, l = [a, b, c, d] := by
  match l, h with
  | [a, b, c, d], _ => exact ⟨a, b, c, d, rfl⟩
theorem read_dig (n : Int) (h0 : -1 ≤ n) (d : Nat) (hd : (d = 2 ∧ n ≤ 255) ∨ (d = 4 ∧ n ≤ 65535)) (k : Nat) (hk : 10 < k) : impl_ReadHex.f k (S (digC n d)) (d : Int) = some n := by
  unfold digC
  by_cases hn : n < 0
  · rw [if_pos hn, read_marks d (by omega) k hk, show n = -1 by omega]
  · rw [if_neg hn]
    have := round_hex n.toNat d (by omega) (by omega) (by rcases hd with ⟨rfl, h⟩ | ⟨rfl, h⟩ <;> simp <;> omega) k hk
    rw [Int.toNat_of_nonneg (by omega)] at this
    exact this
theorem flag_of (s : ByteArray) (i : Nat) (hi : i < 6) (x : Int) (h0 : -1 ≤ x) (h1 : x ≤ 1) (hb : bt s ((28 + i : Nat) : Int) = ((mkU i x).toNat : Int)) : flagOf s i = x := by
  unfold flagOf
  rw [hb]
  have hx : x = -1 ∨ x = 0 ∨ x = 1 := by omega
  rcases i with _|_|_|_|_|_|i <;> first | omega | (rcases hx with rfl | rfl | rfl <;> rfl)
theorem read_ktext (k0 k1 k2 k3 k4 k5 k6 k7 k8 k9 k10 : Int) (hall : (List.range 11).all (okAt (ints k0 k1 k2 k3 k4 k5 k6 k7 k8 k9 k10)) = true) (k : Nat) (hk : 12 < k) : impl_ReadKnow.f k (ktext k0 k1 k2 k3 k4 k5 k6 k7 k8 k9 k10) = some (k0, k1, k2, k3, k4, k5, k6, k7, k8, k9, k10, true) := by
  have o0 := okPart hall 0 (by omega)
  have o1 := okPart hall 1 (by omega)
  have o2 := okPart hall 2 (by omega)
  have o3 := okPart hall 3 (by omega)
  have o4 := okPart hall 4 (by omega)
  have o5 := okPart hall 5 (by omega)
  have o6 := okPart hall 6 (by omega)
  have o7 := okPart hall 7 (by omega)
  have o8 := okPart hall 8 (by omega)
  have o9 := okPart hall 9 (by omega)
  have o10 := okPart hall 10 (by omega)
  have p0 : k0 ≤ 255 := o0.2
  have p1 : k1 ≤ 255 := o1.2
  have p2 : k2 ≤ 255 := o2.2
  have p3 : k3 ≤ 255 := o3.2
  have p4 : k4 ≤ 65535 := o4.2
  have p5 : k5 ≤ 1 := o5.2
  have p6 : k6 ≤ 1 := o6.2
  have p7 : k7 ≤ 1 := o7.2
  have p8 : k8 ≤ 1 := o8.2
  have p9 : k9 ≤ 1 := o9.2
  have p10 : k10 ≤ 1 := o10.2
  have m0 : -1 ≤ k0 := o0.1
  have m1 : -1 ≤ k1 := o1.1
  have m2 : -1 ≤ k2 := o2.1
  have m3 : -1 ≤ k3 := o3.1
  have m4 : -1 ≤ k4 := o4.1
  have m5 : -1 ≤ k5 := o5.1
  have m6 : -1 ≤ k6 := o6.1
  have m7 : -1 ≤ k7 := o7.1
  have m8 : -1 ≤ k8 := o8.1
  have m9 : -1 ≤ k9 := o9.1
  have m10 : -1 ≤ k10 := o10.1
  have r0 := read_dig k0 m0 2 (by omega) k (by omega)
  have r1 := read_dig k1 m1 2 (by omega) k (by omega)
  have r2 := read_dig k2 m2 2 (by omega) k (by omega)
  have r3 := read_dig k3 m3 2 (by omega) k (by omega)
  have r4 := read_dig k4 m4 4 (by omega) k (by omega)
  simp only [show ((2 : Nat) : Int) = 2 from rfl, show ((4 : Nat) : Int) = 4 from rfl] at r0 r1 r2 r3 r4
  have hn : (List.range 11).all (okAt (ints (-1) (-1) (-1) (-1) (-1) (-1) (-1) (-1) (-1) (-1) (-1))) = true := by decide +kernel
  have hK := ktext_impl k0 k1 k2 k3 k4 k5 k6 k7 k8 k9 k10 hall k (by omega)
  have hN := ktext_impl (-1) (-1) (-1) (-1) (-1) (-1) (-1) (-1) (-1) (-1) (-1) hn k (by omega)
  have sz : ∀ y0 y1 y2 y3 y4 y5 y6 y7 y8 y9 y10 : Int, (ktext y0 y1 y2 y3 y4 y5 y6 y7 y8 y9 y10).size = 34 := by
    intro y0 y1 y2 y3 y4 y5 y6 y7 y8 y9 y10
    rw [ktext_S, S_size, kl_length]
  obtain ⟨a0, b0, e0⟩ := two_of_len (digC_length k0 2)
  obtain ⟨a1, b1, e1⟩ := two_of_len (digC_length k1 2)
  obtain ⟨a2, b2, e2⟩ := two_of_len (digC_length k2 2)
  obtain ⟨a3, b3, e3⟩ := two_of_len (digC_length k3 2)
  obtain ⟨a4, b4, c4, d4, e4⟩ := four_of_len (digC_length k4 4)
  have hE : kl k0 k1 k2 k3 k4 k5 k6 k7 k8 k9 k10 = [65, 61, a0, b0, 32, 88, 61, a1, b1, 32, 89, 61, a2, b2, 32, 83, 61, a3, b3, 32, 80, 67, 61, a4, b4, c4, d4, 32, mkU 0 k5, mkU 1 k6, mkU 2 k7, mkU 3 k8, mkU 4 k9, mkU 5 k10] := by unfold kl; rw [e0, e1, e2, e3, e4]; rfl
  have hS : ktext k0 k1 k2 k3 k4 k5 k6 k7 k8 k9 k10 = S [65, 61, a0, b0, 32, 88, 61, a1, b1, 32, 89, 61, a2, b2, 32, 83, 61, a3, b3, 32, 80, 67, 61, a4, b4, c4, d4, 32, mkU 0 k5, mkU 1 k6, mkU 2 k7, mkU 3 k8, mkU 4 k9, mkU 5 k10] := by rw [ktext_S, hE]
  have x0 : (ktext k0 k1 k2 k3 k4 k5 k6 k7 k8 k9 k10).extract 2 4 = S (digC k0 2) := by rw [hS, S_extract, e0]; rfl
  have x1 : (ktext k0 k1 k2 k3 k4 k5 k6 k7 k8 k9 k10).extract 7 9 = S (digC k1 2) := by rw [hS, S_extract, e1]; rfl
  have x2 : (ktext k0 k1 k2 k3 k4 k5 k6 k7 k8 k9 k10).extract 12 14 = S (digC k2 2) := by rw [hS, S_extract, e2]; rfl
  have x3 : (ktext k0 k1 k2 k3 k4 k5 k6 k7 k8 k9 k10).extract 17 19 = S (digC k3 2) := by rw [hS, S_extract, e3]; rfl
  have x4 : (ktext k0 k1 k2 k3 k4 k5 k6 k7 k8 k9 k10).extract 23 27 = S (digC k4 4) := by rw [hS, S_extract, e4]; rfl
  have g0 : flagOf (ktext k0 k1 k2 k3 k4 k5 k6 k7 k8 k9 k10) 0 = k5 := flag_of _ 0 (by omega) k5 m5 p5 (by rw [hS, bt_S _ (28 + 0) (by simp)]; rfl)
  have g1 : flagOf (ktext k0 k1 k2 k3 k4 k5 k6 k7 k8 k9 k10) 1 = k6 := flag_of _ 1 (by omega) k6 m6 p6 (by rw [hS, bt_S _ (28 + 1) (by simp)]; rfl)
  have g2 : flagOf (ktext k0 k1 k2 k3 k4 k5 k6 k7 k8 k9 k10) 2 = k7 := flag_of _ 2 (by omega) k7 m7 p7 (by rw [hS, bt_S _ (28 + 2) (by simp)]; rfl)
  have g3 : flagOf (ktext k0 k1 k2 k3 k4 k5 k6 k7 k8 k9 k10) 3 = k8 := flag_of _ 3 (by omega) k8 m8 p8 (by rw [hS, bt_S _ (28 + 3) (by simp)]; rfl)
  have g4 : flagOf (ktext k0 k1 k2 k3 k4 k5 k6 k7 k8 k9 k10) 4 = k9 := flag_of _ 4 (by omega) k9 m9 p9 (by rw [hS, bt_S _ (28 + 4) (by simp)]; rfl)
  have g5 : flagOf (ktext k0 k1 k2 k3 k4 k5 k6 k7 k8 k9 k10) 5 = k10 := flag_of _ 5 (by omega) k10 m10 p10 (by rw [hS, bt_S _ (28 + 5) (by simp)]; rfl)
  unfold impl_ReadKnow.f
  rw [hN, Option.bind_some, if_pos (sz (-1) (-1) (-1) (-1) (-1) (-1) (-1) (-1) (-1) (-1) (-1)), if_pos (sz k0 k1 k2 k3 k4 k5 k6 k7 k8 k9 k10), x0, x1, x2, x3, x4, r0, Option.bind_some, r1, Option.bind_some, r2, Option.bind_some, r3, Option.bind_some, r4, Option.bind_some, g0, g1, g2, g3, g4, g5, hK, Option.bind_some, if_pos rfl]
end Go.Proofs.Ytecccbecflbcfaa.Pure
