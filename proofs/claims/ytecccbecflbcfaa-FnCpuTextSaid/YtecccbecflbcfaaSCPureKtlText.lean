import Derived.Test.YtecccbecflbcfaaSCPureKtlHex
import Derived.Test.YtecccbecflbcfaaSCMyLoops
import Derived.Test.YtecccbecflbcfaaSCMyFields
import Derived.Test.YtecccbecflbcfaaSCMyKtlKnowOk
import Derived.Test.YtecccbecflbcfaaSCPKtlx0
import Derived.Test.YtecccbecflbcfaaSCMyKtlKnowText
import Derived.Test.YtecccbecflbcfaaSCMyKtlRepeat
set_option linter.unusedSimpArgs false
namespace Go.Proofs.Ytecccbecflbcfaa.Pure
open Go.RowKit Go.Proofs.Ytecccbecflbcfaa.PKtl Go.Proofs.Ytecccbecflbcfaa.Plain Go.Proofs.Ytecccbecflbcfaa.Str Go.Proofs.Ytecccbecflbcfaa.HexKtl Go.Proofs.Ytecccbecflbcfaa.Know Go.Proofs.YtecccbecflbcfaaW.PrintWords Go.Proofs.YtecccbecflbcfaaW.PrintLast Go.Proofs.YtecccbecflbcfaaW.PrintMore
def digC (n : Int) (d : Nat) : List UInt8 := if n < 0 then List.replicate d 63 else hexL n.toNat d
theorem digC_length (n : Int) (d : Nat) : (digC n d).length = d := by
  unfold digC
  split
  · simp
  · exact hexL_length _ _
theorem dig_impl (n : Int) (h0 : -1 ≤ n) (h1 : n ≤ 65535) (d : Nat) (hd : d = 2 ∨ d = 4) (k : Nat) (hk : 10 < k) : impl_digitsOf.f k n (d : Int) = some (S (digC n d)) := by
  unfold impl_digitsOf.f digC
  by_cases hn : n < 0
  · rw [if_pos hn, if_pos hn]
    rcases hd with rfl | rfl <;> rfl
  · rw [if_neg hn, if_neg hn]
    have := implHex_eq n.toNat (by omega) d (by omega) (by omega) k (by omega)
    rw [Int.toNat_of_nonneg (by omega)] at this
    rw [this]; rfl
theorem okPart {l : List Int} (h : (List.range 11).all (okAt l) = true) (i : Nat) (hi : i < 11) : -1 ≤ pAt l i ∧ pAt l i ≤ lim i := by
  have := List.all_eq_true.mp h i (List.mem_range.2 hi)
  simp only [okAt, Bool.and_eq_true, decide_eq_true_eq] at this
  exact this
theorem lim_le (i : Nat) : lim i ≤ 65535 := by unfold lim; (repeat' split) <;> omega
def ktext (k0 k1 k2 k3 k4 k5 k6 k7 k8 k9 k10 : Int) : ByteArray := marksUp (ints k0 k1 k2 k3 k4 k5 k6 k7 k8 k9 k10) (headB (S (digC k0 2)) (S (digC k1 2)) (S (digC k2 2)) (S (digC k3 2)) (S (digC k4 4))) 6
theorem ktext_impl (k0 k1 k2 k3 k4 k5 k6 k7 k8 k9 k10 : Int) (hall : (List.range 11).all (okAt (ints k0 k1 k2 k3 k4 k5 k6 k7 k8 k9 k10)) = true) (k : Nat) (hk : 10 < k) : impl_KnowText.f k k0 k1 k2 k3 k4 k5 k6 k7 k8 k9 k10 = some (ktext k0 k1 k2 k3 k4 k5 k6 k7 k8 k9 k10) := by
  have o0 := okPart hall 0 (by omega)
  have o1 := okPart hall 1 (by omega)
  have o2 := okPart hall 2 (by omega)
  have o3 := okPart hall 3 (by omega)
  have o4 := okPart hall 4 (by omega)
  have hl := lim_le
  have q0 := dig_impl k0 o0.1 (Int.le_trans o0.2 (hl 0)) 2 (by omega) k hk
  have q1 := dig_impl k1 o1.1 (Int.le_trans o1.2 (hl 1)) 2 (by omega) k hk
  have q2 := dig_impl k2 o2.1 (Int.le_trans o2.2 (hl 2)) 2 (by omega) k hk
  have q3 := dig_impl k3 o3.1 (Int.le_trans o3.2 (hl 3)) 2 (by omega) k hk
  have q4 := dig_impl k4 o4.1 (Int.le_trans o4.2 (hl 4)) 4 (by omega) k hk
  have z0 : (S (digC k0 2)).size ≤ 100 := by rw [S_size, digC_length]; omega
  have z1 : (S (digC k1 2)).size ≤ 100 := by rw [S_size, digC_length]; omega
  have z2 : (S (digC k2 2)).size ≤ 100 := by rw [S_size, digC_length]; omega
  have z3 : (S (digC k3 2)).size ≤ 100 := by rw [S_size, digC_length]; omega
  have z4 : (S (digC k4 4)).size ≤ 100 := by rw [S_size, digC_length]; omega
  simp only [show ((2 : Nat) : Int) = 2 from rfl, show ((4 : Nat) : Int) = 4 from rfl] at q0 q1 q2 q3 q4
  unfold impl_KnowText.f ktext
  rw [if_pos hall, q0, Option.bind_some, q1, Option.bind_some, q2, Option.bind_some, q3, Option.bind_some, q4, Option.bind_some, if_pos ⟨z0, z1, z2, z3, z4⟩]
end Go.Proofs.Ytecccbecflbcfaa.Pure
