/- The text of what is known: the program's and the reference's are the same bytes. -/
import Derived.Test.YtecccbecflbcfaaPureKtxHex
import Derived.Test.YtecccbecflbcfaaPureKtxBase
import Derived.Test.YtecccbecflbcfaaMyKtxKnowText
import Derived.Test.YtecccbecflbcfaaMyKtxRepeat
import Derived.Test.YtecccbecflbcfaaPKtxx3
set_option linter.unusedSimpArgs false
namespace Go.Proofs.Ytecccbecflbcfaa.Pure
open Go.RowKit Go.Proofs.Ytecccbecflbcfaa.PKtx Go.Proofs.Ytecccbecflbcfaa.Plain Go.Proofs.Ytecccbecflbcfaa.Str Go.Proofs.Ytecccbecflbcfaa.HexKtx Go.Proofs.Ytecccbecflbcfaa.Know Go.Proofs.YtecccbecflbcfaaW.PrintWords Go.Proofs.YtecccbecflbcfaaW.PrintLast Go.Proofs.YtecccbecflbcfaaW.PrintMore

/-- The digits of a part, as bytes. -/
def digC (n : Int) (d : Nat) : List UInt8 := if n < 0 then List.replicate d 63 else hexL n.toNat d
theorem digC_length (n : Int) (d : Nat) : (digC n d).length = d := by
  unfold digC
  split
  · simp
  · exact hexL_length _ _
theorem dig_impl (n : Int) (h0 : -1 ≤ n) (h1 : n ≤ 65535) (d : Nat) (hd : d = 2 ∨ d = 4) (k : Nat) (hk : 10 < k) : impl_digitsOf.f k n (d : Int) = some (S (digC n d)) := by
  unfold impl_digitsOf.f digC
  by_cases hn : n < 0
  · rw [if_pos hn, if_pos hn]
    rcases hd with rfl | rfl <;> rfl
  · rw [if_neg hn, if_neg hn]
    have := implHex_eq n.toNat (by omega) d (by omega) (by omega) k (by omega)
    rw [Int.toNat_of_nonneg (by omega)] at this
    rw [this]; rfl
theorem dig_spec (n : Int) (h0 : -1 ≤ n) (h1 : n ≤ 65535) (d : Nat) (hd : d = 2 ∨ d = 4) (k : Nat) (hk : 10 < k) : spec_l09Digits.f k n (d : Int) = some (S (digC n d)) := by
  unfold spec_l09Digits.f digC
  by_cases hn : n < 0
  · rw [if_pos hn, if_pos hn, if_pos (by omega), if_pos (by omega), show (⟨#[63, 63, 63, 63]⟩ : ByteArray) = S [63, 63, 63, 63] from rfl, S_extract, Int.toNat_natCast]
    rcases hd with rfl | rfl <;> rfl
  · rw [if_neg hn, if_neg hn]
    have := specHex_eq n.toNat (by omega) d (by omega) (by omega) k (by omega)
    rw [Int.toNat_of_nonneg (by omega)] at this
    rw [this]; rfl
theorem okPart {l : List Int} (h : (List.range 11).all (okAt l) = true) (i : Nat) (hi : i < 11) : -1 ≤ pAt l i ∧ pAt l i ≤ lim i := by
  have := List.all_eq_true.mp h i (List.mem_range.2 hi)
  simp only [okAt, Bool.and_eq_true, decide_eq_true_eq] at this
  exact this
theorem marks_step (k : Nat) (l : List Int) (hl : l.length = 11) (out : ByteArray) (ho : out.size ≤ 1000) (i : Nat) (hi : i < 6) (h0 : -1 ≤ pAt l (5 + i)) (h1 : pAt l (5 + i) ≤ 1) :
    spec_KnowText.l0 (k + 1) l out (i : Int) = spec_KnowText.l0 k l (out ++ markB i (pAt l (5 + i))) ((i + 1 : Nat) : Int) := by
  have e : wrap64 (5 + (i : Int)) = ((5 + i : Nat) : Int) := by rw [w64 (by omega) (by omega)]; omega
  have s : wrap64 ((i : Int) + 1) = ((i + 1 : Nat) : Int) := by rw [w64 (by omega) (by omega)]; omega
  have hx : ((⟨#[78, 86, 68, 73, 90, 67]⟩ : ByteArray).extract i (i + 1)).size ≤ 1 := by rw [ByteArray.size_extract]; omega
  simp only [spec_KnowText.l0, e, s, Int.toNat_natCast, rd_pAt]
  generalize pAt l (5 + i) = x at h0 h1 ⊢
  rw [if_pos (by omega), if_pos (by omega), if_pos (by omega)]
  unfold markB
  by_cases hz : x = 0
  · subst hz
    rw [if_pos rfl, if_pos (by omega), if_neg (by omega), if_pos rfl]
  · rw [if_neg hz]
    by_cases ho1 : x = 1
    · subst ho1
      rw [if_pos rfl, if_pos (by omega), if_pos (by omega), if_pos (by omega), if_pos (by omega), if_neg (by omega), if_neg (by omega)]
    · rw [if_neg ho1, if_pos (by omega), if_pos (show x = -1 by omega)]
theorem marks_end (k : Nat) (l : List Int) (out : ByteArray) : spec_KnowText.l0 (k + 1) l out ((6 : Nat) : Int) = some out := by
  simp only [spec_KnowText.l0]
  rw [if_neg (by omega)]
theorem marks_run (l : List Int) (hl : l.length = 11) (out : ByteArray) (ho : out.size ≤ 900) (hok : ∀ i, i < 6 → -1 ≤ pAt l (5 + i) ∧ pAt l (5 + i) ≤ 1) (n : Nat) (hn : n ≤ 6) (k : Nat) : spec_KnowText.l0 (k + n) l out ((0 : Nat) : Int) = spec_KnowText.l0 k l (marksUp l out n) (n : Int) := by
  induction n generalizing k with
  | zero => rfl
  | succ n ih =>
    have hu := marksUp_size l out n
    have := ih (by omega) (k + 1)
    rw [show k + (n + 1) = k + 1 + n by omega, this, marks_step k l hl _ (by omega) n (by omega) (hok n (by omega)).1 (hok n (by omega)).2]
    rfl
theorem marks_all (l : List Int) (hl : l.length = 11) (out : ByteArray) (ho : out.size ≤ 900) (hok : ∀ i, i < 6 → -1 ≤ pAt l (5 + i) ∧ pAt l (5 + i) ≤ 1) (k : Nat) (hk : 7 ≤ k) : spec_KnowText.l0 k l out 0 = some (marksUp l out 6) := by
  obtain ⟨j, rfl⟩ : ∃ j, k = j + 1 + 6 := ⟨k - 7, by omega⟩
  have := marks_run l hl out ho hok 6 (by omega) (j + 1)
  rw [show ((0 : Nat) : Int) = 0 from rfl] at this
  rw [this]
  exact marks_end j l _
theorem lim_le (i : Nat) : lim i ≤ 65535 := by unfold lim; (repeat' split) <;> omega
/-- The text of what is known (canon). -/
def ktext (k0 k1 k2 k3 k4 k5 k6 k7 k8 k9 k10 : Int) : ByteArray := marksUp (ints k0 k1 k2 k3 k4 k5 k6 k7 k8 k9 k10) (headB (S (digC k0 2)) (S (digC k1 2)) (S (digC k2 2)) (S (digC k3 2)) (S (digC k4 4))) 6
theorem headB_size (d0 d1 d2 d3 d4 : ByteArray) : (headB d0 d1 d2 d3 d4).size = 16 + d0.size + d1.size + d2.size + d3.size + d4.size := by
  have e0 : (⟨#[65, 61]⟩ : ByteArray).size = 2 := rfl
  have e1 : (⟨#[32, 88, 61]⟩ : ByteArray).size = 3 := rfl
  have e2 : (⟨#[32, 89, 61]⟩ : ByteArray).size = 3 := rfl
  have e3 : (⟨#[32, 83, 61]⟩ : ByteArray).size = 3 := rfl
  have e4 : (⟨#[32, 80, 67, 61]⟩ : ByteArray).size = 4 := rfl
  have e5 : (⟨#[32]⟩ : ByteArray).size = 1 := rfl
  simp only [headB, ByteArray.size_append, e0, e1, e2, e3, e4, e5]
  omega
theorem ktext_impl (k0 k1 k2 k3 k4 k5 k6 k7 k8 k9 k10 : Int) (hall : (List.range 11).all (okAt (ints k0 k1 k2 k3 k4 k5 k6 k7 k8 k9 k10)) = true) (k : Nat) (hk : 10 < k) : impl_KnowText.f k k0 k1 k2 k3 k4 k5 k6 k7 k8 k9 k10 = some (ktext k0 k1 k2 k3 k4 k5 k6 k7 k8 k9 k10) := by
  have o0 := okPart hall 0 (by omega)
  have o1 := okPart hall 1 (by omega)
  have o2 := okPart hall 2 (by omega)
  have o3 := okPart hall 3 (by omega)
  have o4 := okPart hall 4 (by omega)
  have hl := lim_le
  have q0 := dig_impl k0 o0.1 (Int.le_trans o0.2 (hl 0)) 2 (by omega) k hk
  have q1 := dig_impl k1 o1.1 (Int.le_trans o1.2 (hl 1)) 2 (by omega) k hk
  have q2 := dig_impl k2 o2.1 (Int.le_trans o2.2 (hl 2)) 2 (by omega) k hk
  have q3 := dig_impl k3 o3.1 (Int.le_trans o3.2 (hl 3)) 2 (by omega) k hk
  have q4 := dig_impl k4 o4.1 (Int.le_trans o4.2 (hl 4)) 4 (by omega) k hk
  have z0 : (S (digC k0 2)).size ≤ 100 := by rw [S_size, digC_length]; omega
  have z1 : (S (digC k1 2)).size ≤ 100 := by rw [S_size, digC_length]; omega
  have z2 : (S (digC k2 2)).size ≤ 100 := by rw [S_size, digC_length]; omega
  have z3 : (S (digC k3 2)).size ≤ 100 := by rw [S_size, digC_length]; omega
  have z4 : (S (digC k4 4)).size ≤ 100 := by rw [S_size, digC_length]; omega
  simp only [show ((2 : Nat) : Int) = 2 from rfl, show ((4 : Nat) : Int) = 4 from rfl] at q0 q1 q2 q3 q4
  unfold impl_KnowText.f ktext
  rw [if_pos hall, q0, Option.bind_some, q1, Option.bind_some, q2, Option.bind_some, q3, Option.bind_some, q4, Option.bind_some, if_pos ⟨z0, z1, z2, z3, z4⟩]
theorem ktext_spec (k0 k1 k2 k3 k4 k5 k6 k7 k8 k9 k10 : Int) (hall : (List.range 11).all (okAt (ints k0 k1 k2 k3 k4 k5 k6 k7 k8 k9 k10)) = true) (k : Nat) (hk : 12 < k) : spec_KnowText.f k k0 k1 k2 k3 k4 k5 k6 k7 k8 k9 k10 = some (ktext k0 k1 k2 k3 k4 k5 k6 k7 k8 k9 k10) := by
  have o0 := okPart hall 0 (by omega)
  have o1 := okPart hall 1 (by omega)
  have o2 := okPart hall 2 (by omega)
  have o3 := okPart hall 3 (by omega)
  have o4 := okPart hall 4 (by omega)
  have o5 := okPart hall 5 (by omega)
  have o6 := okPart hall 6 (by omega)
  have o7 := okPart hall 7 (by omega)
  have o8 := okPart hall 8 (by omega)
  have o9 := okPart hall 9 (by omega)
  have o10 := okPart hall 10 (by omega)
  have hl := lim_le
  have q0 := dig_spec k0 o0.1 (Int.le_trans o0.2 (hl 0)) 2 (by omega) k (by omega)
  have q1 := dig_spec k1 o1.1 (Int.le_trans o1.2 (hl 1)) 2 (by omega) k (by omega)
  have q2 := dig_spec k2 o2.1 (Int.le_trans o2.2 (hl 2)) 2 (by omega) k (by omega)
  have q3 := dig_spec k3 o3.1 (Int.le_trans o3.2 (hl 3)) 2 (by omega) k (by omega)
  have q4 := dig_spec k4 o4.1 (Int.le_trans o4.2 (hl 4)) 4 (by omega) k (by omega)
  have z0 : (S (digC k0 2)).size = 2 := by rw [S_size, digC_length]
  have z1 : (S (digC k1 2)).size = 2 := by rw [S_size, digC_length]
  have z2 : (S (digC k2 2)).size = 2 := by rw [S_size, digC_length]
  have z3 : (S (digC k3 2)).size = 2 := by rw [S_size, digC_length]
  have z4 : (S (digC k4 4)).size = 4 := by rw [S_size, digC_length]
  simp only [show ((2 : Nat) : Int) = 2 from rfl, show ((4 : Nat) : Int) = 4 from rfl] at q0 q1 q2 q3 q4
  have e0 : (⟨#[65, 61]⟩ : ByteArray).size = 2 := rfl
  have e1 : (⟨#[32, 88, 61]⟩ : ByteArray).size = 3 := rfl
  have e2 : (⟨#[32, 89, 61]⟩ : ByteArray).size = 3 := rfl
  have e3 : (⟨#[32, 83, 61]⟩ : ByteArray).size = 3 := rfl
  have e4 : (⟨#[32, 80, 67, 61]⟩ : ByteArray).size = 4 := rfl
  have e5 : (⟨#[32]⟩ : ByteArray).size = 1 := rfl
  have hm := marks_all (ints k0 k1 k2 k3 k4 k5 k6 k7 k8 k9 k10) rfl (headB (S (digC k0 2)) (S (digC k1 2)) (S (digC k2 2)) (S (digC k3 2)) (S (digC k4 4))) (by rw [headB_size, z0, z1, z2, z3, z4]; omega) (fun i hi => by
    have := okPart hall (5 + i) (by omega)
    have h1 : lim (5 + i) = 1 := by unfold lim; rw [if_neg (by omega), if_neg (by omega)]
    rw [h1] at this; exact this) k (by omega)
  unfold spec_KnowText.f
  rw [specOk_eq k0 k1 k2 k3 k4 k5 k6 k7 k8 k9 k10 k hk, Option.bind_some, if_pos hall]
  show (some (ints k0 k1 k2 k3 k4 k5 k6 k7 k8 k9 k10)).bind _ = _
  rw [Option.bind_some]

  unfold ktext
  rw [q0, Option.bind_some, if_pos (by omega), if_pos (by simp only [ByteArray.size_append, e0, e1, e2, e3, e4, e5, z0, z1, z2, z3, z4]; omega)]
  rw [q1, Option.bind_some, if_pos (by simp only [ByteArray.size_append, e0, e1, e2, e3, e4, e5, z0, z1, z2, z3, z4]; omega), if_pos (by simp only [ByteArray.size_append, e0, e1, e2, e3, e4, e5, z0, z1, z2, z3, z4]; omega)]
  rw [q2, Option.bind_some, if_pos (by simp only [ByteArray.size_append, e0, e1, e2, e3, e4, e5, z0, z1, z2, z3, z4]; omega), if_pos (by simp only [ByteArray.size_append, e0, e1, e2, e3, e4, e5, z0, z1, z2, z3, z4]; omega)]
  rw [q3, Option.bind_some, if_pos (by simp only [ByteArray.size_append, e0, e1, e2, e3, e4, e5, z0, z1, z2, z3, z4]; omega), if_pos (by simp only [ByteArray.size_append, e0, e1, e2, e3, e4, e5, z0, z1, z2, z3, z4]; omega)]
  rw [q4, Option.bind_some, if_pos (by simp only [ByteArray.size_append, e0, e1, e2, e3, e4, e5, z0, z1, z2, z3, z4]; omega), if_pos (by simp only [ByteArray.size_append, e0, e1, e2, e3, e4, e5, z0, z1, z2, z3, z4]; omega)]
  exact hm
theorem ktext_bad (k0 k1 k2 k3 k4 k5 k6 k7 k8 k9 k10 : Int) (hall : ¬ (List.range 11).all (okAt (ints k0 k1 k2 k3 k4 k5 k6 k7 k8 k9 k10)) = true) (k : Nat) (hk : 12 < k) : spec_KnowText.f k k0 k1 k2 k3 k4 k5 k6 k7 k8 k9 k10 = some ⟨#[]⟩ ∧ impl_KnowText.f k k0 k1 k2 k3 k4 k5 k6 k7 k8 k9 k10 = some ⟨#[]⟩ := by
  constructor
  · unfold spec_KnowText.f
    rw [specOk_eq k0 k1 k2 k3 k4 k5 k6 k7 k8 k9 k10 k hk, Option.bind_some, if_neg hall]
  · unfold impl_KnowText.f
    rw [if_neg hall]
end Go.Proofs.Ytecccbecflbcfaa.Pure
