import Derived.Lib.DecodeN
import Derived.Lib.FieldsP
import Derived.Test.YtafkbhnhmhmjcaaGreatDoorSWMyStr
import Derived.Test.YtafkbhnhmhmjcaaGreatDoorSWMyRunXWords
namespace Go.Proofs.YtafkbhnhmhmjcaaGreatDoor.WordRun
open Go.RowKit Go.Proofs.YtafkbhnhmhmjcaaGreatDoor.PRun Go.Proofs.YtafkbhnhmhmjcaaGreatDoor.Plain Go.Proofs.YtafkbhnhmhmjcaaGreatDoor.Str Go.Proofs.YtafkbhnhmhmjcaaGreatDoorW.PrintWords Go.Proofs.YtafkbhnhmhmjcaaGreatDoorW.PrintLast
def byteAt (s : ByteArray) (i : Nat) : Nat := (s.get! i).toNat
theorem bt_byteAt (s : ByteArray) (i : Nat) (h : i < s.size) : bt s (i : Int) = (byteAt s i : Int) := by
  have h' : ((i : Int)).toNat < s.size := by simpa using h
  unfold bt byteAt
  rw [dif_pos h']
  have : s.get! i = s[i] := by
    rw [ByteArray.getElem_eq_getElem_data]
    show s.data[i]! = _
    rw [getElem!_pos s.data i h]
  rw [this]
  simp
theorem rune_bytes (s : ByteArray) (i : Nat) (h : i < s.size) : 1 ≤ (Utf8.decode s i).2 ∧ i + (Utf8.decode s i).2 ≤ s.size ∧ blankB (Utf8.decode s i).1 = blankB (byteAt s i) ∧ ∀ j, i < j → j < i + (Utf8.decode s i).2 → blankB (byteAt s j) = false := by
  have big : ∀ n : Nat, 128 ≤ n → blankB n = false := by
    intro n hn
    unfold blankB
    rw [beq_eq_false_iff_ne.mpr (by omega), beq_eq_false_iff_ne.mpr (by omega)]
    rfl
  rw [Lib.decode_at]
  have e0 : (s.get! i).toNat = byteAt s i := rfl
  have e1 : (s.get! (i + 1)).toNat = byteAt s (i + 1) := rfl
  have e2 : (s.get! (i + 2)).toNat = byteAt s (i + 2) := rfl
  have e3 : (s.get! (i + 3)).toNat = byteAt s (i + 3) := rfl
  rw [e0, e1, e2, e3]
  by_cases h0 : byteAt s i < 128
  · have : Lib.decodeN (s.size - i) (byteAt s i) (byteAt s (i + 1)) (byteAt s (i + 2)) (byteAt s (i + 3)) = (byteAt s i, 1) := by unfold Lib.decodeN; rw [if_pos h0]
    rw [this]
    exact ⟨Nat.le_refl _, by omega, rfl, fun j hj hk => by omega⟩
  · have hb := big _ (Nat.le_of_not_lt h0)
    rw [hb]
    have one : ∀ x : Nat × Nat, x = (65533, 1) → 1 ≤ x.2 ∧ i + x.2 ≤ s.size ∧ blankB x.1 = false ∧ ∀ j, i < j → j < i + x.2 → blankB (byteAt s j) = false := by
      rintro x rfl
      exact ⟨Nat.le_refl _, by omega, by decide, fun j hj hk => by simp at hk; omega⟩
    unfold Lib.decodeN
    rw [if_neg h0]
    by_cases c2 : byteAt s i / 32 = 6 ∧ (1 < s.size - i ∧ byteAt s (i + 1) / 64 = 2)
    · rw [if_pos c2]
      by_cases d2 : byteAt s i % 32 * 64 + byteAt s (i + 1) % 64 ≥ 128
      · rw [if_pos d2]
        refine ⟨by simp, by simp; omega, big _ d2, fun j hj hk => ?_⟩
        obtain rfl : j = i + 1 := by simp at hk; omega
        exact big _ (by omega)
      · rw [if_neg d2]; exact one _ rfl
    · rw [if_neg c2]
      by_cases c3 : byteAt s i / 16 = 14 ∧ (1 < s.size - i ∧ byteAt s (i + 1) / 64 = 2) ∧ (2 < s.size - i ∧ byteAt s (i + 2) / 64 = 2)
      · rw [if_pos c3]
        split
        · rename_i d3
          refine ⟨by simp, by simp; omega, big _ (by simp only; omega), fun j hj hk => ?_⟩
          have : j = i + 1 ∨ j = i + 2 := by simp at hk; omega
          rcases this with rfl | rfl <;> exact big _ (by omega)
        · exact one _ rfl
      · rw [if_neg c3]
        by_cases c4 : byteAt s i / 8 = 30 ∧ (1 < s.size - i ∧ byteAt s (i + 1) / 64 = 2) ∧ (2 < s.size - i ∧ byteAt s (i + 2) / 64 = 2) ∧ (3 < s.size - i ∧ byteAt s (i + 3) / 64 = 2)
        · rw [if_pos c4]
          split
          · rename_i d4
            refine ⟨by simp, by simp; omega, big _ (by simp only; omega), fun j hj hk => ?_⟩
            have : j = i + 1 ∨ j = i + 2 ∨ j = i + 3 := by simp at hk; omega
            rcases this with rfl | rfl | rfl <;> exact big _ (by omega)
          · exact one _ rfl
        · rw [if_neg c4]; exact one _ rfl
def spans (s : ByteArray) : Nat → Nat → Option Nat → List (Nat × Nat)
  | 0, pos, some a => [(a, pos)]
  | 0, _, none => []
  | n + 1, pos, some a => if blankB (byteAt s pos) = true then (a, pos) :: spans s n (pos + 1) none else spans s n (pos + 1) (some a)
  | n + 1, pos, none => if blankB (byteAt s pos) = true then spans s n (pos + 1) none else spans s n (pos + 1) (some pos)
theorem spans_skip (s : ByteArray) (a : Nat) : ∀ (j n pos : Nat), (∀ i, pos ≤ i → i < pos + j → blankB (byteAt s i) = false) → spans s (n + j) pos (some a) = spans s n (pos + j) (some a)
  | 0, n, pos, _ => rfl
  | j + 1, n, pos, h => by
    rw [show n + (j + 1) = (n + j) + 1 by omega]
    simp only [spans, h pos (by omega) (by omega), Bool.false_eq_true, if_false]
    rw [spans_skip s a j n (pos + 1) (fun i h1 h2 => h i (by omega) (by omega)), show pos + 1 + j = pos + (j + 1) by omega]
theorem spans_go (s : ByteArray) : ∀ (f pos : Nat) (st : Option Nat) (acc : List (Nat × Nat)), pos ≤ s.size → s.size - pos ≤ f → Lib.closeSpans s (Lib.spansFromP blankB s f pos st acc) = acc ++ spans s (s.size - pos) pos st := by
  intro f
  induction f with
  | zero =>
    intro pos st acc h1 h2
    have : pos = s.size := by omega
    subst this
    rw [Nat.sub_self]
    cases st <;> simp [Lib.spansFromP, Lib.closeSpans, spans]
  | succ f ih =>
    intro pos st acc h1 h2
    by_cases hp : pos < s.size
    · obtain ⟨m1, m2, m3, m4⟩ := rune_bytes s pos hp
      simp only [Lib.spansFromP]
      rw [if_pos hp, m3]
      generalize hmm : (Utf8.decode s pos).2 = m at m1 m2 m4
      obtain ⟨n, hn⟩ : ∃ n, s.size - pos = n + 1 := ⟨s.size - pos - 1, by omega⟩
      by_cases hb : blankB (byteAt s pos) = true
      · -- a blank is one byte
        have hm : m = 1 ∨ 2 ≤ m := by omega
        rw [if_pos hb, hn]
        have go : ∀ acc' : List (Nat × Nat), Lib.closeSpans s (Lib.spansFromP blankB s f (pos + m) none acc') = acc' ++ spans s n (pos + 1) none := by
          intro acc'
          rcases hm with rfl | hm
          · rw [ih (pos + 1) none acc' (by omega) (by omega), show s.size - (pos + 1) = n by omega]
          · -- cannot be: a rune of more bytes is no blank
            exfalso
            have h0 : ¬ byteAt s pos < 128 := by
              intro hlt
              have hd : Utf8.decode s pos = (byteAt s pos, 1) := by rw [Lib.decode_at]; unfold Lib.decodeN; exact if_pos hlt
              rw [hd] at hmm
              simp only at hmm
              omega
            have hq : blankB (byteAt s pos) = false := by
              unfold blankB
              rw [beq_eq_false_iff_ne.mpr (by omega), beq_eq_false_iff_ne.mpr (by omega)]
              rfl
            rw [hq] at hb
            exact absurd hb (by decide)
        cases st with
        | some a => simp only [spans]; rw [if_pos hb, go, List.append_assoc]; rfl
        | none => simp only [spans]; rw [if_pos hb, go]
      · rw [if_neg hb]
        have go : ∀ a, Lib.closeSpans s (Lib.spansFromP blankB s f (pos + m) (some a) acc) = acc ++ spans s n (pos + 1) (some a) := by
          intro a
          rw [ih (pos + m) (some a) acc (by omega) (by omega)]
          obtain ⟨j, rfl⟩ : ∃ j, m = j + 1 := ⟨m - 1, by omega⟩
          rw [show n = (s.size - (pos + (j + 1))) + j by omega, spans_skip s a j _ (pos + 1) (fun i g1 g2 => m4 i (by omega) (by omega)), show pos + 1 + j = pos + (j + 1) by omega]
        rw [hn]
        cases st with
        | some a => simp only [spans]; rw [if_neg hb, go]
        | none => simp only [spans]; rw [if_neg hb, go]
    · have : pos = s.size := by omega
      subst this
      rw [Nat.sub_self]
      simp only [Lib.spansFromP]
      rw [if_neg hp]
      cases st <;> simp [Lib.closeSpans, spans]
def wordsOf (s : ByteArray) : List ByteArray := (spans s s.size 0 none).map fun x => s.extract x.1 x.2
theorem impl_words (s : ByteArray) (h : s.size ≤ 4294967296) : impl_Words.f s = some (wordsOf s) := by
  unfold impl_Words.f
  rw [if_pos h]
  have := spans_go s s.size 0 none [] (Nat.zero_le _) (by omega)
  rw [Nat.sub_zero, List.nil_append] at this
  unfold Lib.goFieldsP Lib.spansOfP wordsOf
  rw [this]
end Go.Proofs.YtafkbhnhmhmjcaaGreatDoor.WordRun
