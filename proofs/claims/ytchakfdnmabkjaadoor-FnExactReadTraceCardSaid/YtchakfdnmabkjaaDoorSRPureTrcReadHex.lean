import Derived.Test.YtchakfdnmabkjaaDoorSRMyStr
import Derived.Test.YtchakfdnmabkjaaDoorSRPTrcx9
import Derived.Test.YtchakfdnmabkjaaDoorSRPTrcx2
import Derived.Laws.BytesArg
namespace Go.Proofs.YtchakfdnmabkjaaDoor.ReadTrc
open Go.RowKit Go.Proofs.YtchakfdnmabkjaaDoor.PTrc Go.Proofs.YtchakfdnmabkjaaDoor.Plain Go.Proofs.YtchakfdnmabkjaaDoor.Str Go.Proofs.YtchakfdnmabkjaaDoorW.PrintWords Go.Proofs.YtchakfdnmabkjaaDoorW.PrintLast
theorem byt {P : Int → Prop} (h : ∀ n : Nat, n < 256 → P (n : Int)) {a : Int} (h0 : 0 ≤ a) (h1 : a ≤ 255) : P a := by
  have := h a.toNat (by omega)
  rwa [Int.toNat_of_nonneg h0] at this
def hv (c : Int) : Int := if 48 ≤ c ∧ c ≤ 57 then c - 48 else if 65 ≤ c ∧ c ≤ 70 then c - 55 else -1
theorem idx_hv {c : Int} (h0 : 0 ≤ c) (h1 : c ≤ 255) : strings_IndexByte.f (⟨#[48, 49, 50, 51, 52, 53, 54, 55, 56, 57, 65, 66, 67, 68, 69, 70]⟩ : ByteArray) c = some (hv c) :=
  byt (P := fun c => strings_IndexByte.f (⟨#[48, 49, 50, 51, 52, 53, 54, 55, 56, 57, 65, 66, 67, 68, 69, 70]⟩ : ByteArray) c = some (hv c)) (by decide +kernel) h0 h1
theorem bt_rng (s : ByteArray) (i : Int) : 0 ≤ bt s i ∧ bt s i ≤ 255 := by
  unfold bt
  split
  · have := s[i.toNat].toNat_lt; omega
  · omega
theorem pow_le {i : Nat} (h : i < 8) : (16 : Int) ^ i ≤ 268435456 := by
  rcases i with _|_|_|_|_|_|_|_|i
  all_goals first | decide | omega
theorem pow_pos16 (i : Nat) : (0 : Int) < 16 ^ i := Int.pow_pos (by decide)
theorem hex_loops (s : ByteArray) (d : Nat) (hd : d = s.size) (h8 : d ≤ 8) : ∀ (m i : Nat) (n : Int), i + m = d → 0 ≤ n → n < 16 ^ i → ∃ r : Int, (∀ k, m < k → spec_ReadHex.l0 k s (d : Int) n (i : Int) = some r) ∧ (∀ k, m < k → impl_ReadHex.l0 k s n (d : Int) (i : Int) = some r) ∧ (r = -1 ∨ 0 ≤ r ∧ r < 16 ^ d) := by
  intro m
  induction m with
  | zero =>
    intro i n hi h0 h1
    refine ⟨n, ?_, ?_, Or.inr ⟨h0, by rw [show d = i by omega]; exact h1⟩⟩
    · intro k hk
      obtain ⟨k, rfl⟩ : ∃ j, k = j + 1 := ⟨k - 1, by omega⟩
      simp only [spec_ReadHex.l0]
      rw [if_neg (by omega)]
    · intro k hk
      obtain ⟨k, rfl⟩ : ∃ j, k = j + 1 := ⟨k - 1, by omega⟩
      simp only [impl_ReadHex.l0]
      rw [if_neg (by omega)]
  | succ m ih =>
    intro i n hi h0 h1
    have hlt : i < 8 := by omega
    have hp := pow_le hlt
    have hq : (16 : Int) ^ (i + 1) = 16 ^ i * 16 := Int.pow_succ 16 i
    obtain ⟨c0, c1⟩ := bt_rng s (i : Int)
    have hI := idx_hv c0 c1
    have e1 : (i : Int) < (d : Int) := by omega
    have e2 : (0 : Int) ≤ (i : Int) := by omega
    have e3 : (i : Int) < (s.size : Int) := by omega
    have w1 : wrap64 (16 * n) = 16 * n := w64 (by omega) (by omega)
    have w2 : wrap64 (bt s (i : Int)) = bt s (i : Int) := w64 (by omega) (by omega)
    have w3 : wrap64 (16 * n + bt s (i : Int)) = 16 * n + bt s (i : Int) := w64 (by omega) (by omega)
    by_cases ha : 48 ≤ bt s (i : Int) ∧ bt s (i : Int) ≤ 57
    · have hv' : hv (bt s (i : Int)) = bt s (i : Int) - 48 := if_pos ha
      obtain ⟨r, r1, r2, r3⟩ := ih (i + 1) (16 * n + bt s (i : Int) - 48) (by omega) (by omega) (by omega)
      refine ⟨r, ?_, ?_, r3⟩
      · intro k hk
        obtain ⟨k, rfl⟩ : ∃ j, k = j + 1 := ⟨k - 1, by omega⟩
        simp only [spec_ReadHex.l0, spec_l01Digit.f, spec_l01In.f]
        rw [if_pos e1, if_pos e2, if_pos e3, w1, w2, w3, w64 (x := 16 * n + bt s (i : Int) - 48) (by omega) (by omega), if_pos (by omega), decide_eq_true (by omega), wsucc (by omega)]
        simp only [Option.bind_some, if_true]
        exact r1 k (by omega)
      · intro k hk
        obtain ⟨k, rfl⟩ : ∃ j, k = j + 1 := ⟨k - 1, by omega⟩
        simp only [impl_ReadHex.l0]
        rw [if_pos e1, if_pos e2, if_pos e3, hI, w1, wsucc (by omega)]
        simp only [Option.bind_some, hv']
        rw [if_neg (by omega), w64 (by omega) (by omega), show 16 * n + (bt s (i : Int) - 48) = 16 * n + bt s (i : Int) - 48 by omega]
        exact r2 k (by omega)
    · by_cases hb : 65 ≤ bt s (i : Int) ∧ bt s (i : Int) ≤ 70
      · have hv' : hv (bt s (i : Int)) = bt s (i : Int) - 55 := (if_neg ha).trans (if_pos hb)
        obtain ⟨r, r1, r2, r3⟩ := ih (i + 1) (16 * n + bt s (i : Int) - 55) (by omega) (by omega) (by omega)
        refine ⟨r, ?_, ?_, r3⟩
        · intro k hk
          obtain ⟨k, rfl⟩ : ∃ j, k = j + 1 := ⟨k - 1, by omega⟩
          simp only [spec_ReadHex.l0, spec_l01Digit.f, spec_l01In.f]
          rw [if_pos e1, if_pos e2, if_pos e3, w1, w2, w3, w64 (x := 16 * n + bt s (i : Int) - 55) (by omega) (by omega), if_pos (by omega), decide_eq_false (by omega), wsucc (by omega)]
          simp only [Option.bind_some, Bool.false_eq_true, if_false]
          rw [if_pos (by omega), decide_eq_true (by omega)]
          simp only [Option.bind_some, if_true]
          exact r1 k (by omega)
        · intro k hk
          obtain ⟨k, rfl⟩ : ∃ j, k = j + 1 := ⟨k - 1, by omega⟩
          simp only [impl_ReadHex.l0]
          rw [if_pos e1, if_pos e2, if_pos e3, hI, w1, wsucc (by omega)]
          simp only [Option.bind_some, hv']
          rw [if_neg (by omega), w64 (by omega) (by omega), show 16 * n + (bt s (i : Int) - 55) = 16 * n + bt s (i : Int) - 55 by omega]
          exact r2 k (by omega)
      · have hv' : hv (bt s (i : Int)) = -1 := (if_neg ha).trans (if_neg hb)
        have hD : spec_l01Digit.f (bt s (i : Int)) = some false := by
          simp only [spec_l01Digit.f, spec_l01In.f, w2]
          by_cases h : bt s (i : Int) ≥ 48
          · rw [if_pos h, decide_eq_false (by omega)]; rfl
          · rw [if_neg h]; rfl
        have hN : spec_l01In.f (bt s (i : Int)) 65 70 = some false := by
          simp only [spec_l01In.f]
          by_cases h : bt s (i : Int) ≥ 65
          · rw [if_pos h, decide_eq_false (by omega)]
          · rw [if_neg h]
        refine ⟨-1, ?_, ?_, Or.inl rfl⟩
        · intro k hk
          obtain ⟨k, rfl⟩ : ∃ j, k = j + 1 := ⟨k - 1, by omega⟩
          simp only [spec_ReadHex.l0]
          rw [if_pos e1, if_pos e2, if_pos e3, hD, w2]
          simp only [Option.bind_some, Bool.false_eq_true, if_false]
          rw [hN]
          simp only [Option.bind_some, Bool.false_eq_true, if_false]
        · intro k hk
          obtain ⟨k, rfl⟩ : ∃ j, k = j + 1 := ⟨k - 1, by omega⟩
          simp only [impl_ReadHex.l0]
          rw [if_pos e1, if_pos e2, if_pos e3, hI]
          simp only [Option.bind_some, hv']
          rw [if_pos (by omega)]
theorem readHex_both (s : ByteArray) (a : Int) : ∃ r : Int, (∀ k, 10 < k → spec_ReadHex.f k s a = some r) ∧ (∀ k, 10 < k → impl_ReadHex.f k s a = some r) ∧ -1 ≤ r ∧ (∀ d : Nat, a = (d : Int) → r < 16 ^ d) := by
  have hpp : ∀ d : Nat, (-1 : Int) < 16 ^ d := fun d => by have := pow_pos16 d; omega
  by_cases h1 : a ≥ 1
  · by_cases h8 : a ≤ 8
    · by_cases hs : (s.size : Int) = a
      · obtain ⟨r, r1, r2, r3⟩ := hex_loops s s.size rfl (by omega) s.size 0 0 (by omega) (by omega) (by simp)
        refine ⟨r, ?_, ?_, by omega, ?_⟩
        · intro k hk
          obtain ⟨k, rfl⟩ : ∃ j, k = j + 1 := ⟨k - 1, by omega⟩
          simp only [spec_ReadHex.f, spec_l01In.f]
          rw [if_pos h1, decide_eq_true h8]
          simp only [Option.bind_some, if_true, spec_ReadHex.j0]
          rw [if_neg (by simp [hs]), ← hs]
          exact r1 k (by omega)
        · intro k hk
          obtain ⟨k, rfl⟩ : ∃ j, k = j + 1 := ⟨k - 1, by omega⟩
          simp only [impl_ReadHex.f, impl_within.f]
          rw [if_pos h1, decide_eq_true h8]
          simp only [Option.bind_some, if_true, impl_ReadHex.j0]
          rw [if_neg (by simp [hs]), ← hs]
          exact r2 k (by omega)
        · intro d hd
          have : d = s.size := by omega
          subst this
          rcases r3 with r3 | r3
          · rw [r3]; exact hpp _
          · exact r3.2
      · have hb : ((s.size : Int) != a) = true := bne_iff_ne.mpr hs
        refine ⟨-1, ?_, ?_, by omega, fun d _ => hpp d⟩
        · intro k hk
          obtain ⟨k, rfl⟩ : ∃ j, k = j + 1 := ⟨k - 1, by omega⟩
          simp only [spec_ReadHex.f, spec_l01In.f]
          rw [if_pos h1, decide_eq_true h8, hb]
          simp only [Option.bind_some, if_true, spec_ReadHex.j0]
        · intro k hk
          obtain ⟨k, rfl⟩ : ∃ j, k = j + 1 := ⟨k - 1, by omega⟩
          simp only [impl_ReadHex.f, impl_within.f]
          rw [if_pos h1, decide_eq_true h8, hb]
          simp only [Option.bind_some, if_true, impl_ReadHex.j0]
    · refine ⟨-1, ?_, ?_, by omega, fun d _ => hpp d⟩
      · intro k hk
        obtain ⟨k, rfl⟩ : ∃ j, k = j + 1 := ⟨k - 1, by omega⟩
        simp only [spec_ReadHex.f, spec_l01In.f]
        rw [if_pos h1, decide_eq_false h8]
        simp only [Option.bind_some, if_true, Bool.false_eq_true, if_false, spec_ReadHex.j0]
      · intro k hk
        obtain ⟨k, rfl⟩ : ∃ j, k = j + 1 := ⟨k - 1, by omega⟩
        simp only [impl_ReadHex.f, impl_within.f]
        rw [if_pos h1, decide_eq_false h8]
        simp only [Option.bind_some, if_true, Bool.false_eq_true, if_false, impl_ReadHex.j0]
  · refine ⟨-1, ?_, ?_, by omega, fun d _ => hpp d⟩
    · intro k hk
      obtain ⟨k, rfl⟩ : ∃ j, k = j + 1 := ⟨k - 1, by omega⟩
      simp only [spec_ReadHex.f, spec_l01In.f]
      rw [if_neg h1]
      simp only [Option.bind_some, if_true, Bool.false_eq_true, if_false, spec_ReadHex.j0]
    · intro k hk
      obtain ⟨k, rfl⟩ : ∃ j, k = j + 1 := ⟨k - 1, by omega⟩
      simp only [impl_ReadHex.f, impl_within.f]
      rw [if_neg h1]
      simp only [Option.bind_some, if_true, Bool.false_eq_true, if_false, impl_ReadHex.j0]
end Go.Proofs.YtchakfdnmabkjaaDoor.ReadTrc
