/- Plain lemmas on the draws: whatever the code, a draw comes to a value of its kind. -/
import Derived.Test.YtchakfdnmabkjaaDoorMyLoops
import Derived.Test.YtchakfdnmabkjaaDoorPWrdx4
import Derived.Test.YtchakfdnmabkjaaDoorPWrdx2
import Derived.Laws.BitsLemmas
import Derived.Laws.BitsAllLaws
namespace Go.Proofs.YtchakfdnmabkjaaDoor.DrawWrd
open Go.RowKit Go.Proofs.YtchakfdnmabkjaaDoor.PWrd Go.Proofs.YtchakfdnmabkjaaDoor.Plain Go.Proofs.YtchakfdnmabkjaaDoorW.PrintWords Go.Proofs.YtchakfdnmabkjaaDoorW.PrintLast Go.Proofs.YtchakfdnmabkjaaDoorW.PrintMore

theorem and255_range (x : Int) : 0 ≤ Go.bits .and .i64 x 255 ∧ Go.bits .and .i64 x 255 ≤ 255 := by
  have h : (BitVec.ofInt 64 x &&& BitVec.ofInt 64 255).toNat ≤ 255 := by
    rw [BitVec.toNat_and]; exact Nat.le_trans Nat.and_le_right (by decide)
  show 0 ≤ IntKind.i64.wrap ((BitVec.ofInt 64 x &&& BitVec.ofInt 64 255).toNat : Int) ∧ IntKind.i64.wrap ((BitVec.ofInt 64 x &&& BitVec.ofInt 64 255).toNat : Int) ≤ 255
  rw [IntKind.wrap_i64]; omega
theorem new_some (l : List Int) (_h : l.length ≤ 1048576) : ∃ s : Int, ∀ k, 4001 < k → spec_l01New.f k l = some (l, 0, s) := by
  have key : ∀ (d i : Nat) (s : Int), i + d = 4000 → ∃ r : Int, ∀ k, d < k → spec_l01New.l0 k l s (i : Int) = some (l, 0, r) := by
    intro d
    induction d with
    | zero =>
      intro i s hi
      refine ⟨s, fun k hk => ?_⟩
      obtain ⟨k, rfl⟩ : ∃ m, k = m + 1 := ⟨k - 1, by omega⟩
      simp only [spec_l01New.l0]
      by_cases hl : (i : Int) < (l.length : Int)
      · rw [if_pos hl, if_neg (by omega)]
      · rw [if_neg hl]
    | succ d ih =>
      intro i s hi
      by_cases hl : (i : Int) < (l.length : Int)
      · obtain ⟨r, hr⟩ := ih (i + 1) (Go.bits .and .i64 (wrap64 ((wrap64 ((wrap64 (s * 131)) + (wrap64 (rd l (i : Int))))) + 7)) 1073741823) (by omega)
        refine ⟨r, fun k hk => ?_⟩
        obtain ⟨k, rfl⟩ : ∃ m, k = m + 1 := ⟨k - 1, by omega⟩
        simp only [spec_l01New.l0]
        rw [if_pos hl, if_pos (by omega), if_pos (by omega), wsucc (by omega)]
        exact hr k (by omega)
      · refine ⟨s, fun k hk => ?_⟩
        obtain ⟨k, rfl⟩ : ∃ m, k = m + 1 := ⟨k - 1, by omega⟩
        simp only [spec_l01New.l0]
        rw [if_neg hl]
  obtain ⟨r, hr⟩ := key 4000 0 (wrap64 (693693 + (l.length : Int))) (by omega)
  exact ⟨r, fun k hk => hr k (by omega)⟩
/-- A place of the cursor. -/
def At (l : List Int) (i : Int) : Prop := 0 ≤ i ∧ i ≤ (l.length : Int) ∧ l.length ≤ 1048576
theorem byte_some {l : List Int} {i : Int} (h : At l i) (s : Int) : ∃ x i' s' : Int, spec_l01Byte.f l i s = some (x, i', s') ∧ 0 ≤ x ∧ x ≤ 255 ∧ At l i' := by
  obtain ⟨h0, h1, h2⟩ := h
  simp only [spec_l01Byte.f]
  by_cases hl : i < (l.length : Int)
  · rw [if_pos hl, if_pos h0]
    exact ⟨_, _, _, rfl, (and255_range _).1, (and255_range _).2, by rw [w64 (by omega) (by omega)]; omega, by rw [w64 (by omega) (by omega)]; omega, h2⟩
  · rw [if_neg hl]
    exact ⟨_, _, _, rfl, (and255_range _).1, (and255_range _).2, h0, h1, h2⟩
theorem below_some {l : List Int} {i : Int} (h : At l i) (s n : Int) : ∃ x i' s' : Int, spec_l01Below.f l i s n = some (x, i', s') ∧ At l i' ∧ (n ≤ 0 → x = 0) ∧ (0 < n → 0 ≤ x ∧ x < n) ∧ 0 ≤ x := by
  simp only [spec_l01Below.f]
  by_cases h0 : n ≤ 0
  · rw [if_pos h0]; exact ⟨0, i, s, rfl, h, fun _ => rfl, fun h => by omega, by omega⟩
  rw [if_neg h0]
  obtain ⟨x, i1, s1, e1, x0, x1, a1⟩ := byte_some h s
  by_cases h1 : n ≤ 256
  · rw [if_pos h1, e1]; simp only [Option.bind_some]
    rw [if_neg (by omega)]
    have hm : Int.tmod x n = x % n := Int.tmod_eq_emod_of_nonneg x0
    have h3 := Int.emod_nonneg x (show n ≠ 0 by omega)
    have h4 := Int.emod_lt_of_pos x (show 0 < n by omega)
    exact ⟨_, _, _, rfl, a1, fun h => by omega, fun _ => by rw [hm]; exact ⟨h3, h4⟩, by rw [hm]; exact h3⟩
  · rw [if_neg h1, e1]; simp only [Option.bind_some]
    obtain ⟨y, i2, s2, e2, y0, y1, a2⟩ := byte_some a1 s1
    rw [e2]; simp only [Option.bind_some]
    obtain ⟨z, i3, s3, e3, z0, z1, a3⟩ := byte_some a2 s2
    rw [e3]; simp only [Option.bind_some]
    obtain ⟨w, i4, s4, e4, w0, w1, a4⟩ := byte_some a3 s3
    rw [e4]; simp only [Option.bind_some]
    rw [if_neg (by omega), w64 (x := x * 16777216) (by omega) (by omega), w64 (x := y * 65536) (by omega) (by omega), w64 (x := z * 256) (by omega) (by omega), w64 (x := x * 16777216 + y * 65536) (by omega) (by omega), w64 (x := x * 16777216 + y * 65536 + z * 256) (by omega) (by omega), w64 (x := x * 16777216 + y * 65536 + z * 256 + w) (by omega) (by omega)]
    have hm : Int.tmod (x * 16777216 + y * 65536 + z * 256 + w) n = (x * 16777216 + y * 65536 + z * 256 + w) % n := Int.tmod_eq_emod_of_nonneg (by omega)
    have h3 := Int.emod_nonneg (x * 16777216 + y * 65536 + z * 256 + w) (show n ≠ 0 by omega)
    have h4 := Int.emod_lt_of_pos (x * 16777216 + y * 65536 + z * 256 + w) (show 0 < n by omega)
    exact ⟨_, _, _, rfl, a4, fun h => by omega, fun _ => by rw [hm]; exact ⟨h3, h4⟩, by rw [hm]; exact h3⟩
theorem pickS_some {l : List Int} {i : Int} (h : At l i) (s : Int) (xs : List ByteArray) (hx : 0 < xs.length) : ∃ (x : ByteArray) (i' s' : Int), spec_l01Pick.f l i s xs = some (x, i', s') ∧ At l i' ∧ x ∈ xs := by
  obtain ⟨x, i1, s1, e1, a1, _, hb, _⟩ := below_some h s (xs.length : Int)
  obtain ⟨h0, h1⟩ := hb (by omega)
  refine ⟨rdOf ByteArray.empty xs x, i1, s1, ?_, a1, ?_⟩
  · simp only [spec_l01Pick.f, e1, Option.bind_some]
    rw [if_pos h0, if_pos h1]
  · unfold rdOf
    rw [getD_lt xs ByteArray.empty _ (by omega)]
    exact List.getElem_mem _
theorem drawWords_run {l : List Int} : ∀ (m : Nat) (n i : Int) (t : ByteArray) (a s : Int), n - i = (m : Int) → 0 ≤ i → n ≤ 100 → At l a → t.size ≤ 2 * i → ∃ r : ByteArray, (r.size : Int) ≤ 2 * n ∧ ∀ k, m < k → spec_DrawWords.l0 k t n i l a s = some r
  | 0, n, i, t, a, s, hm, h0, hn, ha, ht => ⟨t, by omega, fun k hk => by
      obtain ⟨k, rfl⟩ : ∃ j, k = j + 1 := ⟨k - 1, by omega⟩
      simp only [spec_DrawWords.l0]
      rw [if_neg (by omega)]⟩
  | m + 1, n, i, t, a, s, hm, h0, hn, ha, ht => by
    obtain ⟨x, a1, s1, e1, h1, hx⟩ := pickS_some ha s [(⟨#[97]⟩ : ByteArray), (⟨#[32]⟩ : ByteArray), (⟨#[98, 99]⟩ : ByteArray), (⟨#[9]⟩ : ByteArray), (⟨#[]⟩ : ByteArray), (⟨#[10]⟩ : ByteArray)] (by simp)
    have hs : x.size ≤ 2 := by
      simp only [List.mem_cons, List.not_mem_nil, or_false] at hx
      rcases hx with rfl | rfl | rfl | rfl | rfl | rfl <;> decide
    obtain ⟨r, hr, hk⟩ := drawWords_run m n (i + 1) (t ++ x) a1 s1 (by omega) (by omega) hn h1 (by rw [ByteArray.size_append]; omega)
    refine ⟨r, hr, fun k hkk => ?_⟩
    obtain ⟨k, rfl⟩ : ∃ j, k = j + 1 := ⟨k - 1, by omega⟩
    simp only [spec_DrawWords.l0]
    rw [if_pos (by omega), e1]
    simp only [Option.bind_some]
    rw [if_pos (by omega), w64 (by omega) (by omega)]
    exact hk k (by omega)
theorem drawWords_some {l : List Int} (h : l.length ≤ 1048576) : ∃ r : ByteArray, r.size ≤ 20 ∧ ∀ k, 4001 < k → spec_DrawWords.f k l = some r := by
  obtain ⟨s, hs⟩ := new_some l h
  have a0 : At l 0 := ⟨by omega, by omega, h⟩
  obtain ⟨n, i1, s1, e1, a1, _, hb, _⟩ := below_some a0 s 7
  obtain ⟨h0, h1⟩ := hb (by omega)
  obtain ⟨r, hr, hk⟩ := drawWords_run n.toNat n 0 (⟨#[]⟩ : ByteArray) i1 s1 (by omega) (by omega) (by omega) a1 (by simp [ByteArray.size])
  refine ⟨r, by omega, fun k hk2 => ?_⟩
  simp only [spec_DrawWords.f, hs k hk2, Option.bind_some, e1]
  exact hk k (by omega)
theorem drawLines_run {l : List Int} : ∀ (m : Nat) (n i : Int) (t : ByteArray) (a s : Int), n - i = (m : Int) → 0 ≤ i → n ≤ 100 → At l a → t.size ≤ 2 * i → ∃ r : ByteArray, (r.size : Int) ≤ 2 * n ∧ ∀ k, m < k → spec_DrawLines.l0 k t n i l a s = some r
  | 0, n, i, t, a, s, hm, h0, hn, ha, ht => ⟨t, by omega, fun k hk => by
      obtain ⟨k, rfl⟩ : ∃ j, k = j + 1 := ⟨k - 1, by omega⟩
      simp only [spec_DrawLines.l0]
      rw [if_neg (by omega)]⟩
  | m + 1, n, i, t, a, s, hm, h0, hn, ha, ht => by
    obtain ⟨x, a1, s1, e1, h1, hx⟩ := pickS_some ha s [(⟨#[97]⟩ : ByteArray), (⟨#[10]⟩ : ByteArray), (⟨#[98, 99]⟩ : ByteArray), (⟨#[10]⟩ : ByteArray), (⟨#[]⟩ : ByteArray)] (by simp)
    have hs : x.size ≤ 2 := by
      simp only [List.mem_cons, List.not_mem_nil, or_false] at hx
      rcases hx with rfl | rfl | rfl | rfl | rfl <;> decide
    obtain ⟨r, hr, hk⟩ := drawLines_run m n (i + 1) (t ++ x) a1 s1 (by omega) (by omega) hn h1 (by rw [ByteArray.size_append]; omega)
    refine ⟨r, hr, fun k hkk => ?_⟩
    obtain ⟨k, rfl⟩ : ∃ j, k = j + 1 := ⟨k - 1, by omega⟩
    simp only [spec_DrawLines.l0]
    rw [if_pos (by omega), e1]
    simp only [Option.bind_some]
    rw [if_pos (by omega), w64 (by omega) (by omega)]
    exact hk k (by omega)
theorem drawLines_some {l : List Int} (h : l.length ≤ 1048576) : ∃ r : ByteArray, r.size ≤ 20 ∧ ∀ k, 4001 < k → spec_DrawLines.f k l = some r := by
  obtain ⟨s, hs⟩ := new_some l h
  have a0 : At l 0 := ⟨by omega, by omega, h⟩
  obtain ⟨n, i1, s1, e1, a1, _, hb, _⟩ := below_some a0 s 6
  obtain ⟨h0, h1⟩ := hb (by omega)
  obtain ⟨r, hr, hk⟩ := drawLines_run n.toNat n 0 (⟨#[]⟩ : ByteArray) i1 s1 (by omega) (by omega) (by omega) a1 (by simp [ByteArray.size])
  refine ⟨r, by omega, fun k hk2 => ?_⟩
  simp only [spec_DrawLines.f, hs k hk2, Option.bind_some, e1]
  exact hk k (by omega)
theorem big_small {l : List Int} (h : l.length ≤ 1048576) : laws_big.f l = some false := by
  simp only [laws_big.f]; rw [decide_eq_false (by omega)]
theorem big_big {l : List Int} (h : ¬ l.length ≤ 1048576) : laws_big.f l = some true := by
  simp only [laws_big.f]; rw [decide_eq_true (by omega)]
end Go.Proofs.YtchakfdnmabkjaaDoor.DrawWrd
