/- Plain lemmas on rows of texts: compared with themselves, marked, held. -/
import Derived.Test.YtchakfdnmabkjaaDoorMyStr
import Derived.Test.YtchakfdnmabkjaaDoorPLinx3
import Derived.Test.YtchakfdnmabkjaaDoorPLinx3
import Derived.Test.YtchakfdnmabkjaaDoorPLinx4
import Derived.Test.YtchakfdnmabkjaaDoorPLinx3
namespace Go.Proofs.YtchakfdnmabkjaaDoor.RowsLin
open Go.RowKit Go.Proofs.YtchakfdnmabkjaaDoor.PLin Go.Proofs.YtchakfdnmabkjaaDoor.Plain Go.Proofs.YtchakfdnmabkjaaDoor.Str Go.Proofs.YtchakfdnmabkjaaDoorW.PrintWords Go.Proofs.YtchakfdnmabkjaaDoorW.PrintLast Go.Proofs.YtchakfdnmabkjaaDoorW.PrintMore

theorem eqRow_refl (l : List ByteArray) (hl : l.length ≤ 2000000) (k : Nat) (hk : l.length < k) : laws_eqStringS.f k l l = some true := by
  refine (if_pos rfl).trans ?_
  refine loop_run (fun k (_ : Unit) i => laws_eqStringS.l0 k l l i) (fun _ => ()) l.length true ?_ ?_ k hk
  · intro k i hi
    simp only [laws_eqStringS.l0]
    rw [if_pos (by omega), if_pos (by omega), if_pos (by omega), if_pos trivial, wsucc (by omega)]
  · intro k
    simp only [laws_eqStringS.l0]
    rw [if_neg (by omega)]
theorem one_size (c : Int) : (strOfNums [c]).size = 1 := by simp [strOfNums, ByteArray.size]
theorem mark_run : ∀ (d : Nat) (n : Nat) (t : ByteArray), n < 10 ^ d → n < 1000000000 → t.size + d ≤ 100 → ∃ r : ByteArray, ∀ k, d < k → laws_markText.l0 k (n : Int) t = some r := by
  intro d
  induction d with
  | zero =>
    intro n t hn _ ht
    have h0 : n = 0 := by simp at hn; omega
    subst h0
    refine ⟨(⟨#[109]⟩ : ByteArray) ++ t, fun k hk => ?_⟩
    obtain ⟨k, rfl⟩ : ∃ j, k = j + 1 := ⟨k - 1, by omega⟩
    simp only [laws_markText.l0]
    rw [if_neg (by omega), if_pos (by omega)]
  | succ d ih =>
    intro n t hn hb ht
    by_cases h0 : n = 0
    · subst h0
      refine ⟨(⟨#[109]⟩ : ByteArray) ++ t, fun k hk => ?_⟩
      obtain ⟨k, rfl⟩ : ∃ j, k = j + 1 := ⟨k - 1, by omega⟩
      simp only [laws_markText.l0]
      rw [if_neg (by omega), if_pos (by omega)]
    · have hdiv : wrap64 (Int.tdiv (n : Int) 10) = ((n / 10 : Nat) : Int) := by
        rw [Int.tdiv_eq_ediv_of_nonneg (by omega), w64 (by omega) (by omega)]; omega
      have h1 := one_size ((wrap64 (48 + (Int.tmod (n : Int) 10))) % 256)
      obtain ⟨r, hr⟩ := ih (n / 10) (strOfNums [(wrap64 (48 + (Int.tmod (n : Int) 10))) % 256] ++ t) (by rw [Nat.pow_succ] at hn; omega) (by omega) (by rw [ByteArray.size_append, h1]; omega)
      refine ⟨r, fun k hk => ?_⟩
      obtain ⟨k, rfl⟩ : ∃ j, k = j + 1 := ⟨k - 1, by omega⟩
      simp only [laws_markText.l0, Option.bind_some]
      rw [if_pos (by omega), if_pos (by omega), hdiv]
      exact hr k (by omega)
/-- The text that marks a number. -/
def mk (n : Nat) : ByteArray := (laws_markText.f 20 (n : Int)).getD ByteArray.empty
theorem mark_some (n : Nat) (hn : n < 1000000000) (k : Nat) (hk : 10 < k) : laws_markText.f k (n : Int) = some (mk n) := by
  have key : ∃ r : ByteArray, ∀ k, 10 < k → laws_markText.f k (n : Int) = some r := by
    by_cases h0 : (n : Int) ≤ 0
    · exact ⟨_, fun k _ => if_pos h0⟩
    · obtain ⟨r, hr⟩ := mark_run 10 n (⟨#[]⟩ : ByteArray) (by omega) hn (by simp [ByteArray.size])
      exact ⟨r, fun k hk => (if_neg h0).trans (hr k hk)⟩
  obtain ⟨r, hr⟩ := key
  rw [hr k hk]
  unfold mk
  rw [hr 20 (by omega)]
  rfl
/-- The row of marks. -/
def marks (n : Nat) : List ByteArray := (List.range n).map fun i => mk (i + 1)
theorem marks_length (n : Nat) : (marks n).length = n := by simp [marks]
theorem marks_get (n i : Nat) (h : i < (marks n).length) : (marks n)[i] = mk (i + 1) := by simp [marks]
theorem mark_row (l : List ByteArray) (hl : l.length ≤ 2000000) (k : Nat) (hk : l.length + 20 < k) : laws_markStringS.f k l 1 = some (((l.length + 1 : Nat) : Int), marks l.length) := by
  have hm := marks_length l.length
  obtain ⟨k, rfl⟩ : ∃ j, k = j + 12 := ⟨k - 12, by omega⟩
  have key : ∀ (d i : Nat), i + d = l.length → ∀ k, d + 11 < k → laws_markStringS.l0 k (Mix (marks l.length) l i) ((i + 1 : Nat) : Int) (i : Int) = some (((l.length + 1 : Nat) : Int), marks l.length) := by
    intro d
    induction d with
    | zero =>
      intro i hi k hk
      obtain ⟨k, rfl⟩ : ∃ j, k = j + 1 := ⟨k - 1, by omega⟩
      obtain rfl : i = l.length := by omega
      have h2 := mix_full (marks l.length) l hm
      rw [hm] at h2
      simp only [laws_markStringS.l0, h2, hm]
      rw [if_neg (by omega)]
    | succ d ih =>
      intro i hi k hk
      obtain ⟨k, rfl⟩ : ∃ j, k = j + 1 := ⟨k - 1, by omega⟩
      have h2 := mix_length (marks l.length) l hm i
      simp only [laws_markStringS.l0, h2, hm]
      rw [if_pos (by omega), mark_some (i + 1) (by omega) k (by omega)]
      simp only [Option.bind_some]
      rw [if_pos (by omega), wsucc (by omega), wsucc (by omega), set_int, mix_set (marks l.length) l hm i (by omega) _ (marks_get _ _ (by omega)).symm]
      exact ih (i + 1) (by omega) k (by omega)
  have := key l.length 0 (by omega) (k + 12) (by omega)
  rw [mix_zero] at this
  exact this
theorem held_row (n : Nat) (hn : n ≤ 2000000) (k : Nat) (hk : n + 20 < k) : laws_heldStringS.f k (marks n) 1 = some ((n + 1 : Nat) : Int) := by
  have hm := marks_length n
  have key : ∀ (d i : Nat), i + d = n → ∀ k, d + 11 < k → laws_heldStringS.l0 k (marks n) ((i + 1 : Nat) : Int) (i : Int) = some ((n + 1 : Nat) : Int) := by
    intro d
    induction d with
    | zero =>
      intro i hi k hk
      obtain ⟨k, rfl⟩ : ∃ j, k = j + 1 := ⟨k - 1, by omega⟩
      obtain rfl : i = n := by omega
      simp only [laws_heldStringS.l0, hm]
      rw [if_neg (by omega)]
    | succ d ih =>
      intro i hi k hk
      obtain ⟨k, rfl⟩ : ∃ j, k = j + 1 := ⟨k - 1, by omega⟩
      have hg : rdOf ByteArray.empty (marks n) (i : Int) = mk (i + 1) := by
        unfold rdOf
        rw [Int.toNat_natCast, getD_lt _ _ _ (show i < (marks n).length by omega), marks_get]
      simp only [laws_heldStringS.l0, hm, hg]
      rw [if_pos (by omega), if_pos (by omega), mark_some (i + 1) (by omega) k (by omega)]
      simp only [Option.bind_some]
      rw [if_pos trivial, wsucc (by omega), wsucc (by omega)]
      exact ih (i + 1) (by omega) k (by omega)
  have := key n 0 (by omega) k (by omega)
  exact this
end Go.Proofs.YtchakfdnmabkjaaDoor.RowsLin
