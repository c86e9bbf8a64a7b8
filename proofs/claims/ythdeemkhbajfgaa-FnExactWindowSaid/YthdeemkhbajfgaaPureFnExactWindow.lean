/- The plain side of FnExactWindow: both functions cut the same cycles, the argument stays, two calls share nothing. -/
import Derived.Test.YthdeemkhbajfgaaPureWinCMarks
import Derived.Test.YthdeemkhbajfgaaMyWinWindow
import Derived.Test.YthdeemkhbajfgaaMyWinOpen
import Derived.Test.YthdeemkhbajfgaaPWinx5
import Derived.Test.YthdeemkhbajfgaaPWinx5
namespace Go.Proofs.Ythdeemkhbajfgaa.Pure
open Go.RowKit Go.Proofs.Ythdeemkhbajfgaa.PWin Go.Proofs.Ythdeemkhbajfgaa.Plain Go.Proofs.Ythdeemkhbajfgaa.CRowsWin Go.Proofs.Ythdeemkhbajfgaa.CMarksWin Go.Proofs.YthdeemkhbajfgaaW.PrintWords Go.Proofs.YthdeemkhbajfgaaW.PrintLast Go.Proofs.YthdeemkhbajfgaaW.PrintMore
/-- The part of a row from a place to ahead of another one. -/
def cut (l : List S100) (x y : Int) : List S100 := (l.drop x.toNat).take (y - x.toNat).toNat
theorem spec_win (l : List S100) (hl : l.length ≤ 1048576) (x y : Int) (hx : 0 ≤ x) (hy : y ≤ l.length) (x' y' : Int) (hxx : ∀ i : Nat, i < l.length → (x' ≤ (i : Int) ↔ x ≤ (i : Int))) (hyy : ∀ i : Nat, i < l.length → ((i : Int) < y' ↔ (i : Int) < y)) (k : Nat) (hk : l.length < k) : spec_Window.f k l x' y' = some (if x ≥ y then [] else (l.drop x.toNat).take (y - x).toNat) := by
  have key : ∀ i : Nat, i ≤ l.length → ((l.take i).drop x.toNat).take (y - x).toNat = ((l.take (min i y.toNat)).drop x.toNat) := by
    intro i hi
    rcases Int.le_total x y with h | h
    · rw [List.drop_take, List.drop_take, List.take_take]
      congr 1; omega
    · rw [show (y - x).toNat = 0 by omega, List.take_zero, List.drop_eq_nil_of_le (by rw [List.length_take]; omega)]
  have hfin : (if x ≥ y then ([] : List S100) else (l.drop x.toNat).take (y - x).toNat) = (l.take (min l.length y.toNat)).drop x.toNat := by
    have := key l.length (Nat.le_refl _)
    rw [List.take_length] at this
    split
    · rw [List.drop_eq_nil_of_le (by rw [List.length_take]; omega)]
    · exact this
  rw [hfin]
  have := loop_run (fun k s i => spec_Window.l0 k l x' y' s i) (fun i => (l.take (min i y.toNat)).drop x.toNat) l.length ((l.take (min l.length y.toNat)).drop x.toNat) ?_ ?_ k hk
  · have h0 : (l.take (min 0 y.toNat)).drop x.toNat = [] := by simp
    simp only [h0] at this
    exact this
  · intro k i hi
    have e1 := hxx i hi
    have e2 := hyy i hi
    show spec_Window.l0 (k + 1) l x' y' ((l.take (min i y.toNat)).drop x.toNat) (i : Int) = spec_Window.l0 k l x' y' ((l.take (min (i + 1) y.toNat)).drop x.toNat) ((i + 1 : Nat) : Int)
    simp only [spec_Window.l0]
    rw [if_pos (by omega), wsucc (by omega)]
    by_cases h1 : (i : Int) ≥ x'
    · rw [if_pos h1]
      by_cases h2 : (i : Int) < y'
      · have g1 : x ≤ (i : Int) := e1.1 h1
        have g2 : (i : Int) < y := e2.1 h2
        rw [if_pos h2, if_pos (by omega), if_pos (by simp; omega), rdC_nat _ _ hi]
        have m1 : min i y.toNat = i := by omega
        have m2 : min (i + 1) y.toNat = i + 1 := by omega
        rw [m1, m2, List.take_succ_eq_append_getElem hi, List.drop_append_of_le_length (by rw [List.length_take]; omega)]
      · have g2 : ¬ (i : Int) < y := fun h => h2 (e2.2 h)
        rw [if_neg h2]
        have m1 : min i y.toNat = y.toNat := by omega
        have m2 : min (i + 1) y.toNat = y.toNat := by omega
        rw [m1, m2]
    · have g1 : ¬ x ≤ (i : Int) := fun h => h1 (e1.2 h)
      rw [if_neg h1]
      have z1 : (l.take (min i y.toNat)).drop x.toNat = [] := List.drop_eq_nil_of_le (by rw [List.length_take]; omega)
      have z2 : (l.take (min (i + 1) y.toNat)).drop x.toNat = [] := List.drop_eq_nil_of_le (by rw [List.length_take]; omega)
      rw [z1, z2]
  · intro k
    show spec_Window.l0 (k + 1) l x' y' _ _ = _
    simp only [spec_Window.l0]
    rw [if_neg (by omega)]
theorem window_both (l : List S100) (hl : l.length ≤ 1048576) (x y : Int) : ∃ r : List S100, r.length ≤ l.length ∧ impl_Window.f l x y = some r ∧ ∀ k, l.length < k → spec_Window.f k l x y = some r := by
  have n1 : 0 ≤ mx 0 x := by unfold mx; split <;> omega
  have n2 : mn y (l.length : Int) ≤ (l.length : Int) := by unfold mn; split <;> omega
  have e1 : ∀ i : Nat, i < l.length → (x ≤ (i : Int) ↔ mx 0 x ≤ (i : Int)) := by intro i _; unfold mx; split <;> omega
  have e2 : ∀ i : Nat, i < l.length → ((i : Int) < y ↔ (i : Int) < mn y (l.length : Int)) := by intro i _; unfold mn; split <;> omega
  refine ⟨if mx 0 x ≥ mn y (l.length : Int) then [] else (l.drop (mx 0 x).toNat).take (mn y (l.length : Int) - mx 0 x).toNat, ?_, ?_, fun k hk => spec_win l hl _ _ n1 n2 x y e1 e2 k hk⟩
  · split
    · simp
    · simp; omega
  · unfold impl_Window.f
    split
    · rfl
    · rw [if_pos (by omega)]
theorem FnExactWindow : ∀ (l0_0 : List (S102)) (a1 : Int) (a2 : Int), l0_0.length ≤ maxLen → (∀ x ∈ l0_0, Wf_Cyc x) → (Lit.int .i64 a1).wf = true → (Lit.int .i64 a2).wf = true → ∃ k, laws_FnExactWindow.f k l0_0 a1 a2 = some true := by
  intro l x y hm _ _ _
  have hmx : maxLen = 9223372036854775807 := rfl
  by_cases h : l.length ≤ 1048576
  · refine ⟨1100000, ?_⟩
    have hs : laws_szCycS.f l 1048576 = some (1048576 - (l.length : Int)) := by
      simp only [laws_szCycS.f]
      rw [w64 (by omega) (by omega), if_neg (by omega)]
    have ht := fun k hk => toCycS_eq l (by omega) k hk
    have he := fun k hk => eqCycS_refl (l.map cv) (by rw [List.length_map]; omega) k hk
    have hlen : (l.map cv).length = l.length := List.length_map ..
    obtain ⟨r, hr, hi, hsp⟩ := window_both (l.map cv) (by omega) x y
    have hmark := markCycS_eq (l.map cv) (by omega) 1100000 (by omega)
    have hmr := fun k hk => markCycS_eq r (by omega) k hk
    have hhr := fun k hk => heldCycS_eq r.length (by omega) k hk
    have her := fun k hk => eqCycS_refl r (by omega) k hk
    simp only [laws_FnExactWindow.f, hs, Option.bind_some]
    rw [if_neg (by omega)]
    simp only [ht 1100000 (by omega), hsp 1100000 (by omega), hi, her 1100000 (by omega), he 1100000 (by omega), hmark, Option.bind_some, if_true, Bool.not_true]
    rw [if_neg (by omega)]
    obtain ⟨k, hk⟩ : ∃ k, 1100000 = k + 1 := ⟨1099999, rfl⟩
    rw [hk]
    simp only [laws_FnExactWindow.j0, Bool.false_eq_true, if_false, hmr k (by omega), hhr k (by omega), ht k (by omega), hi, her k (by omega), Option.bind_some, if_true]
    repeat (first | rfl | rw [if_neg (by omega)] | rw [if_pos (by omega)] | simp)
  · refine ⟨0, ?_⟩
    have hs : laws_szCycS.f l 1048576 = some (-1) := by
      simp only [laws_szCycS.f]
      rw [w64 (by omega) (by omega), if_pos (by omega)]
    simp only [laws_FnExactWindow.f, hs, Option.bind_some]
    rw [if_pos (by omega)]
end Go.Proofs.Ythdeemkhbajfgaa.Pure
