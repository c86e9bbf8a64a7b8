import Derived.Test.YtafkbhnhmhmjcaaSUMyLoop
import Derived.Test.YtafkbhnhmhmjcaaSUPRunx31
set_option linter.unusedVariables false
namespace Go.Proofs.Ytafkbhnhmhmjcaa.Weak
open Go.RowKit Go.Proofs.Ytafkbhnhmhmjcaa.PRun Go.Proofs.Ytafkbhnhmhmjcaa.Plain Go.Proofs.YtafkbhnhmhmjcaaW.PrintWords Go.Proofs.YtafkbhnhmhmjcaaW.PrintLast Go.Proofs.YtafkbhnhmhmjcaaW.PrintMore
def cnt (l : List Int) (v : Int) (i : Nat) : Int := -1 + ((l.take i).countP (fun x => decide (x ≤ v)) : Nat)
theorem cnt_bound (l : List Int) (v : Int) (i : Nat) (h : i ≤ l.length) : -1 ≤ cnt l v i ∧ cnt l v i ≤ -1 + (i : Int) := by
  have := List.countP_le_length (p := fun x => decide (x ≤ v)) (l := l.take i)
  rw [List.length_take] at this
  unfold cnt
  omega
theorem cnt_step (l : List Int) (v : Int) (i : Nat) (h : i < l.length) : cnt l v (i + 1) = if l[i] ≤ v then cnt l v i + 1 else cnt l v i := by
  unfold cnt
  rw [List.take_succ_eq_append_getElem h, List.countP_append]
  by_cases hx : l[i] ≤ v <;> simp [hx] <;> omega
theorem implAt (l : List Int) (v : Int) (h : l.length ≤ 2097152) (k : Nat) (hk : l.length < k) :
    impl_UnitAt.l0 k v (-1) l (l.length : Int) 0 = some (cnt l v l.length) := by
  have := loop_run (fun k x i => impl_UnitAt.l0 k v x l (l.length : Int) i) (fun i => cnt l v i) l.length (cnt l v l.length) ?_ ?_ k hk
  · simpa [cnt] using this
  · intro k i hi
    have hb := cnt_bound l v i (by omega)
    simp only [impl_UnitAt.l0]
    rw [if_pos (by omega), if_pos (by omega), if_pos (by omega), rd_nat _ _ hi, wsucc (by omega), cnt_step l v i hi, w64 (by omega) (by omega)]
    split <;> rfl
  · intro k
    simp only [impl_UnitAt.l0]
    rw [if_neg (by omega)]
theorem cnt_snoc (st : List Int) (x v : Int) : cnt (st ++ [x]) v (st ++ [x]).length = if x ≤ v then cnt st v st.length + 1 else cnt st v st.length := by
  unfold cnt
  simp only [List.take_length, List.countP_append]
  by_cases hx : x ≤ v <;> simp [hx] <;> omega
theorem Starts.range {st : List Int} {n : Nat} (h : Starts st n) : ∀ x, x ∈ st → 0 ≤ x ∧ x < n := by
  induction h with
  | nil => simp
  | snoc h hm ih =>
    intro x hx
    rcases List.mem_append.mp hx with hx | hx
    · have := ih x hx; omega
    · rw [List.mem_singleton.mp hx]; omega
theorem cnt_all {st : List Int} {v : Int} (h : ∀ x, x ∈ st → x ≤ v) : cnt st v st.length = (st.length : Int) - 1 := by
  unfold cnt
  rw [List.take_length, List.countP_eq_length.mpr (fun x hx => decide_eq_true (h x hx))]
  omega
theorem rd_left (st : List Int) (x : Int) (u : Nat) (h : u < st.length) : rd (st ++ [x]) (u : Int) = rd st (u : Int) := by
  rw [rd_nat _ _ (by simp; omega), rd_nat _ _ h, List.getElem_append_left h]
theorem rd_last (st : List Int) (x : Int) : rd (st ++ [x]) (st.length : Int) = x := by
  rw [rd_nat _ _ (by simp)]
  simp
theorem units_law {st : List Int} {n : Nat} (h : Starts st n) : ∀ v : Int, 0 ≤ v → v < n → ∃ u : Nat, cnt st v st.length = (u : Int) ∧ u < st.length ∧ rd st (u : Int) ≤ v ∧ (u + 1 = st.length ∨ (u + 1 < st.length ∧ v < rd st ((u : Int) + 1))) ∧ 0 ≤ rd st (u : Int) ∧ rd st (u : Int) < n ∧ cnt st (rd st (u : Int)) st.length = (u : Int) := by
  induction h with
  | nil => intro v h0 h1; exact absurd h1 (by simp; omega)
  | @snoc st n m h hm ih =>
    intro v h0 h1
    have hr := h.range
    by_cases hv : v < (n : Int)
    · obtain ⟨u, e1, h2, h3, h4, h5, h6, e2⟩ := ih v h0 hv
      refine ⟨u, ?_, by simp; omega, by rw [rd_left st _ u h2]; exact h3, ?_, by rw [rd_left st _ u h2]; exact h5, by rw [rd_left st _ u h2]; omega, ?_⟩
      · rw [cnt_snoc, if_neg (by omega)]; exact e1
      · refine .inr ⟨by simp; omega, ?_⟩
        rcases h4 with h4 | ⟨h4, h7⟩
        · rw [show (u : Int) + 1 = (st.length : Int) by omega, rd_last]; exact hv
        · rw [show (u : Int) + 1 = ((u + 1 : Nat) : Int) by omega, rd_left st _ (u + 1) h4]
          exact h7
      · rw [rd_left st _ u h2, cnt_snoc, if_neg (by omega)]; exact e2
    · have ha : ∀ z : Int, (n : Int) ≤ z → cnt (st ++ [(n : Int)]) z (st ++ [(n : Int)]).length = (st.length : Int) := by
        intro z hz
        rw [cnt_snoc, if_pos hz, cnt_all (fun x hx => by have := hr x hx; omega)]
        omega
      exact ⟨st.length, ha v (by omega), by simp, by rw [rd_last]; omega, .inl (by simp), by rw [rd_last]; omega, by rw [rd_last]; omega, by rw [rd_last]; exact ha _ (Int.le_refl _)⟩
theorem unit_in (n : Nat) (st : List Int) (v : Int) (hs : st.length ≤ 2097152) (hn : n ≤ 1000000) (a0 a1 a2 a3 a4 : Int) (b0 b1 b2 b3 b4 b5 j : Bool) (m : List Int) (tr : List S55) (cp : List S28) (htr : tr.length = n) :
    impl_UnitAt.f 2097153 a0 a1 a2 a3 a4 b0 b1 b2 b3 b4 b5 m tr st cp j v = some (if 0 ≤ v ∧ v < n then cnt st v st.length else -1) := by
  simp only [impl_UnitAt.f, impl_within.f, htr]
  rw [w64 (by omega) (by omega)]
  by_cases h0 : 0 ≤ v
  · by_cases h1 : v < n
    · simp [h0, h1, show v ≤ (n : Int) - 1 by omega, implAt st v hs 2097153 (by omega)]
    · simp [h0, h1, show ¬ v ≤ (n : Int) - 1 by omega]
  · simp [h0]
theorem w64_succ {u n : Nat} (h : u < n) (hn : n ≤ 12) : wrap64 ((u : Int) + 1) = (u : Int) + 1 := w64 (by omega) (by omega)
theorem w64_len {n : Nat} (hn : n ≤ 12) : wrap64 (n : Int) = (n : Int) := w64 (by omega) (by omega)
theorem succ_nat (u : Nat) : ((u : Int) + 1).toNat = u + 1 := by omega
theorem succ_len {u n : Nat} (h : u + 1 = n) : (u : Int) + 1 = (n : Int) := by omega
theorem succ_ne {u n : Nat} (h : u + 1 < n) : ¬ ((u : Int) + 1 = (n : Int)) := by omega
theorem succ_in {u n : Nat} (h : u + 1 < n) : 0 ≤ (u : Int) + 1 ∧ (u : Int) + 1 < (n : Int) := by omega
theorem UnitAt.at (w : World) {B : Nat} (a0 a1 a2 a3 a4 : Int) (b0 b1 b2 b3 b4 b5 j : Bool) (Am At As Ak : Option Addr) (cm ct cs ck : Nat) (m : List Int) (tr : List S55) (st : List Int) (cp : List S28)
    (hm : Kd.R (Kd.int .u8) 5 w B (fun _ => True) (.slice Am m.length cm) m) (ht : Kd.R k55 55 w B (fun _ => True) (.slice At tr.length ct) tr) (hs : Kd.R (Kd.int .i64) 3 w B (fun _ => True) (.slice As st.length cs) st) (hp : Kd.R k28 28 w B (fun _ => True) (.slice Ak cp.length ck) cp)
    (hl1 : tr.length ≤ 1000000) (hl2 : st.length ≤ 1000) (v u : Int) (hu : (if 0 ≤ v ∧ v < (tr.length : Int) then cnt st v st.length else -1) = u) :
    Calls Try.prog 7 #[.agg (SLit a0 a1 a2 a3 a4 b0 b1 b2 b3 b4 b5 (.slice Am m.length cm) (.slice At tr.length ct) (.slice As st.length cs) (.slice Ak cp.length ck) j), .int .i64 v] w fun e w1 => e = .returned (.int .i64 u) ∧ Below w.heap.size w w1 :=
  impl_UnitAt.calls 2097153 a0 a1 a2 a3 a4 b0 b1 b2 b3 b4 b5 Am cm m At ct tr As cs st Ak ck cp j v u w (Kd.R_reads' hm).2.2 (Kd.R_reads' hm).2.1 (Kd.R_reads' ht).2.2 (Kd.R_reads' ht).2.1 (Kd.R_reads' hs).2.2 (Kd.R_reads' hs).2.1 (Kd.R_reads' hp).2.2 (Kd.R_reads' hp).2.1
    (by rw [unit_in tr.length st v (by omega) hl1 a0 a1 a2 a3 a4 b0 b1 b2 b3 b4 b5 j m tr cp rfl, hu])
end Go.Proofs.Ytafkbhnhmhmjcaa.Weak
