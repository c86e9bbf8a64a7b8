/- The plain side of FnExactUnpackTrace: both functions make the same cycles, the argument stays, two calls share nothing. -/
import Derived.Test.YthdeemkhbajfgaaPureBase
import Derived.Test.YthdeemkhbajfgaaPAllx32
import Derived.Laws.BitsLemmas
import Derived.Laws.BitsAllLaws
namespace Go.Proofs.Ythdeemkhbajfgaa.Pure
open Go.RowKit Go.Proofs.Ythdeemkhbajfgaa.PAll Go.Proofs.Ythdeemkhbajfgaa.Plain Go.Proofs.Ythdeemkhbajfgaa.Base Go.Proofs.YthdeemkhbajfgaaW.PrintWords Go.Proofs.YthdeemkhbajfgaaW.PrintLast Go.Proofs.YthdeemkhbajfgaaW.PrintMore

theorem wraps_u16 (n : Int) (h₀ : 0 ≤ n) (h₁ : n < 2 ^ 16) : IntKind.u16.wrap n = n := by rw [IntKind.wrap_u16]; omega
theorem word_eq {a b : Int} (a0 : 0 ≤ a) (a1 : a ≤ 255) (b0 : 0 ≤ b) (b1 : b ≤ 255) :
    Go.bits .or .u16 (IntKind.u16.wrap ((IntKind.u16.wrap b) * 256)) (IntKind.u16.wrap a) = IntKind.u16.wrap (wrap64 ((wrap64 a) + (wrap64 (256 * (wrap64 b))))) := by
  rw [wraps_u16 b (by omega) (by omega), wraps_u16 (b * 256) (by omega) (by omega), wraps_u16 a (by omega) (by omega), w64 (x := b) (by omega) (by omega), w64 (x := a) (by omega) (by omega), w64 (x := 256 * b) (by omega) (by omega), w64 (by omega) (by omega), wraps_u16 (a + 256 * b) (by omega) (by omega)]
  have : Go.bits .or .u16 (b * 256) a = b * 256 + a := bits_join .u16 16 (by decide) wraps_u16 8 (b * 256) a (by omega) (by omega) (by omega) (by omega) (by omega) (by omega)
  rw [this]; omega
theorem rd_byte (l : List Int) (hw : ∀ x ∈ l, (Lit.int .u8 x).wf = true) (i : Int) : 0 ≤ rd l i ∧ rd l i ≤ 255 := by
  unfold rd
  by_cases h : i.toNat < l.length
  · rw [getD_lt l 0 _ h]
    exact bounds_u8 (hw _ (List.getElem_mem h))
  · rw [List.getD_eq_getElem?_getD, List.getElem?_eq_none (by omega)]
    exact ⟨by simp, by simp⟩
theorem loop_same (x : List Int) (hw : ∀ z ∈ x, (Lit.int .u8 z).wf = true) : ∀ (k : Nat) (acc : List S100) (i : Int), spec_UnpackTrace.l0 k x acc i = impl_UnpackTrace.l0 k x acc i := by
  intro k
  induction k with
  | zero => intro acc i; rfl
  | succ k ih =>
    intro acc i
    have h0 := rd_byte x hw i
    have h1 := rd_byte x hw (wrap64 (i + 1))
    simp only [spec_UnpackTrace.l0, impl_UnpackTrace.l0, spec_l04Word.f, impl_wordOf.f, Option.bind_some, word_eq h0.1 h0.2 h1.1 h1.2, ih]
theorem loop_some (x : List Int) (h4 : x.length % 4 = 0) (hx : x.length ≤ 4800) : ∀ (d : Nat) (i : Nat) (acc : List S100) (k : Nat), i + 4 * d = x.length → acc.length + d ≤ 1200 → d < k →
    ∃ r, impl_UnpackTrace.l0 k x acc (i : Int) = some r ∧ r.1.length ≤ 1200 ∧ ∀ k', k ≤ k' → impl_UnpackTrace.l0 k' x acc (i : Int) = some r := by
  intro d
  induction d with
  | zero =>
    intro i acc k hi ha hk
    have key : ∀ k', 0 < k' → impl_UnpackTrace.l0 k' x acc (i : Int) = some (acc, true) := by
      intro k' hk'
      obtain ⟨k', rfl⟩ : ∃ m, k' = m + 1 := ⟨k' - 1, by omega⟩
      simp only [impl_UnpackTrace.l0]
      rw [if_neg (by omega)]
    exact ⟨(acc, true), key k hk, by simp; omega, fun k' hk' => key k' (by omega)⟩
  | succ d ih =>
    intro i acc k hi ha hk
    have e1 : wrap64 ((i : Int) + 1) = (i : Int) + 1 := w64 (by omega) (by omega)
    have e2 : wrap64 ((i : Int) + 2) = (i : Int) + 2 := w64 (by omega) (by omega)
    have e3 : wrap64 ((i : Int) + 3) = (i : Int) + 3 := w64 (by omega) (by omega)
    have e4 : wrap64 ((i : Int) + 4) = ((i + 4 : Nat) : Int) := by rw [w64 (by omega) (by omega)]; omega
    obtain ⟨k, rfl⟩ : ∃ m, k = m + 1 := ⟨k - 1, by omega⟩
    by_cases hb : rd x ((i : Int) + 3) > 1
    · have key : ∀ k', 0 < k' → impl_UnpackTrace.l0 k' x acc (i : Int) = some ([], false) := by
        intro k' hk'
        obtain ⟨k', rfl⟩ : ∃ m, k' = m + 1 := ⟨k' - 1, by omega⟩
        simp only [impl_UnpackTrace.l0, e3]
        rw [if_pos (by omega), if_pos (by omega), if_pos (by omega), if_pos hb]
      exact ⟨([], false), key _ (by omega), by simp, fun k' hk' => key k' (by omega)⟩
    · obtain ⟨r, hr, hl, hm⟩ := ih (i + 4) (acc ++ [(⟨Go.bits .or .u16 (IntKind.u16.wrap ((IntKind.u16.wrap (rd x ((i : Int) + 1))) * 256)) (IntKind.u16.wrap (rd x (i : Int))), rd x ((i : Int) + 2), (rd x ((i : Int) + 3) == 1)⟩ : S100)]) k (by omega) (by simp; omega) (by omega)
      have key : ∀ k', k + 1 ≤ k' → impl_UnpackTrace.l0 k' x acc (i : Int) = some r := by
        intro k' hk'
        obtain ⟨k', rfl⟩ : ∃ m, k' = m + 1 := ⟨k' - 1, by omega⟩
        simp only [impl_UnpackTrace.l0, e1, e2, e3, e4, impl_wordOf.f, Option.bind_some]
        rw [if_pos (by omega), if_pos (by omega), if_pos (by omega), if_neg hb, if_pos (by omega), if_pos (by omega), if_pos (by omega), if_pos (by omega), if_pos (by omega), if_pos (by omega)]
        exact hm k' (by omega)
      exact ⟨r, key _ (Nat.le_refl _), hl, key⟩
theorem unpack_same (x : List Int) (hw : ∀ z ∈ x, (Lit.int .u8 z).wf = true) : ∃ r : List S100 × Bool, r.1.length ≤ 1200 ∧ ∀ k, 4802 ≤ k → spec_UnpackTrace.f k x = some r ∧ impl_UnpackTrace.f k x = some r := by
  by_cases h4 : ((x.length : Int) % 4) = 0
  · by_cases h : (x.length : Int) > 4800
    · refine ⟨([], false), by simp, fun k hk => ?_⟩
      obtain ⟨k, rfl⟩ : ∃ m, k = m + 1 := ⟨k - 1, by omega⟩
      simp only [spec_UnpackTrace.f, impl_UnpackTrace.f, Option.bind_some, if_pos h4, decide_eq_true h, spec_UnpackTrace.j0, impl_UnpackTrace.j0, if_true, and_self]
    · obtain ⟨r, _, hl, hm⟩ := loop_some x (by omega) (by omega) (x.length / 4) 0 [] 4801 (by omega) (by simp; omega) (by omega)
      refine ⟨r, hl, fun k hk => ?_⟩
      obtain ⟨k, rfl⟩ : ∃ m, k = m + 1 := ⟨k - 1, by omega⟩
      have h2 := hm k (by omega)
      simp only [spec_UnpackTrace.f, impl_UnpackTrace.f, Option.bind_some, if_pos h4, decide_eq_false h, spec_UnpackTrace.j0, impl_UnpackTrace.j0, Bool.false_eq_true, if_false, loop_same x hw]
      exact ⟨h2, h2⟩
  · refine ⟨([], false), by simp, fun k hk => ?_⟩
    obtain ⟨k, rfl⟩ : ∃ m, k = m + 1 := ⟨k - 1, by omega⟩
    simp only [spec_UnpackTrace.f, impl_UnpackTrace.f, Option.bind_some, if_neg h4, spec_UnpackTrace.j0, impl_UnpackTrace.j0, if_true, and_self]
theorem FnExactUnpackTrace : ∀ (l0 : List Int), l0.length ≤ maxLen → (∀ x ∈ l0, (Lit.int .u8 x).wf = true) → ∃ k, laws_FnExactUnpackTrace.f k l0 = some true := by
  intro l hm hw
  by_cases hs : (l.length : Int) > 1048576
  · exact ⟨1, by simp only [laws_FnExactUnpackTrace.f]; rw [if_pos hs]⟩
  · obtain ⟨r, hr, h⟩ := unpack_same l hw
    refine ⟨l.length + 4806, ?_⟩
    have hM := marksC_length r.1.length
    have hb : ∀ m, l.length + 4802 ≤ m → laws_toByteS.f m l = some l := fun m h => toByteS_eq l (by omega) m (by omega)
    have he : ∀ m, l.length + 4802 ≤ m → laws_eqByteS.f m l l = some true := fun m h => eqByteS_refl l (by omega) m (by omega)
    have hmb : ∀ m, l.length + 4802 ≤ m → laws_markByteS.f m l 1 = some (1 + (l.length : Int), marksB l.length) := fun m h => markByteS_eq l (by omega) m (by omega)
    have hec : ∀ m, l.length + 4802 ≤ m → laws_eqCycS.f m r.1 r.1 = some true := fun m h => eqCycS_refl r.1 (by omega) m (by omega)
    have hmc : ∀ m, l.length + 4802 ≤ m → laws_markCycS.f m r.1 1 = some (1 + 3 * (r.1.length : Int), marksC r.1.length) := fun m h => markCycS_eq r.1 (by omega) m (by omega)
    have hhc : ∀ m, l.length + 4802 ≤ m → laws_heldCycS.f m (marksC r.1.length) 1 = some (1 + 3 * (r.1.length : Int)) := fun m h => heldCycS_eq r.1.length (by omega) m (by omega)
    have h1 : ∀ m, l.length + 4802 ≤ m → spec_UnpackTrace.f m l = some r := fun m hm => (h m (by omega)).1
    have h2 : ∀ m, l.length + 4802 ≤ m → impl_UnpackTrace.f m l = some r := fun m hm => (h m (by omega)).2
    have j2 : laws_FnExactUnpackTrace.j2 (l.length + 4804) (marksC r.1.length) (1 + 3 * (r.1.length : Int)) (r.2 != r.2) = some true := by
      simp only [laws_FnExactUnpackTrace.j2, bne_self_eq_false, Bool.false_eq_true, if_false, hhc _ (show l.length + 4802 ≤ l.length + 4803 by omega), Option.bind_some]
      rw [if_neg (by omega), if_pos (by trivial)]
    have j1 : laws_FnExactUnpackTrace.j1 (l.length + 4805) l r.1 r.2 r.1 (r.2 != r.2) = some true := by
      simp only [laws_FnExactUnpackTrace.j1, bne_self_eq_false, Bool.false_eq_true, if_false, hmc _ (show l.length + 4802 ≤ l.length + 4804 by omega), hhc _ (show l.length + 4802 ≤ l.length + 4804 by omega), hb _ (show l.length + 4802 ≤ l.length + 4804 by omega), h2 _ (show l.length + 4802 ≤ l.length + 4804 by omega), hec _ (show l.length + 4802 ≤ l.length + 4804 by omega), Option.bind_some, if_true]
      rw [if_neg (by omega)]
      simpa using j2
    have j0 : laws_FnExactUnpackTrace.j0 (l.length + 4806) l r.1 r.2 l r.1 r.2 (r.2 != r.2) = some true := by
      simp only [laws_FnExactUnpackTrace.j0, bne_self_eq_false, Bool.false_eq_true, if_false, hmb _ (show l.length + 4802 ≤ l.length + 4805 by omega), hb _ (show l.length + 4802 ≤ l.length + 4805 by omega), he _ (show l.length + 4802 ≤ l.length + 4805 by omega), hec _ (show l.length + 4802 ≤ l.length + 4805 by omega), Option.bind_some, if_true]
      rw [if_neg (by omega)]
      simpa using j1
    simp only [laws_FnExactUnpackTrace.f]
    rw [if_neg hs]
    simp only [hb _ (show l.length + 4802 ≤ l.length + 4806 by omega), h1 _ (show l.length + 4802 ≤ l.length + 4806 by omega), h2 _ (show l.length + 4802 ≤ l.length + 4806 by omega), hec _ (show l.length + 4802 ≤ l.length + 4806 by omega), Option.bind_some, if_true]
    exact j0
end Go.Proofs.Ythdeemkhbajfgaa.Pure
