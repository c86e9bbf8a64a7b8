/- The plain side of FnExactPackTrace: both functions make the same bytes, the argument stays, two calls share nothing. -/
import Derived.Test.YthdeemkhbajfgaaPureBase
import Derived.Test.YthdeemkhbajfgaaMyAllOpen
import Derived.Test.YthdeemkhbajfgaaPAllx27
import Derived.Laws.BitsLemmas
import Derived.Laws.BitsAllLaws
namespace Go.Proofs.Ythdeemkhbajfgaa.Pure
open Go.RowKit Go.Proofs.Ythdeemkhbajfgaa.PAll Go.Proofs.Ythdeemkhbajfgaa.Plain Go.Proofs.Ythdeemkhbajfgaa.Base Go.Proofs.YthdeemkhbajfgaaW.PrintWords Go.Proofs.YthdeemkhbajfgaaW.PrintLast Go.Proofs.YthdeemkhbajfgaaW.PrintMore

/-- The four bytes of a cycle. -/
def pk (c : S100) : List Int := [c.f0 % 256, c.f0 / 256 % 256, c.f1, if c.f2 = true then 1 else 0]
theorem wraps_u16 (n : Int) (h₀ : 0 ≤ n) (h₁ : n < 2 ^ 16) : IntKind.u16.wrap n = n := by rw [IntKind.wrap_u16]; omega
theorem lo_eq {a : Int} (h0 : 0 ≤ a) (h1 : a ≤ 65535) : Go.bits .and .u16 a 255 % 256 = a % 256 := by
  have : Go.bits .and .u16 a 255 = a % 256 := bits_mask .u16 16 (by decide) wraps_u16 8 (by decide) a h0 (by omega)
  rw [this]; omega
theorem hi_eq {a : Int} (h0 : 0 ≤ a) (h1 : a ≤ 65535) : IntKind.u16.wrap (Int.tdiv a 256) % 256 = a / 256 % 256 := by
  rw [Int.tdiv_eq_ediv_of_nonneg h0, wraps_u16 _ (by omega) (by omega)]
theorem bit_eq (b : Bool) : impl_bit.f b 0 = some (if b = true then 1 else 0) := by cases b <;> decide +kernel
theorem flat_len (l : List S100) : (l.flatMap pk).length = 4 * l.length := by
  induction l with
  | nil => rfl
  | cons c l ih => simp only [List.flatMap_cons, List.length_append, ih, List.length_cons]; simp [pk]; omega
theorem flat_take (l : List S100) (i : Nat) (h : i < l.length) : (l.take (i + 1)).flatMap pk = (l.take i).flatMap pk ++ pk l[i] := by
  rw [List.take_succ_eq_append_getElem h, List.flatMap_append]; simp
theorem flat_take_len (l : List S100) (i : Nat) (h : i ≤ l.length) : ((l.take i).flatMap pk).length = 4 * i := by
  rw [flat_len, List.length_take]; omega
theorem specPack_eq (l : List S100) (h : l.length ≤ 1200) (hw : ∀ x ∈ l, 0 ≤ x.f0 ∧ x.f0 ≤ 65535) (k : Nat) (hk : l.length < k) : spec_PackTrace.f k l = some (l.flatMap pk) := by
  simp only [spec_PackTrace.f, Option.bind_some]
  rw [if_neg (by omega)]
  have := loop_run (fun k x i => spec_PackTrace.l0 k l x i) (fun i => (l.take i).flatMap pk) l.length (l.flatMap pk) ?_ ?_ k hk
  · simpa using this
  · intro k i hi
    have hb := hw _ (List.getElem_mem hi)
    have hf := flat_take l i hi
    have hlen := flat_take_len l i (by omega)
    simp only [spec_PackTrace.l0]
    rw [if_pos (by omega), if_pos (by omega), rdT100_nat _ _ hi, lo_eq hb.1 hb.2, hi_eq hb.1 hb.2]
    simp only [Option.bind_some, List.length_cons, List.length_nil]
    rw [if_pos (show ((l.take i).flatMap pk).length + (0 + 1 + 1 + 1 + 1) < 140737488355328 by omega), wsucc (by omega), hf]
    cases hc : (l[i]).f2 <;> simp only [pk, hc, Bool.false_eq_true, if_true, if_false]
    rw [if_pos (by omega)]
  · intro k
    simp only [spec_PackTrace.l0]
    rw [if_neg (by omega), List.take_length]
theorem implPack_eq (l : List S100) (h : l.length ≤ 1200) (k : Nat) (hk : l.length < k) : impl_PackTrace.f k l = some (l.flatMap pk) := by
  simp only [impl_PackTrace.f]
  rw [if_neg (by omega)]
  have := loop_run (fun k x i => impl_PackTrace.l0 k x l (l.length : Int) i) (fun i => (l.take i).flatMap pk) l.length (l.flatMap pk) ?_ ?_ k hk
  · simpa using this
  · intro k i hi
    have hf := flat_take l i hi
    have hlen := flat_take_len l i (by omega)
    simp only [impl_PackTrace.l0]
    rw [if_pos (by omega), if_pos (by omega), if_pos (by omega), rdT100_nat _ _ hi, bit_eq]
    simp only [Option.bind_some, List.length_cons, List.length_nil]
    rw [if_pos (by omega), wsucc (by omega), hf]
    rfl
  · intro k
    simp only [impl_PackTrace.l0]
    rw [if_neg (by omega), List.take_length]
theorem pack_same (l : List S100) (hw : ∀ x ∈ l, 0 ≤ x.f0 ∧ x.f0 ≤ 65535) : ∃ r : List Int, r.length ≤ 4800 ∧ ∀ k, l.length < k → spec_PackTrace.f k l = some r ∧ impl_PackTrace.f k l = some r := by
  by_cases h : l.length ≤ 1200
  · exact ⟨l.flatMap pk, by rw [flat_len]; omega, fun k hk => ⟨specPack_eq l h hw k hk, implPack_eq l h k hk⟩⟩
  · refine ⟨[], by simp, fun k hk => ⟨?_, ?_⟩⟩
    · simp only [spec_PackTrace.f, Option.bind_some]; rw [if_pos (by omega)]
    · simp only [impl_PackTrace.f]; rw [if_pos (by omega)]
theorem FnExactPackTrace : ∀ (l0_0 : List (S102)), l0_0.length ≤ maxLen → (∀ x ∈ l0_0, Wf_Cyc x) → ∃ k, laws_FnExactPackTrace.f k l0_0 = some true := by
  intro l hm hw
  have hx : maxLen = 9223372036854775807 := rfl
  have hw1 : wrap64 (1048576 - (l.length : Int)) = 1048576 - (l.length : Int) := w64 (by omega) (by omega)
  by_cases hs : l.length ≤ 1048576
  · have hlen : (l.map cv).length = l.length := List.length_map ..
    obtain ⟨r, hr, h⟩ := pack_same (l.map cv) (by
      intro x hx
      obtain ⟨y, hy, rfl⟩ := List.mem_map.1 hx
      have := bounds_u16 (hw y hy).1
      exact this)
    refine ⟨l.length + 4802, ?_⟩
    have hk : l.length < l.length + 4802 := by omega
    have hk1 : l.length < l.length + 4801 := by omega
    have hc := toCycS_eq l (by omega)
    have hM := marksB_length r.length
    have hj : ∀ b, b = false → laws_FnExactPackTrace.j0 (l.length + 4802) l r r b = some true := by
      intro b hb
      subst hb
      simp only [laws_FnExactPackTrace.j0, Bool.false_eq_true, if_false, markByteS_eq r (by omega) _ (show r.length < l.length + 4801 by omega), Option.bind_some, heldByteS_eq r.length (by omega) _ (show r.length < l.length + 4801 by omega), hc _ hk1, (h (l.length + 4801) (by omega)).2, eqByteS_refl r (by omega) _ (show r.length < l.length + 4801 by omega), if_true]
      rw [if_neg (by omega), if_neg (by omega)]
    simp only [laws_FnExactPackTrace.f, laws_szCycS.f, hw1]
    rw [if_neg (by omega)]
    simp only [Option.bind_some]
    rw [if_neg (by omega)]
    simp only [hc _ hk, Option.bind_some, (h (l.length + 4802) (by omega)).1, (h (l.length + 4802) (by omega)).2, eqByteS_refl r (by omega) _ (show r.length < l.length + 4802 by omega), eqCycS_refl (l.map cv) (by omega) _ (show (l.map cv).length < l.length + 4802 by omega), markCycS_eq (l.map cv) (by omega) _ (show (l.map cv).length < l.length + 4802 by omega), if_true]
    rw [if_neg (by omega)]
    exact hj _ rfl
  · refine ⟨1, ?_⟩
    simp only [laws_FnExactPackTrace.f, laws_szCycS.f, hw1]
    rw [if_pos (by omega)]
    rfl
end Go.Proofs.Ythdeemkhbajfgaa.Pure
