/- The plain side of FnExactRamOk: both functions say the same of a memory's size, and the argument stays. -/
import Derived.Test.YthdeemkhbajfgaaPureBase
import Derived.Test.YthdeemkhbajfgaaPAllx4
namespace Go.Proofs.Ythdeemkhbajfgaa.Pure
open Go.RowKit Go.Proofs.Ythdeemkhbajfgaa.PAll Go.Proofs.Ythdeemkhbajfgaa.Plain Go.Proofs.Ythdeemkhbajfgaa.Base Go.Proofs.YthdeemkhbajfgaaW.PrintWords Go.Proofs.YthdeemkhbajfgaaW.PrintLast

theorem ram_eq (l : List Int) : ∃ b, spec_RamOk.f l = some b ∧ impl_RamOk.f l = some b := by
  simp only [spec_RamOk.f, impl_RamOk.f, impl_isRamSize.f]
  by_cases h1 : (l.length : Int) = 256
  · exact ⟨true, by rw [if_pos h1], by rw [if_pos h1]; rfl⟩
  by_cases h2 : (l.length : Int) = 512
  · exact ⟨true, by rw [if_neg h1, if_pos h2], by rw [if_neg h1, if_pos h2]; rfl⟩
  by_cases h3 : (l.length : Int) = 1024
  · exact ⟨true, by rw [if_neg h1, if_neg h2, if_pos h3], by rw [if_neg h1, if_neg h2, if_pos h3]; rfl⟩
  by_cases h4 : (l.length : Int) = 2048
  · exact ⟨true, by rw [if_neg h1, if_neg h2, if_neg h3, if_pos h4], by rw [if_neg h1, if_neg h2, if_neg h3, if_pos h4]; rfl⟩
  by_cases h5 : (l.length : Int) = 4096
  · exact ⟨true, by rw [if_neg h1, if_neg h2, if_neg h3, if_neg h4, if_pos h5], by rw [if_neg h1, if_neg h2, if_neg h3, if_neg h4]; simp [h5]⟩
  · exact ⟨false, by rw [if_neg h1, if_neg h2, if_neg h3, if_neg h4, if_neg h5], by rw [if_neg h1, if_neg h2, if_neg h3, if_neg h4]; simp [h5]⟩
theorem FnExactRamOk : ∀ (l0_0 : List (Int)), l0_0.length ≤ maxLen → (∀ x ∈ l0_0, (Lit.int .u8 x).wf = true) → ∃ k, laws_FnExactRamOk.f k l0_0 = some true := by
  intro l hm hw
  have hx : maxLen = 9223372036854775807 := rfl
  refine ⟨l.length + 1, ?_⟩
  by_cases hs : l.length ≤ 1048576
  · obtain ⟨b, h1, h2⟩ := ram_eq l
    have hw1 : wrap64 (1048576 - (l.length : Int)) = 1048576 - (l.length : Int) := w64 (by omega) (by omega)
    simp only [laws_FnExactRamOk.f, laws_szRam.f, laws_szByteS.f, hw1]
    rw [if_neg (by omega)]
    simp only [Option.bind_some]
    rw [if_neg (by omega)]
    simp only [Option.bind_some]
    rw [if_neg (by omega)]
    simp only [laws_toRam.f, toByteS_eq l (by omega) _ (Nat.lt_succ_self _), Option.bind_some, h1, h2, laws_eqRam.f, eqByteS_refl l (by omega) _ (Nat.lt_succ_self _), if_true]
    simp
  · have hw1 : wrap64 (1048576 - (l.length : Int)) = 1048576 - (l.length : Int) := w64 (by omega) (by omega)
    simp only [laws_FnExactRamOk.f, laws_szRam.f, laws_szByteS.f, hw1]
    rw [if_pos (by omega)]
    rfl
end Go.Proofs.Ythdeemkhbajfgaa.Pure
