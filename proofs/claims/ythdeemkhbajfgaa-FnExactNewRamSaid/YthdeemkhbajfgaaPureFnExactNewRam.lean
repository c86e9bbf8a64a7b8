/- The plain side of FnExactNewRam: both functions make the same memory, and two calls make two memories. -/
import Derived.Test.YthdeemkhbajfgaaPureBase
import Derived.Test.YthdeemkhbajfgaaPAllx7
namespace Go.Proofs.Ythdeemkhbajfgaa.Pure
open Go.RowKit Go.Proofs.Ythdeemkhbajfgaa.PAll Go.Proofs.Ythdeemkhbajfgaa.Plain Go.Proofs.Ythdeemkhbajfgaa.Base Go.Proofs.YthdeemkhbajfgaaW.PrintWords Go.Proofs.YthdeemkhbajfgaaW.PrintLast

theorem newRam_eq (a : Int) : ∃ l : List Int, l.length ≤ 4096 ∧ spec_NewRam.f a = some l ∧ impl_NewRam.f a = some l := by
  simp only [spec_NewRam.f, impl_NewRam.f, impl_isRamSize.f]
  by_cases h1 : a = 256
  · subst h1; exact ⟨List.replicate 256 0, by rw [List.length_replicate]; omega, rfl, rfl⟩
  by_cases h2 : a = 512
  · subst h2; exact ⟨List.replicate 512 0, by rw [List.length_replicate]; omega, rfl, rfl⟩
  by_cases h3 : a = 1024
  · subst h3; exact ⟨List.replicate 1024 0, by rw [List.length_replicate]; omega, rfl, rfl⟩
  by_cases h4 : a = 2048
  · subst h4; exact ⟨List.replicate 2048 0, by rw [List.length_replicate]; omega, rfl, rfl⟩
  by_cases h5 : a = 4096
  · subst h5; exact ⟨List.replicate 4096 0, by rw [List.length_replicate]; omega, rfl, rfl⟩
  · exact ⟨[], by simp, by rw [if_neg h1, if_neg h2, if_neg h3, if_neg h4, if_neg h5], by rw [if_neg h1, if_neg h2, if_neg h3, if_neg h4]; simp [h5]⟩
theorem FnExactNewRam : ∀ (a0 : Int), (Lit.int .i64 a0).wf = true → ∃ k, laws_FnExactNewRam.f k a0 = some true := by
  intro a _
  obtain ⟨l, hl, h1, h2⟩ := newRam_eq a
  refine ⟨l.length + 1, ?_⟩
  have hk := Nat.lt_succ_self l.length
  have hM := marksB_length l.length
  simp only [laws_FnExactNewRam.f, h1, h2, Option.bind_some, laws_eqRam.f, eqByteS_refl l (by omega) _ hk, if_true, laws_markRam.f, markByteS_eq l (by omega) _ hk, laws_heldRam.f, heldByteS_eq l.length (by omega) _ hk]
  rw [if_neg (by omega)]
  simp only [Option.bind_some]
  simp only [if_true, if_neg (show ¬ (1 + (l.length : Int) < 0) by omega)]
end Go.Proofs.Ythdeemkhbajfgaa.Pure
