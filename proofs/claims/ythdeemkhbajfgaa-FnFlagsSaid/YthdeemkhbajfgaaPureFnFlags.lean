/- The plain side of FnFlags: flags come back from their byte; what is compared is less, alike or more. -/
import Derived.Test.YthdeemkhbajfgaaPureDraw
import Derived.Test.YthdeemkhbajfgaaPAllx45
namespace Go.Proofs.Ythdeemkhbajfgaa.Pure
open Go.RowKit Go.Proofs.Ythdeemkhbajfgaa.PAll Go.Proofs.Ythdeemkhbajfgaa.Plain Go.Proofs.Ythdeemkhbajfgaa.Draw Go.Proofs.YthdeemkhbajfgaaW.PrintWords Go.Proofs.YthdeemkhbajfgaaW.PrintLast Go.Proofs.YthdeemkhbajfgaaW.PrintMore

theorem byt {P : Int → Prop} (h : ∀ n : Nat, n < 256 → P (n : Int)) {a : Int} (h0 : 0 ≤ a) (h1 : a ≤ 255) : P a := by
  have := h a.toNat (by omega)
  rwa [Int.toNat_of_nonneg h0] at this
theorem has7 {a : Int} (h0 : 0 ≤ a) (h1 : a ≤ 255) : impl_has.f a 7 = some (decide (a ≥ 128)) :=
  byt (P := fun a => impl_has.f a 7 = some (decide (a ≥ 128))) (by decide +kernel) h0 h1
theorem pack_back (f0 f1 f2 f3 f4 f5 b : Bool) : ∃ t : Int, impl_PackP.f f0 f1 f2 f3 f4 f5 b = some t ∧ spec_PackP.f f0 f1 f2 f3 f4 f5 b = some t ∧ impl_UnpackP.f t = some (f0, f1, f2, f3, f4, f5) ∧ impl_UnpackP.f (Go.bits .xor .u8 t 48) = some (f0, f1, f2, f3, f4, f5) := by
  have key : ∀ f0 f1 f2 f3 f4 f5 b : Bool, (match impl_PackP.f f0 f1 f2 f3 f4 f5 b with
    | some t => decide (spec_PackP.f f0 f1 f2 f3 f4 f5 b = some t) && decide (impl_UnpackP.f t = some (f0, f1, f2, f3, f4, f5)) && decide (impl_UnpackP.f (Go.bits .xor .u8 t 48) = some (f0, f1, f2, f3, f4, f5))
    | none => false) = true := by decide +kernel
  have h := key f0 f1 f2 f3 f4 f5 b
  cases ht : impl_PackP.f f0 f1 f2 f3 f4 f5 b with
  | none => rw [ht] at h; simp at h
  | some t =>
    rw [ht] at h
    simp only [Bool.and_eq_true, decide_eq_true_eq] at h
    exact ⟨t, rfl, h.1.1, h.1.2, h.2⟩
theorem cmp_eq {x y : Int} (x0 : 0 ≤ x) (x1 : x ≤ 255) (y0 : 0 ≤ y) (y1 : y ≤ 255) (f0 f1 f2 f3 f4 f5 : Bool) : impl_Cmp.f x y f0 f1 f2 f3 f4 f5 = some (decide ((x - y) % 256 ≥ 128), f1, f2, f3, (x == y), decide (x ≥ y)) := by
  have h0 : 0 ≤ (x - y) % 256 := by omega
  have h1 : (x - y) % 256 ≤ 255 := by omega
  have hz : ((x - y) % 256 == 0) = (x == y) := by
    rw [Bool.eq_iff_iff]; simp only [beq_iff_eq]; omega
  simp only [impl_Cmp.f, impl_NZ.f, has7 h0 h1, Option.bind_some, hz]
theorem FnFlags : ∀ (l0 : List Int), l0.length ≤ maxLen → (∀ x ∈ l0, (Lit.int .u8 x).wf = true) → ∃ k, laws_FnFlags.f k l0 = some true := by
  intro l _ _
  by_cases hs : l.length ≤ 1048576
  · obtain ⟨s, hn⟩ := new_some l hs
    have a0 : At l 0 := ⟨by omega, by omega, hs⟩
    obtain ⟨f0, f1, f2, f3, f4, f5, i1, s1, e1, a1⟩ := l02Flags_some a0 s
    obtain ⟨b, i2, s2, e2, _⟩ := once_some a1 s1 2
    obtain ⟨x, i3, s3, e3, x0, x1, a3⟩ := l02Byte_some a0 s
    obtain ⟨y, i4, s4, e4, y0, y1, a4⟩ := l02Byte_some a3 s3
    obtain ⟨g0, g1, g2, g3, g4, g5, i5, s5, e5, _⟩ := l02Flags_some a4 s4
    obtain ⟨t, p1, p2, p3, p4⟩ := pack_back f0 f1 f2 f3 f4 f5 b
    refine ⟨4002, ?_⟩
    have hd : spec_DrawPackP.f 4002 l = some (f0, f1, f2, f3, f4, f5, b) := by simp only [spec_DrawPackP.f, hn 4002 (by omega), Option.bind_some, e1, e2]
    have hd2 : spec_DrawCmp.f 4002 l = some (x, y, g0, g1, g2, g3, g4, g5) := by simp only [spec_DrawCmp.f, hn 4002 (by omega), Option.bind_some, e3, e4, e5]
    simp only [laws_FnFlags.f, big_small hs, hd, hd2, p1, p2, p3, p4, cmp_eq x0 x1 y0 y1, Option.bind_some, Bool.false_eq_true, if_false, beq_self_eq_true, Bool.and_self, if_true]
  · exact ⟨1, by simp only [laws_FnFlags.f, big_big hs, Option.bind_some, if_true]⟩
end Go.Proofs.Ythdeemkhbajfgaa.Pure
