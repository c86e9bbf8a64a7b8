import Derived.Test.YtecccbecflbcfaaSKPureKtlRead
import Derived.Test.YtecccbecflbcfaaSKPureKtlDraw2
import Derived.Test.YtecccbecflbcfaaSKMyKtlKnown
import Derived.Test.YtecccbecflbcfaaSKPKtlx21
namespace Go.Proofs.Ytecccbecflbcfaa.Pure
open Go.RowKit Go.Proofs.Ytecccbecflbcfaa.PKtl Go.Proofs.Ytecccbecflbcfaa.Know Go.Proofs.Ytecccbecflbcfaa.Plain Go.Proofs.YtecccbecflbcfaaW.PrintWords Go.Proofs.YtecccbecflbcfaaW.PrintLast Go.Proofs.YtecccbecflbcfaaW.PrintMore
open Go.Proofs.Ytecccbecflbcfaa.DrawKtl
theorem fnkt_ok (k : Nat) (l : List Int) (a0 a1 a2 a3 a4 a5 a6 a7 a8 a9 a10 : Int) (t : ByteArray) (hb : laws_big.f l = some false) (hd : spec_DrawKnowText.f k l = some (a0, a1, a2, a3, a4, a5, a6, a7, a8, a9, a10)) (ht : impl_KnowText.f k a0 a1 a2 a3 a4 a5 a6 a7 a8 a9 a10 = some t) (ho : spec_KnowOk.f k a0 a1 a2 a3 a4 a5 a6 a7 a8 a9 a10 = some true) (hr : impl_ReadKnow.f k t = some (a0, a1, a2, a3, a4, a5, a6, a7, a8, a9, a10, true)) (hk : impl_KnowOk.f a0 a1 a2 a3 a4 a5 a6 a7 a8 a9 a10 = some true) : laws_FnKnowText.f k l = some true := by
  unfold laws_FnKnowText.f
  rw [hb, Option.bind_some, if_neg (by simp), hd, Option.bind_some, ht, Option.bind_some, ho, Option.bind_some, if_pos rfl, hr, Option.bind_some, if_pos rfl, if_pos (by simp), hk]
  rfl
theorem fnkt_bad (k : Nat) (l : List Int) (a0 a1 a2 a3 a4 a5 a6 a7 a8 a9 a10 : Int) (hb : laws_big.f l = some false) (hd : spec_DrawKnowText.f k l = some (a0, a1, a2, a3, a4, a5, a6, a7, a8, a9, a10)) (ht : impl_KnowText.f k a0 a1 a2 a3 a4 a5 a6 a7 a8 a9 a10 = some ⟨#[]⟩) (ho : spec_KnowOk.f k a0 a1 a2 a3 a4 a5 a6 a7 a8 a9 a10 = some false) (hk : impl_Known.f a0 a1 a2 a3 a4 a5 a6 a7 a8 a9 a10 = some (-1)) : laws_FnKnowText.f k l = some true := by
  unfold laws_FnKnowText.f
  rw [hb, Option.bind_some, if_neg (by simp), hd, Option.bind_some, ht, Option.bind_some, ho, Option.bind_some, if_neg (by simp), if_pos (show (⟨#[]⟩ : ByteArray).toList = ([] : List UInt8) by first | rfl | decide | simp), hk]
  rfl
theorem FnKnowText : ∀ (l0_0 : List (Int)), l0_0.length ≤ maxLen → (∀ x ∈ l0_0, (Lit.int .u8 x).wf = true) → ∃ k, laws_FnKnowText.f k l0_0 = some true := by
  intro l hm hw
  by_cases h : l.length ≤ 1048576
  · obtain ⟨s, hs⟩ := new_some l h
    have p0 : At l 0 := ⟨by omega, by omega, h⟩
    obtain ⟨c0, c1, c2, c3, c4, d0, d1, d2, d3, d4, d5, i1, s1, e1, p1⟩ := cpu_some p0 s
    obtain ⟨a0, a1, a2, a3, a4, a5, a6, a7, a8, a9, a10, i2, s2, e2, p2⟩ := any_some p1 s1 c0 c1 c2 c3 c4 d0 d1 d2 d3 d4 d5
    obtain ⟨k, hk⟩ : ∃ k : Nat, 4100 < k := ⟨4101, by omega⟩
    have hd : spec_DrawKnowText.f k l = some (a0, a1, a2, a3, a4, a5, a6, a7, a8, a9, a10) := by
      unfold spec_DrawKnowText.f
      rw [hs k (by omega), Option.bind_some]
      show (spec_l05Cpu.f l 0 s).bind _ = _
      rw [e1, Option.bind_some]
      show (spec_l09Any.f k l i1 s1 c0 c1 c2 c3 c4 d0 d1 d2 d3 d4 d5).bind _ = _
      rw [e2 k (by omega), Option.bind_some]
    refine ⟨k, ?_⟩
    have ho := specOk_eq a0 a1 a2 a3 a4 a5 a6 a7 a8 a9 a10 k (by omega)
    have hi : impl_KnowOk.f a0 a1 a2 a3 a4 a5 a6 a7 a8 a9 a10 = some ((List.range 11).all (okAt (ints a0 a1 a2 a3 a4 a5 a6 a7 a8 a9 a10))) := rfl
    by_cases hall : (List.range 11).all (okAt (ints a0 a1 a2 a3 a4 a5 a6 a7 a8 a9 a10)) = true
    · rw [hall] at ho hi
      exact fnkt_ok k l a0 a1 a2 a3 a4 a5 a6 a7 a8 a9 a10 _ (big_small h) hd (ktext_impl a0 a1 a2 a3 a4 a5 a6 a7 a8 a9 a10 hall k (by omega)) ho (read_ktext a0 a1 a2 a3 a4 a5 a6 a7 a8 a9 a10 hall k (by omega)) hi
    · have hf := Bool.eq_false_iff.mpr hall
      rw [hf] at ho hi
      refine fnkt_bad k l a0 a1 a2 a3 a4 a5 a6 a7 a8 a9 a10 (big_small h) hd (ktext_bad a0 a1 a2 a3 a4 a5 a6 a7 a8 a9 a10 hall k (by omega)).2 ho ?_
      unfold impl_Known.f
      rw [hi, Option.bind_some, if_neg (by simp)]
  · refine ⟨1, ?_⟩
    unfold laws_FnKnowText.f
    rw [big_big h, Option.bind_some, if_pos rfl]
end Go.Proofs.Ytecccbecflbcfaa.Pure
