/- The plain side of FnExactKnowText. -/
import Derived.Test.YtecccbecflbcfaaPureKtxText
import Derived.Test.YtecccbecflbcfaaPKtxx7
namespace Go.Proofs.Ytecccbecflbcfaa.Pure
open Go.RowKit Go.Proofs.Ytecccbecflbcfaa.PKtx Go.Proofs.Ytecccbecflbcfaa.Plain Go.Proofs.Ytecccbecflbcfaa.Str Go.Proofs.Ytecccbecflbcfaa.HexKtx Go.Proofs.Ytecccbecflbcfaa.Know Go.Proofs.YtecccbecflbcfaaW.PrintWords Go.Proofs.YtecccbecflbcfaaW.PrintLast Go.Proofs.YtecccbecflbcfaaW.PrintMore

theorem FnExactKnowText : ∀ (a0_0 : Int) (a0_1 : Int) (a0_2 : Int) (a0_3 : Int) (a0_4 : Int) (a0_5 : Int) (a0_6 : Int) (a0_7 : Int) (a0_8 : Int) (a0_9 : Int) (a0_10 : Int), (Lit.int .i64 a0_0).wf = true → (Lit.int .i64 a0_1).wf = true → (Lit.int .i64 a0_2).wf = true → (Lit.int .i64 a0_3).wf = true → (Lit.int .i64 a0_4).wf = true → (Lit.int .i64 a0_5).wf = true → (Lit.int .i64 a0_6).wf = true → (Lit.int .i64 a0_7).wf = true → (Lit.int .i64 a0_8).wf = true → (Lit.int .i64 a0_9).wf = true → (Lit.int .i64 a0_10).wf = true → ∃ k, laws_FnExactKnowText.f k a0_0 a0_1 a0_2 a0_3 a0_4 a0_5 a0_6 a0_7 a0_8 a0_9 a0_10 = some true := by
  intro a0 a1 a2 a3 a4 a5 a6 a7 a8 a9 a10
  intros
  obtain ⟨k, hk⟩ : ∃ k : Nat, 29 < k := ⟨30, by omega⟩
  refine ⟨k, ?_⟩
  have ht : ∀ r, spec_KnowText.f k a0 a1 a2 a3 a4 a5 a6 a7 a8 a9 a10 = some r → impl_KnowText.f k a0 a1 a2 a3 a4 a5 a6 a7 a8 a9 a10 = some r → laws_FnExactKnowText.f k a0 a1 a2 a3 a4 a5 a6 a7 a8 a9 a10 = some true := by
    intro r hs hi
    have hc : laws_toKnow.f a0 a1 a2 a3 a4 a5 a6 a7 a8 a9 a10 = some (a0, a1, a2, a3, a4, a5, a6, a7, a8, a9, a10) := rfl
    unfold laws_FnExactKnowText.f
    rw [hc, Option.bind_some]
    show (spec_KnowText.f k a0 a1 a2 a3 a4 a5 a6 a7 a8 a9 a10).bind _ = some true
    rw [hs, Option.bind_some, Option.bind_some]
    show (impl_KnowText.f k a0 a1 a2 a3 a4 a5 a6 a7 a8 a9 a10).bind _ = some true
    rw [hi, Option.bind_some, if_pos rfl]
  by_cases hall : (List.range 11).all (okAt (ints a0 a1 a2 a3 a4 a5 a6 a7 a8 a9 a10)) = true
  · exact ht _ (ktext_spec a0 a1 a2 a3 a4 a5 a6 a7 a8 a9 a10 hall k (by omega)) (ktext_impl a0 a1 a2 a3 a4 a5 a6 a7 a8 a9 a10 hall k (by omega))
  · exact ht _ (ktext_bad a0 a1 a2 a3 a4 a5 a6 a7 a8 a9 a10 hall k (by omega)).1 (ktext_bad a0 a1 a2 a3 a4 a5 a6 a7 a8 a9 a10 hall k (by omega)).2
end Go.Proofs.Ytecccbecflbcfaa.Pure
