/- The plain side of FnExactKnowOk. -/
import Derived.Test.YtecccbecflbcfaaPureKnowBase
import Derived.Test.YtecccbecflbcfaaPKnowx5
namespace Go.Proofs.Ytecccbecflbcfaa.Pure
open Go.RowKit Go.Proofs.Ytecccbecflbcfaa.PKnow Go.Proofs.Ytecccbecflbcfaa.Know Go.Proofs.Ytecccbecflbcfaa.Plain Go.Proofs.YtecccbecflbcfaaW.PrintWords Go.Proofs.YtecccbecflbcfaaW.PrintLast Go.Proofs.YtecccbecflbcfaaW.PrintMore

theorem FnExactKnowOk : ∀ (a0_0 : Int) (a0_1 : Int) (a0_2 : Int) (a0_3 : Int) (a0_4 : Int) (a0_5 : Int) (a0_6 : Int) (a0_7 : Int) (a0_8 : Int) (a0_9 : Int) (a0_10 : Int), (Lit.int .i64 a0_0).wf = true → (Lit.int .i64 a0_1).wf = true → (Lit.int .i64 a0_2).wf = true → (Lit.int .i64 a0_3).wf = true → (Lit.int .i64 a0_4).wf = true → (Lit.int .i64 a0_5).wf = true → (Lit.int .i64 a0_6).wf = true → (Lit.int .i64 a0_7).wf = true → (Lit.int .i64 a0_8).wf = true → (Lit.int .i64 a0_9).wf = true → (Lit.int .i64 a0_10).wf = true → ∃ k, laws_FnExactKnowOk.f k a0_0 a0_1 a0_2 a0_3 a0_4 a0_5 a0_6 a0_7 a0_8 a0_9 a0_10 = some true := by
  intro a0 a1 a2 a3 a4 a5 a6 a7 a8 a9 a10
  intros
  refine ⟨20, ?_⟩
  simp only [laws_FnExactKnowOk.f, laws_toKnow.f, Option.bind_some, specOk_eq a0 a1 a2 a3 a4 a5 a6 a7 a8 a9 a10 20 (by omega), impl_KnowOk.f]
  simp
end Go.Proofs.Ytecccbecflbcfaa.Pure
