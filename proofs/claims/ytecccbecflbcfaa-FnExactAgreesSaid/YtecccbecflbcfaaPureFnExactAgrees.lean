/- The plain side of FnExactAgrees. -/
import Derived.Test.YtecccbecflbcfaaPureKnowLess
import Derived.Test.YtecccbecflbcfaaPKnowx18
import Derived.Laws.BitsLemmas
import Derived.Laws.BitsAllLaws
namespace Go.Proofs.Ytecccbecflbcfaa.Pure
open Go.RowKit Go.Proofs.Ytecccbecflbcfaa.PKnow Go.Proofs.Ytecccbecflbcfaa.Know Go.Proofs.Ytecccbecflbcfaa.Plain Go.Proofs.YtecccbecflbcfaaW.PrintWords Go.Proofs.YtecccbecflbcfaaW.PrintLast Go.Proofs.YtecccbecflbcfaaW.PrintMore

theorem bitv (c : Bool) : spec_l02Bit.f c 1 = some (if c = true then 1 else 0) := by cases c <;> rfl
theorem onev (c : Bool) : impl_one.f c = some (if c = true then 1 else 0) := by cases c <;> decide +kernel
theorem specOf_eq (c0 c1 c2 c3 c4 : Int) (d0 d1 d2 d3 d4 d5 : Bool) (h0 : wrap64 c0 = c0) (h1 : wrap64 c1 = c1) (h2 : wrap64 c2 = c2) (h3 : wrap64 c3 = c3) (h4 : wrap64 c4 = c4) : spec_KnowOf.f c0 c1 c2 c3 c4 d0 d1 d2 d3 d4 d5 = some (c0, c1, c2, c3, c4, (if d0 = true then 1 else 0), (if d1 = true then 1 else 0), (if d2 = true then 1 else 0), (if d3 = true then 1 else 0), (if d4 = true then 1 else 0), (if d5 = true then 1 else 0)) := by
  simp [spec_KnowOf.f, bitv, spec_l09Of.f, rd, h0, h1, h2, h3, h4]
theorem implOf_eq (c0 c1 c2 c3 c4 : Int) (d0 d1 d2 d3 d4 d5 : Bool) (h0 : wrap64 c0 = c0) (h1 : wrap64 c1 = c1) (h2 : wrap64 c2 = c2) (h3 : wrap64 c3 = c3) (h4 : wrap64 c4 = c4) : impl_KnowOf.f c0 c1 c2 c3 c4 d0 d1 d2 d3 d4 d5 = some (c0, c1, c2, c3, c4, (if d0 = true then 1 else 0), (if d1 = true then 1 else 0), (if d2 = true then 1 else 0), (if d3 = true then 1 else 0), (if d4 = true then 1 else 0), (if d5 = true then 1 else 0)) := by
  simp [impl_KnowOf.f, onev, h0, h1, h2, h3, h4]
theorem okOf (c0 c1 c2 c3 c4 t0 t1 t2 t3 t4 t5 : Int) (h0 : 0 ≤ c0 ∧ c0 ≤ 255) (h1 : 0 ≤ c1 ∧ c1 ≤ 255) (h2 : 0 ≤ c2 ∧ c2 ≤ 255) (h3 : 0 ≤ c3 ∧ c3 ≤ 255) (h4 : 0 ≤ c4 ∧ c4 ≤ 65535) (g0 : 0 ≤ t0 ∧ t0 ≤ 1) (g1 : 0 ≤ t1 ∧ t1 ≤ 1) (g2 : 0 ≤ t2 ∧ t2 ≤ 1) (g3 : 0 ≤ t3 ∧ t3 ≤ 1) (g4 : 0 ≤ t4 ∧ t4 ≤ 1) (g5 : 0 ≤ t5 ∧ t5 ≤ 1) :
    (List.range 11).all (okAt (ints c0 c1 c2 c3 c4 t0 t1 t2 t3 t4 t5)) = true := by
  apply all_yes
  intro j hj
  rcases j with _|_|_|_|_|_|_|_|_|_|_|j
  all_goals first
    | (simp only [okAt, pAt, ints, lim]; simp; omega)
    | omega
theorem bit01 (d : Bool) : 0 ≤ (if d = true then (1 : Int) else 0) ∧ (if d = true then (1 : Int) else 0) ≤ 1 := by cases d <;> simp
theorem FnExactAgrees : ∀ (a0_0 : Int) (a0_1 : Int) (a0_2 : Int) (a0_3 : Int) (a0_4 : Int) (a0_5 : Int) (a0_6 : Int) (a0_7 : Int) (a0_8 : Int) (a0_9 : Int) (a0_10 : Int) (a1_0 : Int) (a1_1 : Int) (a1_2 : Int) (a1_3 : Int) (a1_4 : Int) (a1_5 : Bool) (a1_6 : Bool) (a1_7 : Bool) (a1_8 : Bool) (a1_9 : Bool) (a1_10 : Bool), (Lit.int .i64 a0_0).wf = true → (Lit.int .i64 a0_1).wf = true → (Lit.int .i64 a0_2).wf = true → (Lit.int .i64 a0_3).wf = true → (Lit.int .i64 a0_4).wf = true → (Lit.int .i64 a0_5).wf = true → (Lit.int .i64 a0_6).wf = true → (Lit.int .i64 a0_7).wf = true → (Lit.int .i64 a0_8).wf = true → (Lit.int .i64 a0_9).wf = true → (Lit.int .i64 a0_10).wf = true → (Lit.int .u8 a1_0).wf = true → (Lit.int .u8 a1_1).wf = true → (Lit.int .u8 a1_2).wf = true → (Lit.int .u8 a1_3).wf = true → (Lit.int .u16 a1_4).wf = true → ∃ k, laws_FnExactAgrees.f k a0_0 a0_1 a0_2 a0_3 a0_4 a0_5 a0_6 a0_7 a0_8 a0_9 a0_10 a1_0 a1_1 a1_2 a1_3 a1_4 a1_5 a1_6 a1_7 a1_8 a1_9 a1_10 = some true := by
  intro a0 a1 a2 a3 a4 a5 a6 a7 a8 a9 a10 c0 c1 c2 c3 c4 d0 d1 d2 d3 d4 d5
  intro _ _ _ _ _ _ _ _ _ _ _ w0 w1 w2 w3 w4
  have b0 := bounds_u8 w0
  have b1 := bounds_u8 w1
  have b2 := bounds_u8 w2
  have b3 := bounds_u8 w3
  have b4 := bounds_u16 w4
  refine ⟨40, ?_⟩
  have e0 : wrap64 c0 = c0 := w64 (by omega) (by omega)
  have e1 : wrap64 c1 = c1 := w64 (by omega) (by omega)
  have e2 : wrap64 c2 = c2 := w64 (by omega) (by omega)
  have e3 : wrap64 c3 = c3 := w64 (by omega) (by omega)
  have e4 : wrap64 c4 = c4 := w64 (by omega) (by omega)
  have hO := okOf c0 c1 c2 c3 c4 (if d0 = true then 1 else 0) (if d1 = true then 1 else 0) (if d2 = true then 1 else 0) (if d3 = true then 1 else 0) (if d4 = true then 1 else 0) (if d5 = true then 1 else 0) b0 b1 b2 b3 b4 (bit01 d0) (bit01 d1) (bit01 d2) (bit01 d3) (bit01 d4) (bit01 d5)
  simp only [laws_FnExactAgrees.f, laws_toKnow.f, laws_toCpu.f, laws_toFlags.f, Option.bind_some, spec_Agrees.f, impl_Agrees.f, specOf_eq c0 c1 c2 c3 c4 d0 d1 d2 d3 d4 d5 e0 e1 e2 e3 e4, implOf_eq c0 c1 c2 c3 c4 d0 d1 d2 d3 d4 d5 e0 e1 e2 e3 e4, specLess_eq a0 a1 a2 a3 a4 a5 a6 a7 a8 a9 a10 c0 c1 c2 c3 c4 (if d0 = true then 1 else 0) (if d1 = true then 1 else 0) (if d2 = true then 1 else 0) (if d3 = true then 1 else 0) (if d4 = true then 1 else 0) (if d5 = true then 1 else 0) 40 (by omega), impl_Less.f, impl_KnowOk.f, hO, impl_less.f]
  cases (List.range 11).all (okAt (ints a0 a1 a2 a3 a4 a5 a6 a7 a8 a9 a10)) <;> simp
end Go.Proofs.Ytecccbecflbcfaa.Pure
