/- The contract of loop.example/g00693/impl.DecText. -/
import Derived.Test.YtchakfdnmabkjaaDoorPDecx0
import Derived.Test.YtchakfdnmabkjaaDoorMyTabs
set_option linter.unusedVariables false
namespace Go.Proofs.YtchakfdnmabkjaaDoor.PDec
open Go.RowKit Go.Proofs.YtchakfdnmabkjaaDoorW.PrintWords Go.Proofs.YtchakfdnmabkjaaDoorW.PrintLast Go.Proofs.YtchakfdnmabkjaaDoorW.PrintMore Go.Proofs.YtchakfdnmabkjaaDoor.Tabs
def impl_DecText.f (n : Int) : Option ByteArray := if -9223372036854775808 ≤ n ∧ n ≤ 9223372036854775807 then some ⟨(Lib.itoa n).toArray⟩ else none
set_option maxHeartbeats 2000000 in
theorem impl_DecText.calls (n : Int) (r : ByteArray) (w : World) (HT : Aside0 (Pows w)) (h : impl_DecText.f n = some r) : Calls Tryd.prog 10 #[.int .i64 n] w fun e w' => e = .returned (.string r) ∧ Below w.heap.size w w' := by
  unfold impl_DecText.f at h
  by_cases hn : -9223372036854775808 ≤ n ∧ n ≤ 9223372036854775807
  · rw [if_pos hn] at h
    obtain rfl := Option.some.inj h
    have HN := Aside0.mk hn
    clear hn h
    go_enter Tryd.func10, Tryd.ntmps10
    go_wp2_with (fail)
    refine (Tryd.strconv_Itoa n HN.out.1 HN.out.2 w HT.out).mono ?_
    rintro e w1 ⟨rfl, k, os, rfl⟩
    have HB := Aside0.mk (Lib.below_grow w.heap.size w (Nat.le_refl _) k os)
    generalize Sort.grow (w.drewN k) os = w2 at HB ⊢
    go_wp2
    go_ret
    exact ⟨rfl, HB.out⟩
  · rw [if_neg hn] at h
    exact absurd h (by simp)
end Go.Proofs.YtchakfdnmabkjaaDoor.PDec
