import Derived.Test.YtecccbecflbcfaaSCPKtlx0
import Derived.Test.YtecccbecflbcfaaSCMyShelf
set_option linter.unusedVariables false
namespace Go.Proofs.Ytecccbecflbcfaa.PKtl
open Go.RowKit Go.Proofs.YtecccbecflbcfaaW.PrintWords Go.Proofs.YtecccbecflbcfaaW.PrintLast Go.Proofs.YtecccbecflbcfaaW.PrintMore
def strings_Repeat.f (a0 : ByteArray) (a1 : Int) : Option ByteArray := if 0 ≤ a1 then (if a1 ≤ 1000000 then (if a0.size ≤ 1000000 then some ⟨(Lib.repeatL a0.data.toList a1.toNat).toArray⟩ else none) else none) else none
theorem strings_Repeat.calls (a0 : ByteArray) (a1 : Int) (r : ByteArray) (w : World) (h : strings_Repeat.f a0 a1 = some r) :
    Calls Try.prog 66 #[.string a0, .int .i64 a1] w fun e w' => e = .returned (.string r) ∧ Below w.heap.size w w' := by
  unfold strings_Repeat.f at h
  by_cases h1 : 0 ≤ a1
  · rw [if_pos h1] at h
    by_cases h2 : a1 ≤ 1000000
    · rw [if_pos h2] at h
      by_cases h3 : a0.size ≤ 1000000
      · rw [if_pos h3] at h
        obtain rfl := Option.some.inj h
        obtain ⟨c, rfl⟩ : ∃ c : Nat, a1 = (c : Int) := ⟨a1.toNat, by omega⟩
        rw [Int.toNat_natCast]
        have : a0.size * c ≤ 1000000 * 1000000 := Nat.mul_le_mul h3 (by omega)
        exact Try.strings_Repeat a0 c w (by omega) (by omega)
      · rw [if_neg h3] at h; exact absurd h (by simp)
    · rw [if_neg h2] at h; exact absurd h (by simp)
  · rw [if_neg h1] at h; exact absurd h (by simp)
end Go.Proofs.Ytecccbecflbcfaa.PKtl
