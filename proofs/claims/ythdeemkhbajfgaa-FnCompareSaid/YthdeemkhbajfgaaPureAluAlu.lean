/- Plain lemmas on sums and differences without D. -/
import Derived.Test.YthdeemkhbajfgaaPureAluDraw
import Derived.Test.YthdeemkhbajfgaaMyAluSbc
namespace Go.Proofs.Ythdeemkhbajfgaa.AluAlu
open Go.RowKit Go.Proofs.Ythdeemkhbajfgaa.PAlu Go.Proofs.Ythdeemkhbajfgaa.Plain Go.Proofs.Ythdeemkhbajfgaa.DrawAlu Go.Proofs.YthdeemkhbajfgaaW.PrintWords Go.Proofs.YthdeemkhbajfgaaW.PrintLast Go.Proofs.YthdeemkhbajfgaaW.PrintMore

theorem byt {P : Int → Prop} (h : ∀ n : Nat, n < 256 → P (n : Int)) {a : Int} (h0 : 0 ≤ a) (h1 : a ≤ 255) : P a := by
  have := h a.toNat (by omega)
  rwa [Int.toNat_of_nonneg h0] at this
theorem has7 {a : Int} (h0 : 0 ≤ a) (h1 : a ≤ 255) : impl_has.f a 7 = some (decide (a ≥ 128)) :=
  byt (P := fun a => impl_has.f a 7 = some (decide (a ≥ 128))) (by decide +kernel) h0 h1
/-- What a sum comes to: s is the numbers' sum with its carry. -/
def plain (a b s : Int) (i : Bool) : Int × Bool × Bool × Bool × Bool × Bool × Bool :=
  (s % 256, decide (s % 256 ≥ 128), (decide (a ≥ 128) == decide (b ≥ 128)) && (decide (s % 256 ≥ 128) != decide (a ≥ 128)), false, i, (s % 256 == 0), decide (s > 255))
theorem bin_plain {a b : Int} (a0 : 0 ≤ a) (a1 : a ≤ 255) (b0 : 0 ≤ b) (b1 : b ≤ 255) (t : Int) (i : Bool) : Alu.bin a b t false i = plain a b (a + b + t) i := by
  have ea : a % 256 = a := by omega
  have eb : b % 256 = b := by omega
  simp only [Alu.bin, Alu.ov, Alu.hi, plain, ea, eb]
theorem adcF {a b : Int} (a0 : 0 ≤ a) (a1 : a ≤ 255) (b0 : 0 ≤ b) (b1 : b ≤ 255) (n v i z c : Bool) (t : Int) (ht : t = if c = true then (1 : Int) else 0) : impl_Adc.f a b n v false i z c = some (plain a b (a + b + t) i) := by
  unfold impl_Adc.f
  rw [if_pos (Alu.byteOk_mk a0 a1 b0 b1)]
  have e : Alu.tc c = t := ht.symm
  rw [← bin_plain a0 a1 b0 b1, ← e]
  rfl
theorem sbcF {a b : Int} (a0 : 0 ≤ a) (a1 : a ≤ 255) (b0 : 0 ≤ b) (b1 : b ≤ 255) (n v i z c : Bool) (t : Int) (ht : t = if c = true then (1 : Int) else 0) : impl_Sbc.f a b n v false i z c = some (plain a (255 - b) (a + (255 - b) + t) i) := by
  unfold impl_Sbc.f
  rw [if_pos (Alu.byteOk_mk a0 a1 b0 b1)]
  have e : Alu.tc c = t := ht.symm
  rw [← bin_plain a0 a1 (by omega) (by omega), ← e]
  rfl
end Go.Proofs.Ythdeemkhbajfgaa.AluAlu
