import Derived.Test.YtchakfdnmabkjaaDoorSRPTrcx0
import Derived.Test.YtchakfdnmabkjaaDoorSRMyShelf
set_option linter.unusedVariables false
namespace Go.Proofs.YtchakfdnmabkjaaDoor.PTrc
open Go.RowKit Go.Proofs.YtchakfdnmabkjaaDoorW.PrintWords Go.Proofs.YtchakfdnmabkjaaDoorW.PrintLast Go.Proofs.YtchakfdnmabkjaaDoorW.PrintMore
theorem spot_none {w : World} {ad : Addr} {v : Value} (h : w.cell? ad = some v) : ad.spot = none := by
  unfold World.cell? at h
  split at h
  · split at h
    · exact absurd h (by simp)
    · rename_i hs; simpa using hs
  · exact absurd h (by simp)
theorem add_at {ad : Addr} (h : ad.spot = none) (j : Nat) : ad.add j = ⟨ad.block, ad.off + j, none⟩ := by
  obtain ⟨b, o, s⟩ := ad
  simp only at h
  subst h
  unfold Addr.add
  split
  · rename_i h0; subst h0; rfl
  · rfl
def strings_Join.f (l0 : List ByteArray) (a1 : ByteArray) : Option ByteArray := if l0.length ≤ 1000000 then (if (Lib.join (l0.map (·.data.toList)) a1.data.toList).length ≤ 140737488355328 then some ⟨(Lib.join (l0.map (·.data.toList)) a1.data.toList).toArray⟩ else none) else none
theorem strings_Join.calls (A0 : Option Addr) (c0 : Nat) (l0 : List ByteArray) (a1 : ByteArray) (r : ByteArray) (w : World) (hr0 : Kd.C Kd.string w A0 l0.length l0) (hc0 : l0.length ≤ c0) (h : strings_Join.f l0 a1 = some r) :
    Calls Tryd.prog 42 #[.slice A0 l0.length c0, .string a1] w fun e w' => e = .returned (.string r) ∧ Below w.heap.size w w' := by
  unfold strings_Join.f at h
  by_cases h1 : l0.length ≤ 1000000
  · rw [if_pos h1] at h
    by_cases h2 : (Lib.join (l0.map (·.data.toList)) a1.data.toList).length ≤ 140737488355328
    · rw [if_pos h2] at h
      obtain rfl := Option.some.inj h
      cases l0 with
      | nil => exact (Tryd.strings_Join_none A0 c0 a1 w).mono fun e w' ⟨he, hw⟩ => ⟨he, hw ▸ Below.refl _ _⟩
      | cons x t =>
        obtain ⟨g1, g2, g3⟩ := hr0
        obtain ⟨ad, rfl, hc⟩ := g3 (by simp)
        have cell : ∀ j y, (x :: t)[j]? = some y → w.cell? (ad.add j) = some (.string y) := by
          intro j y hj
          obtain ⟨c, _, hK, hcell⟩ := hc j y hj
          have hcs : c = [.string y] := hK
          subst hcs
          have := hcell 0 (.string y) rfl
          rw [show j * Kd.string.sz + 0 = j from by show j * 1 + 0 = j; omega] at this
          exact this
        have h0 := cell 0 x rfl
        have hs : ad.spot = none := by
          have : ad.add 0 = ad := by unfold Addr.add; rw [if_pos rfl]
          rw [this] at h0
          exact spot_none h0
        have hb : ad.block < w.heap.size := by
          rw [add_at hs] at h0
          have hlt := World.block_lt_of_cell? w _ h0
          exact hlt
        have hcells : ∀ (j : Nat) y, (x :: t)[j]? = some y → w.cell? ⟨ad.block, ad.off + j, none⟩ = some (.string y) := fun j y hj => by rw [← add_at hs]; exact cell j y hj
        have e : (⟨ad.block, ad.off, none⟩ : Addr) = ad := by
          obtain ⟨b, o, s⟩ := ad
          simp only at hs
          subst hs
          rfl
        have := Tryd.strings_Join ad.block ad.off c0 (x :: t) a1 w hcells hb (by omega) hc0 h2
        rw [e] at this
        exact this
    · rw [if_neg h2] at h; exact absurd h (by simp)
  · rw [if_neg h1] at h; exact absurd h (by simp)
end Go.Proofs.YtchakfdnmabkjaaDoor.PTrc
