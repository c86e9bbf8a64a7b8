import Derived.WalkKit
import Derived.Deep.Draws
namespace Go.Proofs.YtafkbhnhmhmjcaaGreatDoor.Cell2
theorem cell_set_off (w : World) (b i j : Nat) (x : Value) : (w.setCell ⟨b, i, none⟩ x).cell? ⟨b, j, none⟩ = if i = j then (w.cell? ⟨b, j, none⟩).map (fun _ => x) else w.cell? ⟨b, j, none⟩ := by
  by_cases h : i = j
  · subst h
    rw [if_pos rfl]
    cases hc : w.cell? ⟨b, i, none⟩ with
    | some u => rw [World.cell?_setCell_same w _ x hc]; rfl
    | none =>
      simp only [World.cell?, World.setCell, Array.getElem?_modify, if_true] at hc ⊢
      revert hc
      cases w.heap[b]? with
      | none => intro _; rfl
      | some o => cases o <;> simp
  · rw [if_neg h]
    exact World.cell?_setCell_other w ⟨b, i, none⟩ ⟨b, j, none⟩ x (fun e => h (congrArg Addr.off e))
theorem set_drewN (w : World) (n : Nat) (a : Addr) (v : Value) : (w.drewN n).setCell a v = (w.setCell a v).drewN n := rfl
theorem not_beq_bool (a b : Bool) : (!(a == b)) = (a != b) := rfl
end Go.Proofs.YtafkbhnhmhmjcaaGreatDoor.Cell2
