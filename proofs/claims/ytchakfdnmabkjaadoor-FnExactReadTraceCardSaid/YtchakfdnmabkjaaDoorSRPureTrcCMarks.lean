import Derived.Test.YtchakfdnmabkjaaDoorSRMyLoops
import Derived.Test.YtchakfdnmabkjaaDoorSRPureTrcCRows
import Derived.Test.YtchakfdnmabkjaaDoorSRPTrcx16
namespace Go.Proofs.YtchakfdnmabkjaaDoor.CMarksTrc
open Go.RowKit Go.Proofs.YtchakfdnmabkjaaDoor.PTrc Go.Proofs.YtchakfdnmabkjaaDoor.Plain Go.Proofs.YtchakfdnmabkjaaDoor.CRowsTrc Go.Proofs.YtchakfdnmabkjaaDoorW.PrintWords Go.Proofs.YtchakfdnmabkjaaDoorW.PrintLast Go.Proofs.YtchakfdnmabkjaaDoorW.PrintMore
def marksC (n : Nat) : List S53 := (List.range n).map fun (i : Nat) => ⟨IntKind.u16.wrap (1 + 3 * (i : Int)), (1 + 3 * (i : Int) + 1) % 256, (Int.tmod (1 + 3 * (i : Int) + 2) 3 == 0)⟩
theorem marksC_length (n : Nat) : (marksC n).length = n := by simp [marksC]
theorem marksC_get (n i : Nat) (h : i < (marksC n).length) : (marksC n)[i] = ⟨IntKind.u16.wrap (1 + 3 * (i : Int)), (1 + 3 * (i : Int) + 1) % 256, (Int.tmod (1 + 3 * (i : Int) + 2) 3 == 0)⟩ := by simp [marksC]
theorem markCycS_eq (l : List S53) (h : l.length ≤ 2097152) (k : Nat) (hk : l.length < k) : laws_markCycS.f k l 1 = some (1 + 3 * (l.length : Int), marksC l.length) := by
  unfold laws_markCycS.f
  have hL := marksC_length l.length
  have := loop_run (fun k (s : List S53 × Int) i => laws_markCycS.l0 k s.1 s.2 i) (fun i => (Mix (marksC l.length) l i, 1 + 3 * (i : Int))) l.length (1 + 3 * (l.length : Int), marksC l.length) ?_ ?_ k hk
  · simpa [mix_zero] using this
  · intro k i hi
    have hM : (Mix (marksC l.length) l i).length = l.length := by rw [mix_length _ _ hL, hL]
    simp only [laws_markCycS.l0]
    rw [if_pos (by rw [hM]; omega), if_pos (by omega)]
    simp only [Option.bind_some, set_int]
    rw [rdC_set _ _ (by omega), rdC_set _ _ (by simpa [hM] using hi)]
    simp only [List.set_set]
    rw [wsucc (by omega), w64 (x := 1 + 3 * (i : Int) + 1) (by omega) (by omega), w64 (x := 1 + 3 * (i : Int) + 1 + 1) (by omega) (by omega), w64 (x := 1 + 3 * (i : Int) + 1 + 1 + 1) (by omega) (by omega)]
    rw [mix_set _ _ hL i (by omega) _ (by rw [marksC_get]; congr 1)]
    rw [show 1 + 3 * (i : Int) + 1 + 1 + 1 = 1 + 3 * ((i + 1 : Nat) : Int) by omega]
  · intro k
    simp only [laws_markCycS.l0]
    have := mix_full (marksC l.length) l hL
    rw [hL] at this
    rw [this, if_neg (by omega)]
theorem heldCycS_eq (n : Nat) (h : n ≤ 2097152) (k : Nat) (hk : n < k) : laws_heldCycS.f k (marksC n) 1 = some (1 + 3 * (n : Int)) := by
  unfold laws_heldCycS.f
  have hL := marksC_length n
  have := loop_run (fun k (s : Int) i => laws_heldCycS.l0 k (marksC n) s i) (fun i => 1 + 3 * (i : Int)) n (1 + 3 * (n : Int)) ?_ ?_ k hk
  · simpa using this
  · intro k i hi
    simp only [laws_heldCycS.l0]
    rw [if_pos (by omega), if_pos (by omega), rdC_nat _ _ (by omega), marksC_get]
    rw [wsucc (by omega), w64 (x := 1 + 3 * (i : Int) + 1) (by omega) (by omega), w64 (x := 1 + 3 * (i : Int) + 1 + 1) (by omega) (by omega), w64 (x := 1 + 3 * (i : Int) + 1 + 1 + 1) (by omega) (by omega)]
    rw [if_pos rfl, if_pos rfl, if_neg (by rw [show 1 + 3 * (i : Int) + 1 + 1 = 1 + 3 * (i : Int) + 2 by omega]; simp)]
    rw [show 1 + 3 * (i : Int) + 1 + 1 + 1 = 1 + 3 * ((i + 1 : Nat) : Int) by omega]
  · intro k
    simp only [laws_heldCycS.l0]
    rw [if_neg (by omega)]
end Go.Proofs.YtchakfdnmabkjaaDoor.CMarksTrc
