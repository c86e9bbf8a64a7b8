import Derived.Test.YtchakfdnmabkjaaDoorSRMyLoops
import Derived.Test.YtchakfdnmabkjaaDoorSRPTrcx15
namespace Go.Proofs.YtchakfdnmabkjaaDoor.CRowsTrc
open Go.RowKit Go.Proofs.YtchakfdnmabkjaaDoor.PTrc Go.Proofs.YtchakfdnmabkjaaDoor.Plain Go.Proofs.YtchakfdnmabkjaaDoorW.PrintWords Go.Proofs.YtchakfdnmabkjaaDoorW.PrintLast Go.Proofs.YtchakfdnmabkjaaDoorW.PrintMore
theorem rdC_nat (l : List S53) (i : Nat) (h : i < l.length) : rd_T53 l (i : Int) = l[i] := getD_lt l z53 i h
theorem rdC_set (l : List S53) (i : Nat) (h : i < l.length) (v : S53) : rd_T53 (l.set i v) (i : Int) = v := by
  rw [rdC_nat _ _ (by simpa using h), List.getElem_set_self]
theorem eqCycS_refl (l : List S53) (h : l.length ≤ 2097152) (k : Nat) (hk : l.length < k) : laws_eqCycS.f k l l = some true := by
  unfold laws_eqCycS.f
  rw [if_pos rfl]
  refine loop_run (fun k (_ : Unit) i => laws_eqCycS.l0 k l l i) (fun _ => ()) l.length true ?_ ?_ k hk
  · intro k i hi
    simp only [laws_eqCycS.l0, laws_eqCyc.f]
    rw [if_pos (by omega), if_pos (by omega), if_pos (by omega)]
    simp [wsucc (show i < 9223372036854775807 by omega)]
  · intro k
    simp only [laws_eqCycS.l0]
    rw [if_neg (by omega)]
end Go.Proofs.YtchakfdnmabkjaaDoor.CRowsTrc
