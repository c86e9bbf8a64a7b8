/- Plain lemmas on rows of cycles: carried over, compared with themselves. -/
import Derived.Test.YthdeemkhbajfgaaMyLoops
import Derived.Test.YthdeemkhbajfgaaPWinx1
import Derived.Test.YthdeemkhbajfgaaPWinx3
namespace Go.Proofs.Ythdeemkhbajfgaa.CRowsWin
open Go.RowKit Go.Proofs.Ythdeemkhbajfgaa.PWin Go.Proofs.Ythdeemkhbajfgaa.Plain Go.Proofs.YthdeemkhbajfgaaW.PrintWords Go.Proofs.YthdeemkhbajfgaaW.PrintLast Go.Proofs.YthdeemkhbajfgaaW.PrintMore
def cv (x : S102) : S100 := ⟨x.f0, x.f1, x.f2⟩
theorem rdL_nat (l : List S102) (i : Nat) (h : i < l.length) : rd_T102 l (i : Int) = l[i] := getD_lt l z102 i h
theorem rdC_nat (l : List S100) (i : Nat) (h : i < l.length) : rd_T100 l (i : Int) = l[i] := getD_lt l z100 i h
theorem rdC_set (l : List S100) (i : Nat) (h : i < l.length) (v : S100) : rd_T100 (l.set i v) (i : Int) = v := by
  rw [rdC_nat _ _ (by simpa using h), List.getElem_set_self]
theorem toCycS_eq (l : List S102) (h : l.length ≤ 2097152) (k : Nat) (hk : l.length < k) : laws_toCycS.f k l = some (l.map cv) := by
  unfold laws_toCycS.f
  rw [if_pos (by omega), if_pos (by omega), Int.toNat_natCast]
  have hL : (l.map cv).length = (List.replicate l.length z100).length := by simp
  have := loop_run (fun k x i => laws_toCycS.l0 k l x i) (fun i => Mix (l.map cv) (List.replicate l.length z100) i) l.length (l.map cv) ?_ ?_ k hk
  · simpa [mix_zero] using this
  · intro k i hi
    simp only [laws_toCycS.l0, laws_toCyc.f, Option.bind_some]
    rw [if_pos (by omega), if_pos (by omega), if_pos (by rw [mix_length _ _ hL]; simp; omega), set_int, wsucc (by omega), rdL_nat _ _ hi, mix_set _ _ hL i (by simpa using hi) _ (by simp [cv])]
  · intro k
    simp only [laws_toCycS.l0]
    have := mix_full (l.map cv) (List.replicate l.length z100) hL
    rw [List.length_map] at this
    rw [if_neg (by omega), this]
theorem eqCycS_refl (l : List S100) (h : l.length ≤ 2097152) (k : Nat) (hk : l.length < k) : laws_eqCycS.f k l l = some true := by
  unfold laws_eqCycS.f
  rw [if_pos rfl]
  refine loop_run (fun k (_ : Unit) i => laws_eqCycS.l0 k l l i) (fun _ => ()) l.length true ?_ ?_ k hk
  · intro k i hi
    simp only [laws_eqCycS.l0, laws_eqCyc.f]
    rw [if_pos (by omega), if_pos (by omega), if_pos (by omega)]
    simp [wsucc (show i < 9223372036854775807 by omega)]
  · intro k
    simp only [laws_eqCycS.l0]
    rw [if_neg (by omega)]
end Go.Proofs.Ythdeemkhbajfgaa.CRowsWin
