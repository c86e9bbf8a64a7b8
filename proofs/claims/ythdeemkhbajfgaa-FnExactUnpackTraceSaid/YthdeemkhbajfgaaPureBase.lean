/- Plain lemmas on the laws' own small functions: a copied row is that row, a row equals itself, what is marked is held. -/
import Derived.Test.YthdeemkhbajfgaaMyLoops
import Derived.Test.YthdeemkhbajfgaaPAllx6
import Derived.Test.YthdeemkhbajfgaaPAllx28
import Derived.Test.YthdeemkhbajfgaaPAllx24
import Derived.Test.YthdeemkhbajfgaaPAllx12
import Derived.Test.YthdeemkhbajfgaaPAllx17
namespace Go.Proofs.Ythdeemkhbajfgaa.Base
open Go.RowKit Go.Proofs.Ythdeemkhbajfgaa.PAll Go.Proofs.Ythdeemkhbajfgaa.Plain Go.Proofs.YthdeemkhbajfgaaW.PrintWords Go.Proofs.YthdeemkhbajfgaaW.PrintLast Go.Proofs.YthdeemkhbajfgaaW.PrintMore

theorem toByteS_eq (l : List Int) (h : l.length ≤ 2097152) (k : Nat) (hk : l.length < k) : laws_toByteS.f k l = some l := by
  unfold laws_toByteS.f
  rw [if_pos (by omega), if_pos (by omega), Int.toNat_natCast]
  have := loop_run (fun k x i => laws_toByteS.l0 k l x i) (fun i => Mix l (List.replicate l.length 0) i) l.length l ?_ ?_ k hk
  · simpa [mix_zero] using this
  · intro k i hi
    simp only [laws_toByteS.l0]
    rw [if_pos (by omega), if_pos (by omega), if_pos (by rw [mix_length _ _ (by simp)]; omega), set_int, wsucc (by omega), rd_nat _ _ hi, mix_set _ _ (by simp) i hi _ rfl]
  · intro k
    simp only [laws_toByteS.l0]
    rw [if_neg (by omega), mix_full _ _ (by simp)]
theorem eqByteS_refl (l : List Int) (h : l.length ≤ 2097152) (k : Nat) (hk : l.length < k) : laws_eqByteS.f k l l = some true := by
  unfold laws_eqByteS.f
  rw [if_pos rfl]
  refine loop_run (fun k (_ : Unit) i => laws_eqByteS.l0 k l l i) (fun _ => ()) l.length true ?_ ?_ k hk
  · intro k i hi
    simp only [laws_eqByteS.l0]
    rw [if_pos (by omega), if_pos (by omega), if_pos (by omega), if_pos (by trivial), wsucc (by omega)]
  · intro k
    simp only [laws_eqByteS.l0]
    rw [if_neg (by omega)]
def marksB (n : Nat) : List Int := (List.range n).map fun (i : Nat) => (1 + (i : Int)) % 256
theorem marksB_length (n : Nat) : (marksB n).length = n := by simp [marksB]
theorem marksB_get (n i : Nat) (h : i < (marksB n).length) : (marksB n)[i] = (1 + (i : Int)) % 256 := by simp [marksB]
theorem markByteS_eq (l : List Int) (h : l.length ≤ 2097152) (k : Nat) (hk : l.length < k) : laws_markByteS.f k l 1 = some (1 + (l.length : Int), marksB l.length) := by
  unfold laws_markByteS.f
  have hL := marksB_length l.length
  have := loop_run (fun k (s : List Int × Int) i => laws_markByteS.l0 k s.1 s.2 i) (fun i => (Mix (marksB l.length) l i, 1 + (i : Int))) l.length (1 + (l.length : Int), marksB l.length) ?_ ?_ k hk
  · simpa [mix_zero] using this
  · intro k i hi
    simp only [laws_markByteS.l0]
    rw [if_pos (by rw [mix_length _ _ hL]; omega), if_pos (by omega), set_int, mix_set _ _ hL i (by omega) _ (marksB_get _ _ (by omega)).symm, wsucc (by omega), w64 (by omega) (by omega)]
    rw [show (1 : Int) + (i : Int) + 1 = 1 + ((i + 1 : Nat) : Int) by omega]
  · intro k
    simp only [laws_markByteS.l0]
    have := mix_full (marksB l.length) l hL
    rw [hL] at this
    rw [this, if_neg (by omega)]
theorem heldByteS_eq (n : Nat) (h : n ≤ 2097152) (k : Nat) (hk : n < k) : laws_heldByteS.f k (marksB n) 1 = some (1 + (n : Int)) := by
  unfold laws_heldByteS.f
  have hL := marksB_length n
  have := loop_run (fun k (s : Int) i => laws_heldByteS.l0 k (marksB n) s i) (fun i => 1 + (i : Int)) n (1 + (n : Int)) ?_ ?_ k hk
  · simpa using this
  · intro k i hi
    simp only [laws_heldByteS.l0]
    rw [if_pos (by omega), if_pos (by omega), rd_nat _ _ (by omega), marksB_get, if_pos rfl, wsucc (by omega), w64 (by omega) (by omega)]
    rw [show (1 : Int) + (i : Int) + 1 = 1 + ((i + 1 : Nat) : Int) by omega]
  · intro k
    simp only [laws_heldByteS.l0]
    rw [if_neg (by omega)]

def cv (x : S102) : S100 := ⟨x.f0, x.f1, x.f2⟩
theorem rdT102_nat (l : List S102) (i : Nat) (h : i < l.length) : rd_T102 l (i : Int) = l[i] := getD_lt l z102 i h
theorem rdT100_nat (l : List S100) (i : Nat) (h : i < l.length) : rd_T100 l (i : Int) = l[i] := getD_lt l z100 i h
theorem rdT100_set (l : List S100) (i : Nat) (h : i < l.length) (v : S100) : rd_T100 (l.set i v) (i : Int) = v := by
  rw [rdT100_nat _ _ (by simpa using h), List.getElem_set_self]
theorem toCycS_eq (l : List S102) (h : l.length ≤ 2097152) (k : Nat) (hk : l.length < k) : laws_toCycS.f k l = some (l.map cv) := by
  unfold laws_toCycS.f
  rw [if_pos (by omega), if_pos (by omega), Int.toNat_natCast]
  have hL : (l.map cv).length = (List.replicate l.length z100).length := by simp
  have := loop_run (fun k x i => laws_toCycS.l0 k l x i) (fun i => Mix (l.map cv) (List.replicate l.length z100) i) l.length (l.map cv) ?_ ?_ k hk
  · simpa [mix_zero] using this
  · intro k i hi
    simp only [laws_toCycS.l0, laws_toCyc.f, Option.bind_some]
    rw [if_pos (by omega), if_pos (by omega), if_pos (by rw [mix_length _ _ hL]; simp; omega), set_int, wsucc (by omega), rdT102_nat _ _ hi, mix_set _ _ hL i (by simpa using hi) _ (by simp [cv])]
  · intro k
    simp only [laws_toCycS.l0]
    have := mix_full (l.map cv) (List.replicate l.length z100) hL
    rw [List.length_map] at this
    rw [if_neg (by omega), this]
theorem eqCycS_refl (l : List S100) (h : l.length ≤ 2097152) (k : Nat) (hk : l.length < k) : laws_eqCycS.f k l l = some true := by
  unfold laws_eqCycS.f
  rw [if_pos rfl]
  refine loop_run (fun k (_ : Unit) i => laws_eqCycS.l0 k l l i) (fun _ => ()) l.length true ?_ ?_ k hk
  · intro k i hi
    simp only [laws_eqCycS.l0, laws_eqCyc.f]
    rw [if_pos (by omega), if_pos (by omega), if_pos (by omega)]
    simp [wsucc (show i < 9223372036854775807 by omega)]
  · intro k
    simp only [laws_eqCycS.l0]
    rw [if_neg (by omega)]
def marksC (n : Nat) : List S100 := (List.range n).map fun (i : Nat) => ⟨IntKind.u16.wrap (1 + 3 * (i : Int)), (1 + 3 * (i : Int) + 1) % 256, (Int.tmod (1 + 3 * (i : Int) + 2) 3 == 0)⟩
theorem marksC_length (n : Nat) : (marksC n).length = n := by simp [marksC]
theorem marksC_get (n i : Nat) (h : i < (marksC n).length) : (marksC n)[i] = ⟨IntKind.u16.wrap (1 + 3 * (i : Int)), (1 + 3 * (i : Int) + 1) % 256, (Int.tmod (1 + 3 * (i : Int) + 2) 3 == 0)⟩ := by simp [marksC]
theorem markCycS_eq (l : List S100) (h : l.length ≤ 2097152) (k : Nat) (hk : l.length < k) : laws_markCycS.f k l 1 = some (1 + 3 * (l.length : Int), marksC l.length) := by
  unfold laws_markCycS.f
  have hL := marksC_length l.length
  have := loop_run (fun k (s : List S100 × Int) i => laws_markCycS.l0 k s.1 s.2 i) (fun i => (Mix (marksC l.length) l i, 1 + 3 * (i : Int))) l.length (1 + 3 * (l.length : Int), marksC l.length) ?_ ?_ k hk
  · simpa [mix_zero] using this
  · intro k i hi
    have hM : (Mix (marksC l.length) l i).length = l.length := by rw [mix_length _ _ hL, hL]
    simp only [laws_markCycS.l0]
    rw [if_pos (by rw [hM]; omega), if_pos (by omega)]
    simp only [Option.bind_some, set_int]
    rw [rdT100_set _ _ (by omega), rdT100_set _ _ (by simpa [hM] using hi)]
    simp only [List.set_set]
    rw [wsucc (by omega), w64 (x := 1 + 3 * (i : Int) + 1) (by omega) (by omega), w64 (x := 1 + 3 * (i : Int) + 1 + 1) (by omega) (by omega), w64 (x := 1 + 3 * (i : Int) + 1 + 1 + 1) (by omega) (by omega)]
    rw [mix_set _ _ hL i (by omega) _ (by rw [marksC_get]; congr 1)]
    rw [show 1 + 3 * (i : Int) + 1 + 1 + 1 = 1 + 3 * ((i + 1 : Nat) : Int) by omega]
  · intro k
    simp only [laws_markCycS.l0]
    have := mix_full (marksC l.length) l hL
    rw [hL] at this
    rw [this, if_neg (by omega)]
theorem heldCycS_eq (n : Nat) (h : n ≤ 2097152) (k : Nat) (hk : n < k) : laws_heldCycS.f k (marksC n) 1 = some (1 + 3 * (n : Int)) := by
  unfold laws_heldCycS.f
  have hL := marksC_length n
  have := loop_run (fun k (s : Int) i => laws_heldCycS.l0 k (marksC n) s i) (fun i => 1 + 3 * (i : Int)) n (1 + 3 * (n : Int)) ?_ ?_ k hk
  · simpa using this
  · intro k i hi
    simp only [laws_heldCycS.l0]
    rw [if_pos (by omega), if_pos (by omega), rdT100_nat _ _ (by omega), marksC_get]
    rw [wsucc (by omega), w64 (x := 1 + 3 * (i : Int) + 1) (by omega) (by omega), w64 (x := 1 + 3 * (i : Int) + 1 + 1) (by omega) (by omega), w64 (x := 1 + 3 * (i : Int) + 1 + 1 + 1) (by omega) (by omega)]
    rw [if_pos rfl, if_pos rfl, if_neg (by rw [show 1 + 3 * (i : Int) + 1 + 1 = 1 + 3 * (i : Int) + 2 by omega]; simp)]
    rw [show 1 + 3 * (i : Int) + 1 + 1 + 1 = 1 + 3 * ((i + 1 : Nat) : Int) by omega]
  · intro k
    simp only [laws_heldCycS.l0]
    rw [if_neg (by omega)]
end Go.Proofs.Ythdeemkhbajfgaa.Base
