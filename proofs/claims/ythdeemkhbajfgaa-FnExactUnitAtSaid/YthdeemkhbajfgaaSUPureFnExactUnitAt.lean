import Derived.Test.YthdeemkhbajfgaaSUMyLoops
import Derived.Test.YthdeemkhbajfgaaSUMyUnitOpen
import Derived.Test.YthdeemkhbajfgaaSUPUnitx17
namespace Go.Proofs.Ythdeemkhbajfgaa.Pure
open Go.RowKit Go.Proofs.Ythdeemkhbajfgaa.PUnit Go.Proofs.Ythdeemkhbajfgaa.Plain Go.Proofs.YthdeemkhbajfgaaW.PrintWords Go.Proofs.YthdeemkhbajfgaaW.PrintLast Go.Proofs.YthdeemkhbajfgaaW.PrintMore
theorem rdT102_nat' (l : List S102) (i : Nat) (h : i < l.length) : rd_T102 l (i : Int) = l[i] := getD_lt l z102 i h
theorem rdT38_nat' (l : List S38) (i : Nat) (h : i < l.length) : rd_T38 l (i : Int) = l[i] := getD_lt l z38 i h
theorem uToByteS (l : List Int) (h : l.length ≤ 2097152) (k : Nat) (hk : l.length < k) : laws_toByteS.f k l = some l := by
  unfold laws_toByteS.f
  rw [if_pos (by omega), if_pos (by omega), Int.toNat_natCast]
  have := loop_run (fun k x i => laws_toByteS.l0 k l x i) (fun i => Mix l (List.replicate l.length 0) i) l.length l ?_ ?_ k hk
  · simpa [mix_zero] using this
  · intro k i hi
    simp only [laws_toByteS.l0]
    rw [if_pos (by omega), if_pos (by omega), if_pos (by rw [mix_length _ _ (by simp)]; omega), set_int, wsucc (by omega), rd_nat _ _ hi, mix_set _ _ (by simp) i hi _ rfl]
  · intro k
    simp only [laws_toByteS.l0]
    rw [if_neg (by omega), mix_full _ _ (by simp)]
theorem uToIntS (l : List Int) (h : l.length ≤ 2097152) (k : Nat) (hk : l.length < k) : laws_toIntS.f k l = some l := by
  unfold laws_toIntS.f
  rw [if_pos (by omega), if_pos (by omega), Int.toNat_natCast]
  have := loop_run (fun k x i => laws_toIntS.l0 k l x i) (fun i => Mix l (List.replicate l.length 0) i) l.length l ?_ ?_ k hk
  · simpa [mix_zero] using this
  · intro k i hi
    simp only [laws_toIntS.l0]
    rw [if_pos (by omega), if_pos (by omega), if_pos (by rw [mix_length _ _ (by simp)]; omega), set_int, wsucc (by omega), rd_nat _ _ hi, mix_set _ _ (by simp) i hi _ rfl]
  · intro k
    simp only [laws_toIntS.l0]
    rw [if_neg (by omega), mix_full _ _ (by simp)]
def cvC (x : S102) : S100 := ⟨x.f0, x.f1, x.f2⟩
theorem uToCycS (l : List S102) (h : l.length ≤ 2097152) (k : Nat) (hk : l.length < k) : laws_toCycS.f k l = some (l.map cvC) := by
  unfold laws_toCycS.f
  rw [if_pos (by omega), if_pos (by omega), Int.toNat_natCast]
  have hL : (l.map cvC).length = (List.replicate l.length z100).length := by simp
  have := loop_run (fun k x i => laws_toCycS.l0 k l x i) (fun i => Mix (l.map cvC) (List.replicate l.length z100) i) l.length (l.map cvC) ?_ ?_ k hk
  · simpa [mix_zero] using this
  · intro k i hi
    simp only [laws_toCycS.l0, laws_toCyc.f, Option.bind_some]
    rw [if_pos (by omega), if_pos (by omega), if_pos (by rw [mix_length _ _ hL]; simp; omega), set_int, wsucc (by omega), rdT102_nat' _ _ hi, mix_set _ _ hL i (by simpa using hi) _ (by simp [cvC])]
  · intro k
    simp only [laws_toCycS.l0]
    have := mix_full (l.map cvC) (List.replicate l.length z100) hL
    rw [List.length_map] at this
    rw [if_neg (by omega), this]
def cvP (x : S38) : S42 := ⟨x.f0, x.f1, x.f2, x.f3, x.f4, ⟨x.f5.f0, x.f5.f1, x.f5.f2, x.f5.f3, x.f5.f4, x.f5.f5⟩⟩
theorem uToCpuS (l : List S38) (h : l.length ≤ 2097152) (k : Nat) (hk : l.length < k) : laws_toCpuS.f k l = some (l.map cvP) := by
  unfold laws_toCpuS.f
  rw [if_pos (by omega), if_pos (by omega), Int.toNat_natCast]
  have hL : (l.map cvP).length = (List.replicate l.length z42).length := by simp
  have := loop_run (fun k x i => laws_toCpuS.l0 k l x i) (fun i => Mix (l.map cvP) (List.replicate l.length z42) i) l.length (l.map cvP) ?_ ?_ k hk
  · simpa [mix_zero] using this
  · intro k i hi
    simp only [laws_toCpuS.l0, laws_toCpu.f, laws_toFlags.f, Option.bind_some]
    rw [if_pos (by omega), if_pos (by omega), if_pos (by rw [mix_length _ _ hL]; simp; omega), set_int, wsucc (by omega), rdT38_nat' _ _ hi, mix_set _ _ hL i (by simpa using hi) _ (by simp [cvP])]
  · intro k
    simp only [laws_toCpuS.l0]
    have := mix_full (l.map cvP) (List.replicate l.length z42) hL
    rw [List.length_map] at this
    rw [if_neg (by omega), this]
theorem uEqByteS (l : List Int) (h : l.length ≤ 2097152) (k : Nat) (hk : l.length < k) : laws_eqByteS.f k l l = some true := by
  unfold laws_eqByteS.f
  rw [if_pos rfl]
  refine loop_run (fun k (_ : Unit) i => laws_eqByteS.l0 k l l i) (fun _ => ()) l.length true ?_ ?_ k hk
  · intro k i hi
    simp only [laws_eqByteS.l0]
    rw [if_pos (by omega), if_pos (by omega), if_pos (by omega), if_pos (by trivial), wsucc (by omega)]
  · intro k
    simp only [laws_eqByteS.l0]
    rw [if_neg (by omega)]
theorem uEqIntS (l : List Int) (h : l.length ≤ 2097152) (k : Nat) (hk : l.length < k) : laws_eqIntS.f k l l = some true := by
  unfold laws_eqIntS.f
  rw [if_pos rfl]
  refine loop_run (fun k (_ : Unit) i => laws_eqIntS.l0 k l l i) (fun _ => ()) l.length true ?_ ?_ k hk
  · intro k i hi
    simp only [laws_eqIntS.l0]
    rw [if_pos (by omega), if_pos (by omega), if_pos (by omega), if_pos (by trivial), wsucc (by omega)]
  · intro k
    simp only [laws_eqIntS.l0]
    rw [if_neg (by omega)]
theorem uEqCycS (l : List S100) (h : l.length ≤ 2097152) (k : Nat) (hk : l.length < k) : laws_eqCycS.f k l l = some true := by
  unfold laws_eqCycS.f
  rw [if_pos rfl]
  refine loop_run (fun k (_ : Unit) i => laws_eqCycS.l0 k l l i) (fun _ => ()) l.length true ?_ ?_ k hk
  · intro k i hi
    simp only [laws_eqCycS.l0, laws_eqCyc.f]
    rw [if_pos (by omega), if_pos (by omega), if_pos (by omega)]
    simp [wsucc (show i < 9223372036854775807 by omega)]
  · intro k
    simp only [laws_eqCycS.l0]
    rw [if_neg (by omega)]
theorem uEqFlags (a b c d e f : Bool) : laws_eqFlags.f a b c d e f a b c d e f = some true := by
  cases a <;> cases b <;> cases c <;> cases d <;> cases e <;> cases f <;> decide +kernel
theorem uEqCpu (a b c d e : Int) (x0 x1 x2 x3 x4 x5 : Bool) : laws_eqCpu.f a b c d e x0 x1 x2 x3 x4 x5 a b c d e x0 x1 x2 x3 x4 x5 = some true := by
  simp only [laws_eqCpu.f, uEqFlags, Option.bind_some, if_true]
theorem uEqCpuS (l : List S42) (h : l.length ≤ 2097152) (k : Nat) (hk : l.length < k) : laws_eqCpuS.f k l l = some true := by
  unfold laws_eqCpuS.f
  rw [if_pos rfl]
  refine loop_run (fun k (_ : Unit) i => laws_eqCpuS.l0 k l l i) (fun _ => ()) l.length true ?_ ?_ k hk
  · intro k i hi
    simp only [laws_eqCpuS.l0]
    rw [if_pos (by omega), if_pos (by omega), if_pos (by omega), uEqCpu]
    simp [wsucc (show i < 9223372036854775807 by omega)]
  · intro k
    simp only [laws_eqCpuS.l0]
    rw [if_neg (by omega)]
def cnt (l : List Int) (v : Int) (i : Nat) : Int := -1 + ((l.take i).countP (fun x => decide (x ≤ v)) : Nat)
theorem cnt_bound (l : List Int) (v : Int) (i : Nat) (h : i ≤ l.length) : -1 ≤ cnt l v i ∧ cnt l v i ≤ -1 + (i : Int) := by
  have := List.countP_le_length (p := fun x => decide (x ≤ v)) (l := l.take i)
  rw [List.length_take] at this
  unfold cnt
  omega
theorem cnt_step (l : List Int) (v : Int) (i : Nat) (h : i < l.length) : cnt l v (i + 1) = if l[i] ≤ v then cnt l v i + 1 else cnt l v i := by
  unfold cnt
  rw [List.take_succ_eq_append_getElem h, List.countP_append]
  by_cases hx : l[i] ≤ v <;> simp [hx] <;> omega
theorem specAt (a0 a1 a2 a3 a4 : Int) (b0 b1 b2 b3 b4 b5 : Bool) (m : List Int) (c : List S100) (l : List Int) (d : List S42) (e : Bool) (v : Int) (h : l.length ≤ 2097152) (k : Nat) (hk : l.length < k) :
    spec_UnitAt.l0 k v (-1) 0 a0 a1 a2 a3 a4 b0 b1 b2 b3 b4 b5 m c l d e = some (cnt l v l.length) := by
  have := loop_run (fun k x i => spec_UnitAt.l0 k v x i a0 a1 a2 a3 a4 b0 b1 b2 b3 b4 b5 m c l d e) (fun i => cnt l v i) l.length (cnt l v l.length) ?_ ?_ k hk
  · simpa [cnt] using this
  · intro k i hi
    have hb := cnt_bound l v i (by omega)
    simp only [spec_UnitAt.l0]
    rw [if_pos (by omega), if_pos (by omega), rd_nat _ _ hi, wsucc (by omega), cnt_step l v i hi, w64 (by omega) (by omega)]
    split <;> rfl
  · intro k
    simp only [spec_UnitAt.l0]
    rw [if_neg (by omega)]
theorem implAt (l : List Int) (v : Int) (h : l.length ≤ 2097152) (k : Nat) (hk : l.length < k) :
    impl_UnitAt.l0 k v (-1) l (l.length : Int) 0 = some (cnt l v l.length) := by
  have := loop_run (fun k x i => impl_UnitAt.l0 k v x l (l.length : Int) i) (fun i => cnt l v i) l.length (cnt l v l.length) ?_ ?_ k hk
  · simpa [cnt] using this
  · intro k i hi
    have hb := cnt_bound l v i (by omega)
    simp only [impl_UnitAt.l0]
    rw [if_pos (by omega), if_pos (by omega), if_pos (by omega), rd_nat _ _ hi, wsucc (by omega), cnt_step l v i hi, w64 (by omega) (by omega)]
    split <;> rfl
  · intro k
    simp only [impl_UnitAt.l0]
    rw [if_neg (by omega)]
theorem szShot_fits (a0 a1 a2 a3 a4 : Int) (b0 b1 b2 b3 b4 b5 : Bool) (m : List Int) (c : List S102) (l : List Int) (d : List S38) (e : Bool) (hs : m.length + c.length + l.length + d.length ≤ 1048576) :
    ∃ r : Int, 0 ≤ r ∧ laws_szShot.f a0 a1 a2 a3 a4 b0 b1 b2 b3 b4 b5 m c l d e 1048576 = some r := by
  refine ⟨1048576 - (m.length : Int) - (c.length : Int) - (l.length : Int) - (d.length : Int), by omega, ?_⟩
  simp only [laws_szShot.f, laws_szRam.f, laws_szByteS.f, laws_szCycS.f, laws_szIntS.f, laws_szCpuS.f]
  rw [w64 (x := 1048576 - (m.length : Int)) (by omega) (by omega), if_neg (by omega)]
  simp only [Option.bind_some]
  rw [if_neg (by omega)]
  try simp only [Option.bind_some]
  try rw [if_neg (by omega)]
  rw [w64 (x := 1048576 - (m.length : Int) - (c.length : Int)) (by omega) (by omega), if_neg (by omega)]
  simp only [Option.bind_some]
  rw [if_neg (by omega), w64 (x := 1048576 - (m.length : Int) - (c.length : Int) - (l.length : Int)) (by omega) (by omega), if_neg (by omega)]
  simp only [Option.bind_some]
  rw [if_neg (by omega), w64 (x := 1048576 - (m.length : Int) - (c.length : Int) - (l.length : Int) - (d.length : Int)) (by omega) (by omega), if_neg (by omega)]
  simp only [Option.bind_some]
  rw [if_neg (by omega)]
theorem szShot_large (a0 a1 a2 a3 a4 : Int) (b0 b1 b2 b3 b4 b5 : Bool) (m : List Int) (c : List S102) (l : List Int) (d : List S38) (e : Bool) (hm : m.length ≤ 9223372036854775807) (hc : c.length ≤ 9223372036854775807) (hl : l.length ≤ 9223372036854775807) (hd : d.length ≤ 9223372036854775807) (hs : ¬ m.length + c.length + l.length + d.length ≤ 1048576) :
    laws_szShot.f a0 a1 a2 a3 a4 b0 b1 b2 b3 b4 b5 m c l d e 1048576 = some (-1) := by
  simp only [laws_szShot.f, laws_szRam.f, laws_szByteS.f, laws_szCycS.f, laws_szIntS.f, laws_szCpuS.f]
  rw [w64 (x := 1048576 - (m.length : Int)) (by omega) (by omega)]
  by_cases h1 : 1048576 - (m.length : Int) < 0
  · rw [if_pos h1]; rfl
  rw [if_neg h1]
  simp only [Option.bind_some]
  try rw [if_neg h1]
  try simp only [Option.bind_some]
  try rw [if_neg h1]
  rw [w64 (x := 1048576 - (m.length : Int) - (c.length : Int)) (by omega) (by omega)]
  by_cases h2 : 1048576 - (m.length : Int) - (c.length : Int) < 0
  · rw [if_pos h2]; rfl
  rw [if_neg h2]
  simp only [Option.bind_some]
  rw [if_neg h2, w64 (x := 1048576 - (m.length : Int) - (c.length : Int) - (l.length : Int)) (by omega) (by omega)]
  by_cases h3 : 1048576 - (m.length : Int) - (c.length : Int) - (l.length : Int) < 0
  · rw [if_pos h3]; rfl
  rw [if_neg h3]
  simp only [Option.bind_some]
  rw [if_neg h3, w64 (x := 1048576 - (m.length : Int) - (c.length : Int) - (l.length : Int) - (d.length : Int)) (by omega) (by omega), if_pos (by omega)]
  rfl
theorem toShot_eq (a0 a1 a2 a3 a4 : Int) (b0 b1 b2 b3 b4 b5 : Bool) (m : List Int) (c : List S102) (l : List Int) (d : List S38) (e : Bool) (k : Nat) (hs : m.length + c.length + l.length + d.length ≤ 1048576) (hk : m.length + c.length + l.length + d.length < k) :
    laws_toShot.f k a0 a1 a2 a3 a4 b0 b1 b2 b3 b4 b5 m c l d e = some (a0, a1, a2, a3, a4, b0, b1, b2, b3, b4, b5, m, c.map cvC, l, d.map cvP, e) := by
  simp only [laws_toShot.f, laws_toCpu.f, laws_toFlags.f, laws_toRam.f, Option.bind_some, uToByteS m (by omega) k (by omega), uToCycS c (by omega) k (by omega), uToIntS l (by omega) k (by omega), uToCpuS d (by omega) k (by omega)]
theorem eqShot_refl (a0 a1 a2 a3 a4 : Int) (b0 b1 b2 b3 b4 b5 : Bool) (m : List Int) (c : List S100) (l : List Int) (d : List S42) (e : Bool) (k : Nat) (hs : m.length + c.length + l.length + d.length ≤ 1048576) (hk : m.length + c.length + l.length + d.length < k) :
    laws_eqShot.f k a0 a1 a2 a3 a4 b0 b1 b2 b3 b4 b5 m c l d e a0 a1 a2 a3 a4 b0 b1 b2 b3 b4 b5 m c l d e = some true := by
  simp only [laws_eqShot.f, laws_eqRam.f, uEqCpu, Option.bind_some, if_true, uEqByteS m (by omega) k (by omega), uEqCycS c (by omega) k (by omega), uEqIntS l (by omega) k (by omega), uEqCpuS d (by omega) k (by omega)]
  simp
theorem atSame (a0 a1 a2 a3 a4 : Int) (b0 b1 b2 b3 b4 b5 : Bool) (m : List Int) (c : List S100) (l : List Int) (d : List S42) (e : Bool) (v : Int) (h : l.length ≤ 2097152) (k : Nat) (hk : l.length < k) :
    ∃ r, spec_UnitAt.f k a0 a1 a2 a3 a4 b0 b1 b2 b3 b4 b5 m c l d e v = some r ∧ impl_UnitAt.f k a0 a1 a2 a3 a4 b0 b1 b2 b3 b4 b5 m c l d e v = some r := by
  simp only [spec_UnitAt.f, impl_UnitAt.f, spec_l01In.f, impl_within.f]
  by_cases hv : v ≥ 0
  · rw [if_pos hv]
    simp only [Option.bind_some, specAt _ _ _ _ _ _ _ _ _ _ _ _ _ _ _ _ v h k hk, implAt l v h k hk]
    split
    · exact ⟨_, rfl, rfl⟩
    · exact ⟨_, rfl, rfl⟩
  · rw [if_neg hv]
    exact ⟨-1, by simp, by simp⟩
theorem FnExactUnitAt : ∀ (a0_0 : Int) (a0_1 : Int) (a0_2 : Int) (a0_3 : Int) (a0_4 : Int) (a0_5 : Bool) (a0_6 : Bool) (a0_7 : Bool) (a0_8 : Bool) (a0_9 : Bool) (a0_10 : Bool) (l0_11 : List (Int)) (l0_12 : List (S102)) (l0_13 : List (Int)) (l0_14 : List (S38)) (a0_15 : Bool) (a1 : Int), (Lit.int .u8 a0_0).wf = true → (Lit.int .u8 a0_1).wf = true → (Lit.int .u8 a0_2).wf = true → (Lit.int .u8 a0_3).wf = true → (Lit.int .u16 a0_4).wf = true → l0_11.length ≤ maxLen → (∀ x ∈ l0_11, (Lit.int .u8 x).wf = true) → l0_12.length ≤ maxLen → (∀ x ∈ l0_12, Wf_Cyc x) → l0_13.length ≤ maxLen → (∀ x ∈ l0_13, (Lit.int .i64 x).wf = true) → l0_14.length ≤ maxLen → (∀ x ∈ l0_14, Wf_Cpu x) → (Lit.int .i64 a1).wf = true → ∃ k, laws_FnExactUnitAt.f k a0_0 a0_1 a0_2 a0_3 a0_4 a0_5 a0_6 a0_7 a0_8 a0_9 a0_10 l0_11 l0_12 l0_13 l0_14 a0_15 a1 = some true := by
  intro a0 a1 a2 a3 a4 b0 b1 b2 b3 b4 b5 m c l d e v _ _ _ _ _ hm _ hc _ hl _ hd _ _
  have hx : maxLen = 9223372036854775807 := rfl
  by_cases hs : m.length + c.length + l.length + d.length ≤ 1048576
  · refine ⟨m.length + c.length + l.length + d.length + 1, ?_⟩
    obtain ⟨t, ht, hsz⟩ := szShot_fits a0 a1 a2 a3 a4 b0 b1 b2 b3 b4 b5 m c l d e hs
    obtain ⟨r, h1, h2⟩ := atSame a0 a1 a2 a3 a4 b0 b1 b2 b3 b4 b5 m (c.map cvC) l (d.map cvP) e v (by omega) (m.length + c.length + l.length + d.length + 1) (by omega)
    simp only [laws_FnExactUnitAt.f, hsz, Option.bind_some, toShot_eq a0 a1 a2 a3 a4 b0 b1 b2 b3 b4 b5 m c l d e _ hs (Nat.lt_succ_self _), h1, h2, eqShot_refl a0 a1 a2 a3 a4 b0 b1 b2 b3 b4 b5 m (c.map cvC) l (d.map cvP) e (m.length + c.length + l.length + d.length + 1) (by simpa using hs) (by simp), if_true]
    rw [if_neg (by omega)]
  · refine ⟨1, ?_⟩
    simp only [laws_FnExactUnitAt.f, szShot_large a0 a1 a2 a3 a4 b0 b1 b2 b3 b4 b5 m c l d e (by omega) (by omega) (by omega) (by omega) hs, Option.bind_some]
    rfl
end Go.Proofs.Ythdeemkhbajfgaa.Pure
