/- Functions of the program as plain Lean functions, each with a proof that the machine's call comes to it; written for this seat's claims by a program of mine. -/
import Derived.Test.YthdeemkhbajfgaaPCpux0
import Derived.Test.YthdeemkhbajfgaaPCpux1
namespace Go.Proofs.Ythdeemkhbajfgaa.PCpu
open Go.RowKit Go.Proofs.YthdeemkhbajfgaaW.PrintWords Go.Proofs.YthdeemkhbajfgaaW.PrintLast Go.Proofs.YthdeemkhbajfgaaW.PrintMore
attribute [local go_sem] max2_int min2_int max_two min_two max_three min_three max_four min_four   -- for this text's walks alone
attribute [local go_sem] Go.Proofs.Ythdeemkhbajfgaa.Cell2.cell_set_off Go.Proofs.Ythdeemkhbajfgaa.Cell2.set_drewN Go.Proofs.Ythdeemkhbajfgaa.Cell2.not_beq_bool
set_option linter.unusedVariables false
set_option linter.unusedSimpArgs false

/-! ### spec_CpuText: function 23 -/
def spec_CpuText.f (k : Nat) (a0_0 : Int) (a0_1 : Int) (a0_2 : Int) (a0_3 : Int) (a0_4 : Int) (a0_5 : Bool) (a0_6 : Bool) (a0_7 : Bool) (a0_8 : Bool) (a0_9 : Bool) (a0_10 : Bool) : Option (ByteArray) := (spec_HexText.f k (wrap64 (a0_0)) 2).bind fun t110 => (if 2 + t110.size ≤ 9223372036854775807 then (if ((⟨#[65, 61]⟩ : ByteArray) ++ t110).size + 3 ≤ 9223372036854775807 then ((spec_HexText.f k (wrap64 (a0_1)) 2).bind fun t111 => (if (((⟨#[65, 61]⟩ : ByteArray) ++ t110) ++ (⟨#[32, 88, 61]⟩ : ByteArray)).size + t111.size ≤ 9223372036854775807 then (if ((((⟨#[65, 61]⟩ : ByteArray) ++ t110) ++ (⟨#[32, 88, 61]⟩ : ByteArray)) ++ t111).size + 3 ≤ 9223372036854775807 then ((spec_HexText.f k (wrap64 (a0_2)) 2).bind fun t112 => (if (((((⟨#[65, 61]⟩ : ByteArray) ++ t110) ++ (⟨#[32, 88, 61]⟩ : ByteArray)) ++ t111) ++ (⟨#[32, 89, 61]⟩ : ByteArray)).size + t112.size ≤ 9223372036854775807 then (if ((((((⟨#[65, 61]⟩ : ByteArray) ++ t110) ++ (⟨#[32, 88, 61]⟩ : ByteArray)) ++ t111) ++ (⟨#[32, 89, 61]⟩ : ByteArray)) ++ t112).size + 3 ≤ 9223372036854775807 then ((spec_HexText.f k (wrap64 (a0_3)) 2).bind fun t113 => (if (((((((⟨#[65, 61]⟩ : ByteArray) ++ t110) ++ (⟨#[32, 88, 61]⟩ : ByteArray)) ++ t111) ++ (⟨#[32, 89, 61]⟩ : ByteArray)) ++ t112) ++ (⟨#[32, 83, 61]⟩ : ByteArray)).size + t113.size ≤ 9223372036854775807 then (if ((((((((⟨#[65, 61]⟩ : ByteArray) ++ t110) ++ (⟨#[32, 88, 61]⟩ : ByteArray)) ++ t111) ++ (⟨#[32, 89, 61]⟩ : ByteArray)) ++ t112) ++ (⟨#[32, 83, 61]⟩ : ByteArray)) ++ t113).size + 4 ≤ 9223372036854775807 then ((spec_HexText.f k (wrap64 (a0_4)) 4).bind fun t114 => (if (((((((((⟨#[65, 61]⟩ : ByteArray) ++ t110) ++ (⟨#[32, 88, 61]⟩ : ByteArray)) ++ t111) ++ (⟨#[32, 89, 61]⟩ : ByteArray)) ++ t112) ++ (⟨#[32, 83, 61]⟩ : ByteArray)) ++ t113) ++ (⟨#[32, 80, 67, 61]⟩ : ByteArray)).size + t114.size ≤ 9223372036854775807 then (if ((((((((((⟨#[65, 61]⟩ : ByteArray) ++ t110) ++ (⟨#[32, 88, 61]⟩ : ByteArray)) ++ t111) ++ (⟨#[32, 89, 61]⟩ : ByteArray)) ++ t112) ++ (⟨#[32, 83, 61]⟩ : ByteArray)) ++ t113) ++ (⟨#[32, 80, 67, 61]⟩ : ByteArray)) ++ t114).size + 1 ≤ 9223372036854775807 then ((spec_l05Flags.f a0_5 a0_6 a0_7 a0_8 a0_9 a0_10).bind fun t115 => (if (((((((((((⟨#[65, 61]⟩ : ByteArray) ++ t110) ++ (⟨#[32, 88, 61]⟩ : ByteArray)) ++ t111) ++ (⟨#[32, 89, 61]⟩ : ByteArray)) ++ t112) ++ (⟨#[32, 83, 61]⟩ : ByteArray)) ++ t113) ++ (⟨#[32, 80, 67, 61]⟩ : ByteArray)) ++ t114) ++ (⟨#[32]⟩ : ByteArray)).size + t115.size ≤ 9223372036854775807 then (some ((((((((((((⟨#[65, 61]⟩ : ByteArray) ++ t110) ++ (⟨#[32, 88, 61]⟩ : ByteArray)) ++ t111) ++ (⟨#[32, 89, 61]⟩ : ByteArray)) ++ t112) ++ (⟨#[32, 83, 61]⟩ : ByteArray)) ++ t113) ++ (⟨#[32, 80, 67, 61]⟩ : ByteArray)) ++ t114) ++ (⟨#[32]⟩ : ByteArray)) ++ t115)) else (none))) else (none)) else (none))) else (none)) else (none))) else (none)) else (none))) else (none)) else (none))) else (none)) else (none))
theorem spec_CpuText.mono : ∀ a0 a1 a2 a3 a4 a5 a6 a7 a8 a9 a10 k, LeO (spec_CpuText.f k a0 a1 a2 a3 a4 a5 a6 a7 a8 a9 a10) (spec_CpuText.f (k + 1) a0 a1 a2 a3 a4 a5 a6 a7 a8 a9 a10) := by
  intro a0 a1 a2 a3 a4 a5 a6 a7 a8 a9 a10 k
  unfold spec_CpuText.f
  repeat' first
      | (with_reducible exact spec_HexText.mono _ _ _)
      | (with_reducible exact LeO.refl _)
      | (with_reducible exact LeO.none _)
      | (with_reducible refine LeO.ite ?_ ?_)
      | (with_reducible refine LeO.bind ?_ (fun _ => ?_))
      | exact spec_HexText.mono _ _ _
      | exact LeO.none _
      | refine LeO.ite ?_ ?_
      | refine LeO.bind ?_ (fun _ => ?_)
def spec_CpuText.T1 : Bool × List (List Nat × List Nat) := (true, [([], []), ([0], [0]), ([1], [1]), ([2], [2]), ([3], [3]), ([4], [4]), ([], []), ([6], [6]), ([7], [7]), ([8, 3], [8]), ([5, 9], [5, 9]), ([10], [10]), ([], []), ([12], [12]), ([13], [13]), ([14, 9], [14]), ([11, 15], [11, 15]), ([16], [16]), ([], []), ([18], [18]), ([19], [19]), ([20, 15], [20]), ([17, 21], [17, 21]), ([22], [22]), ([], []), ([24], [24]), ([25], [25]), ([26, 21], [26]), ([23, 27], [23, 27]), ([28], [28]), ([], []), ([30], [30]), ([31, 27], [31]), ([29, 32], [29, 32]), ([33, 32, 0, 1, 2, 3, 4, 5, 6, 7, 8, 9, 10, 11, 12, 13, 14, 15, 16, 17, 18, 19, 20, 21, 22, 23, 24, 25, 26, 27, 28, 29, 30, 31, 32, 33], [33])])
def spec_CpuText.B1 : List Nat := [0, 1, 3, 7, 15, 31, 0, 64, 192, 463, 1023, 2047, 0, 4096, 12288, 29647, 65535, 131071, 0, 262144, 786432, 1897423, 4194303, 8388607, 0, 16777216, 50331648, 121435087, 268435455, 536870911, 0, 1073741824, 3476878287, 8589934591, 17179869183]
theorem spec_CpuText.tab1 : rtab .any (opsOf Try.f23 1) = spec_CpuText.T1 := by kernel_rfl
theorem spec_CpuText.bits1 : waitsOk spec_CpuText.T1.2 spec_CpuText.B1 = true := by kernel_rfl
set_option maxHeartbeats 8000000 in
set_option maxRecDepth 100000 in
theorem spec_CpuText.calls (k : Nat) (a0_0 : Int) (a0_1 : Int) (a0_2 : Int) (a0_3 : Int) (a0_4 : Int) (a0_5 : Bool) (a0_6 : Bool) (a0_7 : Bool) (a0_8 : Bool) (a0_9 : Bool) (a0_10 : Bool) (r : ByteArray) (w : World) (h : spec_CpuText.f k a0_0 a0_1 a0_2 a0_3 a0_4 a0_5 a0_6 a0_7 a0_8 a0_9 a0_10 = some r) :
    Calls Try.prog 23 #[.agg #[.int .u8 a0_0, .int .u8 a0_1, .int .u8 a0_2, .int .u8 a0_3, .int .u16 a0_4, .bool a0_5, .bool a0_6, .bool a0_7, .bool a0_8, .bool a0_9, .bool a0_10]] w fun e w' => e = .returned (.string r) ∧ Below w.heap.size w w' := by
  have hu42 := Try.underlying42
  have hu40 := Try.underlying40
  have HB := Aside0.mk (Below.refl w.heap.size w)
  have H : ((spec_HexText.f k (wrap64 (a0_0)) 2).bind fun t110 => (if 2 + t110.size ≤ 9223372036854775807 then (if ((⟨#[65, 61]⟩ : ByteArray) ++ t110).size + 3 ≤ 9223372036854775807 then ((spec_HexText.f k (wrap64 (a0_1)) 2).bind fun t111 => (if (((⟨#[65, 61]⟩ : ByteArray) ++ t110) ++ (⟨#[32, 88, 61]⟩ : ByteArray)).size + t111.size ≤ 9223372036854775807 then (if ((((⟨#[65, 61]⟩ : ByteArray) ++ t110) ++ (⟨#[32, 88, 61]⟩ : ByteArray)) ++ t111).size + 3 ≤ 9223372036854775807 then ((spec_HexText.f k (wrap64 (a0_2)) 2).bind fun t112 => (if (((((⟨#[65, 61]⟩ : ByteArray) ++ t110) ++ (⟨#[32, 88, 61]⟩ : ByteArray)) ++ t111) ++ (⟨#[32, 89, 61]⟩ : ByteArray)).size + t112.size ≤ 9223372036854775807 then (if ((((((⟨#[65, 61]⟩ : ByteArray) ++ t110) ++ (⟨#[32, 88, 61]⟩ : ByteArray)) ++ t111) ++ (⟨#[32, 89, 61]⟩ : ByteArray)) ++ t112).size + 3 ≤ 9223372036854775807 then ((spec_HexText.f k (wrap64 (a0_3)) 2).bind fun t113 => (if (((((((⟨#[65, 61]⟩ : ByteArray) ++ t110) ++ (⟨#[32, 88, 61]⟩ : ByteArray)) ++ t111) ++ (⟨#[32, 89, 61]⟩ : ByteArray)) ++ t112) ++ (⟨#[32, 83, 61]⟩ : ByteArray)).size + t113.size ≤ 9223372036854775807 then (if ((((((((⟨#[65, 61]⟩ : ByteArray) ++ t110) ++ (⟨#[32, 88, 61]⟩ : ByteArray)) ++ t111) ++ (⟨#[32, 89, 61]⟩ : ByteArray)) ++ t112) ++ (⟨#[32, 83, 61]⟩ : ByteArray)) ++ t113).size + 4 ≤ 9223372036854775807 then ((spec_HexText.f k (wrap64 (a0_4)) 4).bind fun t114 => (if (((((((((⟨#[65, 61]⟩ : ByteArray) ++ t110) ++ (⟨#[32, 88, 61]⟩ : ByteArray)) ++ t111) ++ (⟨#[32, 89, 61]⟩ : ByteArray)) ++ t112) ++ (⟨#[32, 83, 61]⟩ : ByteArray)) ++ t113) ++ (⟨#[32, 80, 67, 61]⟩ : ByteArray)).size + t114.size ≤ 9223372036854775807 then (if ((((((((((⟨#[65, 61]⟩ : ByteArray) ++ t110) ++ (⟨#[32, 88, 61]⟩ : ByteArray)) ++ t111) ++ (⟨#[32, 89, 61]⟩ : ByteArray)) ++ t112) ++ (⟨#[32, 83, 61]⟩ : ByteArray)) ++ t113) ++ (⟨#[32, 80, 67, 61]⟩ : ByteArray)) ++ t114).size + 1 ≤ 9223372036854775807 then ((spec_l05Flags.f a0_5 a0_6 a0_7 a0_8 a0_9 a0_10).bind fun t115 => (if (((((((((((⟨#[65, 61]⟩ : ByteArray) ++ t110) ++ (⟨#[32, 88, 61]⟩ : ByteArray)) ++ t111) ++ (⟨#[32, 89, 61]⟩ : ByteArray)) ++ t112) ++ (⟨#[32, 83, 61]⟩ : ByteArray)) ++ t113) ++ (⟨#[32, 80, 67, 61]⟩ : ByteArray)) ++ t114) ++ (⟨#[32]⟩ : ByteArray)).size + t115.size ≤ 9223372036854775807 then (some ((((((((((((⟨#[65, 61]⟩ : ByteArray) ++ t110) ++ (⟨#[32, 88, 61]⟩ : ByteArray)) ++ t111) ++ (⟨#[32, 89, 61]⟩ : ByteArray)) ++ t112) ++ (⟨#[32, 83, 61]⟩ : ByteArray)) ++ t113) ++ (⟨#[32, 80, 67, 61]⟩ : ByteArray)) ++ t114) ++ (⟨#[32]⟩ : ByteArray)) ++ t115)) else (none))) else (none)) else (none))) else (none)) else (none))) else (none)) else (none))) else (none)) else (none))) else (none)) else (none))) = some r := h
  clear h
  replace H := Option.bind_eq_some_iff.mp H
  obtain ⟨t110, A20, H⟩ := H
  replace H : (if 2 + t110.size ≤ 9223372036854775807 then (if ((⟨#[65, 61]⟩ : ByteArray) ++ t110).size + 3 ≤ 9223372036854775807 then ((spec_HexText.f k (wrap64 (a0_1)) 2).bind fun t111 => (if (((⟨#[65, 61]⟩ : ByteArray) ++ t110) ++ (⟨#[32, 88, 61]⟩ : ByteArray)).size + t111.size ≤ 9223372036854775807 then (if ((((⟨#[65, 61]⟩ : ByteArray) ++ t110) ++ (⟨#[32, 88, 61]⟩ : ByteArray)) ++ t111).size + 3 ≤ 9223372036854775807 then ((spec_HexText.f k (wrap64 (a0_2)) 2).bind fun t112 => (if (((((⟨#[65, 61]⟩ : ByteArray) ++ t110) ++ (⟨#[32, 88, 61]⟩ : ByteArray)) ++ t111) ++ (⟨#[32, 89, 61]⟩ : ByteArray)).size + t112.size ≤ 9223372036854775807 then (if ((((((⟨#[65, 61]⟩ : ByteArray) ++ t110) ++ (⟨#[32, 88, 61]⟩ : ByteArray)) ++ t111) ++ (⟨#[32, 89, 61]⟩ : ByteArray)) ++ t112).size + 3 ≤ 9223372036854775807 then ((spec_HexText.f k (wrap64 (a0_3)) 2).bind fun t113 => (if (((((((⟨#[65, 61]⟩ : ByteArray) ++ t110) ++ (⟨#[32, 88, 61]⟩ : ByteArray)) ++ t111) ++ (⟨#[32, 89, 61]⟩ : ByteArray)) ++ t112) ++ (⟨#[32, 83, 61]⟩ : ByteArray)).size + t113.size ≤ 9223372036854775807 then (if ((((((((⟨#[65, 61]⟩ : ByteArray) ++ t110) ++ (⟨#[32, 88, 61]⟩ : ByteArray)) ++ t111) ++ (⟨#[32, 89, 61]⟩ : ByteArray)) ++ t112) ++ (⟨#[32, 83, 61]⟩ : ByteArray)) ++ t113).size + 4 ≤ 9223372036854775807 then ((spec_HexText.f k (wrap64 (a0_4)) 4).bind fun t114 => (if (((((((((⟨#[65, 61]⟩ : ByteArray) ++ t110) ++ (⟨#[32, 88, 61]⟩ : ByteArray)) ++ t111) ++ (⟨#[32, 89, 61]⟩ : ByteArray)) ++ t112) ++ (⟨#[32, 83, 61]⟩ : ByteArray)) ++ t113) ++ (⟨#[32, 80, 67, 61]⟩ : ByteArray)).size + t114.size ≤ 9223372036854775807 then (if ((((((((((⟨#[65, 61]⟩ : ByteArray) ++ t110) ++ (⟨#[32, 88, 61]⟩ : ByteArray)) ++ t111) ++ (⟨#[32, 89, 61]⟩ : ByteArray)) ++ t112) ++ (⟨#[32, 83, 61]⟩ : ByteArray)) ++ t113) ++ (⟨#[32, 80, 67, 61]⟩ : ByteArray)) ++ t114).size + 1 ≤ 9223372036854775807 then ((spec_l05Flags.f a0_5 a0_6 a0_7 a0_8 a0_9 a0_10).bind fun t115 => (if (((((((((((⟨#[65, 61]⟩ : ByteArray) ++ t110) ++ (⟨#[32, 88, 61]⟩ : ByteArray)) ++ t111) ++ (⟨#[32, 89, 61]⟩ : ByteArray)) ++ t112) ++ (⟨#[32, 83, 61]⟩ : ByteArray)) ++ t113) ++ (⟨#[32, 80, 67, 61]⟩ : ByteArray)) ++ t114) ++ (⟨#[32]⟩ : ByteArray)).size + t115.size ≤ 9223372036854775807 then (some ((((((((((((⟨#[65, 61]⟩ : ByteArray) ++ t110) ++ (⟨#[32, 88, 61]⟩ : ByteArray)) ++ t111) ++ (⟨#[32, 89, 61]⟩ : ByteArray)) ++ t112) ++ (⟨#[32, 83, 61]⟩ : ByteArray)) ++ t113) ++ (⟨#[32, 80, 67, 61]⟩ : ByteArray)) ++ t114) ++ (⟨#[32]⟩ : ByteArray)) ++ t115)) else (none))) else (none)) else (none))) else (none)) else (none))) else (none)) else (none))) else (none)) else (none))) else (none)) else (none)) = some r := H
  have A2 := Aside0.mk A20
  clear A20
  by_cases c3 : 2 + t110.size ≤ 9223372036854775807
  · rw [if_pos c3] at H
    have c3b0 := eq_true c3
    have c3b1 : decide (2 + t110.size ≤ 9223372036854775807) = true := decide_eq_true c3
    try have c3b2 : (9223372036854775807 < 2 + t110.size) = False := eq_false (Nat.not_lt.2 c3)
    by_cases c4 : ((⟨#[65, 61]⟩ : ByteArray) ++ t110).size + 3 ≤ 9223372036854775807
    · rw [if_pos c4] at H
      have c4b0 := eq_true c4
      have c4b1 : decide (((⟨#[65, 61]⟩ : ByteArray) ++ t110).size + 3 ≤ 9223372036854775807) = true := decide_eq_true c4
      try have c4b2 : (9223372036854775807 < ((⟨#[65, 61]⟩ : ByteArray) ++ t110).size + 3) = False := eq_false (Nat.not_lt.2 c4)
      try have c4b4 : (9223372036854775807 < 2 + t110.size + 3) = False := eq_false (Nat.not_lt.2 (by have h_ := of_decide_eq_true c4b1; simp only [ByteArray.size_append] at h_; have e0_ : ((⟨#[65, 61]⟩ : ByteArray)).size = 2 := rfl; omega))
      replace H := Option.bind_eq_some_iff.mp H
      obtain ⟨t111, A50, H⟩ := H
      replace H : (if (((⟨#[65, 61]⟩ : ByteArray) ++ t110) ++ (⟨#[32, 88, 61]⟩ : ByteArray)).size + t111.size ≤ 9223372036854775807 then (if ((((⟨#[65, 61]⟩ : ByteArray) ++ t110) ++ (⟨#[32, 88, 61]⟩ : ByteArray)) ++ t111).size + 3 ≤ 9223372036854775807 then ((spec_HexText.f k (wrap64 (a0_2)) 2).bind fun t112 => (if (((((⟨#[65, 61]⟩ : ByteArray) ++ t110) ++ (⟨#[32, 88, 61]⟩ : ByteArray)) ++ t111) ++ (⟨#[32, 89, 61]⟩ : ByteArray)).size + t112.size ≤ 9223372036854775807 then (if ((((((⟨#[65, 61]⟩ : ByteArray) ++ t110) ++ (⟨#[32, 88, 61]⟩ : ByteArray)) ++ t111) ++ (⟨#[32, 89, 61]⟩ : ByteArray)) ++ t112).size + 3 ≤ 9223372036854775807 then ((spec_HexText.f k (wrap64 (a0_3)) 2).bind fun t113 => (if (((((((⟨#[65, 61]⟩ : ByteArray) ++ t110) ++ (⟨#[32, 88, 61]⟩ : ByteArray)) ++ t111) ++ (⟨#[32, 89, 61]⟩ : ByteArray)) ++ t112) ++ (⟨#[32, 83, 61]⟩ : ByteArray)).size + t113.size ≤ 9223372036854775807 then (if ((((((((⟨#[65, 61]⟩ : ByteArray) ++ t110) ++ (⟨#[32, 88, 61]⟩ : ByteArray)) ++ t111) ++ (⟨#[32, 89, 61]⟩ : ByteArray)) ++ t112) ++ (⟨#[32, 83, 61]⟩ : ByteArray)) ++ t113).size + 4 ≤ 9223372036854775807 then ((spec_HexText.f k (wrap64 (a0_4)) 4).bind fun t114 => (if (((((((((⟨#[65, 61]⟩ : ByteArray) ++ t110) ++ (⟨#[32, 88, 61]⟩ : ByteArray)) ++ t111) ++ (⟨#[32, 89, 61]⟩ : ByteArray)) ++ t112) ++ (⟨#[32, 83, 61]⟩ : ByteArray)) ++ t113) ++ (⟨#[32, 80, 67, 61]⟩ : ByteArray)).size + t114.size ≤ 9223372036854775807 then (if ((((((((((⟨#[65, 61]⟩ : ByteArray) ++ t110) ++ (⟨#[32, 88, 61]⟩ : ByteArray)) ++ t111) ++ (⟨#[32, 89, 61]⟩ : ByteArray)) ++ t112) ++ (⟨#[32, 83, 61]⟩ : ByteArray)) ++ t113) ++ (⟨#[32, 80, 67, 61]⟩ : ByteArray)) ++ t114).size + 1 ≤ 9223372036854775807 then ((spec_l05Flags.f a0_5 a0_6 a0_7 a0_8 a0_9 a0_10).bind fun t115 => (if (((((((((((⟨#[65, 61]⟩ : ByteArray) ++ t110) ++ (⟨#[32, 88, 61]⟩ : ByteArray)) ++ t111) ++ (⟨#[32, 89, 61]⟩ : ByteArray)) ++ t112) ++ (⟨#[32, 83, 61]⟩ : ByteArray)) ++ t113) ++ (⟨#[32, 80, 67, 61]⟩ : ByteArray)) ++ t114) ++ (⟨#[32]⟩ : ByteArray)).size + t115.size ≤ 9223372036854775807 then (some ((((((((((((⟨#[65, 61]⟩ : ByteArray) ++ t110) ++ (⟨#[32, 88, 61]⟩ : ByteArray)) ++ t111) ++ (⟨#[32, 89, 61]⟩ : ByteArray)) ++ t112) ++ (⟨#[32, 83, 61]⟩ : ByteArray)) ++ t113) ++ (⟨#[32, 80, 67, 61]⟩ : ByteArray)) ++ t114) ++ (⟨#[32]⟩ : ByteArray)) ++ t115)) else (none))) else (none)) else (none))) else (none)) else (none))) else (none)) else (none))) else (none)) else (none)) = some r := H
      have A5 := Aside0.mk A50
      clear A50
      by_cases c6 : (((⟨#[65, 61]⟩ : ByteArray) ++ t110) ++ (⟨#[32, 88, 61]⟩ : ByteArray)).size + t111.size ≤ 9223372036854775807
      · rw [if_pos c6] at H
        have c6b0 := eq_true c6
        have c6b1 : decide ((((⟨#[65, 61]⟩ : ByteArray) ++ t110) ++ (⟨#[32, 88, 61]⟩ : ByteArray)).size + t111.size ≤ 9223372036854775807) = true := decide_eq_true c6
        try have c6b2 : (9223372036854775807 < (((⟨#[65, 61]⟩ : ByteArray) ++ t110) ++ (⟨#[32, 88, 61]⟩ : ByteArray)).size + t111.size) = False := eq_false (Nat.not_lt.2 c6)
        try have c6b4 : (9223372036854775807 < 2 + t110.size + 3 + t111.size) = False := eq_false (Nat.not_lt.2 (by have h_ := of_decide_eq_true c6b1; simp only [ByteArray.size_append] at h_; have e0_ : ((⟨#[65, 61]⟩ : ByteArray)).size = 2 := rfl; have e1_ : ((⟨#[32, 88, 61]⟩ : ByteArray)).size = 3 := rfl; omega))
        by_cases c7 : ((((⟨#[65, 61]⟩ : ByteArray) ++ t110) ++ (⟨#[32, 88, 61]⟩ : ByteArray)) ++ t111).size + 3 ≤ 9223372036854775807
        · rw [if_pos c7] at H
          have c7b0 := eq_true c7
          have c7b1 : decide (((((⟨#[65, 61]⟩ : ByteArray) ++ t110) ++ (⟨#[32, 88, 61]⟩ : ByteArray)) ++ t111).size + 3 ≤ 9223372036854775807) = true := decide_eq_true c7
          try have c7b2 : (9223372036854775807 < ((((⟨#[65, 61]⟩ : ByteArray) ++ t110) ++ (⟨#[32, 88, 61]⟩ : ByteArray)) ++ t111).size + 3) = False := eq_false (Nat.not_lt.2 c7)
          try have c7b4 : (9223372036854775807 < 2 + t110.size + 3 + t111.size + 3) = False := eq_false (Nat.not_lt.2 (by have h_ := of_decide_eq_true c7b1; simp only [ByteArray.size_append] at h_; have e0_ : ((⟨#[65, 61]⟩ : ByteArray)).size = 2 := rfl; have e1_ : ((⟨#[32, 88, 61]⟩ : ByteArray)).size = 3 := rfl; omega))
          replace H := Option.bind_eq_some_iff.mp H
          obtain ⟨t112, A80, H⟩ := H
          replace H : (if (((((⟨#[65, 61]⟩ : ByteArray) ++ t110) ++ (⟨#[32, 88, 61]⟩ : ByteArray)) ++ t111) ++ (⟨#[32, 89, 61]⟩ : ByteArray)).size + t112.size ≤ 9223372036854775807 then (if ((((((⟨#[65, 61]⟩ : ByteArray) ++ t110) ++ (⟨#[32, 88, 61]⟩ : ByteArray)) ++ t111) ++ (⟨#[32, 89, 61]⟩ : ByteArray)) ++ t112).size + 3 ≤ 9223372036854775807 then ((spec_HexText.f k (wrap64 (a0_3)) 2).bind fun t113 => (if (((((((⟨#[65, 61]⟩ : ByteArray) ++ t110) ++ (⟨#[32, 88, 61]⟩ : ByteArray)) ++ t111) ++ (⟨#[32, 89, 61]⟩ : ByteArray)) ++ t112) ++ (⟨#[32, 83, 61]⟩ : ByteArray)).size + t113.size ≤ 9223372036854775807 then (if ((((((((⟨#[65, 61]⟩ : ByteArray) ++ t110) ++ (⟨#[32, 88, 61]⟩ : ByteArray)) ++ t111) ++ (⟨#[32, 89, 61]⟩ : ByteArray)) ++ t112) ++ (⟨#[32, 83, 61]⟩ : ByteArray)) ++ t113).size + 4 ≤ 9223372036854775807 then ((spec_HexText.f k (wrap64 (a0_4)) 4).bind fun t114 => (if (((((((((⟨#[65, 61]⟩ : ByteArray) ++ t110) ++ (⟨#[32, 88, 61]⟩ : ByteArray)) ++ t111) ++ (⟨#[32, 89, 61]⟩ : ByteArray)) ++ t112) ++ (⟨#[32, 83, 61]⟩ : ByteArray)) ++ t113) ++ (⟨#[32, 80, 67, 61]⟩ : ByteArray)).size + t114.size ≤ 9223372036854775807 then (if ((((((((((⟨#[65, 61]⟩ : ByteArray) ++ t110) ++ (⟨#[32, 88, 61]⟩ : ByteArray)) ++ t111) ++ (⟨#[32, 89, 61]⟩ : ByteArray)) ++ t112) ++ (⟨#[32, 83, 61]⟩ : ByteArray)) ++ t113) ++ (⟨#[32, 80, 67, 61]⟩ : ByteArray)) ++ t114).size + 1 ≤ 9223372036854775807 then ((spec_l05Flags.f a0_5 a0_6 a0_7 a0_8 a0_9 a0_10).bind fun t115 => (if (((((((((((⟨#[65, 61]⟩ : ByteArray) ++ t110) ++ (⟨#[32, 88, 61]⟩ : ByteArray)) ++ t111) ++ (⟨#[32, 89, 61]⟩ : ByteArray)) ++ t112) ++ (⟨#[32, 83, 61]⟩ : ByteArray)) ++ t113) ++ (⟨#[32, 80, 67, 61]⟩ : ByteArray)) ++ t114) ++ (⟨#[32]⟩ : ByteArray)).size + t115.size ≤ 9223372036854775807 then (some ((((((((((((⟨#[65, 61]⟩ : ByteArray) ++ t110) ++ (⟨#[32, 88, 61]⟩ : ByteArray)) ++ t111) ++ (⟨#[32, 89, 61]⟩ : ByteArray)) ++ t112) ++ (⟨#[32, 83, 61]⟩ : ByteArray)) ++ t113) ++ (⟨#[32, 80, 67, 61]⟩ : ByteArray)) ++ t114) ++ (⟨#[32]⟩ : ByteArray)) ++ t115)) else (none))) else (none)) else (none))) else (none)) else (none))) else (none)) else (none)) = some r := H
          have A8 := Aside0.mk A80
          clear A80
          by_cases c9 : (((((⟨#[65, 61]⟩ : ByteArray) ++ t110) ++ (⟨#[32, 88, 61]⟩ : ByteArray)) ++ t111) ++ (⟨#[32, 89, 61]⟩ : ByteArray)).size + t112.size ≤ 9223372036854775807
          · rw [if_pos c9] at H
            have c9b0 := eq_true c9
            have c9b1 : decide ((((((⟨#[65, 61]⟩ : ByteArray) ++ t110) ++ (⟨#[32, 88, 61]⟩ : ByteArray)) ++ t111) ++ (⟨#[32, 89, 61]⟩ : ByteArray)).size + t112.size ≤ 9223372036854775807) = true := decide_eq_true c9
            try have c9b2 : (9223372036854775807 < (((((⟨#[65, 61]⟩ : ByteArray) ++ t110) ++ (⟨#[32, 88, 61]⟩ : ByteArray)) ++ t111) ++ (⟨#[32, 89, 61]⟩ : ByteArray)).size + t112.size) = False := eq_false (Nat.not_lt.2 c9)
            try have c9b4 : (9223372036854775807 < 2 + t110.size + 3 + t111.size + 3 + t112.size) = False := eq_false (Nat.not_lt.2 (by have h_ := of_decide_eq_true c9b1; simp only [ByteArray.size_append] at h_; have e0_ : ((⟨#[65, 61]⟩ : ByteArray)).size = 2 := rfl; have e1_ : ((⟨#[32, 88, 61]⟩ : ByteArray)).size = 3 := rfl; have e2_ : ((⟨#[32, 89, 61]⟩ : ByteArray)).size = 3 := rfl; omega))
            by_cases c10 : ((((((⟨#[65, 61]⟩ : ByteArray) ++ t110) ++ (⟨#[32, 88, 61]⟩ : ByteArray)) ++ t111) ++ (⟨#[32, 89, 61]⟩ : ByteArray)) ++ t112).size + 3 ≤ 9223372036854775807
            · rw [if_pos c10] at H
              have c10b0 := eq_true c10
              have c10b1 : decide (((((((⟨#[65, 61]⟩ : ByteArray) ++ t110) ++ (⟨#[32, 88, 61]⟩ : ByteArray)) ++ t111) ++ (⟨#[32, 89, 61]⟩ : ByteArray)) ++ t112).size + 3 ≤ 9223372036854775807) = true := decide_eq_true c10
              try have c10b2 : (9223372036854775807 < ((((((⟨#[65, 61]⟩ : ByteArray) ++ t110) ++ (⟨#[32, 88, 61]⟩ : ByteArray)) ++ t111) ++ (⟨#[32, 89, 61]⟩ : ByteArray)) ++ t112).size + 3) = False := eq_false (Nat.not_lt.2 c10)
              try have c10b4 : (9223372036854775807 < 2 + t110.size + 3 + t111.size + 3 + t112.size + 3) = False := eq_false (Nat.not_lt.2 (by have h_ := of_decide_eq_true c10b1; simp only [ByteArray.size_append] at h_; have e0_ : ((⟨#[65, 61]⟩ : ByteArray)).size = 2 := rfl; have e1_ : ((⟨#[32, 88, 61]⟩ : ByteArray)).size = 3 := rfl; have e2_ : ((⟨#[32, 89, 61]⟩ : ByteArray)).size = 3 := rfl; omega))
              replace H := Option.bind_eq_some_iff.mp H
              obtain ⟨t113, A110, H⟩ := H
              replace H : (if (((((((⟨#[65, 61]⟩ : ByteArray) ++ t110) ++ (⟨#[32, 88, 61]⟩ : ByteArray)) ++ t111) ++ (⟨#[32, 89, 61]⟩ : ByteArray)) ++ t112) ++ (⟨#[32, 83, 61]⟩ : ByteArray)).size + t113.size ≤ 9223372036854775807 then (if ((((((((⟨#[65, 61]⟩ : ByteArray) ++ t110) ++ (⟨#[32, 88, 61]⟩ : ByteArray)) ++ t111) ++ (⟨#[32, 89, 61]⟩ : ByteArray)) ++ t112) ++ (⟨#[32, 83, 61]⟩ : ByteArray)) ++ t113).size + 4 ≤ 9223372036854775807 then ((spec_HexText.f k (wrap64 (a0_4)) 4).bind fun t114 => (if (((((((((⟨#[65, 61]⟩ : ByteArray) ++ t110) ++ (⟨#[32, 88, 61]⟩ : ByteArray)) ++ t111) ++ (⟨#[32, 89, 61]⟩ : ByteArray)) ++ t112) ++ (⟨#[32, 83, 61]⟩ : ByteArray)) ++ t113) ++ (⟨#[32, 80, 67, 61]⟩ : ByteArray)).size + t114.size ≤ 9223372036854775807 then (if ((((((((((⟨#[65, 61]⟩ : ByteArray) ++ t110) ++ (⟨#[32, 88, 61]⟩ : ByteArray)) ++ t111) ++ (⟨#[32, 89, 61]⟩ : ByteArray)) ++ t112) ++ (⟨#[32, 83, 61]⟩ : ByteArray)) ++ t113) ++ (⟨#[32, 80, 67, 61]⟩ : ByteArray)) ++ t114).size + 1 ≤ 9223372036854775807 then ((spec_l05Flags.f a0_5 a0_6 a0_7 a0_8 a0_9 a0_10).bind fun t115 => (if (((((((((((⟨#[65, 61]⟩ : ByteArray) ++ t110) ++ (⟨#[32, 88, 61]⟩ : ByteArray)) ++ t111) ++ (⟨#[32, 89, 61]⟩ : ByteArray)) ++ t112) ++ (⟨#[32, 83, 61]⟩ : ByteArray)) ++ t113) ++ (⟨#[32, 80, 67, 61]⟩ : ByteArray)) ++ t114) ++ (⟨#[32]⟩ : ByteArray)).size + t115.size ≤ 9223372036854775807 then (some ((((((((((((⟨#[65, 61]⟩ : ByteArray) ++ t110) ++ (⟨#[32, 88, 61]⟩ : ByteArray)) ++ t111) ++ (⟨#[32, 89, 61]⟩ : ByteArray)) ++ t112) ++ (⟨#[32, 83, 61]⟩ : ByteArray)) ++ t113) ++ (⟨#[32, 80, 67, 61]⟩ : ByteArray)) ++ t114) ++ (⟨#[32]⟩ : ByteArray)) ++ t115)) else (none))) else (none)) else (none))) else (none)) else (none)) = some r := H
              have A11 := Aside0.mk A110
              clear A110
              by_cases c12 : (((((((⟨#[65, 61]⟩ : ByteArray) ++ t110) ++ (⟨#[32, 88, 61]⟩ : ByteArray)) ++ t111) ++ (⟨#[32, 89, 61]⟩ : ByteArray)) ++ t112) ++ (⟨#[32, 83, 61]⟩ : ByteArray)).size + t113.size ≤ 9223372036854775807
              · rw [if_pos c12] at H
                have c12b0 := eq_true c12
                have c12b1 : decide ((((((((⟨#[65, 61]⟩ : ByteArray) ++ t110) ++ (⟨#[32, 88, 61]⟩ : ByteArray)) ++ t111) ++ (⟨#[32, 89, 61]⟩ : ByteArray)) ++ t112) ++ (⟨#[32, 83, 61]⟩ : ByteArray)).size + t113.size ≤ 9223372036854775807) = true := decide_eq_true c12
                try have c12b2 : (9223372036854775807 < (((((((⟨#[65, 61]⟩ : ByteArray) ++ t110) ++ (⟨#[32, 88, 61]⟩ : ByteArray)) ++ t111) ++ (⟨#[32, 89, 61]⟩ : ByteArray)) ++ t112) ++ (⟨#[32, 83, 61]⟩ : ByteArray)).size + t113.size) = False := eq_false (Nat.not_lt.2 c12)
                try have c12b4 : (9223372036854775807 < 2 + t110.size + 3 + t111.size + 3 + t112.size + 3 + t113.size) = False := eq_false (Nat.not_lt.2 (by have h_ := of_decide_eq_true c12b1; simp only [ByteArray.size_append] at h_; have e0_ : ((⟨#[65, 61]⟩ : ByteArray)).size = 2 := rfl; have e1_ : ((⟨#[32, 88, 61]⟩ : ByteArray)).size = 3 := rfl; have e2_ : ((⟨#[32, 89, 61]⟩ : ByteArray)).size = 3 := rfl; have e3_ : ((⟨#[32, 83, 61]⟩ : ByteArray)).size = 3 := rfl; omega))
                by_cases c13 : ((((((((⟨#[65, 61]⟩ : ByteArray) ++ t110) ++ (⟨#[32, 88, 61]⟩ : ByteArray)) ++ t111) ++ (⟨#[32, 89, 61]⟩ : ByteArray)) ++ t112) ++ (⟨#[32, 83, 61]⟩ : ByteArray)) ++ t113).size + 4 ≤ 9223372036854775807
                · rw [if_pos c13] at H
                  have c13b0 := eq_true c13
                  have c13b1 : decide (((((((((⟨#[65, 61]⟩ : ByteArray) ++ t110) ++ (⟨#[32, 88, 61]⟩ : ByteArray)) ++ t111) ++ (⟨#[32, 89, 61]⟩ : ByteArray)) ++ t112) ++ (⟨#[32, 83, 61]⟩ : ByteArray)) ++ t113).size + 4 ≤ 9223372036854775807) = true := decide_eq_true c13
                  try have c13b2 : (9223372036854775807 < ((((((((⟨#[65, 61]⟩ : ByteArray) ++ t110) ++ (⟨#[32, 88, 61]⟩ : ByteArray)) ++ t111) ++ (⟨#[32, 89, 61]⟩ : ByteArray)) ++ t112) ++ (⟨#[32, 83, 61]⟩ : ByteArray)) ++ t113).size + 4) = False := eq_false (Nat.not_lt.2 c13)
                  try have c13b4 : (9223372036854775807 < 2 + t110.size + 3 + t111.size + 3 + t112.size + 3 + t113.size + 4) = False := eq_false (Nat.not_lt.2 (by have h_ := of_decide_eq_true c13b1; simp only [ByteArray.size_append] at h_; have e0_ : ((⟨#[65, 61]⟩ : ByteArray)).size = 2 := rfl; have e1_ : ((⟨#[32, 88, 61]⟩ : ByteArray)).size = 3 := rfl; have e2_ : ((⟨#[32, 89, 61]⟩ : ByteArray)).size = 3 := rfl; have e3_ : ((⟨#[32, 83, 61]⟩ : ByteArray)).size = 3 := rfl; omega))
                  replace H := Option.bind_eq_some_iff.mp H
                  obtain ⟨t114, A140, H⟩ := H
                  replace H : (if (((((((((⟨#[65, 61]⟩ : ByteArray) ++ t110) ++ (⟨#[32, 88, 61]⟩ : ByteArray)) ++ t111) ++ (⟨#[32, 89, 61]⟩ : ByteArray)) ++ t112) ++ (⟨#[32, 83, 61]⟩ : ByteArray)) ++ t113) ++ (⟨#[32, 80, 67, 61]⟩ : ByteArray)).size + t114.size ≤ 9223372036854775807 then (if ((((((((((⟨#[65, 61]⟩ : ByteArray) ++ t110) ++ (⟨#[32, 88, 61]⟩ : ByteArray)) ++ t111) ++ (⟨#[32, 89, 61]⟩ : ByteArray)) ++ t112) ++ (⟨#[32, 83, 61]⟩ : ByteArray)) ++ t113) ++ (⟨#[32, 80, 67, 61]⟩ : ByteArray)) ++ t114).size + 1 ≤ 9223372036854775807 then ((spec_l05Flags.f a0_5 a0_6 a0_7 a0_8 a0_9 a0_10).bind fun t115 => (if (((((((((((⟨#[65, 61]⟩ : ByteArray) ++ t110) ++ (⟨#[32, 88, 61]⟩ : ByteArray)) ++ t111) ++ (⟨#[32, 89, 61]⟩ : ByteArray)) ++ t112) ++ (⟨#[32, 83, 61]⟩ : ByteArray)) ++ t113) ++ (⟨#[32, 80, 67, 61]⟩ : ByteArray)) ++ t114) ++ (⟨#[32]⟩ : ByteArray)).size + t115.size ≤ 9223372036854775807 then (some ((((((((((((⟨#[65, 61]⟩ : ByteArray) ++ t110) ++ (⟨#[32, 88, 61]⟩ : ByteArray)) ++ t111) ++ (⟨#[32, 89, 61]⟩ : ByteArray)) ++ t112) ++ (⟨#[32, 83, 61]⟩ : ByteArray)) ++ t113) ++ (⟨#[32, 80, 67, 61]⟩ : ByteArray)) ++ t114) ++ (⟨#[32]⟩ : ByteArray)) ++ t115)) else (none))) else (none)) else (none)) = some r := H
                  have A14 := Aside0.mk A140
                  clear A140
                  by_cases c15 : (((((((((⟨#[65, 61]⟩ : ByteArray) ++ t110) ++ (⟨#[32, 88, 61]⟩ : ByteArray)) ++ t111) ++ (⟨#[32, 89, 61]⟩ : ByteArray)) ++ t112) ++ (⟨#[32, 83, 61]⟩ : ByteArray)) ++ t113) ++ (⟨#[32, 80, 67, 61]⟩ : ByteArray)).size + t114.size ≤ 9223372036854775807
                  · rw [if_pos c15] at H
                    have c15b0 := eq_true c15
                    have c15b1 : decide ((((((((((⟨#[65, 61]⟩ : ByteArray) ++ t110) ++ (⟨#[32, 88, 61]⟩ : ByteArray)) ++ t111) ++ (⟨#[32, 89, 61]⟩ : ByteArray)) ++ t112) ++ (⟨#[32, 83, 61]⟩ : ByteArray)) ++ t113) ++ (⟨#[32, 80, 67, 61]⟩ : ByteArray)).size + t114.size ≤ 9223372036854775807) = true := decide_eq_true c15
                    try have c15b2 : (9223372036854775807 < (((((((((⟨#[65, 61]⟩ : ByteArray) ++ t110) ++ (⟨#[32, 88, 61]⟩ : ByteArray)) ++ t111) ++ (⟨#[32, 89, 61]⟩ : ByteArray)) ++ t112) ++ (⟨#[32, 83, 61]⟩ : ByteArray)) ++ t113) ++ (⟨#[32, 80, 67, 61]⟩ : ByteArray)).size + t114.size) = False := eq_false (Nat.not_lt.2 c15)
                    try have c15b4 : (9223372036854775807 < 2 + t110.size + 3 + t111.size + 3 + t112.size + 3 + t113.size + 4 + t114.size) = False := eq_false (Nat.not_lt.2 (by have h_ := of_decide_eq_true c15b1; simp only [ByteArray.size_append] at h_; have e0_ : ((⟨#[65, 61]⟩ : ByteArray)).size = 2 := rfl; have e1_ : ((⟨#[32, 88, 61]⟩ : ByteArray)).size = 3 := rfl; have e2_ : ((⟨#[32, 89, 61]⟩ : ByteArray)).size = 3 := rfl; have e3_ : ((⟨#[32, 83, 61]⟩ : ByteArray)).size = 3 := rfl; have e4_ : ((⟨#[32, 80, 67, 61]⟩ : ByteArray)).size = 4 := rfl; omega))
                    by_cases c16 : ((((((((((⟨#[65, 61]⟩ : ByteArray) ++ t110) ++ (⟨#[32, 88, 61]⟩ : ByteArray)) ++ t111) ++ (⟨#[32, 89, 61]⟩ : ByteArray)) ++ t112) ++ (⟨#[32, 83, 61]⟩ : ByteArray)) ++ t113) ++ (⟨#[32, 80, 67, 61]⟩ : ByteArray)) ++ t114).size + 1 ≤ 9223372036854775807
                    · rw [if_pos c16] at H
                      have c16b0 := eq_true c16
                      have c16b1 : decide (((((((((((⟨#[65, 61]⟩ : ByteArray) ++ t110) ++ (⟨#[32, 88, 61]⟩ : ByteArray)) ++ t111) ++ (⟨#[32, 89, 61]⟩ : ByteArray)) ++ t112) ++ (⟨#[32, 83, 61]⟩ : ByteArray)) ++ t113) ++ (⟨#[32, 80, 67, 61]⟩ : ByteArray)) ++ t114).size + 1 ≤ 9223372036854775807) = true := decide_eq_true c16
                      try have c16b2 : (9223372036854775807 < ((((((((((⟨#[65, 61]⟩ : ByteArray) ++ t110) ++ (⟨#[32, 88, 61]⟩ : ByteArray)) ++ t111) ++ (⟨#[32, 89, 61]⟩ : ByteArray)) ++ t112) ++ (⟨#[32, 83, 61]⟩ : ByteArray)) ++ t113) ++ (⟨#[32, 80, 67, 61]⟩ : ByteArray)) ++ t114).size + 1) = False := eq_false (Nat.not_lt.2 c16)
                      try have c16b4 : (9223372036854775807 < 2 + t110.size + 3 + t111.size + 3 + t112.size + 3 + t113.size + 4 + t114.size + 1) = False := eq_false (Nat.not_lt.2 (by have h_ := of_decide_eq_true c16b1; simp only [ByteArray.size_append] at h_; have e0_ : ((⟨#[65, 61]⟩ : ByteArray)).size = 2 := rfl; have e1_ : ((⟨#[32, 88, 61]⟩ : ByteArray)).size = 3 := rfl; have e2_ : ((⟨#[32, 89, 61]⟩ : ByteArray)).size = 3 := rfl; have e3_ : ((⟨#[32, 83, 61]⟩ : ByteArray)).size = 3 := rfl; have e4_ : ((⟨#[32, 80, 67, 61]⟩ : ByteArray)).size = 4 := rfl; omega))
                      replace H := Option.bind_eq_some_iff.mp H
                      obtain ⟨t115, A170, H⟩ := H
                      replace H : (if (((((((((((⟨#[65, 61]⟩ : ByteArray) ++ t110) ++ (⟨#[32, 88, 61]⟩ : ByteArray)) ++ t111) ++ (⟨#[32, 89, 61]⟩ : ByteArray)) ++ t112) ++ (⟨#[32, 83, 61]⟩ : ByteArray)) ++ t113) ++ (⟨#[32, 80, 67, 61]⟩ : ByteArray)) ++ t114) ++ (⟨#[32]⟩ : ByteArray)).size + t115.size ≤ 9223372036854775807 then (some ((((((((((((⟨#[65, 61]⟩ : ByteArray) ++ t110) ++ (⟨#[32, 88, 61]⟩ : ByteArray)) ++ t111) ++ (⟨#[32, 89, 61]⟩ : ByteArray)) ++ t112) ++ (⟨#[32, 83, 61]⟩ : ByteArray)) ++ t113) ++ (⟨#[32, 80, 67, 61]⟩ : ByteArray)) ++ t114) ++ (⟨#[32]⟩ : ByteArray)) ++ t115)) else (none)) = some r := H
                      have A17 := Aside0.mk A170
                      clear A170
                      by_cases c18 : (((((((((((⟨#[65, 61]⟩ : ByteArray) ++ t110) ++ (⟨#[32, 88, 61]⟩ : ByteArray)) ++ t111) ++ (⟨#[32, 89, 61]⟩ : ByteArray)) ++ t112) ++ (⟨#[32, 83, 61]⟩ : ByteArray)) ++ t113) ++ (⟨#[32, 80, 67, 61]⟩ : ByteArray)) ++ t114) ++ (⟨#[32]⟩ : ByteArray)).size + t115.size ≤ 9223372036854775807
                      · rw [if_pos c18] at H
                        have c18b0 := eq_true c18
                        have c18b1 : decide ((((((((((((⟨#[65, 61]⟩ : ByteArray) ++ t110) ++ (⟨#[32, 88, 61]⟩ : ByteArray)) ++ t111) ++ (⟨#[32, 89, 61]⟩ : ByteArray)) ++ t112) ++ (⟨#[32, 83, 61]⟩ : ByteArray)) ++ t113) ++ (⟨#[32, 80, 67, 61]⟩ : ByteArray)) ++ t114) ++ (⟨#[32]⟩ : ByteArray)).size + t115.size ≤ 9223372036854775807) = true := decide_eq_true c18
                        try have c18b2 : (9223372036854775807 < (((((((((((⟨#[65, 61]⟩ : ByteArray) ++ t110) ++ (⟨#[32, 88, 61]⟩ : ByteArray)) ++ t111) ++ (⟨#[32, 89, 61]⟩ : ByteArray)) ++ t112) ++ (⟨#[32, 83, 61]⟩ : ByteArray)) ++ t113) ++ (⟨#[32, 80, 67, 61]⟩ : ByteArray)) ++ t114) ++ (⟨#[32]⟩ : ByteArray)).size + t115.size) = False := eq_false (Nat.not_lt.2 c18)
                        try have c18b4 : (9223372036854775807 < 2 + t110.size + 3 + t111.size + 3 + t112.size + 3 + t113.size + 4 + t114.size + 1 + t115.size) = False := eq_false (Nat.not_lt.2 (by have h_ := of_decide_eq_true c18b1; simp only [ByteArray.size_append] at h_; have e0_ : ((⟨#[65, 61]⟩ : ByteArray)).size = 2 := rfl; have e1_ : ((⟨#[32, 88, 61]⟩ : ByteArray)).size = 3 := rfl; have e2_ : ((⟨#[32, 89, 61]⟩ : ByteArray)).size = 3 := rfl; have e3_ : ((⟨#[32, 83, 61]⟩ : ByteArray)).size = 3 := rfl; have e4_ : ((⟨#[32, 80, 67, 61]⟩ : ByteArray)).size = 4 := rfl; have e5_ : ((⟨#[32]⟩ : ByteArray)).size = 1 := rfl; omega))
                        obtain rfl := Option.some.inj H
                        go_enter Try.func23, Try.ntmps23
                        try go_wp2_with (first | ((with_reducible refine gate_dst (N := 1) rfl ?_); refine box_event ?hg (N := 1) ?hd (cs := #[.int .u8 a0_0, .int .u8 a0_1, .int .u8 a0_2, .int .u8 a0_3, .int .u16 a0_4, .bool a0_5, .bool a0_6, .bool a0_7, .bool a0_8, .bool a0_9, .bool a0_10]) (t := 42) ?hr ?_; (case hd => rfl); (case hg => rfl); (case hr => first | (go_simp; done) | (go_simp; rfl)); intro gb109 hg w19 hbox hb; have n0_ := Aside0.mk (below_step (by repeat (first | (with_reducible first | exact HB.out | apply below_alloc | apply pw_below_drewN | apply below_drew1) | exact HB.out)) hb); have n1_ := Aside0.mk (hbox); have n2_ := Aside0.mk ((by rw [hg]; exact (below_size (by repeat (first | (with_reducible first | exact HB.out | apply below_alloc | apply pw_below_drewN | apply below_drew1) | exact HB.out))) : w.heap.size ≤ gb109)); have n3_ := Aside0.mk ((by rw [hg]; exact (below_size (by repeat (first | (with_reducible first | exact HB.out | apply below_alloc | apply pw_below_drewN | apply below_drew1) | exact HB.out))) : w.heap.size ≤ gb109)); clear HB; have HB := n0_; have BK109 := n1_; have GW109 := n2_; have GE109 := n3_; clear n0_ n1_ n2_ n3_; clear hb hbox hg))
                        have n0_ := Aside0.mk (blk_drew BK109.out)
                        have n1_ := Aside0.mk (below_drew1 HB.out)
                        clear BK109
                        clear HB
                        have BK109 := n0_
                        have HB := n1_
                        clear n0_ n1_
                        refine start_ (n := 35) (S := fun w' => w'.cell? ⟨gb109, 0, none⟩ = some (.int .u8 a0_0) ∧ w'.cell? ⟨gb109, 1, none⟩ = some (.int .u8 a0_1) ∧ w'.cell? ⟨gb109, 2, none⟩ = some (.int .u8 a0_2) ∧ w'.cell? ⟨gb109, 3, none⟩ = some (.int .u8 a0_3) ∧ w'.cell? ⟨gb109, 4, none⟩ = some (.int .u16 a0_4) ∧ w'.cell? ⟨gb109, 5, none⟩ = some (.bool a0_5) ∧ w'.cell? ⟨gb109, 6, none⟩ = some (.bool a0_6) ∧ w'.cell? ⟨gb109, 7, none⟩ = some (.bool a0_7) ∧ w'.cell? ⟨gb109, 8, none⟩ = some (.bool a0_8) ∧ w'.cell? ⟨gb109, 9, none⟩ = some (.bool a0_9) ∧ w'.cell? ⟨gb109, 10, none⟩ = some (.bool a0_10)) (ds := []) #[false, false, false, false, false, false, false, false, false, false, false, false, false, false, false, false, false, false, false, false, false, false, false, false, false, false, false, false, false, false, false, false, false, false, false] (by kernel_rfl) rfl rfl ⟨(blk_cell BK109.out 0).trans rfl, (blk_cell BK109.out 1).trans rfl, (blk_cell BK109.out 2).trans rfl, (blk_cell BK109.out 3).trans rfl, (blk_cell BK109.out 4).trans rfl, (blk_cell BK109.out 5).trans rfl, (blk_cell BK109.out 6).trans rfl, (blk_cell BK109.out 7).trans rfl, (blk_cell BK109.out 8).trans rfl, (blk_cell BK109.out 9).trans rfl, (blk_cell BK109.out 10).trans rfl⟩ (fun hHeld => ?_); refine with_tabW spec_CpuText.tab1 spec_CpuText.bits1 (fun HT_ HW_ => ?_)
                        generalize w19.drew = w20 at BK109 HB hHeld ⊢
                        refine pure_ (i := 0) (N := some 3) (v := ?_) (a' := ?_) #[true, false, false, false, false, false, false, false, false, false, false, false, false, false, false, false, false, false, false, false, false, false, false, false, false, false, false, false, false, false, false, false, false, false, false] rfl rfl (any_of HT_.out (by kernel_rfl)) (fun _ _ _ h => h) (Or.inl ⟨by rfl, ?_⟩) ?_ ?_
                        rotate_left
                        · intro w'
                          go_simp
                          with_reducible rfl
                        rotate_left
                        · simp only [Act.put, List.setIfInBounds_toArray, List.set_cons_zero, List.set_cons_succ, i64_w, i32_w]
                          rfl
                        refine pure_ (i := 6) (N := some 9) (v := ?_) (a' := ?_) #[true, false, false, false, false, false, true, false, false, false, false, false, false, false, false, false, false, false, false, false, false, false, false, false, false, false, false, false, false, false, false, false, false, false, false] rfl rfl (any_of HT_.out (by kernel_rfl)) (fun _ _ _ h => h) (Or.inl ⟨by rfl, ?_⟩) ?_ ?_
                        rotate_left
                        · intro w'
                          go_simp
                          with_reducible rfl
                        rotate_left
                        · simp only [Act.put, List.setIfInBounds_toArray, List.set_cons_zero, List.set_cons_succ, i64_w, i32_w]
                          rfl
                        refine pure_ (i := 12) (N := some 15) (v := ?_) (a' := ?_) #[true, false, false, false, false, false, true, false, false, false, false, false, true, false, false, false, false, false, false, false, false, false, false, false, false, false, false, false, false, false, false, false, false, false, false] rfl rfl (any_of HT_.out (by kernel_rfl)) (fun _ _ _ h => h) (Or.inl ⟨by rfl, ?_⟩) ?_ ?_
                        rotate_left
                        · intro w'
                          go_simp
                          with_reducible rfl
                        rotate_left
                        · simp only [Act.put, List.setIfInBounds_toArray, List.set_cons_zero, List.set_cons_succ, i64_w, i32_w]
                          rfl
                        refine pure_ (i := 18) (N := some 21) (v := ?_) (a' := ?_) #[true, false, false, false, false, false, true, false, false, false, false, false, true, false, false, false, false, false, true, false, false, false, false, false, false, false, false, false, false, false, false, false, false, false, false] rfl rfl (any_of HT_.out (by kernel_rfl)) (fun _ _ _ h => h) (Or.inl ⟨by rfl, ?_⟩) ?_ ?_
                        rotate_left
                        · intro w'
                          go_simp
                          with_reducible rfl
                        rotate_left
                        · simp only [Act.put, List.setIfInBounds_toArray, List.set_cons_zero, List.set_cons_succ, i64_w, i32_w]
                          rfl
                        refine pure_ (i := 24) (N := some 27) (v := ?_) (a' := ?_) #[true, false, false, false, false, false, true, false, false, false, false, false, true, false, false, false, false, false, true, false, false, false, false, false, true, false, false, false, false, false, false, false, false, false, false] rfl rfl (any_of HT_.out (by kernel_rfl)) (fun _ _ _ h => h) (Or.inl ⟨by rfl, ?_⟩) ?_ ?_
                        rotate_left
                        · intro w'
                          go_simp
                          with_reducible rfl
                        rotate_left
                        · simp only [Act.put, List.setIfInBounds_toArray, List.set_cons_zero, List.set_cons_succ, i64_w, i32_w]
                          rfl
                        refine pure_ (i := 30) (N := some 33) (v := ?_) (a' := ?_) #[true, false, false, false, false, false, true, false, false, false, false, false, true, false, false, false, false, false, true, false, false, false, false, false, true, false, false, false, false, false, true, false, false, false, false] rfl rfl (any_of HT_.out (by kernel_rfl)) (fun _ _ _ h => h) (Or.inl ⟨by rfl, ?_⟩) ?_ ?_
                        rotate_left
                        · intro w'
                          go_simp
                          with_reducible rfl
                        rotate_left
                        · simp only [Act.put, List.setIfInBounds_toArray, List.set_cons_zero, List.set_cons_succ, i64_w, i32_w]
                          rfl
                        refine take_ (i := 1) (N := some 4) (v := ?_) (a' := ?_) #[true, true, false, false, false, false, true, false, false, false, false, false, true, false, false, false, false, false, true, false, false, false, false, false, true, false, false, false, false, false, true, false, false, false, false] rfl rfl (take_ofW HT_.out HW_.out (by kernel_rfl)) (fun _ _ _ h => h) (Or.inl ⟨by rfl, ?_⟩) hHeld ?_ ?_
                        rotate_left
                        · rintro w' ⟨s0, s1, s2, s3, s4, s5, s6, s7, s8, s9, s10⟩
                          go_simp
                          with_reducible rfl
                        rotate_left
                        · simp only [Act.put, List.setIfInBounds_toArray, List.set_cons_zero, List.set_cons_succ, i64_w, i32_w]
                          rfl
                        refine pure_ (i := 2) (N := some 5) (v := ?_) (a' := ?_) #[true, true, true, false, false, false, true, false, false, false, false, false, true, false, false, false, false, false, true, false, false, false, false, false, true, false, false, false, false, false, true, false, false, false, false] rfl rfl (any_of HT_.out (by kernel_rfl)) (fun _ _ _ h => h) (Or.inl ⟨by rfl, ?_⟩) ?_ ?_
                        rotate_left
                        · intro w'
                          go_simp
                          with_reducible rfl
                        rotate_left
                        · simp only [Act.put, List.setIfInBounds_toArray, List.set_cons_zero, List.set_cons_succ, i64_w, i32_w]
                          rfl
                        refine take_ (i := 7) (N := some 10) (v := ?_) (a' := ?_) #[true, true, true, false, false, false, true, true, false, false, false, false, true, false, false, false, false, false, true, false, false, false, false, false, true, false, false, false, false, false, true, false, false, false, false] rfl rfl (take_ofW HT_.out HW_.out (by kernel_rfl)) (fun _ _ _ h => h) (Or.inl ⟨by rfl, ?_⟩) hHeld ?_ ?_
                        rotate_left
                        · rintro w' ⟨s0, s1, s2, s3, s4, s5, s6, s7, s8, s9, s10⟩
                          go_simp
                          with_reducible rfl
                        rotate_left
                        · simp only [Act.put, List.setIfInBounds_toArray, List.set_cons_zero, List.set_cons_succ, i64_w, i32_w]
                          rfl
                        refine pure_ (i := 8) (N := some 11) (v := ?_) (a' := ?_) #[true, true, true, false, false, false, true, true, true, false, false, false, true, false, false, false, false, false, true, false, false, false, false, false, true, false, false, false, false, false, true, false, false, false, false] rfl rfl (any_of HT_.out (by kernel_rfl)) (fun _ _ _ h => h) (Or.inl ⟨by rfl, ?_⟩) ?_ ?_
                        rotate_left
                        · intro w'
                          go_simp
                          with_reducible rfl
                        rotate_left
                        · simp only [Act.put, List.setIfInBounds_toArray, List.set_cons_zero, List.set_cons_succ, i64_w, i32_w]
                          rfl
                        refine take_ (i := 13) (N := some 16) (v := ?_) (a' := ?_) #[true, true, true, false, false, false, true, true, true, false, false, false, true, true, false, false, false, false, true, false, false, false, false, false, true, false, false, false, false, false, true, false, false, false, false] rfl rfl (take_ofW HT_.out HW_.out (by kernel_rfl)) (fun _ _ _ h => h) (Or.inl ⟨by rfl, ?_⟩) hHeld ?_ ?_
                        rotate_left
                        · rintro w' ⟨s0, s1, s2, s3, s4, s5, s6, s7, s8, s9, s10⟩
                          go_simp
                          with_reducible rfl
                        rotate_left
                        · simp only [Act.put, List.setIfInBounds_toArray, List.set_cons_zero, List.set_cons_succ, i64_w, i32_w]
                          rfl
                        refine pure_ (i := 14) (N := some 17) (v := ?_) (a' := ?_) #[true, true, true, false, false, false, true, true, true, false, false, false, true, true, true, false, false, false, true, false, false, false, false, false, true, false, false, false, false, false, true, false, false, false, false] rfl rfl (any_of HT_.out (by kernel_rfl)) (fun _ _ _ h => h) (Or.inl ⟨by rfl, ?_⟩) ?_ ?_
                        rotate_left
                        · intro w'
                          go_simp
                          with_reducible rfl
                        rotate_left
                        · simp only [Act.put, List.setIfInBounds_toArray, List.set_cons_zero, List.set_cons_succ, i64_w, i32_w]
                          rfl
                        refine take_ (i := 19) (N := some 22) (v := ?_) (a' := ?_) #[true, true, true, false, false, false, true, true, true, false, false, false, true, true, true, false, false, false, true, true, false, false, false, false, true, false, false, false, false, false, true, false, false, false, false] rfl rfl (take_ofW HT_.out HW_.out (by kernel_rfl)) (fun _ _ _ h => h) (Or.inl ⟨by rfl, ?_⟩) hHeld ?_ ?_
                        rotate_left
                        · rintro w' ⟨s0, s1, s2, s3, s4, s5, s6, s7, s8, s9, s10⟩
                          go_simp
                          with_reducible rfl
                        rotate_left
                        · simp only [Act.put, List.setIfInBounds_toArray, List.set_cons_zero, List.set_cons_succ, i64_w, i32_w]
                          rfl
                        refine pure_ (i := 20) (N := some 23) (v := ?_) (a' := ?_) #[true, true, true, false, false, false, true, true, true, false, false, false, true, true, true, false, false, false, true, true, true, false, false, false, true, false, false, false, false, false, true, false, false, false, false] rfl rfl (any_of HT_.out (by kernel_rfl)) (fun _ _ _ h => h) (Or.inl ⟨by rfl, ?_⟩) ?_ ?_
                        rotate_left
                        · intro w'
                          go_simp
                          with_reducible rfl
                        rotate_left
                        · simp only [Act.put, List.setIfInBounds_toArray, List.set_cons_zero, List.set_cons_succ, i64_w, i32_w]
                          rfl
                        refine take_ (i := 25) (N := some 28) (v := ?_) (a' := ?_) #[true, true, true, false, false, false, true, true, true, false, false, false, true, true, true, false, false, false, true, true, true, false, false, false, true, true, false, false, false, false, true, false, false, false, false] rfl rfl (take_ofW HT_.out HW_.out (by kernel_rfl)) (fun _ _ _ h => h) (Or.inl ⟨by rfl, ?_⟩) hHeld ?_ ?_
                        rotate_left
                        · rintro w' ⟨s0, s1, s2, s3, s4, s5, s6, s7, s8, s9, s10⟩
                          go_simp
                          with_reducible rfl
                        rotate_left
                        · simp only [Act.put, List.setIfInBounds_toArray, List.set_cons_zero, List.set_cons_succ, i64_w, i32_w]
                          rfl
                        refine pure_ (i := 26) (N := some 29) (v := ?_) (a' := ?_) #[true, true, true, false, false, false, true, true, true, false, false, false, true, true, true, false, false, false, true, true, true, false, false, false, true, true, true, false, false, false, true, false, false, false, false] rfl rfl (any_of HT_.out (by kernel_rfl)) (fun _ _ _ h => h) (Or.inl ⟨by rfl, ?_⟩) ?_ ?_
                        rotate_left
                        · intro w'
                          go_simp
                          with_reducible rfl
                        rotate_left
                        · simp only [Act.put, List.setIfInBounds_toArray, List.set_cons_zero, List.set_cons_succ, i64_w, i32_w]
                          rfl
                        refine take_ (i := 31) (N := some 34) (v := ?_) (a' := ?_) #[true, true, true, false, false, false, true, true, true, false, false, false, true, true, true, false, false, false, true, true, true, false, false, false, true, true, true, false, false, false, true, true, false, false, false] rfl rfl (take_ofW HT_.out HW_.out (by kernel_rfl)) (fun _ _ _ h => h) (Or.inl ⟨by rfl, ?_⟩) hHeld ?_ ?_
                        rotate_left
                        · rintro w' ⟨s0, s1, s2, s3, s4, s5, s6, s7, s8, s9, s10⟩
                          go_simp
                          with_reducible rfl
                        rotate_left
                        · simp only [Act.put, List.setIfInBounds_toArray, List.set_cons_zero, List.set_cons_succ, i64_w, i32_w]
                          rfl
                        refine one_ (i := 3) (N := some 6) #[true, true, true, true, false, false, true, true, true, false, false, false, true, true, true, false, false, false, true, true, true, false, false, false, true, true, true, false, false, false, true, true, false, false, false] rfl rfl (one_of HT_.out (by kernel_rfl)) (by decide) (fun K hK => ?_)
                        refine goes_ Try.func65 (by kernel_rfl) rfl #[.int .i64 (wrap64 (a0_0)), .int .i64 2] (by rfl) rfl rfl (by (try simp only [List.map_toArray, List.map_cons, List.map_nil]); first | done | rfl | (simp only [List.length_drop, List.length_take]; rfl)) ?_
                        with_reducible refine (spec_HexText.calls k (wrap64 (a0_0)) 2 t110 _ A2.out).mono ?_
                        rintro e w' ⟨rfl, ⟨nd, rfl⟩⟩
                        refine ⟨_, rfl, ?_⟩
                        refine hK.out _ _ ⟨(blk_cell BK109.out 0).trans rfl, (blk_cell BK109.out 1).trans rfl, (blk_cell BK109.out 2).trans rfl, (blk_cell BK109.out 3).trans rfl, (blk_cell BK109.out 4).trans rfl, (blk_cell BK109.out 5).trans rfl, (blk_cell BK109.out 6).trans rfl, (blk_cell BK109.out 7).trans rfl, (blk_cell BK109.out 8).trans rfl, (blk_cell BK109.out 9).trans rfl, (blk_cell BK109.out 10).trans rfl⟩ (fun hHeld => ?_)
                        clear hK K
                        refine norm_ (a' := ?_) ?_ ?_
                        rotate_left
                        · show Act.put _ (some 6) _ = _
                          simp only [Act.put, List.setIfInBounds_toArray, List.set_cons_zero, List.set_cons_succ, i64_w, i32_w]
                          rfl
                        refine pure_ (i := 4) (N := some 7) (v := ?_) (a' := ?_) #[true, true, true, true, true, false, true, true, true, false, false, false, true, true, true, false, false, false, true, true, true, false, false, false, true, true, true, false, false, false, true, true, false, false, false] rfl rfl (any_of HT_.out (by kernel_rfl)) (fun _ _ _ h => h) (Or.inl ⟨by rfl, ?_⟩) ?_ ?_
                        rotate_left
                        · intro w'
                          go_simp
                          with_reducible rfl
                        rotate_left
                        · simp only [Act.put, List.setIfInBounds_toArray, List.set_cons_zero, List.set_cons_succ, i64_w, i32_w]
                          rfl
                        refine pure_ (i := 5) (N := some 8) (v := ?_) (a' := ?_) #[true, true, true, true, true, true, true, true, true, false, false, false, true, true, true, false, false, false, true, true, true, false, false, false, true, true, true, false, false, false, true, true, false, false, false] rfl rfl (any_of HT_.out (by kernel_rfl)) (fun _ _ _ h => h) (Or.inl ⟨by rfl, ?_⟩) ?_ ?_
                        rotate_left
                        · intro w'
                          go_simp
                          with_reducible rfl
                        rotate_left
                        · simp only [Act.put, List.setIfInBounds_toArray, List.set_cons_zero, List.set_cons_succ, i64_w, i32_w]
                          rfl
                        refine one_ (i := 9) (N := some 12) #[true, true, true, true, true, true, true, true, true, true, false, false, true, true, true, false, false, false, true, true, true, false, false, false, true, true, true, false, false, false, true, true, false, false, false] rfl rfl (one_of HT_.out (by kernel_rfl)) (by decide) (fun K hK => ?_)
                        refine goes_ Try.func65 (by kernel_rfl) rfl #[.int .i64 (wrap64 (a0_1)), .int .i64 2] (by rfl) rfl rfl (by (try simp only [List.map_toArray, List.map_cons, List.map_nil]); first | done | rfl | (simp only [List.length_drop, List.length_take]; rfl)) ?_
                        with_reducible refine (spec_HexText.calls k (wrap64 (a0_1)) 2 t111 _ A5.out).mono ?_
                        rintro e w' ⟨rfl, ⟨nd, rfl⟩⟩
                        refine ⟨_, rfl, ?_⟩
                        refine hK.out _ _ ⟨(blk_cell BK109.out 0).trans rfl, (blk_cell BK109.out 1).trans rfl, (blk_cell BK109.out 2).trans rfl, (blk_cell BK109.out 3).trans rfl, (blk_cell BK109.out 4).trans rfl, (blk_cell BK109.out 5).trans rfl, (blk_cell BK109.out 6).trans rfl, (blk_cell BK109.out 7).trans rfl, (blk_cell BK109.out 8).trans rfl, (blk_cell BK109.out 9).trans rfl, (blk_cell BK109.out 10).trans rfl⟩ (fun hHeld => ?_)
                        clear hK K
                        refine norm_ (a' := ?_) ?_ ?_
                        rotate_left
                        · show Act.put _ (some 12) _ = _
                          simp only [Act.put, List.setIfInBounds_toArray, List.set_cons_zero, List.set_cons_succ, i64_w, i32_w]
                          rfl
                        refine pure_ (i := 10) (N := some 13) (v := ?_) (a' := ?_) #[true, true, true, true, true, true, true, true, true, true, true, false, true, true, true, false, false, false, true, true, true, false, false, false, true, true, true, false, false, false, true, true, false, false, false] rfl rfl (any_of HT_.out (by kernel_rfl)) (fun _ _ _ h => h) (Or.inl ⟨by rfl, ?_⟩) ?_ ?_
                        rotate_left
                        · intro w'
                          go_simp
                          with_reducible rfl
                        rotate_left
                        · simp only [Act.put, List.setIfInBounds_toArray, List.set_cons_zero, List.set_cons_succ, i64_w, i32_w]
                          rfl
                        refine pure_ (i := 11) (N := some 14) (v := ?_) (a' := ?_) #[true, true, true, true, true, true, true, true, true, true, true, true, true, true, true, false, false, false, true, true, true, false, false, false, true, true, true, false, false, false, true, true, false, false, false] rfl rfl (any_of HT_.out (by kernel_rfl)) (fun _ _ _ h => h) (Or.inl ⟨by rfl, ?_⟩) ?_ ?_
                        rotate_left
                        · intro w'
                          go_simp
                          with_reducible rfl
                        rotate_left
                        · simp only [Act.put, List.setIfInBounds_toArray, List.set_cons_zero, List.set_cons_succ, i64_w, i32_w]
                          rfl
                        refine one_ (i := 15) (N := some 18) #[true, true, true, true, true, true, true, true, true, true, true, true, true, true, true, true, false, false, true, true, true, false, false, false, true, true, true, false, false, false, true, true, false, false, false] rfl rfl (one_of HT_.out (by kernel_rfl)) (by decide) (fun K hK => ?_)
                        refine goes_ Try.func65 (by kernel_rfl) rfl #[.int .i64 (wrap64 (a0_2)), .int .i64 2] (by rfl) rfl rfl (by (try simp only [List.map_toArray, List.map_cons, List.map_nil]); first | done | rfl | (simp only [List.length_drop, List.length_take]; rfl)) ?_
                        with_reducible refine (spec_HexText.calls k (wrap64 (a0_2)) 2 t112 _ A8.out).mono ?_
                        rintro e w' ⟨rfl, ⟨nd, rfl⟩⟩
                        refine ⟨_, rfl, ?_⟩
                        refine hK.out _ _ ⟨(blk_cell BK109.out 0).trans rfl, (blk_cell BK109.out 1).trans rfl, (blk_cell BK109.out 2).trans rfl, (blk_cell BK109.out 3).trans rfl, (blk_cell BK109.out 4).trans rfl, (blk_cell BK109.out 5).trans rfl, (blk_cell BK109.out 6).trans rfl, (blk_cell BK109.out 7).trans rfl, (blk_cell BK109.out 8).trans rfl, (blk_cell BK109.out 9).trans rfl, (blk_cell BK109.out 10).trans rfl⟩ (fun hHeld => ?_)
                        clear hK K
                        refine norm_ (a' := ?_) ?_ ?_
                        rotate_left
                        · show Act.put _ (some 18) _ = _
                          simp only [Act.put, List.setIfInBounds_toArray, List.set_cons_zero, List.set_cons_succ, i64_w, i32_w]
                          rfl
                        refine pure_ (i := 16) (N := some 19) (v := ?_) (a' := ?_) #[true, true, true, true, true, true, true, true, true, true, true, true, true, true, true, true, true, false, true, true, true, false, false, false, true, true, true, false, false, false, true, true, false, false, false] rfl rfl (any_of HT_.out (by kernel_rfl)) (fun _ _ _ h => h) (Or.inl ⟨by rfl, ?_⟩) ?_ ?_
                        rotate_left
                        · intro w'
                          go_simp
                          with_reducible rfl
                        rotate_left
                        · simp only [Act.put, List.setIfInBounds_toArray, List.set_cons_zero, List.set_cons_succ, i64_w, i32_w]
                          rfl
                        refine pure_ (i := 17) (N := some 20) (v := ?_) (a' := ?_) #[true, true, true, true, true, true, true, true, true, true, true, true, true, true, true, true, true, true, true, true, true, false, false, false, true, true, true, false, false, false, true, true, false, false, false] rfl rfl (any_of HT_.out (by kernel_rfl)) (fun _ _ _ h => h) (Or.inl ⟨by rfl, ?_⟩) ?_ ?_
                        rotate_left
                        · intro w'
                          go_simp
                          with_reducible rfl
                        rotate_left
                        · simp only [Act.put, List.setIfInBounds_toArray, List.set_cons_zero, List.set_cons_succ, i64_w, i32_w]
                          rfl
                        refine one_ (i := 21) (N := some 24) #[true, true, true, true, true, true, true, true, true, true, true, true, true, true, true, true, true, true, true, true, true, true, false, false, true, true, true, false, false, false, true, true, false, false, false] rfl rfl (one_of HT_.out (by kernel_rfl)) (by decide) (fun K hK => ?_)
                        refine goes_ Try.func65 (by kernel_rfl) rfl #[.int .i64 (wrap64 (a0_3)), .int .i64 2] (by rfl) rfl rfl (by (try simp only [List.map_toArray, List.map_cons, List.map_nil]); first | done | rfl | (simp only [List.length_drop, List.length_take]; rfl)) ?_
                        with_reducible refine (spec_HexText.calls k (wrap64 (a0_3)) 2 t113 _ A11.out).mono ?_
                        rintro e w' ⟨rfl, ⟨nd, rfl⟩⟩
                        refine ⟨_, rfl, ?_⟩
                        refine hK.out _ _ ⟨(blk_cell BK109.out 0).trans rfl, (blk_cell BK109.out 1).trans rfl, (blk_cell BK109.out 2).trans rfl, (blk_cell BK109.out 3).trans rfl, (blk_cell BK109.out 4).trans rfl, (blk_cell BK109.out 5).trans rfl, (blk_cell BK109.out 6).trans rfl, (blk_cell BK109.out 7).trans rfl, (blk_cell BK109.out 8).trans rfl, (blk_cell BK109.out 9).trans rfl, (blk_cell BK109.out 10).trans rfl⟩ (fun hHeld => ?_)
                        clear hK K
                        refine norm_ (a' := ?_) ?_ ?_
                        rotate_left
                        · show Act.put _ (some 24) _ = _
                          simp only [Act.put, List.setIfInBounds_toArray, List.set_cons_zero, List.set_cons_succ, i64_w, i32_w]
                          rfl
                        refine pure_ (i := 22) (N := some 25) (v := ?_) (a' := ?_) #[true, true, true, true, true, true, true, true, true, true, true, true, true, true, true, true, true, true, true, true, true, true, true, false, true, true, true, false, false, false, true, true, false, false, false] rfl rfl (any_of HT_.out (by kernel_rfl)) (fun _ _ _ h => h) (Or.inl ⟨by rfl, ?_⟩) ?_ ?_
                        rotate_left
                        · intro w'
                          go_simp
                          with_reducible rfl
                        rotate_left
                        · simp only [Act.put, List.setIfInBounds_toArray, List.set_cons_zero, List.set_cons_succ, i64_w, i32_w]
                          rfl
                        refine pure_ (i := 23) (N := some 26) (v := ?_) (a' := ?_) #[true, true, true, true, true, true, true, true, true, true, true, true, true, true, true, true, true, true, true, true, true, true, true, true, true, true, true, false, false, false, true, true, false, false, false] rfl rfl (any_of HT_.out (by kernel_rfl)) (fun _ _ _ h => h) (Or.inl ⟨by rfl, ?_⟩) ?_ ?_
                        rotate_left
                        · intro w'
                          go_simp
                          with_reducible rfl
                        rotate_left
                        · simp only [Act.put, List.setIfInBounds_toArray, List.set_cons_zero, List.set_cons_succ, i64_w, i32_w]
                          rfl
                        refine one_ (i := 27) (N := some 30) #[true, true, true, true, true, true, true, true, true, true, true, true, true, true, true, true, true, true, true, true, true, true, true, true, true, true, true, true, false, false, true, true, false, false, false] rfl rfl (one_of HT_.out (by kernel_rfl)) (by decide) (fun K hK => ?_)
                        refine goes_ Try.func65 (by kernel_rfl) rfl #[.int .i64 (wrap64 (a0_4)), .int .i64 4] (by rfl) rfl rfl (by (try simp only [List.map_toArray, List.map_cons, List.map_nil]); first | done | rfl | (simp only [List.length_drop, List.length_take]; rfl)) ?_
                        with_reducible refine (spec_HexText.calls k (wrap64 (a0_4)) 4 t114 _ A14.out).mono ?_
                        rintro e w' ⟨rfl, ⟨nd, rfl⟩⟩
                        refine ⟨_, rfl, ?_⟩
                        refine hK.out _ _ ⟨(blk_cell BK109.out 0).trans rfl, (blk_cell BK109.out 1).trans rfl, (blk_cell BK109.out 2).trans rfl, (blk_cell BK109.out 3).trans rfl, (blk_cell BK109.out 4).trans rfl, (blk_cell BK109.out 5).trans rfl, (blk_cell BK109.out 6).trans rfl, (blk_cell BK109.out 7).trans rfl, (blk_cell BK109.out 8).trans rfl, (blk_cell BK109.out 9).trans rfl, (blk_cell BK109.out 10).trans rfl⟩ (fun hHeld => ?_)
                        clear hK K
                        refine norm_ (a' := ?_) ?_ ?_
                        rotate_left
                        · show Act.put _ (some 30) _ = _
                          simp only [Act.put, List.setIfInBounds_toArray, List.set_cons_zero, List.set_cons_succ, i64_w, i32_w]
                          rfl
                        refine pure_ (i := 28) (N := some 31) (v := ?_) (a' := ?_) #[true, true, true, true, true, true, true, true, true, true, true, true, true, true, true, true, true, true, true, true, true, true, true, true, true, true, true, true, true, false, true, true, false, false, false] rfl rfl (any_of HT_.out (by kernel_rfl)) (fun _ _ _ h => h) (Or.inl ⟨by rfl, ?_⟩) ?_ ?_
                        rotate_left
                        · intro w'
                          go_simp
                          with_reducible rfl
                        rotate_left
                        · simp only [Act.put, List.setIfInBounds_toArray, List.set_cons_zero, List.set_cons_succ, i64_w, i32_w]
                          rfl
                        refine pure_ (i := 29) (N := some 32) (v := ?_) (a' := ?_) #[true, true, true, true, true, true, true, true, true, true, true, true, true, true, true, true, true, true, true, true, true, true, true, true, true, true, true, true, true, true, true, true, false, false, false] rfl rfl (any_of HT_.out (by kernel_rfl)) (fun _ _ _ h => h) (Or.inl ⟨by rfl, ?_⟩) ?_ ?_
                        rotate_left
                        · intro w'
                          go_simp
                          with_reducible rfl
                        rotate_left
                        · simp only [Act.put, List.setIfInBounds_toArray, List.set_cons_zero, List.set_cons_succ, i64_w, i32_w]
                          rfl
                        refine one_ (i := 32) (N := some 35) #[true, true, true, true, true, true, true, true, true, true, true, true, true, true, true, true, true, true, true, true, true, true, true, true, true, true, true, true, true, true, true, true, true, false, false] rfl rfl (one_of HT_.out (by kernel_rfl)) (by decide) (fun K hK => ?_)
                        refine goes_ Try.func66 (by kernel_rfl) rfl #[.agg #[.bool a0_5, .bool a0_6, .bool a0_7, .bool a0_8, .bool a0_9, .bool a0_10]] (by rfl) rfl rfl (by (try simp only [List.map_toArray, List.map_cons, List.map_nil]); first | done | rfl | (simp only [List.length_drop, List.length_take]; rfl)) ?_
                        with_reducible refine (spec_l05Flags.calls a0_5 a0_6 a0_7 a0_8 a0_9 a0_10 t115 _ A17.out).mono ?_
                        rintro e w21 ⟨rfl, hb⟩
                        refine ⟨_, rfl, ?_⟩
                        have n0_ := Aside0.mk (blk_below (g := gb109) (o := .cells #[.int .u8 a0_0, .int .u8 a0_1, .int .u8 a0_2, .int .u8 a0_3, .int .u16 a0_4, .bool a0_5, .bool a0_6, .bool a0_7, .bool a0_8, .bool a0_9, .bool a0_10] 42 (0, 0)) (by (with_reducible repeat (first | refine blk_drewN ?_ _ | refine blk_drew ?_ | refine blk_alloc ?_ _)); exact BK109.out) hb)
                        have n1_ := Aside0.mk (below_step (by repeat (first | (with_reducible first | exact HB.out | apply below_alloc | apply pw_below_drewN | apply below_drew1 | refine below_set ?_ GE109.out) | exact HB.out)) hb)
                        clear BK109
                        clear HB
                        have BK109 := n0_
                        have HB := n1_
                        clear n0_ n1_
                        (try clear hb)
                        (try clear hb2)
                        (try clear hk)
                        (try clear hi)
                        refine hK.out _ _ ⟨(blk_cell BK109.out 0).trans rfl, (blk_cell BK109.out 1).trans rfl, (blk_cell BK109.out 2).trans rfl, (blk_cell BK109.out 3).trans rfl, (blk_cell BK109.out 4).trans rfl, (blk_cell BK109.out 5).trans rfl, (blk_cell BK109.out 6).trans rfl, (blk_cell BK109.out 7).trans rfl, (blk_cell BK109.out 8).trans rfl, (blk_cell BK109.out 9).trans rfl, (blk_cell BK109.out 10).trans rfl⟩ (fun hHeld => ?_)
                        clear hK K
                        refine norm_ (a' := ?_) ?_ ?_
                        rotate_left
                        · show Act.put _ (some 35) _ = _
                          simp only [Act.put, List.setIfInBounds_toArray, List.set_cons_zero, List.set_cons_succ, i64_w, i32_w]
                          rfl
                        refine pure_ (i := 33) (N := some 36) (v := ?_) (a' := ?_) #[true, true, true, true, true, true, true, true, true, true, true, true, true, true, true, true, true, true, true, true, true, true, true, true, true, true, true, true, true, true, true, true, true, true, false] rfl rfl (any_of HT_.out (by kernel_rfl)) (fun _ _ _ h => h) (Or.inl ⟨by rfl, ?_⟩) ?_ ?_
                        rotate_left
                        · intro w'
                          go_simp
                          with_reducible rfl
                        rotate_left
                        · simp only [Act.put, List.setIfInBounds_toArray, List.set_cons_zero, List.set_cons_succ, i64_w, i32_w]
                          rfl
                        refine pure_ (i := 34) (N := some 2) (v := ?_) (a' := ?_) #[true, true, true, true, true, true, true, true, true, true, true, true, true, true, true, true, true, true, true, true, true, true, true, true, true, true, true, true, true, true, true, true, true, true, true] rfl rfl (any_of HT_.out (by kernel_rfl)) (fun _ _ _ h => h) (Or.inl ⟨by rfl, ?_⟩) ?_ ?_
                        rotate_left
                        · intro w'
                          go_simp
                          with_reducible rfl
                        rotate_left
                        · simp only [Act.put, List.setIfInBounds_toArray, List.set_cons_zero, List.set_cons_succ, i64_w, i32_w]
                          rfl
                        refine done_ (done_of HT_.out (by kernel_rfl)) ?_
                        try go_wp2
                        go_ret
                        exact ⟨by first | rfl | (simp [errW_none, errW_some] <;> rfl) | (simp [*, errW_none, errW_some] <;> rfl), by repeat (first | (with_reducible first | exact HB.out | apply below_alloc | apply pw_below_drewN | apply below_drew1 | refine below_set ?_ GE109.out) | exact HB.out)⟩
                      · rw [if_neg c18] at H
                        exact absurd H (by simp)
                    · rw [if_neg c16] at H
                      exact absurd H (by simp)
                  · rw [if_neg c15] at H
                    exact absurd H (by simp)
                · rw [if_neg c13] at H
                  exact absurd H (by simp)
              · rw [if_neg c12] at H
                exact absurd H (by simp)
            · rw [if_neg c10] at H
              exact absurd H (by simp)
          · rw [if_neg c9] at H
            exact absurd H (by simp)
        · rw [if_neg c7] at H
          exact absurd H (by simp)
      · rw [if_neg c6] at H
        exact absurd H (by simp)
    · rw [if_neg c4] at H
      exact absurd H (by simp)
  · rw [if_neg c3] at H
    exact absurd H (by simp)

end Go.Proofs.Ythdeemkhbajfgaa.PCpu
