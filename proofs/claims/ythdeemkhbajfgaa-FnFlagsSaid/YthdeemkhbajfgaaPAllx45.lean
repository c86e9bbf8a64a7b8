/- Functions of the program as plain Lean functions, each with a proof that the machine's call comes to it; written for this seat's claims by a program of mine. -/
import Derived.Test.YthdeemkhbajfgaaPAllx0
import Derived.Test.YthdeemkhbajfgaaPAllx1
import Derived.Test.YthdeemkhbajfgaaPAllx33
import Derived.Test.YthdeemkhbajfgaaPAllx41
import Derived.Test.YthdeemkhbajfgaaPAllx42
import Derived.Test.YthdeemkhbajfgaaPAllx43
import Derived.Test.YthdeemkhbajfgaaPAllx44
namespace Go.Proofs.Ythdeemkhbajfgaa.PAll
open Go.RowKit Go.Proofs.YthdeemkhbajfgaaW.PrintWords Go.Proofs.YthdeemkhbajfgaaW.PrintLast Go.Proofs.YthdeemkhbajfgaaW.PrintMore
attribute [local go_sem] max2_int min2_int max_two min_two max_three min_three max_four min_four   -- for this text's walks alone
attribute [local go_sem] Go.Proofs.Ythdeemkhbajfgaa.Cell.cell_set_off
set_option linter.unusedVariables false
set_option linter.unusedSimpArgs false

attribute [local go_sem high] eqA40
/-! ### laws_FnFlags: function 11 -/
def laws_FnFlags.f (k : Nat) (l0 : List Int) : Option (Bool) := (laws_big.f l0).bind fun t739 => (if t739 = true then (some true) else ((spec_DrawPackP.f k l0).bind fun bt740 => ((impl_PackP.f bt740.1 bt740.2.1 bt740.2.2.1 bt740.2.2.2.1 bt740.2.2.2.2.1 bt740.2.2.2.2.2.1 bt740.2.2.2.2.2.2).bind fun t748 => ((spec_DrawCmp.f k l0).bind fun bt749 => ((impl_Cmp.f bt749.1 bt749.2.1 bt749.2.2.1 bt749.2.2.2.1 bt749.2.2.2.2.1 bt749.2.2.2.2.2.1 bt749.2.2.2.2.2.2.1 bt749.2.2.2.2.2.2.2).bind fun bt758 => ((impl_UnpackP.f t748).bind fun bt765 => (if (bt765.1 == bt740.1 && (bt765.2.1 == bt740.2.1 && (bt765.2.2.1 == bt740.2.2.1 && (bt765.2.2.2.1 == bt740.2.2.2.1 && (bt765.2.2.2.2.1 == bt740.2.2.2.2.1 && (bt765.2.2.2.2.2 == bt740.2.2.2.2.2.1)))))) = true then ((impl_UnpackP.f (Go.bits .xor .u8 t748 48)).bind fun bt771 => (if (bt771.1 == bt740.1 && (bt771.2.1 == bt740.2.1 && (bt771.2.2.1 == bt740.2.2.1 && (bt771.2.2.2.1 == bt740.2.2.2.1 && (bt771.2.2.2.2.1 == bt740.2.2.2.2.1 && (bt771.2.2.2.2.2 == bt740.2.2.2.2.2.1)))))) = true then ((spec_PackP.f bt740.1 bt740.2.1 bt740.2.2.1 bt740.2.2.2.1 bt740.2.2.2.2.1 bt740.2.2.2.2.2.1 bt740.2.2.2.2.2.2).bind fun t777 => (if t748 = t777 then (if (bt758.2.2.2.2.2 == (decide (bt749.1 ≥ bt749.2.1))) = true then (if (bt758.2.2.2.2.1 == (bt749.1 == bt749.2.1)) = true then (if (bt758.2.1 == bt749.2.2.2.1) = true then (some (bt758.2.2.1 == bt749.2.2.2.2.1)) else (some false)) else (some false)) else (some false)) else (some false))) else (some false))) else (some false))))))))
theorem laws_FnFlags.mono : ∀ a0 k, LeO (laws_FnFlags.f k a0) (laws_FnFlags.f (k + 1) a0) := by
  intro a0 k
  unfold laws_FnFlags.f
  repeat' first
      | (with_reducible exact spec_DrawCmp.mono _ _)
      | (with_reducible exact spec_DrawPackP.mono _ _)
      | (with_reducible exact LeO.refl _)
      | (with_reducible exact LeO.none _)
      | (with_reducible refine LeO.ite ?_ ?_)
      | (with_reducible refine LeO.bind ?_ (fun _ => ?_))
      | exact spec_DrawCmp.mono _ _
      | exact spec_DrawPackP.mono _ _
      | exact LeO.none _
      | refine LeO.ite ?_ ?_
      | refine LeO.bind ?_ (fun _ => ?_)
def laws_FnFlags.T7 : Bool × List (List Nat × List Nat) := (true, [([], []), ([0], [0]), ([], []), ([1, 2], [1, 2]), ([3, 1], [3]), ([4], [4]), ([5, 4], [4, 5]), ([6, 4, 4], [4, 6]), ([4], [4]), ([7, 8, 4], [4, 7, 8]), ([4, 9], [4, 9]), ([10, 7], [10]), ([11], [11]), ([11], [11]), ([11], [11]), ([13, 14, 11, 11], [11, 13, 14]), ([12, 15, 11], [11, 12, 15]), ([11, 16], [11, 16]), ([17, 15], [17]), ([18], [18]), ([19, 18], [18, 19]), ([18], [18]), ([18], [18]), ([21, 22, 18], [18, 21, 22]), ([20, 23, 18], [18, 20, 23]), ([18, 24], [18, 24]), ([25, 18], [25]), ([26], [26]), ([27, 26], [26, 27]), ([26], [26]), ([26], [26]), ([29, 30, 26], [26, 29, 30]), ([28, 31, 26], [26, 28, 31]), ([26, 32], [26, 32]), ([33, 26], [33]), ([34], [34]), ([35, 34], [34, 35]), ([34], [34]), ([37, 34], [34, 37]), ([36, 38, 34], [34, 36, 38]), ([34, 39], [34, 39]), ([40, 34], [40]), ([41], [41]), ([42, 41], [41, 42]), ([41], [41]), ([44, 41], [41, 44]), ([43, 45, 41], [41, 43, 45]), ([41, 46], [41, 46]), ([47, 41, 0, 1, 2, 3, 4, 5, 6, 7, 8, 9, 10, 11, 12, 13, 14, 15, 16, 17, 18, 19, 20, 21, 22, 23, 24, 25, 26, 27, 28, 29, 30, 31, 32, 33, 34, 35, 36, 37, 38, 39, 40, 41, 42, 43, 44, 45, 46, 47], [47])])
def laws_FnFlags.B7 : List Nat := [0, 1, 0, 7, 15, 31, 63, 127, 31, 511, 1023, 2047, 4095, 4095, 4095, 28671, 65535, 131071, 262143, 524287, 1048575, 524287, 524287, 6815743, 16777215, 33554431, 67108863, 134217727, 268435455, 134217727, 134217727, 1744830463, 4294967295, 8589934591, 17179869183, 34359738367, 68719476735, 34359738367, 171798691839, 549755813887, 1099511627775, 2199023255551, 4398046511103, 8796093022207, 4398046511103, 21990232555519, 70368744177663, 140737488355327, 281474976710655]
theorem laws_FnFlags.tab7 : rtab .any (opsOf Try.f11 7) = laws_FnFlags.T7 := by kernel_rfl
theorem laws_FnFlags.bits7 : waitsOk laws_FnFlags.T7.2 laws_FnFlags.B7 = true := by kernel_rfl
set_option maxHeartbeats 8000000 in
set_option maxRecDepth 100000 in
theorem laws_FnFlags.calls (k : Nat) (A0 : Option Addr) (c0 : Nat) (l0 : List Int) (r : Bool) (hrt_ : Aside0 (r = true)) (w : World) (hr0 : Kd.C (Kd.int .u8) w A0 l0.length l0) (hc0 : l0.length ≤ c0) (h : laws_FnFlags.f k l0 = some r) :
    Calls Try.prog 11 #[.slice A0 l0.length c0] w fun e w' => e = .returned (.bool r) ∧ Below w.heap.size w w' := by
  have hu40 := Try.underlying40
  have HR0 := Aside0.mk hr0
  have HC0 := Aside0.mk hc0
  clear hr0 hc0
  have HB := Aside0.mk (Below.refl w.heap.size w)
  have H : ((laws_big.f l0).bind fun t739 => (if t739 = true then (some true) else ((spec_DrawPackP.f k l0).bind fun bt740 => ((impl_PackP.f bt740.1 bt740.2.1 bt740.2.2.1 bt740.2.2.2.1 bt740.2.2.2.2.1 bt740.2.2.2.2.2.1 bt740.2.2.2.2.2.2).bind fun t748 => ((spec_DrawCmp.f k l0).bind fun bt749 => ((impl_Cmp.f bt749.1 bt749.2.1 bt749.2.2.1 bt749.2.2.2.1 bt749.2.2.2.2.1 bt749.2.2.2.2.2.1 bt749.2.2.2.2.2.2.1 bt749.2.2.2.2.2.2.2).bind fun bt758 => ((impl_UnpackP.f t748).bind fun bt765 => (if (bt765.1 == bt740.1 && (bt765.2.1 == bt740.2.1 && (bt765.2.2.1 == bt740.2.2.1 && (bt765.2.2.2.1 == bt740.2.2.2.1 && (bt765.2.2.2.2.1 == bt740.2.2.2.2.1 && (bt765.2.2.2.2.2 == bt740.2.2.2.2.2.1)))))) = true then ((impl_UnpackP.f (Go.bits .xor .u8 t748 48)).bind fun bt771 => (if (bt771.1 == bt740.1 && (bt771.2.1 == bt740.2.1 && (bt771.2.2.1 == bt740.2.2.1 && (bt771.2.2.2.1 == bt740.2.2.2.1 && (bt771.2.2.2.2.1 == bt740.2.2.2.2.1 && (bt771.2.2.2.2.2 == bt740.2.2.2.2.2.1)))))) = true then ((spec_PackP.f bt740.1 bt740.2.1 bt740.2.2.1 bt740.2.2.2.1 bt740.2.2.2.2.1 bt740.2.2.2.2.2.1 bt740.2.2.2.2.2.2).bind fun t777 => (if t748 = t777 then (if (bt758.2.2.2.2.2 == (decide (bt749.1 ≥ bt749.2.1))) = true then (if (bt758.2.2.2.2.1 == (bt749.1 == bt749.2.1)) = true then (if (bt758.2.1 == bt749.2.2.2.1) = true then (some (bt758.2.2.1 == bt749.2.2.2.2.1)) else (some false)) else (some false)) else (some false)) else (some false))) else (some false))) else (some false))))))))) = some r := h
  clear h
  replace H := Option.bind_eq_some_iff.mp H
  obtain ⟨t739, A20, H⟩ := H
  replace H : (if t739 = true then (some true) else ((spec_DrawPackP.f k l0).bind fun bt740 => ((impl_PackP.f bt740.1 bt740.2.1 bt740.2.2.1 bt740.2.2.2.1 bt740.2.2.2.2.1 bt740.2.2.2.2.2.1 bt740.2.2.2.2.2.2).bind fun t748 => ((spec_DrawCmp.f k l0).bind fun bt749 => ((impl_Cmp.f bt749.1 bt749.2.1 bt749.2.2.1 bt749.2.2.2.1 bt749.2.2.2.2.1 bt749.2.2.2.2.2.1 bt749.2.2.2.2.2.2.1 bt749.2.2.2.2.2.2.2).bind fun bt758 => ((impl_UnpackP.f t748).bind fun bt765 => (if (bt765.1 == bt740.1 && (bt765.2.1 == bt740.2.1 && (bt765.2.2.1 == bt740.2.2.1 && (bt765.2.2.2.1 == bt740.2.2.2.1 && (bt765.2.2.2.2.1 == bt740.2.2.2.2.1 && (bt765.2.2.2.2.2 == bt740.2.2.2.2.2.1)))))) = true then ((impl_UnpackP.f (Go.bits .xor .u8 t748 48)).bind fun bt771 => (if (bt771.1 == bt740.1 && (bt771.2.1 == bt740.2.1 && (bt771.2.2.1 == bt740.2.2.1 && (bt771.2.2.2.1 == bt740.2.2.2.1 && (bt771.2.2.2.2.1 == bt740.2.2.2.2.1 && (bt771.2.2.2.2.2 == bt740.2.2.2.2.2.1)))))) = true then ((spec_PackP.f bt740.1 bt740.2.1 bt740.2.2.1 bt740.2.2.2.1 bt740.2.2.2.2.1 bt740.2.2.2.2.2.1 bt740.2.2.2.2.2.2).bind fun t777 => (if t748 = t777 then (if (bt758.2.2.2.2.2 == (decide (bt749.1 ≥ bt749.2.1))) = true then (if (bt758.2.2.2.2.1 == (bt749.1 == bt749.2.1)) = true then (if (bt758.2.1 == bt749.2.2.2.1) = true then (some (bt758.2.2.1 == bt749.2.2.2.2.1)) else (some false)) else (some false)) else (some false)) else (some false))) else (some false))) else (some false)))))))) = some r := H
  have A2 := Aside0.mk A20
  clear A20
  by_cases c3 : t739 = true
  · subst c3
    have H1 : (some true) = some r := by rw [if_pos rfl] at H; exact H
    clear H
    have H := H1
    clear H1
    obtain rfl := Option.some.inj H
    go_enter Try.func11, Try.ntmps11
    go_wp2_with (first | ((with_reducible refine gate_callee (f := 46) rfl ?_); refine goesL_ (some 11) rfl rfl Try.func46 (by kernel_rfl) rfl #[.slice A0 l0.length c0] rfl (by (try simp only [List.map_toArray, List.map_cons, List.map_nil]); first | done | rfl | (simp only [List.length_drop, List.length_take]; rfl)) ?_; (with_reducible refine (laws_big.calls _ _ l0 true _ ?side1 ?side2 A2.out).mono ?_); (case side1 => repeat (first | exact HR0.out | (with_reducible refine Kd.C_alloc ?_ _) | (with_reducible refine Kd.C_drewN ?_ _) | (with_reducible refine Kd.C_drew ?_))); (case side2 => exact HC0.out); rintro e w' ⟨rfl, ⟨nd, rfl⟩⟩; refine ⟨_, rfl, ?_⟩))
    go_ret
    exact ⟨by first | rfl | (simp [errW_none, errW_some] <;> rfl) | (simp [*, errW_none, errW_some] <;> rfl), by repeat (first | (with_reducible first | exact HB.out | apply below_alloc | apply pw_below_drewN | apply below_drew1) | exact HB.out)⟩
  · replace c3 := Bool.eq_false_iff.mpr c3
    subst c3
    have H1 : ((spec_DrawPackP.f k l0).bind fun bt740 => ((impl_PackP.f bt740.1 bt740.2.1 bt740.2.2.1 bt740.2.2.2.1 bt740.2.2.2.2.1 bt740.2.2.2.2.2.1 bt740.2.2.2.2.2.2).bind fun t748 => ((spec_DrawCmp.f k l0).bind fun bt749 => ((impl_Cmp.f bt749.1 bt749.2.1 bt749.2.2.1 bt749.2.2.2.1 bt749.2.2.2.2.1 bt749.2.2.2.2.2.1 bt749.2.2.2.2.2.2.1 bt749.2.2.2.2.2.2.2).bind fun bt758 => ((impl_UnpackP.f t748).bind fun bt765 => (if (bt765.1 == bt740.1 && (bt765.2.1 == bt740.2.1 && (bt765.2.2.1 == bt740.2.2.1 && (bt765.2.2.2.1 == bt740.2.2.2.1 && (bt765.2.2.2.2.1 == bt740.2.2.2.2.1 && (bt765.2.2.2.2.2 == bt740.2.2.2.2.2.1)))))) = true then ((impl_UnpackP.f (Go.bits .xor .u8 t748 48)).bind fun bt771 => (if (bt771.1 == bt740.1 && (bt771.2.1 == bt740.2.1 && (bt771.2.2.1 == bt740.2.2.1 && (bt771.2.2.2.1 == bt740.2.2.2.1 && (bt771.2.2.2.2.1 == bt740.2.2.2.2.1 && (bt771.2.2.2.2.2 == bt740.2.2.2.2.2.1)))))) = true then ((spec_PackP.f bt740.1 bt740.2.1 bt740.2.2.1 bt740.2.2.2.1 bt740.2.2.2.2.1 bt740.2.2.2.2.2.1 bt740.2.2.2.2.2.2).bind fun t777 => (if t748 = t777 then (if (bt758.2.2.2.2.2 == (decide (bt749.1 ≥ bt749.2.1))) = true then (if (bt758.2.2.2.2.1 == (bt749.1 == bt749.2.1)) = true then (if (bt758.2.1 == bt749.2.2.2.1) = true then (some (bt758.2.2.1 == bt749.2.2.2.2.1)) else (some false)) else (some false)) else (some false)) else (some false))) else (some false))) else (some false))))))) = some r := by rw [if_neg (show ¬ (false = true) by decide)] at H; exact H
    clear H
    have H := H1
    clear H1
    replace H := Option.bind_eq_some_iff.mp H
    obtain ⟨⟨t740, t741, t742, t743, t744, t745, t746⟩, A40, H⟩ := H
    replace H : ((impl_PackP.f t740 t741 t742 t743 t744 t745 t746).bind fun t748 => ((spec_DrawCmp.f k l0).bind fun bt749 => ((impl_Cmp.f bt749.1 bt749.2.1 bt749.2.2.1 bt749.2.2.2.1 bt749.2.2.2.2.1 bt749.2.2.2.2.2.1 bt749.2.2.2.2.2.2.1 bt749.2.2.2.2.2.2.2).bind fun bt758 => ((impl_UnpackP.f t748).bind fun bt765 => (if (bt765.1 == t740 && (bt765.2.1 == t741 && (bt765.2.2.1 == t742 && (bt765.2.2.2.1 == t743 && (bt765.2.2.2.2.1 == t744 && (bt765.2.2.2.2.2 == t745)))))) = true then ((impl_UnpackP.f (Go.bits .xor .u8 t748 48)).bind fun bt771 => (if (bt771.1 == t740 && (bt771.2.1 == t741 && (bt771.2.2.1 == t742 && (bt771.2.2.2.1 == t743 && (bt771.2.2.2.2.1 == t744 && (bt771.2.2.2.2.2 == t745)))))) = true then ((spec_PackP.f t740 t741 t742 t743 t744 t745 t746).bind fun t777 => (if t748 = t777 then (if (bt758.2.2.2.2.2 == (decide (bt749.1 ≥ bt749.2.1))) = true then (if (bt758.2.2.2.2.1 == (bt749.1 == bt749.2.1)) = true then (if (bt758.2.1 == bt749.2.2.2.1) = true then (some (bt758.2.2.1 == bt749.2.2.2.2.1)) else (some false)) else (some false)) else (some false)) else (some false))) else (some false))) else (some false)))))) = some r := H
    have A4 := Aside0.mk A40
    clear A40
    replace H := Option.bind_eq_some_iff.mp H
    obtain ⟨t748, A50, H⟩ := H
    replace H : ((spec_DrawCmp.f k l0).bind fun bt749 => ((impl_Cmp.f bt749.1 bt749.2.1 bt749.2.2.1 bt749.2.2.2.1 bt749.2.2.2.2.1 bt749.2.2.2.2.2.1 bt749.2.2.2.2.2.2.1 bt749.2.2.2.2.2.2.2).bind fun bt758 => ((impl_UnpackP.f t748).bind fun bt765 => (if (bt765.1 == t740 && (bt765.2.1 == t741 && (bt765.2.2.1 == t742 && (bt765.2.2.2.1 == t743 && (bt765.2.2.2.2.1 == t744 && (bt765.2.2.2.2.2 == t745)))))) = true then ((impl_UnpackP.f (Go.bits .xor .u8 t748 48)).bind fun bt771 => (if (bt771.1 == t740 && (bt771.2.1 == t741 && (bt771.2.2.1 == t742 && (bt771.2.2.2.1 == t743 && (bt771.2.2.2.2.1 == t744 && (bt771.2.2.2.2.2 == t745)))))) = true then ((spec_PackP.f t740 t741 t742 t743 t744 t745 t746).bind fun t777 => (if t748 = t777 then (if (bt758.2.2.2.2.2 == (decide (bt749.1 ≥ bt749.2.1))) = true then (if (bt758.2.2.2.2.1 == (bt749.1 == bt749.2.1)) = true then (if (bt758.2.1 == bt749.2.2.2.1) = true then (some (bt758.2.2.1 == bt749.2.2.2.2.1)) else (some false)) else (some false)) else (some false)) else (some false))) else (some false))) else (some false))))) = some r := H
    have A5 := Aside0.mk A50
    clear A50
    replace H := Option.bind_eq_some_iff.mp H
    obtain ⟨⟨t749, t750, t751, t752, t753, t754, t755, t756⟩, A60, H⟩ := H
    replace H : ((impl_Cmp.f t749 t750 t751 t752 t753 t754 t755 t756).bind fun bt758 => ((impl_UnpackP.f t748).bind fun bt765 => (if (bt765.1 == t740 && (bt765.2.1 == t741 && (bt765.2.2.1 == t742 && (bt765.2.2.2.1 == t743 && (bt765.2.2.2.2.1 == t744 && (bt765.2.2.2.2.2 == t745)))))) = true then ((impl_UnpackP.f (Go.bits .xor .u8 t748 48)).bind fun bt771 => (if (bt771.1 == t740 && (bt771.2.1 == t741 && (bt771.2.2.1 == t742 && (bt771.2.2.2.1 == t743 && (bt771.2.2.2.2.1 == t744 && (bt771.2.2.2.2.2 == t745)))))) = true then ((spec_PackP.f t740 t741 t742 t743 t744 t745 t746).bind fun t777 => (if t748 = t777 then (if (bt758.2.2.2.2.2 == (decide (t749 ≥ t750))) = true then (if (bt758.2.2.2.2.1 == (t749 == t750)) = true then (if (bt758.2.1 == t752) = true then (some (bt758.2.2.1 == t753)) else (some false)) else (some false)) else (some false)) else (some false))) else (some false))) else (some false)))) = some r := H
    have A6 := Aside0.mk A60
    clear A60
    replace H := Option.bind_eq_some_iff.mp H
    obtain ⟨⟨t758, t759, t760, t761, t762, t763⟩, A70, H⟩ := H
    replace H : ((impl_UnpackP.f t748).bind fun bt765 => (if (bt765.1 == t740 && (bt765.2.1 == t741 && (bt765.2.2.1 == t742 && (bt765.2.2.2.1 == t743 && (bt765.2.2.2.2.1 == t744 && (bt765.2.2.2.2.2 == t745)))))) = true then ((impl_UnpackP.f (Go.bits .xor .u8 t748 48)).bind fun bt771 => (if (bt771.1 == t740 && (bt771.2.1 == t741 && (bt771.2.2.1 == t742 && (bt771.2.2.2.1 == t743 && (bt771.2.2.2.2.1 == t744 && (bt771.2.2.2.2.2 == t745)))))) = true then ((spec_PackP.f t740 t741 t742 t743 t744 t745 t746).bind fun t777 => (if t748 = t777 then (if (t763 == (decide (t749 ≥ t750))) = true then (if (t762 == (t749 == t750)) = true then (if (t759 == t752) = true then (some (t760 == t753)) else (some false)) else (some false)) else (some false)) else (some false))) else (some false))) else (some false))) = some r := H
    have A7 := Aside0.mk A70
    clear A70
    replace H := Option.bind_eq_some_iff.mp H
    obtain ⟨⟨t765, t766, t767, t768, t769, t770⟩, A80, H⟩ := H
    replace H : (if (t765 == t740 && (t766 == t741 && (t767 == t742 && (t768 == t743 && (t769 == t744 && (t770 == t745)))))) = true then ((impl_UnpackP.f (Go.bits .xor .u8 t748 48)).bind fun bt771 => (if (bt771.1 == t740 && (bt771.2.1 == t741 && (bt771.2.2.1 == t742 && (bt771.2.2.2.1 == t743 && (bt771.2.2.2.2.1 == t744 && (bt771.2.2.2.2.2 == t745)))))) = true then ((spec_PackP.f t740 t741 t742 t743 t744 t745 t746).bind fun t777 => (if t748 = t777 then (if (t763 == (decide (t749 ≥ t750))) = true then (if (t762 == (t749 == t750)) = true then (if (t759 == t752) = true then (some (t760 == t753)) else (some false)) else (some false)) else (some false)) else (some false))) else (some false))) else (some false)) = some r := H
    have A8 := Aside0.mk A80
    clear A80
    by_cases c9 : (t765 == t740 && (t766 == t741 && (t767 == t742 && (t768 == t743 && (t769 == t744 && (t770 == t745)))))) = true
    · rw [if_pos c9] at H
      have c9b0 : (t765 == t740 && (t766 == t741 && (t767 == t742 && (t768 == t743 && (t769 == t744 && (t770 == t745)))))) = true := c9
      (try (have c9b1 : decide (t765 = t740 && (t766 == t741 && (t767 == t742 && (t768 == t743 && (t769 == t744 && (t770 == t745)))))) = true := by simpa using c9))
      (try (have c9b2 : (t765 == t740 && (t766 == t741 && (t767 == t742 && (t768 == t743 && (t769 == t744 && (t770 == t745)))))) = true := by simpa using c9))
      clear c9
      replace H := Option.bind_eq_some_iff.mp H
      obtain ⟨⟨t771, t772, t773, t774, t775, t776⟩, A100, H⟩ := H
      replace H : (if (t771 == t740 && (t772 == t741 && (t773 == t742 && (t774 == t743 && (t775 == t744 && (t776 == t745)))))) = true then ((spec_PackP.f t740 t741 t742 t743 t744 t745 t746).bind fun t777 => (if t748 = t777 then (if (t763 == (decide (t749 ≥ t750))) = true then (if (t762 == (t749 == t750)) = true then (if (t759 == t752) = true then (some (t760 == t753)) else (some false)) else (some false)) else (some false)) else (some false))) else (some false)) = some r := H
      have A10 := Aside0.mk A100
      clear A100
      by_cases c11 : (t771 == t740 && (t772 == t741 && (t773 == t742 && (t774 == t743 && (t775 == t744 && (t776 == t745)))))) = true
      · rw [if_pos c11] at H
        have c11b0 : (t771 == t740 && (t772 == t741 && (t773 == t742 && (t774 == t743 && (t775 == t744 && (t776 == t745)))))) = true := c11
        (try (have c11b1 : decide (t771 = t740 && (t772 == t741 && (t773 == t742 && (t774 == t743 && (t775 == t744 && (t776 == t745)))))) = true := by simpa using c11))
        (try (have c11b2 : (t771 == t740 && (t772 == t741 && (t773 == t742 && (t774 == t743 && (t775 == t744 && (t776 == t745)))))) = true := by simpa using c11))
        clear c11
        replace H := Option.bind_eq_some_iff.mp H
        obtain ⟨t777, A120, H⟩ := H
        replace H : (if t748 = t777 then (if (t763 == (decide (t749 ≥ t750))) = true then (if (t762 == (t749 == t750)) = true then (if (t759 == t752) = true then (some (t760 == t753)) else (some false)) else (some false)) else (some false)) else (some false)) = some r := H
        have A12 := Aside0.mk A120
        clear A120
        by_cases c13 : t748 = t777
        · rw [if_pos c13] at H
          have c13b0 : (t748 == t777) = true := beq_iff_eq.mpr c13
          have c13b1 : (t748 != t777) = false := bne_eq_false_iff_eq.mpr c13
          clear c13
          by_cases c14 : (t763 == (decide (t749 ≥ t750))) = true
          · rw [if_pos c14] at H
            have c14b0 : (t763 == (decide (t749 ≥ t750))) = true := c14
            (try (have c14b1 : decide (t763 = (decide (t749 ≥ t750))) = true := by simpa using c14))
            (try (have c14b2 : (t763 == (decide (t749 ≥ t750))) = true := by simpa using c14))
            clear c14
            by_cases c15 : (t762 == (t749 == t750)) = true
            · rw [if_pos c15] at H
              have c15b0 : (t762 == (t749 == t750)) = true := c15
              (try (have c15b1 : decide (t762 = (t749 == t750)) = true := by simpa using c15))
              (try (have c15b2 : (t762 == (t749 == t750)) = true := by simpa using c15))
              clear c15
              by_cases c16 : (t759 == t752) = true
              · rw [if_pos c16] at H
                have c16b0 : (t759 == t752) = true := c16
                (try (have c16b1 : decide (t759 = t752) = true := by simpa using c16))
                (try (have c16b2 : (t759 == t752) = true := by simpa using c16))
                clear c16
                obtain rfl := Option.some.inj H
                go_enter Try.func11, Try.ntmps11
                try go_wp2_with (first | ((with_reducible refine gate_callee (f := 46) rfl ?_); refine goesL_ (some 11) rfl rfl Try.func46 (by kernel_rfl) rfl #[.slice A0 l0.length c0] rfl (by (try simp only [List.map_toArray, List.map_cons, List.map_nil]); first | done | rfl | (simp only [List.length_drop, List.length_take]; rfl)) ?_; (with_reducible refine (laws_big.calls _ _ l0 false _ ?side1 ?side2 A2.out).mono ?_); (case side1 => repeat (first | exact HR0.out | (with_reducible refine Kd.C_alloc ?_ _) | (with_reducible refine Kd.C_drewN ?_ _) | (with_reducible refine Kd.C_drew ?_))); (case side2 => exact HC0.out); rintro e w' ⟨rfl, ⟨nd, rfl⟩⟩; refine ⟨_, rfl, ?_⟩) | ((with_reducible refine gate_callee (f := 52) rfl ?_); refine goesL_ (some 14) rfl rfl Try.func52 (by kernel_rfl) rfl #[.slice A0 l0.length c0] rfl (by (try simp only [List.map_toArray, List.map_cons, List.map_nil]); first | done | rfl | (simp only [List.length_drop, List.length_take]; rfl)) ?_; (with_reducible refine (spec_DrawPackP.calls k _ _ l0 t740 t741 t742 t743 t744 t745 t746 _ ?side1 ?side2 A4.out).mono ?_); (case side1 => repeat (first | exact HR0.out | (with_reducible refine Kd.C_alloc ?_ _) | (with_reducible refine Kd.C_drewN ?_ _) | (with_reducible refine Kd.C_drew ?_))); (case side2 => exact HC0.out); rintro e w17 ⟨rfl, hb⟩; refine ⟨_, rfl, ?_⟩; have n0_ := Aside0.mk (below_step (by repeat (first | (with_reducible first | exact HB.out | apply below_alloc | apply pw_below_drewN | apply below_drew1) | exact HB.out)) hb); clear HB; have HB := n0_; clear n0_; (try clear hb); (try clear hb2); (try clear hk); (try clear hi)) | ((with_reducible refine gate_dst (N := 3) rfl ?_); refine box_event ?hg (N := 3) ?hd (cs := #[.bool false, .bool false, .bool false, .bool false, .bool false, .bool false]) (t := 40) ?hr ?_; (case hd => rfl); (case hg => rfl); (case hr => first | (go_simp; done) | (go_simp; rfl)); intro gb747 hg w18 hbox hb; have n0_ := Aside0.mk (below_step (by repeat (first | (with_reducible first | exact HB.out | apply below_alloc | apply pw_below_drewN | apply below_drew1) | exact HB.out)) hb); have n1_ := Aside0.mk (hbox); have n2_ := Aside0.mk ((by rw [hg]; exact (below_size (by repeat (first | (with_reducible first | exact HB.out | apply below_alloc | apply pw_below_drewN | apply below_drew1) | exact HB.out))) : w.heap.size ≤ gb747)); have n3_ := Aside0.mk ((by rw [hg]; exact (below_size (by repeat (first | (with_reducible first | exact HB.out | apply below_alloc | apply pw_below_drewN | apply below_drew1) | exact HB.out))) : w.heap.size ≤ gb747)); clear HB; have HB := n0_; have BK747 := n1_; have GW747 := n2_; have GE747 := n3_; clear n0_ n1_ n2_ n3_; clear hb hbox hg; have hcz19_0 : w18.cell? ⟨gb747, 0, none⟩ = some (.bool false) := (blk_cell BK747.out 0).trans rfl; have hcz19_1 : w18.cell? ⟨gb747, 1, none⟩ = some (.bool false) := (blk_cell BK747.out 1).trans rfl; have hcz19_2 : w18.cell? ⟨gb747, 2, none⟩ = some (.bool false) := (blk_cell BK747.out 2).trans rfl; have hcz19_3 : w18.cell? ⟨gb747, 3, none⟩ = some (.bool false) := (blk_cell BK747.out 3).trans rfl; have hcz19_4 : w18.cell? ⟨gb747, 4, none⟩ = some (.bool false) := (blk_cell BK747.out 4).trans rfl; have hcz19_5 : w18.cell? ⟨gb747, 5, none⟩ = some (.bool false) := (blk_cell BK747.out 5).trans rfl; have hfz19_0 := blk_frozen BK747.out 0; have hfz19_1 := blk_frozen BK747.out 1; have hfz19_2 := blk_frozen BK747.out 2; have hfz19_3 := blk_frozen BK747.out 3; have hfz19_4 := blk_frozen BK747.out 4; have hfz19_5 := blk_frozen BK747.out 5) | ((with_reducible refine gate_callee (f := 53) rfl ?_); refine goesL_ (some 19) rfl rfl Try.func53 (by kernel_rfl) rfl #[.agg #[.bool t740, .bool t741, .bool t742, .bool t743, .bool t744, .bool t745], .bool t746] rfl (by (try simp only [List.map_toArray, List.map_cons, List.map_nil]); first | done | rfl | (simp only [List.length_drop, List.length_take]; rfl)) ?_; (with_reducible refine (impl_PackP.calls t740 t741 t742 t743 t744 t745 t746 t748 _ A5.out).mono ?_); rintro e w20 ⟨rfl, hb⟩; refine ⟨_, rfl, ?_⟩; have n0_ := Aside0.mk (blk_below (g := gb747) (o := .cells #[.bool t740, .bool t741, .bool t742, .bool t743, .bool t744, .bool t745] 40 (0, 0)) (by (with_reducible repeat (first | refine blk_drewN ?_ _ | refine blk_drew ?_ | refine blk_alloc ?_ _)); refine blk_put (cs := #[.bool t740, .bool t741, .bool t742, .bool t743, .bool t744, .bool false]) ?_ 5 _ rfl; (with_reducible repeat (first | refine blk_drewN ?_ _ | refine blk_drew ?_ | refine blk_alloc ?_ _)); refine blk_put (cs := #[.bool t740, .bool t741, .bool t742, .bool t743, .bool false, .bool false]) ?_ 4 _ rfl; (with_reducible repeat (first | refine blk_drewN ?_ _ | refine blk_drew ?_ | refine blk_alloc ?_ _)); refine blk_put (cs := #[.bool t740, .bool t741, .bool t742, .bool false, .bool false, .bool false]) ?_ 3 _ rfl; (with_reducible repeat (first | refine blk_drewN ?_ _ | refine blk_drew ?_ | refine blk_alloc ?_ _)); refine blk_put (cs := #[.bool t740, .bool t741, .bool false, .bool false, .bool false, .bool false]) ?_ 2 _ rfl; (with_reducible repeat (first | refine blk_drewN ?_ _ | refine blk_drew ?_ | refine blk_alloc ?_ _)); refine blk_put (cs := #[.bool t740, .bool false, .bool false, .bool false, .bool false, .bool false]) ?_ 1 _ rfl; (with_reducible repeat (first | refine blk_drewN ?_ _ | refine blk_drew ?_ | refine blk_alloc ?_ _)); refine blk_put (cs := #[.bool false, .bool false, .bool false, .bool false, .bool false, .bool false]) ?_ 0 _ rfl; (with_reducible repeat (first | refine blk_drewN ?_ _ | refine blk_drew ?_ | refine blk_alloc ?_ _)); exact BK747.out) hb); have n1_ := Aside0.mk (below_step (by repeat (first | (with_reducible first | exact HB.out | apply below_alloc | apply pw_below_drewN | apply below_drew1 | refine below_set ?_ GE747.out) | exact HB.out)) hb); clear BK747; clear HB; have BK747 := n0_; have HB := n1_; clear n0_ n1_; (try clear hb); (try clear hb2); (try clear hk); (try clear hi)) | ((with_reducible refine gate_callee (f := 54) rfl ?_); refine goesL_ (some 22) rfl rfl Try.func54 (by kernel_rfl) rfl #[.slice A0 l0.length c0] rfl (by (try simp only [List.map_toArray, List.map_cons, List.map_nil]); first | done | rfl | (simp only [List.length_drop, List.length_take]; rfl)) ?_; (with_reducible refine (spec_DrawCmp.calls k _ _ l0 t749 t750 t751 t752 t753 t754 t755 t756 _ ?side1 ?side2 A6.out).mono ?_); (case side1 => repeat (first | exact (Kd.C_below HR0.out HB.out) | (with_reducible refine Kd.C_alloc ?_ _) | (with_reducible refine Kd.C_drewN ?_ _) | (with_reducible refine Kd.C_drew ?_))); (case side2 => exact HC0.out); rintro e w21 ⟨rfl, hb⟩; refine ⟨_, rfl, ?_⟩; have n0_ := Aside0.mk (blk_below (g := gb747) (o := .cells #[.bool t740, .bool t741, .bool t742, .bool t743, .bool t744, .bool t745] 40 (0, 0)) (by (with_reducible repeat (first | refine blk_drewN ?_ _ | refine blk_drew ?_ | refine blk_alloc ?_ _)); exact BK747.out) hb); have n1_ := Aside0.mk (below_step (by repeat (first | (with_reducible first | exact HB.out | apply below_alloc | apply pw_below_drewN | apply below_drew1 | refine below_set ?_ GE747.out) | exact HB.out)) hb); clear BK747; clear HB; have BK747 := n0_; have HB := n1_; clear n0_ n1_; (try clear hb); (try clear hb2); (try clear hk); (try clear hi)) | ((with_reducible refine gate_dst (N := 8) rfl ?_); refine box_event ?hg (N := 8) ?hd (cs := #[.bool false, .bool false, .bool false, .bool false, .bool false, .bool false]) (t := 40) ?hr ?_; (case hd => rfl); (case hg => rfl); (case hr => first | (go_simp; done) | (go_simp; rfl)); intro gb757 hg w22 hbox hb; have n0_ := Aside0.mk (blk_below (g := gb747) (o := .cells #[.bool t740, .bool t741, .bool t742, .bool t743, .bool t744, .bool t745] 40 (0, 0)) (by (with_reducible repeat (first | refine blk_drewN ?_ _ | refine blk_drew ?_ | refine blk_alloc ?_ _)); exact BK747.out) hb); have n1_ := Aside0.mk (below_step (by repeat (first | (with_reducible first | exact HB.out | apply below_alloc | apply pw_below_drewN | apply below_drew1 | refine below_set ?_ GE747.out) | exact HB.out)) hb); have n2_ := Aside0.mk (hbox); have n3_ := Aside0.mk ((by rw [hg]; exact (below_size (by repeat (first | (with_reducible first | exact HB.out | apply below_alloc | apply pw_below_drewN | apply below_drew1 | refine below_set ?_ GE747.out) | exact HB.out))) : w.heap.size ≤ gb757)); have n4_ := Aside0.mk ((by rw [hg]; exact (below_size (by repeat (first | (with_reducible first | exact HB.out | apply below_alloc | apply pw_below_drewN | apply below_drew1 | refine below_set ?_ GE747.out) | exact HB.out))) : w.heap.size ≤ gb757)); have n5_ := Aside0.mk ((by rw [hg]; exact Nat.ne_of_lt (blk_lt (g := gb747) (o := .cells #[.bool t740, .bool t741, .bool t742, .bool t743, .bool t744, .bool t745] 40 (0, 0)) (by (with_reducible repeat (first | refine blk_drewN ?_ _ | refine blk_drew ?_ | refine blk_alloc ?_ _)); exact BK747.out)) : gb747 ≠ gb757)); have n6_ := Aside0.mk ((by rw [hg]; exact Nat.ne_of_gt (blk_lt (g := gb747) (o := .cells #[.bool t740, .bool t741, .bool t742, .bool t743, .bool t744, .bool t745] 40 (0, 0)) (by (with_reducible repeat (first | refine blk_drewN ?_ _ | refine blk_drew ?_ | refine blk_alloc ?_ _)); exact BK747.out)) : gb757 ≠ gb747)); clear BK747; clear HB; have BK747 := n0_; have HB := n1_; have BK757 := n2_; have GW757 := n3_; have GE757 := n4_; have NB747_757 := n5_; have NB757_747 := n6_; clear n0_ n1_ n2_ n3_ n4_ n5_ n6_; clear hb hbox hg; have hnb23 := NB757_747.out; have hnc23 := NB747_757.out; have hcz24_0 : w22.cell? ⟨gb757, 0, none⟩ = some (.bool false) := (blk_cell BK757.out 0).trans rfl; have hcz24_1 : w22.cell? ⟨gb757, 1, none⟩ = some (.bool false) := (blk_cell BK757.out 1).trans rfl; have hcz24_2 : w22.cell? ⟨gb757, 2, none⟩ = some (.bool false) := (blk_cell BK757.out 2).trans rfl; have hcz24_3 : w22.cell? ⟨gb757, 3, none⟩ = some (.bool false) := (blk_cell BK757.out 3).trans rfl; have hcz24_4 : w22.cell? ⟨gb757, 4, none⟩ = some (.bool false) := (blk_cell BK757.out 4).trans rfl; have hcz24_5 : w22.cell? ⟨gb757, 5, none⟩ = some (.bool false) := (blk_cell BK757.out 5).trans rfl; have hfz24_0 := blk_frozen BK757.out 0; have hfz24_1 := blk_frozen BK757.out 1; have hfz24_2 := blk_frozen BK757.out 2; have hfz24_3 := blk_frozen BK757.out 3; have hfz24_4 := blk_frozen BK757.out 4; have hfz24_5 := blk_frozen BK757.out 5) | ((with_reducible refine gate_callee (f := 55) rfl ?_); refine goesL_ (some 29) rfl rfl Try.func55 (by kernel_rfl) rfl #[.int .u8 t749, .int .u8 t750, .agg #[.bool t751, .bool t752, .bool t753, .bool t754, .bool t755, .bool t756]] rfl (by (try simp only [List.map_toArray, List.map_cons, List.map_nil]); first | done | rfl | (simp only [List.length_drop, List.length_take]; rfl)) ?_; (with_reducible refine (impl_Cmp.calls t749 t750 t751 t752 t753 t754 t755 t756 t758 t759 t760 t761 t762 t763 _ A7.out).mono ?_); rintro e w25 ⟨rfl, hb⟩; refine ⟨_, rfl, ?_⟩; have n0_ := Aside0.mk (blk_below (g := gb747) (o := .cells #[.bool t740, .bool t741, .bool t742, .bool t743, .bool t744, .bool t745] 40 (0, 0)) (by (with_reducible repeat (first | refine blk_drewN ?_ _ | refine blk_drew ?_ | refine blk_alloc ?_ _)); refine blk_far ?_ NB747_757.out _; (with_reducible repeat (first | refine blk_drewN ?_ _ | refine blk_drew ?_ | refine blk_alloc ?_ _)); refine blk_far ?_ NB747_757.out _; (with_reducible repeat (first | refine blk_drewN ?_ _ | refine blk_drew ?_ | refine blk_alloc ?_ _)); refine blk_far ?_ NB747_757.out _; (with_reducible repeat (first | refine blk_drewN ?_ _ | refine blk_drew ?_ | refine blk_alloc ?_ _)); refine blk_far ?_ NB747_757.out _; (with_reducible repeat (first | refine blk_drewN ?_ _ | refine blk_drew ?_ | refine blk_alloc ?_ _)); refine blk_far ?_ NB747_757.out _; (with_reducible repeat (first | refine blk_drewN ?_ _ | refine blk_drew ?_ | refine blk_alloc ?_ _)); refine blk_far ?_ NB747_757.out _; (with_reducible repeat (first | refine blk_drewN ?_ _ | refine blk_drew ?_ | refine blk_alloc ?_ _)); exact BK747.out) hb); have n1_ := Aside0.mk (blk_below (g := gb757) (o := .cells #[.bool t751, .bool t752, .bool t753, .bool t754, .bool t755, .bool t756] 40 (0, 0)) (by (with_reducible repeat (first | refine blk_drewN ?_ _ | refine blk_drew ?_ | refine blk_alloc ?_ _)); refine blk_put (cs := #[.bool t751, .bool t752, .bool t753, .bool t754, .bool t755, .bool false]) ?_ 5 _ rfl; (with_reducible repeat (first | refine blk_drewN ?_ _ | refine blk_drew ?_ | refine blk_alloc ?_ _)); refine blk_put (cs := #[.bool t751, .bool t752, .bool t753, .bool t754, .bool false, .bool false]) ?_ 4 _ rfl; (with_reducible repeat (first | refine blk_drewN ?_ _ | refine blk_drew ?_ | refine blk_alloc ?_ _)); refine blk_put (cs := #[.bool t751, .bool t752, .bool t753, .bool false, .bool false, .bool false]) ?_ 3 _ rfl; (with_reducible repeat (first | refine blk_drewN ?_ _ | refine blk_drew ?_ | refine blk_alloc ?_ _)); refine blk_put (cs := #[.bool t751, .bool t752, .bool false, .bool false, .bool false, .bool false]) ?_ 2 _ rfl; (with_reducible repeat (first | refine blk_drewN ?_ _ | refine blk_drew ?_ | refine blk_alloc ?_ _)); refine blk_put (cs := #[.bool t751, .bool false, .bool false, .bool false, .bool false, .bool false]) ?_ 1 _ rfl; (with_reducible repeat (first | refine blk_drewN ?_ _ | refine blk_drew ?_ | refine blk_alloc ?_ _)); refine blk_put (cs := #[.bool false, .bool false, .bool false, .bool false, .bool false, .bool false]) ?_ 0 _ rfl; (with_reducible repeat (first | refine blk_drewN ?_ _ | refine blk_drew ?_ | refine blk_alloc ?_ _)); exact BK757.out) hb); have n2_ := Aside0.mk (below_step (by repeat (first | (with_reducible first | exact HB.out | apply below_alloc | apply pw_below_drewN | apply below_drew1 | refine below_set ?_ GE747.out | refine below_set ?_ GE757.out) | exact HB.out)) hb); clear BK747; clear BK757; clear HB; have BK747 := n0_; have BK757 := n1_; have HB := n2_; clear n0_ n1_ n2_; (try clear hb); (try clear hb2); (try clear hk); (try clear hi)) | ((with_reducible refine gate_dst (N := 9) rfl ?_); refine box_event ?hg (N := 9) ?hd (cs := #[.bool false, .bool false, .bool false, .bool false, .bool false, .bool false]) (t := 40) ?hr ?_; (case hd => rfl); (case hg => rfl); (case hr => first | (go_simp; done) | (go_simp; rfl)); intro gb764 hg w26 hbox hb; have n0_ := Aside0.mk (blk_below (g := gb747) (o := .cells #[.bool t740, .bool t741, .bool t742, .bool t743, .bool t744, .bool t745] 40 (0, 0)) (by (with_reducible repeat (first | refine blk_drewN ?_ _ | refine blk_drew ?_ | refine blk_alloc ?_ _)); exact BK747.out) hb); have n1_ := Aside0.mk (blk_below (g := gb757) (o := .cells #[.bool t751, .bool t752, .bool t753, .bool t754, .bool t755, .bool t756] 40 (0, 0)) (by (with_reducible repeat (first | refine blk_drewN ?_ _ | refine blk_drew ?_ | refine blk_alloc ?_ _)); exact BK757.out) hb); have n2_ := Aside0.mk (below_step (by repeat (first | (with_reducible first | exact HB.out | apply below_alloc | apply pw_below_drewN | apply below_drew1 | refine below_set ?_ GE747.out | refine below_set ?_ GE757.out) | exact HB.out)) hb); have n3_ := Aside0.mk (hbox); have n4_ := Aside0.mk ((by rw [hg]; exact (below_size (by repeat (first | (with_reducible first | exact HB.out | apply below_alloc | apply pw_below_drewN | apply below_drew1 | refine below_set ?_ GE747.out | refine below_set ?_ GE757.out) | exact HB.out))) : w.heap.size ≤ gb764)); have n5_ := Aside0.mk ((by rw [hg]; exact (below_size (by repeat (first | (with_reducible first | exact HB.out | apply below_alloc | apply pw_below_drewN | apply below_drew1 | refine below_set ?_ GE747.out | refine below_set ?_ GE757.out) | exact HB.out))) : w.heap.size ≤ gb764)); have n6_ := Aside0.mk ((by rw [hg]; exact Nat.ne_of_lt (blk_lt (g := gb747) (o := .cells #[.bool t740, .bool t741, .bool t742, .bool t743, .bool t744, .bool t745] 40 (0, 0)) (by (with_reducible repeat (first | refine blk_drewN ?_ _ | refine blk_drew ?_ | refine blk_alloc ?_ _)); exact BK747.out)) : gb747 ≠ gb764)); have n7_ := Aside0.mk ((by rw [hg]; exact Nat.ne_of_gt (blk_lt (g := gb747) (o := .cells #[.bool t740, .bool t741, .bool t742, .bool t743, .bool t744, .bool t745] 40 (0, 0)) (by (with_reducible repeat (first | refine blk_drewN ?_ _ | refine blk_drew ?_ | refine blk_alloc ?_ _)); exact BK747.out)) : gb764 ≠ gb747)); have n8_ := Aside0.mk ((by rw [hg]; exact Nat.ne_of_lt (blk_lt (g := gb757) (o := .cells #[.bool t751, .bool t752, .bool t753, .bool t754, .bool t755, .bool t756] 40 (0, 0)) (by (with_reducible repeat (first | refine blk_drewN ?_ _ | refine blk_drew ?_ | refine blk_alloc ?_ _)); exact BK757.out)) : gb757 ≠ gb764)); have n9_ := Aside0.mk ((by rw [hg]; exact Nat.ne_of_gt (blk_lt (g := gb757) (o := .cells #[.bool t751, .bool t752, .bool t753, .bool t754, .bool t755, .bool t756] 40 (0, 0)) (by (with_reducible repeat (first | refine blk_drewN ?_ _ | refine blk_drew ?_ | refine blk_alloc ?_ _)); exact BK757.out)) : gb764 ≠ gb757)); clear BK747; clear BK757; clear HB; have BK747 := n0_; have BK757 := n1_; have HB := n2_; have BK764 := n3_; have GW764 := n4_; have GE764 := n5_; have NB747_764 := n6_; have NB764_747 := n7_; have NB757_764 := n8_; have NB764_757 := n9_; clear n0_ n1_ n2_ n3_ n4_ n5_ n6_ n7_ n8_ n9_; clear hb hbox hg; have hnb27 := NB764_747.out; have hnc27 := NB747_764.out; have hnb28 := NB764_757.out; have hnc28 := NB757_764.out; have hcz29_0 : w26.cell? ⟨gb764, 0, none⟩ = some (.bool false) := (blk_cell BK764.out 0).trans rfl; have hcz29_1 : w26.cell? ⟨gb764, 1, none⟩ = some (.bool false) := (blk_cell BK764.out 1).trans rfl; have hcz29_2 : w26.cell? ⟨gb764, 2, none⟩ = some (.bool false) := (blk_cell BK764.out 2).trans rfl; have hcz29_3 : w26.cell? ⟨gb764, 3, none⟩ = some (.bool false) := (blk_cell BK764.out 3).trans rfl; have hcz29_4 : w26.cell? ⟨gb764, 4, none⟩ = some (.bool false) := (blk_cell BK764.out 4).trans rfl; have hcz29_5 : w26.cell? ⟨gb764, 5, none⟩ = some (.bool false) := (blk_cell BK764.out 5).trans rfl; have hfz29_0 := blk_frozen BK764.out 0; have hfz29_1 := blk_frozen BK764.out 1; have hfz29_2 := blk_frozen BK764.out 2; have hfz29_3 := blk_frozen BK764.out 3; have hfz29_4 := blk_frozen BK764.out 4; have hfz29_5 := blk_frozen BK764.out 5))
                have n0_ : Aside0 (((((((w26.setCell ⟨gb764, 0, none⟩ (.bool t758)).setCell ⟨gb764, 1, none⟩ (.bool t759)).setCell ⟨gb764, 2, none⟩ (.bool t760)).setCell ⟨gb764, 3, none⟩ (.bool t761)).setCell ⟨gb764, 4, none⟩ (.bool t762)).setCell ⟨gb764, 5, none⟩ (.bool t763)).heap[gb747]? = some (.cells #[.bool t740, .bool t741, .bool t742, .bool t743, .bool t744, .bool t745] 40 (0, 0))) := ⟨by (with_reducible repeat (first | refine blk_drewN ?_ _ | refine blk_drew ?_ | refine blk_alloc ?_ _)); refine blk_far ?_ NB747_764.out _; (with_reducible repeat (first | refine blk_drewN ?_ _ | refine blk_drew ?_ | refine blk_alloc ?_ _)); refine blk_far ?_ NB747_764.out _; (with_reducible repeat (first | refine blk_drewN ?_ _ | refine blk_drew ?_ | refine blk_alloc ?_ _)); refine blk_far ?_ NB747_764.out _; (with_reducible repeat (first | refine blk_drewN ?_ _ | refine blk_drew ?_ | refine blk_alloc ?_ _)); refine blk_far ?_ NB747_764.out _; (with_reducible repeat (first | refine blk_drewN ?_ _ | refine blk_drew ?_ | refine blk_alloc ?_ _)); refine blk_far ?_ NB747_764.out _; (with_reducible repeat (first | refine blk_drewN ?_ _ | refine blk_drew ?_ | refine blk_alloc ?_ _)); refine blk_far ?_ NB747_764.out _; (with_reducible repeat (first | refine blk_drewN ?_ _ | refine blk_drew ?_ | refine blk_alloc ?_ _)); exact BK747.out⟩
                have n1_ : Aside0 (((((((w26.setCell ⟨gb764, 0, none⟩ (.bool t758)).setCell ⟨gb764, 1, none⟩ (.bool t759)).setCell ⟨gb764, 2, none⟩ (.bool t760)).setCell ⟨gb764, 3, none⟩ (.bool t761)).setCell ⟨gb764, 4, none⟩ (.bool t762)).setCell ⟨gb764, 5, none⟩ (.bool t763)).heap[gb757]? = some (.cells #[.bool t751, .bool t752, .bool t753, .bool t754, .bool t755, .bool t756] 40 (0, 0))) := ⟨by (with_reducible repeat (first | refine blk_drewN ?_ _ | refine blk_drew ?_ | refine blk_alloc ?_ _)); refine blk_far ?_ NB757_764.out _; (with_reducible repeat (first | refine blk_drewN ?_ _ | refine blk_drew ?_ | refine blk_alloc ?_ _)); refine blk_far ?_ NB757_764.out _; (with_reducible repeat (first | refine blk_drewN ?_ _ | refine blk_drew ?_ | refine blk_alloc ?_ _)); refine blk_far ?_ NB757_764.out _; (with_reducible repeat (first | refine blk_drewN ?_ _ | refine blk_drew ?_ | refine blk_alloc ?_ _)); refine blk_far ?_ NB757_764.out _; (with_reducible repeat (first | refine blk_drewN ?_ _ | refine blk_drew ?_ | refine blk_alloc ?_ _)); refine blk_far ?_ NB757_764.out _; (with_reducible repeat (first | refine blk_drewN ?_ _ | refine blk_drew ?_ | refine blk_alloc ?_ _)); refine blk_far ?_ NB757_764.out _; (with_reducible repeat (first | refine blk_drewN ?_ _ | refine blk_drew ?_ | refine blk_alloc ?_ _)); exact BK757.out⟩
                have n2_ : Aside0 (((((((w26.setCell ⟨gb764, 0, none⟩ (.bool t758)).setCell ⟨gb764, 1, none⟩ (.bool t759)).setCell ⟨gb764, 2, none⟩ (.bool t760)).setCell ⟨gb764, 3, none⟩ (.bool t761)).setCell ⟨gb764, 4, none⟩ (.bool t762)).setCell ⟨gb764, 5, none⟩ (.bool t763)).heap[gb764]? = some (.cells #[.bool t758, .bool t759, .bool t760, .bool t761, .bool t762, .bool t763] 40 (0, 0))) := ⟨by (with_reducible repeat (first | refine blk_drewN ?_ _ | refine blk_drew ?_ | refine blk_alloc ?_ _)); refine blk_put (cs := #[.bool t758, .bool t759, .bool t760, .bool t761, .bool t762, .bool false]) ?_ 5 _ rfl; (with_reducible repeat (first | refine blk_drewN ?_ _ | refine blk_drew ?_ | refine blk_alloc ?_ _)); refine blk_put (cs := #[.bool t758, .bool t759, .bool t760, .bool t761, .bool false, .bool false]) ?_ 4 _ rfl; (with_reducible repeat (first | refine blk_drewN ?_ _ | refine blk_drew ?_ | refine blk_alloc ?_ _)); refine blk_put (cs := #[.bool t758, .bool t759, .bool t760, .bool false, .bool false, .bool false]) ?_ 3 _ rfl; (with_reducible repeat (first | refine blk_drewN ?_ _ | refine blk_drew ?_ | refine blk_alloc ?_ _)); refine blk_put (cs := #[.bool t758, .bool t759, .bool false, .bool false, .bool false, .bool false]) ?_ 2 _ rfl; (with_reducible repeat (first | refine blk_drewN ?_ _ | refine blk_drew ?_ | refine blk_alloc ?_ _)); refine blk_put (cs := #[.bool t758, .bool false, .bool false, .bool false, .bool false, .bool false]) ?_ 1 _ rfl; (with_reducible repeat (first | refine blk_drewN ?_ _ | refine blk_drew ?_ | refine blk_alloc ?_ _)); refine blk_put (cs := #[.bool false, .bool false, .bool false, .bool false, .bool false, .bool false]) ?_ 0 _ rfl; (with_reducible repeat (first | refine blk_drewN ?_ _ | refine blk_drew ?_ | refine blk_alloc ?_ _)); exact BK764.out⟩
                have n3_ : Aside0 (Below w.heap.size w ((((((w26.setCell ⟨gb764, 0, none⟩ (.bool t758)).setCell ⟨gb764, 1, none⟩ (.bool t759)).setCell ⟨gb764, 2, none⟩ (.bool t760)).setCell ⟨gb764, 3, none⟩ (.bool t761)).setCell ⟨gb764, 4, none⟩ (.bool t762)).setCell ⟨gb764, 5, none⟩ (.bool t763))) := ⟨by repeat (first | (with_reducible first | exact HB.out | apply below_alloc | apply pw_below_drewN | apply below_drew1 | refine below_set ?_ GE747.out | refine below_set ?_ GE757.out | refine below_set ?_ GE764.out) | exact HB.out)⟩
                (try clear BK747)
                (try clear BK757)
                (try clear BK764)
                (try clear HB)
                generalize ((((((w26.setCell ⟨gb764, 0, none⟩ (.bool t758)).setCell ⟨gb764, 1, none⟩ (.bool t759)).setCell ⟨gb764, 2, none⟩ (.bool t760)).setCell ⟨gb764, 3, none⟩ (.bool t761)).setCell ⟨gb764, 4, none⟩ (.bool t762)).setCell ⟨gb764, 5, none⟩ (.bool t763)) = w30 at n0_ n1_ n2_ n3_ ⊢
                have BK747 := n0_
                have BK757 := n1_
                have BK764 := n2_
                have HB := n3_
                clear n0_ n1_ n2_ n3_
                have n0_ := Aside0.mk (blk_drew BK747.out)
                have n1_ := Aside0.mk (blk_drew BK757.out)
                have n2_ := Aside0.mk (blk_drew BK764.out)
                have n3_ := Aside0.mk (below_drew1 HB.out)
                clear BK747
                clear BK757
                clear BK764
                clear HB
                have BK747 := n0_
                have BK757 := n1_
                have BK764 := n2_
                have HB := n3_
                clear n0_ n1_ n2_ n3_
                refine start_ (n := 49) (S := fun w' => w'.cell? ⟨gb747, 0, none⟩ = some (.bool t740) ∧ w'.cell? ⟨gb747, 1, none⟩ = some (.bool t741) ∧ w'.cell? ⟨gb747, 2, none⟩ = some (.bool t742) ∧ w'.cell? ⟨gb747, 3, none⟩ = some (.bool t743) ∧ w'.cell? ⟨gb747, 4, none⟩ = some (.bool t744) ∧ w'.cell? ⟨gb747, 5, none⟩ = some (.bool t745) ∧ w'.cell? ⟨gb764, 0, none⟩ = some (.bool t758) ∧ w'.cell? ⟨gb764, 1, none⟩ = some (.bool t759) ∧ w'.cell? ⟨gb764, 2, none⟩ = some (.bool t760) ∧ w'.cell? ⟨gb764, 3, none⟩ = some (.bool t761) ∧ w'.cell? ⟨gb764, 4, none⟩ = some (.bool t762) ∧ w'.cell? ⟨gb764, 5, none⟩ = some (.bool t763) ∧ w'.cell? ⟨gb757, 0, none⟩ = some (.bool t751) ∧ w'.cell? ⟨gb757, 1, none⟩ = some (.bool t752) ∧ w'.cell? ⟨gb757, 2, none⟩ = some (.bool t753) ∧ w'.cell? ⟨gb757, 3, none⟩ = some (.bool t754) ∧ w'.cell? ⟨gb757, 4, none⟩ = some (.bool t755) ∧ w'.cell? ⟨gb757, 5, none⟩ = some (.bool t756)) (ds := []) #[false, false, false, false, false, false, false, false, false, false, false, false, false, false, false, false, false, false, false, false, false, false, false, false, false, false, false, false, false, false, false, false, false, false, false, false, false, false, false, false, false, false, false, false, false, false, false, false, false] (by kernel_rfl) rfl rfl ⟨(blk_cell BK747.out 0).trans rfl, (blk_cell BK747.out 1).trans rfl, (blk_cell BK747.out 2).trans rfl, (blk_cell BK747.out 3).trans rfl, (blk_cell BK747.out 4).trans rfl, (blk_cell BK747.out 5).trans rfl, (blk_cell BK764.out 0).trans rfl, (blk_cell BK764.out 1).trans rfl, (blk_cell BK764.out 2).trans rfl, (blk_cell BK764.out 3).trans rfl, (blk_cell BK764.out 4).trans rfl, (blk_cell BK764.out 5).trans rfl, (blk_cell BK757.out 0).trans rfl, (blk_cell BK757.out 1).trans rfl, (blk_cell BK757.out 2).trans rfl, (blk_cell BK757.out 3).trans rfl, (blk_cell BK757.out 4).trans rfl, (blk_cell BK757.out 5).trans rfl⟩ (fun hHeld => ?_); refine with_tabW laws_FnFlags.tab7 laws_FnFlags.bits7 (fun HT_ HW_ => ?_)
                generalize w30.drew = w31 at BK747 BK757 BK764 HB hHeld ⊢
                refine pure_ (i := 0) (N := some 30) (v := ?_) (a' := ?_) #[true, false, false, false, false, false, false, false, false, false, false, false, false, false, false, false, false, false, false, false, false, false, false, false, false, false, false, false, false, false, false, false, false, false, false, false, false, false, false, false, false, false, false, false, false, false, false, false, false] rfl rfl (any_of HT_.out (by kernel_rfl)) (fun _ _ _ h => h) (Or.inl ⟨by rfl, ?_⟩) ?_ ?_
                rotate_left
                · intro w'
                  go_simp
                  with_reducible rfl
                rotate_left
                · simp only [Act.put, List.setIfInBounds_toArray, List.set_cons_zero, List.set_cons_succ, i64_w, i32_w]
                  rfl
                refine take_ (i := 2) (N := some 32) (v := ?_) (a' := ?_) #[true, false, true, false, false, false, false, false, false, false, false, false, false, false, false, false, false, false, false, false, false, false, false, false, false, false, false, false, false, false, false, false, false, false, false, false, false, false, false, false, false, false, false, false, false, false, false, false, false] rfl rfl (take_ofW HT_.out HW_.out (by kernel_rfl)) (fun _ _ _ h => h) (Or.inl ⟨by rfl, ?_⟩) hHeld ?_ ?_
                rotate_left
                · rintro w' ⟨s0, s1, s2, s3, s4, s5, s6, s7, s8, s9, s10, s11, s12, s13, s14, s15, s16, s17⟩
                  go_simp
                  with_reducible rfl
                rotate_left
                · simp only [Act.put, List.setIfInBounds_toArray, List.set_cons_zero, List.set_cons_succ, i64_w, i32_w]
                  rfl
                refine one_ (i := 1) (N := some 31) #[true, true, true, false, false, false, false, false, false, false, false, false, false, false, false, false, false, false, false, false, false, false, false, false, false, false, false, false, false, false, false, false, false, false, false, false, false, false, false, false, false, false, false, false, false, false, false, false, false] rfl rfl (one_of HT_.out (by kernel_rfl)) (by decide) (fun K hK => ?_)
                refine goes_ Try.func56 (by kernel_rfl) rfl #[.int .u8 t748] (by rfl) rfl rfl (by (try simp only [List.map_toArray, List.map_cons, List.map_nil]); first | done | rfl | (simp only [List.length_drop, List.length_take]; rfl)) ?_
                with_reducible refine (impl_UnpackP.calls t748 t765 t766 t767 t768 t769 t770 _ A8.out).mono ?_
                rintro e w32 ⟨rfl, hb⟩
                refine ⟨_, rfl, ?_⟩
                have n0_ := Aside0.mk (blk_below (g := gb747) (o := .cells #[.bool t740, .bool t741, .bool t742, .bool t743, .bool t744, .bool t745] 40 (0, 0)) (by (with_reducible repeat (first | refine blk_drewN ?_ _ | refine blk_drew ?_ | refine blk_alloc ?_ _)); exact BK747.out) hb)
                have n1_ := Aside0.mk (blk_below (g := gb757) (o := .cells #[.bool t751, .bool t752, .bool t753, .bool t754, .bool t755, .bool t756] 40 (0, 0)) (by (with_reducible repeat (first | refine blk_drewN ?_ _ | refine blk_drew ?_ | refine blk_alloc ?_ _)); exact BK757.out) hb)
                have n2_ := Aside0.mk (blk_below (g := gb764) (o := .cells #[.bool t758, .bool t759, .bool t760, .bool t761, .bool t762, .bool t763] 40 (0, 0)) (by (with_reducible repeat (first | refine blk_drewN ?_ _ | refine blk_drew ?_ | refine blk_alloc ?_ _)); exact BK764.out) hb)
                have n3_ := Aside0.mk (below_step (by repeat (first | (with_reducible first | exact HB.out | apply below_alloc | apply pw_below_drewN | apply below_drew1 | refine below_set ?_ GE747.out | refine below_set ?_ GE757.out | refine below_set ?_ GE764.out) | exact HB.out)) hb)
                clear BK747
                clear BK757
                clear BK764
                clear HB
                have BK747 := n0_
                have BK757 := n1_
                have BK764 := n2_
                have HB := n3_
                clear n0_ n1_ n2_ n3_
                (try clear hb)
                (try clear hb2)
                (try clear hk)
                (try clear hi)
                refine hK.out _ _ ⟨(blk_cell BK747.out 0).trans rfl, (blk_cell BK747.out 1).trans rfl, (blk_cell BK747.out 2).trans rfl, (blk_cell BK747.out 3).trans rfl, (blk_cell BK747.out 4).trans rfl, (blk_cell BK747.out 5).trans rfl, (blk_cell BK764.out 0).trans rfl, (blk_cell BK764.out 1).trans rfl, (blk_cell BK764.out 2).trans rfl, (blk_cell BK764.out 3).trans rfl, (blk_cell BK764.out 4).trans rfl, (blk_cell BK764.out 5).trans rfl, (blk_cell BK757.out 0).trans rfl, (blk_cell BK757.out 1).trans rfl, (blk_cell BK757.out 2).trans rfl, (blk_cell BK757.out 3).trans rfl, (blk_cell BK757.out 4).trans rfl, (blk_cell BK757.out 5).trans rfl⟩ (fun hHeld => ?_)
                clear hK K
                refine norm_ (a' := ?_) ?_ ?_
                rotate_left
                · show Act.put _ (some 31) _ = _
                  simp only [Act.put, List.setIfInBounds_toArray, List.set_cons_zero, List.set_cons_succ, i64_w, i32_w]
                  rfl
                refine pure_ (i := 3) (N := some 33) (v := ?_) (a' := ?_) #[true, true, true, true, false, false, false, false, false, false, false, false, false, false, false, false, false, false, false, false, false, false, false, false, false, false, false, false, false, false, false, false, false, false, false, false, false, false, false, false, false, false, false, false, false, false, false, false, false] rfl rfl (any_of HT_.out (by kernel_rfl)) (fun _ _ _ h => h) (Or.inl ⟨by rfl, ?_⟩) ?_ ?_
                rotate_left
                · intro w'
                  go_simp
                  with_reducible rfl
                rotate_left
                · simp only [Act.put, List.setIfInBounds_toArray, List.set_cons_zero, List.set_cons_succ, i64_w, i32_w]
                  rfl
                refine pure_ (i := 4) (N := some 34) (v := ?_) (a' := ?_) #[true, true, true, true, true, false, false, false, false, false, false, false, false, false, false, false, false, false, false, false, false, false, false, false, false, false, false, false, false, false, false, false, false, false, false, false, false, false, false, false, false, false, false, false, false, false, false, false, false] rfl rfl (any_of HT_.out (by kernel_rfl)) (fun _ _ _ h => h) (Or.inl ⟨by rfl, ?_⟩) ?_ ?_
                rotate_left
                · intro w'
                  go_simp
                  with_reducible rfl
                rotate_left
                · simp only [Act.put, List.setIfInBounds_toArray, List.set_cons_zero, List.set_cons_succ, i64_w, i32_w]
                  rfl
                refine pure_ (i := 5) (N := some 35) (v := ?_) (a' := ?_) #[true, true, true, true, true, true, false, false, false, false, false, false, false, false, false, false, false, false, false, false, false, false, false, false, false, false, false, false, false, false, false, false, false, false, false, false, false, false, false, false, false, false, false, false, false, false, false, false, false] rfl rfl (any_of HT_.out (by kernel_rfl)) (fun _ _ _ h => h) (Or.inl ⟨by rfl, ?_⟩) ?_ ?_
                rotate_left
                · intro w'
                  go_simp
                  with_reducible rfl
                rotate_left
                · simp only [Act.put, List.setIfInBounds_toArray, List.set_cons_zero, List.set_cons_succ, i64_w, i32_w]
                  rfl
                refine pure_ (i := 6) (N := some 36) (v := ?_) (a' := ?_) #[true, true, true, true, true, true, true, false, false, false, false, false, false, false, false, false, false, false, false, false, false, false, false, false, false, false, false, false, false, false, false, false, false, false, false, false, false, false, false, false, false, false, false, false, false, false, false, false, false] rfl rfl (any_of HT_.out (by kernel_rfl)) (fun _ _ _ h => h) (Or.inl ⟨by rfl, ?_⟩) ?_ ?_
                rotate_left
                · intro w'
                  go_simp
                  with_reducible rfl
                rotate_left
                · simp only [Act.put, List.setIfInBounds_toArray, List.set_cons_zero, List.set_cons_succ, i64_w, i32_w]
                  rfl
                refine take_ (i := 8) (N := some 38) (v := ?_) (a' := ?_) #[true, true, true, true, true, true, true, false, true, false, false, false, false, false, false, false, false, false, false, false, false, false, false, false, false, false, false, false, false, false, false, false, false, false, false, false, false, false, false, false, false, false, false, false, false, false, false, false, false] rfl rfl (take_ofW HT_.out HW_.out (by kernel_rfl)) (fun _ _ _ h => h) (Or.inl ⟨by rfl, ?_⟩) hHeld ?_ ?_
                rotate_left
                · rintro w' ⟨s0, s1, s2, s3, s4, s5, s6, s7, s8, s9, s10, s11, s12, s13, s14, s15, s16, s17⟩
                  go_simp
                  with_reducible rfl
                rotate_left
                · simp only [Act.put, List.setIfInBounds_toArray, List.set_cons_zero, List.set_cons_succ, i64_w, i32_w]
                  rfl
                refine one_ (i := 7) (N := some 37) #[true, true, true, true, true, true, true, true, true, false, false, false, false, false, false, false, false, false, false, false, false, false, false, false, false, false, false, false, false, false, false, false, false, false, false, false, false, false, false, false, false, false, false, false, false, false, false, false, false] rfl rfl (one_of HT_.out (by kernel_rfl)) (by decide) (fun K hK => ?_)
                refine goes_ Try.func56 (by kernel_rfl) rfl #[.int .u8 (Go.bits .xor .u8 t748 48)] (by rfl) rfl rfl (by (try simp only [List.map_toArray, List.map_cons, List.map_nil]); first | done | rfl | (simp only [List.length_drop, List.length_take]; rfl)) ?_
                with_reducible refine (impl_UnpackP.calls (Go.bits .xor .u8 t748 48) t771 t772 t773 t774 t775 t776 _ A10.out).mono ?_
                rintro e w33 ⟨rfl, hb⟩
                refine ⟨_, rfl, ?_⟩
                have n0_ := Aside0.mk (blk_below (g := gb747) (o := .cells #[.bool t740, .bool t741, .bool t742, .bool t743, .bool t744, .bool t745] 40 (0, 0)) (by (with_reducible repeat (first | refine blk_drewN ?_ _ | refine blk_drew ?_ | refine blk_alloc ?_ _)); exact BK747.out) hb)
                have n1_ := Aside0.mk (blk_below (g := gb757) (o := .cells #[.bool t751, .bool t752, .bool t753, .bool t754, .bool t755, .bool t756] 40 (0, 0)) (by (with_reducible repeat (first | refine blk_drewN ?_ _ | refine blk_drew ?_ | refine blk_alloc ?_ _)); exact BK757.out) hb)
                have n2_ := Aside0.mk (blk_below (g := gb764) (o := .cells #[.bool t758, .bool t759, .bool t760, .bool t761, .bool t762, .bool t763] 40 (0, 0)) (by (with_reducible repeat (first | refine blk_drewN ?_ _ | refine blk_drew ?_ | refine blk_alloc ?_ _)); exact BK764.out) hb)
                have n3_ := Aside0.mk (below_step (by repeat (first | (with_reducible first | exact HB.out | apply below_alloc | apply pw_below_drewN | apply below_drew1 | refine below_set ?_ GE747.out | refine below_set ?_ GE757.out | refine below_set ?_ GE764.out) | exact HB.out)) hb)
                clear BK747
                clear BK757
                clear BK764
                clear HB
                have BK747 := n0_
                have BK757 := n1_
                have BK764 := n2_
                have HB := n3_
                clear n0_ n1_ n2_ n3_
                (try clear hb)
                (try clear hb2)
                (try clear hk)
                (try clear hi)
                refine hK.out _ _ ⟨(blk_cell BK747.out 0).trans rfl, (blk_cell BK747.out 1).trans rfl, (blk_cell BK747.out 2).trans rfl, (blk_cell BK747.out 3).trans rfl, (blk_cell BK747.out 4).trans rfl, (blk_cell BK747.out 5).trans rfl, (blk_cell BK764.out 0).trans rfl, (blk_cell BK764.out 1).trans rfl, (blk_cell BK764.out 2).trans rfl, (blk_cell BK764.out 3).trans rfl, (blk_cell BK764.out 4).trans rfl, (blk_cell BK764.out 5).trans rfl, (blk_cell BK757.out 0).trans rfl, (blk_cell BK757.out 1).trans rfl, (blk_cell BK757.out 2).trans rfl, (blk_cell BK757.out 3).trans rfl, (blk_cell BK757.out 4).trans rfl, (blk_cell BK757.out 5).trans rfl⟩ (fun hHeld => ?_)
                clear hK K
                refine norm_ (a' := ?_) ?_ ?_
                rotate_left
                · show Act.put _ (some 37) _ = _
                  simp only [Act.put, List.setIfInBounds_toArray, List.set_cons_zero, List.set_cons_succ, i64_w, i32_w]
                  rfl
                refine pure_ (i := 9) (N := some 39) (v := ?_) (a' := ?_) #[true, true, true, true, true, true, true, true, true, true, false, false, false, false, false, false, false, false, false, false, false, false, false, false, false, false, false, false, false, false, false, false, false, false, false, false, false, false, false, false, false, false, false, false, false, false, false, false, false] rfl rfl (any_of HT_.out (by kernel_rfl)) (fun _ _ _ h => h) (Or.inl ⟨by rfl, ?_⟩) ?_ ?_
                rotate_left
                · intro w'
                  go_simp
                  with_reducible rfl
                rotate_left
                · simp only [Act.put, List.setIfInBounds_toArray, List.set_cons_zero, List.set_cons_succ, i64_w, i32_w]
                  rfl
                refine pure_ (i := 10) (N := some 40) (v := ?_) (a' := ?_) #[true, true, true, true, true, true, true, true, true, true, true, false, false, false, false, false, false, false, false, false, false, false, false, false, false, false, false, false, false, false, false, false, false, false, false, false, false, false, false, false, false, false, false, false, false, false, false, false, false] rfl rfl (any_of HT_.out (by kernel_rfl)) (fun _ _ _ h => h) (Or.inl ⟨by rfl, ?_⟩) ?_ ?_
                rotate_left
                · intro w'
                  go_simp
                  with_reducible rfl
                rotate_left
                · simp only [Act.put, List.setIfInBounds_toArray, List.set_cons_zero, List.set_cons_succ, i64_w, i32_w]
                  rfl
                refine pure_ (i := 11) (N := some 41) (v := ?_) (a' := ?_) #[true, true, true, true, true, true, true, true, true, true, true, true, false, false, false, false, false, false, false, false, false, false, false, false, false, false, false, false, false, false, false, false, false, false, false, false, false, false, false, false, false, false, false, false, false, false, false, false, false] rfl rfl (any_of HT_.out (by kernel_rfl)) (fun _ _ _ h => h) (Or.inl ⟨by rfl, ?_⟩) ?_ ?_
                rotate_left
                · intro w'
                  go_simp
                  with_reducible rfl
                rotate_left
                · simp only [Act.put, List.setIfInBounds_toArray, List.set_cons_zero, List.set_cons_succ, i64_w, i32_w]
                  rfl
                refine pure_ (i := 12) (N := some 42) (v := ?_) (a' := ?_) #[true, true, true, true, true, true, true, true, true, true, true, true, true, false, false, false, false, false, false, false, false, false, false, false, false, false, false, false, false, false, false, false, false, false, false, false, false, false, false, false, false, false, false, false, false, false, false, false, false] rfl rfl (any_of HT_.out (by kernel_rfl)) (fun _ _ _ h => h) (Or.inl ⟨by rfl, ?_⟩) ?_ ?_
                rotate_left
                · intro w'
                  go_simp
                  with_reducible rfl
                rotate_left
                · simp only [Act.put, List.setIfInBounds_toArray, List.set_cons_zero, List.set_cons_succ, i64_w, i32_w]
                  rfl
                refine pure_ (i := 14) (N := some 44) (v := ?_) (a' := ?_) #[true, true, true, true, true, true, true, true, true, true, true, true, true, false, true, false, false, false, false, false, false, false, false, false, false, false, false, false, false, false, false, false, false, false, false, false, false, false, false, false, false, false, false, false, false, false, false, false, false] rfl rfl (any_of HT_.out (by kernel_rfl)) (fun _ _ _ h => h) (Or.inl ⟨by rfl, ?_⟩) ?_ ?_
                rotate_left
                · intro w'
                  go_simp
                  with_reducible rfl
                rotate_left
                · simp only [Act.put, List.setIfInBounds_toArray, List.set_cons_zero, List.set_cons_succ, i64_w, i32_w]
                  rfl
                refine take_ (i := 13) (N := some 43) (v := ?_) (a' := ?_) #[true, true, true, true, true, true, true, true, true, true, true, true, true, true, true, false, false, false, false, false, false, false, false, false, false, false, false, false, false, false, false, false, false, false, false, false, false, false, false, false, false, false, false, false, false, false, false, false, false] rfl rfl (take_ofW HT_.out HW_.out (by kernel_rfl)) (fun _ _ _ h => h) (Or.inl ⟨by rfl, ?_⟩) hHeld ?_ ?_
                rotate_left
                · rintro w' ⟨s0, s1, s2, s3, s4, s5, s6, s7, s8, s9, s10, s11, s12, s13, s14, s15, s16, s17⟩
                  go_simp
                  with_reducible rfl
                rotate_left
                · simp only [Act.put, List.setIfInBounds_toArray, List.set_cons_zero, List.set_cons_succ, i64_w, i32_w]
                  rfl
                refine one_ (i := 15) (N := some 45) #[true, true, true, true, true, true, true, true, true, true, true, true, true, true, true, true, false, false, false, false, false, false, false, false, false, false, false, false, false, false, false, false, false, false, false, false, false, false, false, false, false, false, false, false, false, false, false, false, false] rfl rfl (one_of HT_.out (by kernel_rfl)) (by decide) (fun K hK => ?_)
                refine goes_ Try.func57 (by kernel_rfl) rfl #[.agg #[.bool t740, .bool t741, .bool t742, .bool t743, .bool t744, .bool t745], .bool t746] (by rfl) rfl rfl (by (try simp only [List.map_toArray, List.map_cons, List.map_nil]); first | done | rfl | (simp only [List.length_drop, List.length_take]; rfl)) ?_
                with_reducible refine (spec_PackP.calls t740 t741 t742 t743 t744 t745 t746 t777 _ A12.out).mono ?_
                rintro e w34 ⟨rfl, hb⟩
                refine ⟨_, rfl, ?_⟩
                have n0_ := Aside0.mk (blk_below (g := gb747) (o := .cells #[.bool t740, .bool t741, .bool t742, .bool t743, .bool t744, .bool t745] 40 (0, 0)) (by (with_reducible repeat (first | refine blk_drewN ?_ _ | refine blk_drew ?_ | refine blk_alloc ?_ _)); exact BK747.out) hb)
                have n1_ := Aside0.mk (blk_below (g := gb757) (o := .cells #[.bool t751, .bool t752, .bool t753, .bool t754, .bool t755, .bool t756] 40 (0, 0)) (by (with_reducible repeat (first | refine blk_drewN ?_ _ | refine blk_drew ?_ | refine blk_alloc ?_ _)); exact BK757.out) hb)
                have n2_ := Aside0.mk (blk_below (g := gb764) (o := .cells #[.bool t758, .bool t759, .bool t760, .bool t761, .bool t762, .bool t763] 40 (0, 0)) (by (with_reducible repeat (first | refine blk_drewN ?_ _ | refine blk_drew ?_ | refine blk_alloc ?_ _)); exact BK764.out) hb)
                have n3_ := Aside0.mk (below_step (by repeat (first | (with_reducible first | exact HB.out | apply below_alloc | apply pw_below_drewN | apply below_drew1 | refine below_set ?_ GE747.out | refine below_set ?_ GE757.out | refine below_set ?_ GE764.out) | exact HB.out)) hb)
                clear BK747
                clear BK757
                clear BK764
                clear HB
                have BK747 := n0_
                have BK757 := n1_
                have BK764 := n2_
                have HB := n3_
                clear n0_ n1_ n2_ n3_
                (try clear hb)
                (try clear hb2)
                (try clear hk)
                (try clear hi)
                refine hK.out _ _ ⟨(blk_cell BK747.out 0).trans rfl, (blk_cell BK747.out 1).trans rfl, (blk_cell BK747.out 2).trans rfl, (blk_cell BK747.out 3).trans rfl, (blk_cell BK747.out 4).trans rfl, (blk_cell BK747.out 5).trans rfl, (blk_cell BK764.out 0).trans rfl, (blk_cell BK764.out 1).trans rfl, (blk_cell BK764.out 2).trans rfl, (blk_cell BK764.out 3).trans rfl, (blk_cell BK764.out 4).trans rfl, (blk_cell BK764.out 5).trans rfl, (blk_cell BK757.out 0).trans rfl, (blk_cell BK757.out 1).trans rfl, (blk_cell BK757.out 2).trans rfl, (blk_cell BK757.out 3).trans rfl, (blk_cell BK757.out 4).trans rfl, (blk_cell BK757.out 5).trans rfl⟩ (fun hHeld => ?_)
                clear hK K
                refine norm_ (a' := ?_) ?_ ?_
                rotate_left
                · show Act.put _ (some 45) _ = _
                  simp only [Act.put, List.setIfInBounds_toArray, List.set_cons_zero, List.set_cons_succ, i64_w, i32_w]
                  rfl
                refine pure_ (i := 16) (N := some 46) (v := ?_) (a' := ?_) #[true, true, true, true, true, true, true, true, true, true, true, true, true, true, true, true, true, false, false, false, false, false, false, false, false, false, false, false, false, false, false, false, false, false, false, false, false, false, false, false, false, false, false, false, false, false, false, false, false] rfl rfl (any_of HT_.out (by kernel_rfl)) (fun _ _ _ h => h) (Or.inl ⟨by rfl, ?_⟩) ?_ ?_
                rotate_left
                · intro w'
                  go_simp
                  with_reducible rfl
                rotate_left
                · simp only [Act.put, List.setIfInBounds_toArray, List.set_cons_zero, List.set_cons_succ, i64_w, i32_w]
                  rfl
                refine pure_ (i := 17) (N := some 47) (v := ?_) (a' := ?_) #[true, true, true, true, true, true, true, true, true, true, true, true, true, true, true, true, true, true, false, false, false, false, false, false, false, false, false, false, false, false, false, false, false, false, false, false, false, false, false, false, false, false, false, false, false, false, false, false, false] rfl rfl (any_of HT_.out (by kernel_rfl)) (fun _ _ _ h => h) (Or.inl ⟨by rfl, ?_⟩) ?_ ?_
                rotate_left
                · intro w'
                  go_simp
                  with_reducible rfl
                rotate_left
                · simp only [Act.put, List.setIfInBounds_toArray, List.set_cons_zero, List.set_cons_succ, i64_w, i32_w]
                  rfl
                refine pure_ (i := 18) (N := some 48) (v := ?_) (a' := ?_) #[true, true, true, true, true, true, true, true, true, true, true, true, true, true, true, true, true, true, true, false, false, false, false, false, false, false, false, false, false, false, false, false, false, false, false, false, false, false, false, false, false, false, false, false, false, false, false, false, false] rfl rfl (any_of HT_.out (by kernel_rfl)) (fun _ _ _ h => h) (Or.inl ⟨by rfl, ?_⟩) ?_ ?_
                rotate_left
                · intro w'
                  go_simp
                  with_reducible rfl
                rotate_left
                · simp only [Act.put, List.setIfInBounds_toArray, List.set_cons_zero, List.set_cons_succ, i64_w, i32_w]
                  rfl
                refine pure_ (i := 19) (N := some 49) (v := ?_) (a' := ?_) #[true, true, true, true, true, true, true, true, true, true, true, true, true, true, true, true, true, true, true, true, false, false, false, false, false, false, false, false, false, false, false, false, false, false, false, false, false, false, false, false, false, false, false, false, false, false, false, false, false] rfl rfl (any_of HT_.out (by kernel_rfl)) (fun _ _ _ h => h) (Or.inl ⟨by rfl, ?_⟩) ?_ ?_
                rotate_left
                · intro w'
                  go_simp
                  with_reducible rfl
                rotate_left
                · simp only [Act.put, List.setIfInBounds_toArray, List.set_cons_zero, List.set_cons_succ, i64_w, i32_w]
                  rfl
                refine pure_ (i := 21) (N := some 51) (v := ?_) (a' := ?_) #[true, true, true, true, true, true, true, true, true, true, true, true, true, true, true, true, true, true, true, true, false, true, false, false, false, false, false, false, false, false, false, false, false, false, false, false, false, false, false, false, false, false, false, false, false, false, false, false, false] rfl rfl (any_of HT_.out (by kernel_rfl)) (fun _ _ _ h => h) (Or.inl ⟨by rfl, ?_⟩) ?_ ?_
                rotate_left
                · intro w'
                  go_simp
                  with_reducible rfl
                rotate_left
                · simp only [Act.put, List.setIfInBounds_toArray, List.set_cons_zero, List.set_cons_succ, i64_w, i32_w]
                  rfl
                refine pure_ (i := 22) (N := some 52) (v := ?_) (a' := ?_) #[true, true, true, true, true, true, true, true, true, true, true, true, true, true, true, true, true, true, true, true, false, true, true, false, false, false, false, false, false, false, false, false, false, false, false, false, false, false, false, false, false, false, false, false, false, false, false, false, false] rfl rfl (any_of HT_.out (by kernel_rfl)) (fun _ _ _ h => h) (Or.inl ⟨by rfl, ?_⟩) ?_ ?_
                rotate_left
                · intro w'
                  go_simp
                  with_reducible rfl
                rotate_left
                · simp only [Act.put, List.setIfInBounds_toArray, List.set_cons_zero, List.set_cons_succ, i64_w, i32_w]
                  rfl
                refine pure_ (i := 23) (N := some 53) (v := ?_) (a' := ?_) #[true, true, true, true, true, true, true, true, true, true, true, true, true, true, true, true, true, true, true, true, false, true, true, true, false, false, false, false, false, false, false, false, false, false, false, false, false, false, false, false, false, false, false, false, false, false, false, false, false] rfl rfl (any_of HT_.out (by kernel_rfl)) (fun _ _ _ h => h) (Or.inl ⟨by rfl, ?_⟩) ?_ ?_
                rotate_left
                · intro w'
                  go_simp
                  with_reducible rfl
                rotate_left
                · simp only [Act.put, List.setIfInBounds_toArray, List.set_cons_zero, List.set_cons_succ, i64_w, i32_w]
                  rfl
                refine take_ (i := 20) (N := some 50) (v := ?_) (a' := ?_) #[true, true, true, true, true, true, true, true, true, true, true, true, true, true, true, true, true, true, true, true, true, true, true, true, false, false, false, false, false, false, false, false, false, false, false, false, false, false, false, false, false, false, false, false, false, false, false, false, false] rfl rfl (take_ofW HT_.out HW_.out (by kernel_rfl)) (fun _ _ _ h => h) (Or.inl ⟨by rfl, ?_⟩) hHeld ?_ ?_
                rotate_left
                · rintro w' ⟨s0, s1, s2, s3, s4, s5, s6, s7, s8, s9, s10, s11, s12, s13, s14, s15, s16, s17⟩
                  go_simp
                  with_reducible rfl
                rotate_left
                · simp only [Act.put, List.setIfInBounds_toArray, List.set_cons_zero, List.set_cons_succ, i64_w, i32_w]
                  rfl
                refine pure_ (i := 24) (N := some 54) (v := ?_) (a' := ?_) #[true, true, true, true, true, true, true, true, true, true, true, true, true, true, true, true, true, true, true, true, true, true, true, true, true, false, false, false, false, false, false, false, false, false, false, false, false, false, false, false, false, false, false, false, false, false, false, false, false] rfl rfl (any_of HT_.out (by kernel_rfl)) (fun _ _ _ h => h) (Or.inl ⟨by rfl, ?_⟩) ?_ ?_
                rotate_left
                · intro w'
                  go_simp
                  with_reducible rfl
                rotate_left
                · simp only [Act.put, List.setIfInBounds_toArray, List.set_cons_zero, List.set_cons_succ, i64_w, i32_w]
                  rfl
                refine pure_ (i := 25) (N := some 55) (v := ?_) (a' := ?_) #[true, true, true, true, true, true, true, true, true, true, true, true, true, true, true, true, true, true, true, true, true, true, true, true, true, true, false, false, false, false, false, false, false, false, false, false, false, false, false, false, false, false, false, false, false, false, false, false, false] rfl rfl (any_of HT_.out (by kernel_rfl)) (fun _ _ _ h => h) (Or.inl ⟨by rfl, ?_⟩) ?_ ?_
                rotate_left
                · intro w'
                  go_simp
                  with_reducible rfl
                rotate_left
                · simp only [Act.put, List.setIfInBounds_toArray, List.set_cons_zero, List.set_cons_succ, i64_w, i32_w]
                  rfl
                refine pure_ (i := 26) (N := some 56) (v := ?_) (a' := ?_) #[true, true, true, true, true, true, true, true, true, true, true, true, true, true, true, true, true, true, true, true, true, true, true, true, true, true, true, false, false, false, false, false, false, false, false, false, false, false, false, false, false, false, false, false, false, false, false, false, false] rfl rfl (any_of HT_.out (by kernel_rfl)) (fun _ _ _ h => h) (Or.inl ⟨by rfl, ?_⟩) ?_ ?_
                rotate_left
                · intro w'
                  go_simp
                  with_reducible rfl
                rotate_left
                · simp only [Act.put, List.setIfInBounds_toArray, List.set_cons_zero, List.set_cons_succ, i64_w, i32_w]
                  rfl
                refine pure_ (i := 27) (N := some 57) (v := ?_) (a' := ?_) #[true, true, true, true, true, true, true, true, true, true, true, true, true, true, true, true, true, true, true, true, true, true, true, true, true, true, true, true, false, false, false, false, false, false, false, false, false, false, false, false, false, false, false, false, false, false, false, false, false] rfl rfl (any_of HT_.out (by kernel_rfl)) (fun _ _ _ h => h) (Or.inl ⟨by rfl, ?_⟩) ?_ ?_
                rotate_left
                · intro w'
                  go_simp
                  with_reducible rfl
                rotate_left
                · simp only [Act.put, List.setIfInBounds_toArray, List.set_cons_zero, List.set_cons_succ, i64_w, i32_w]
                  rfl
                refine pure_ (i := 29) (N := some 59) (v := ?_) (a' := ?_) #[true, true, true, true, true, true, true, true, true, true, true, true, true, true, true, true, true, true, true, true, true, true, true, true, true, true, true, true, false, true, false, false, false, false, false, false, false, false, false, false, false, false, false, false, false, false, false, false, false] rfl rfl (any_of HT_.out (by kernel_rfl)) (fun _ _ _ h => h) (Or.inl ⟨by rfl, ?_⟩) ?_ ?_
                rotate_left
                · intro w'
                  go_simp
                  with_reducible rfl
                rotate_left
                · simp only [Act.put, List.setIfInBounds_toArray, List.set_cons_zero, List.set_cons_succ, i64_w, i32_w]
                  rfl
                refine pure_ (i := 30) (N := some 60) (v := ?_) (a' := ?_) #[true, true, true, true, true, true, true, true, true, true, true, true, true, true, true, true, true, true, true, true, true, true, true, true, true, true, true, true, false, true, true, false, false, false, false, false, false, false, false, false, false, false, false, false, false, false, false, false, false] rfl rfl (any_of HT_.out (by kernel_rfl)) (fun _ _ _ h => h) (Or.inl ⟨by rfl, ?_⟩) ?_ ?_
                rotate_left
                · intro w'
                  go_simp
                  with_reducible rfl
                rotate_left
                · simp only [Act.put, List.setIfInBounds_toArray, List.set_cons_zero, List.set_cons_succ, i64_w, i32_w]
                  rfl
                refine pure_ (i := 31) (N := some 61) (v := ?_) (a' := ?_) #[true, true, true, true, true, true, true, true, true, true, true, true, true, true, true, true, true, true, true, true, true, true, true, true, true, true, true, true, false, true, true, true, false, false, false, false, false, false, false, false, false, false, false, false, false, false, false, false, false] rfl rfl (any_of HT_.out (by kernel_rfl)) (fun _ _ _ h => h) (Or.inl ⟨by rfl, ?_⟩) ?_ ?_
                rotate_left
                · intro w'
                  go_simp
                  with_reducible rfl
                rotate_left
                · simp only [Act.put, List.setIfInBounds_toArray, List.set_cons_zero, List.set_cons_succ, i64_w, i32_w]
                  rfl
                refine take_ (i := 28) (N := some 58) (v := ?_) (a' := ?_) #[true, true, true, true, true, true, true, true, true, true, true, true, true, true, true, true, true, true, true, true, true, true, true, true, true, true, true, true, true, true, true, true, false, false, false, false, false, false, false, false, false, false, false, false, false, false, false, false, false] rfl rfl (take_ofW HT_.out HW_.out (by kernel_rfl)) (fun _ _ _ h => h) (Or.inl ⟨by rfl, ?_⟩) hHeld ?_ ?_
                rotate_left
                · rintro w' ⟨s0, s1, s2, s3, s4, s5, s6, s7, s8, s9, s10, s11, s12, s13, s14, s15, s16, s17⟩
                  go_simp
                  with_reducible rfl
                rotate_left
                · simp only [Act.put, List.setIfInBounds_toArray, List.set_cons_zero, List.set_cons_succ, i64_w, i32_w]
                  rfl
                refine pure_ (i := 32) (N := some 62) (v := ?_) (a' := ?_) #[true, true, true, true, true, true, true, true, true, true, true, true, true, true, true, true, true, true, true, true, true, true, true, true, true, true, true, true, true, true, true, true, true, false, false, false, false, false, false, false, false, false, false, false, false, false, false, false, false] rfl rfl (any_of HT_.out (by kernel_rfl)) (fun _ _ _ h => h) (Or.inl ⟨by rfl, ?_⟩) ?_ ?_
                rotate_left
                · intro w'
                  go_simp
                  with_reducible rfl
                rotate_left
                · simp only [Act.put, List.setIfInBounds_toArray, List.set_cons_zero, List.set_cons_succ, i64_w, i32_w]
                  rfl
                refine pure_ (i := 33) (N := some 63) (v := ?_) (a' := ?_) #[true, true, true, true, true, true, true, true, true, true, true, true, true, true, true, true, true, true, true, true, true, true, true, true, true, true, true, true, true, true, true, true, true, true, false, false, false, false, false, false, false, false, false, false, false, false, false, false, false] rfl rfl (any_of HT_.out (by kernel_rfl)) (fun _ _ _ h => h) (Or.inl ⟨by rfl, ?_⟩) ?_ ?_
                rotate_left
                · intro w'
                  go_simp
                  with_reducible rfl
                rotate_left
                · simp only [Act.put, List.setIfInBounds_toArray, List.set_cons_zero, List.set_cons_succ, i64_w, i32_w]
                  rfl
                refine pure_ (i := 34) (N := some 64) (v := ?_) (a' := ?_) #[true, true, true, true, true, true, true, true, true, true, true, true, true, true, true, true, true, true, true, true, true, true, true, true, true, true, true, true, true, true, true, true, true, true, true, false, false, false, false, false, false, false, false, false, false, false, false, false, false] rfl rfl (any_of HT_.out (by kernel_rfl)) (fun _ _ _ h => h) (Or.inl ⟨by rfl, ?_⟩) ?_ ?_
                rotate_left
                · intro w'
                  go_simp
                  with_reducible rfl
                rotate_left
                · simp only [Act.put, List.setIfInBounds_toArray, List.set_cons_zero, List.set_cons_succ, i64_w, i32_w]
                  rfl
                refine pure_ (i := 35) (N := some 65) (v := ?_) (a' := ?_) #[true, true, true, true, true, true, true, true, true, true, true, true, true, true, true, true, true, true, true, true, true, true, true, true, true, true, true, true, true, true, true, true, true, true, true, true, false, false, false, false, false, false, false, false, false, false, false, false, false] rfl rfl (any_of HT_.out (by kernel_rfl)) (fun _ _ _ h => h) (Or.inl ⟨by rfl, ?_⟩) ?_ ?_
                rotate_left
                · intro w'
                  go_simp
                  with_reducible rfl
                rotate_left
                · simp only [Act.put, List.setIfInBounds_toArray, List.set_cons_zero, List.set_cons_succ, i64_w, i32_w]
                  rfl
                refine pure_ (i := 37) (N := some 67) (v := ?_) (a' := ?_) #[true, true, true, true, true, true, true, true, true, true, true, true, true, true, true, true, true, true, true, true, true, true, true, true, true, true, true, true, true, true, true, true, true, true, true, true, false, true, false, false, false, false, false, false, false, false, false, false, false] rfl rfl (any_of HT_.out (by kernel_rfl)) (fun _ _ _ h => h) (Or.inl ⟨by rfl, ?_⟩) ?_ ?_
                rotate_left
                · intro w'
                  go_simp
                  with_reducible rfl
                rotate_left
                · simp only [Act.put, List.setIfInBounds_toArray, List.set_cons_zero, List.set_cons_succ, i64_w, i32_w]
                  rfl
                refine take_ (i := 36) (N := some 66) (v := ?_) (a' := ?_) #[true, true, true, true, true, true, true, true, true, true, true, true, true, true, true, true, true, true, true, true, true, true, true, true, true, true, true, true, true, true, true, true, true, true, true, true, true, true, false, false, false, false, false, false, false, false, false, false, false] rfl rfl (take_ofW HT_.out HW_.out (by kernel_rfl)) (fun _ _ _ h => h) (Or.inl ⟨by rfl, ?_⟩) hHeld ?_ ?_
                rotate_left
                · rintro w' ⟨s0, s1, s2, s3, s4, s5, s6, s7, s8, s9, s10, s11, s12, s13, s14, s15, s16, s17⟩
                  go_simp
                  with_reducible rfl
                rotate_left
                · simp only [Act.put, List.setIfInBounds_toArray, List.set_cons_zero, List.set_cons_succ, i64_w, i32_w]
                  rfl
                refine take_ (i := 38) (N := some 68) (v := ?_) (a' := ?_) #[true, true, true, true, true, true, true, true, true, true, true, true, true, true, true, true, true, true, true, true, true, true, true, true, true, true, true, true, true, true, true, true, true, true, true, true, true, true, true, false, false, false, false, false, false, false, false, false, false] rfl rfl (take_ofW HT_.out HW_.out (by kernel_rfl)) (fun _ _ _ h => h) (Or.inl ⟨by rfl, ?_⟩) hHeld ?_ ?_
                rotate_left
                · rintro w' ⟨s0, s1, s2, s3, s4, s5, s6, s7, s8, s9, s10, s11, s12, s13, s14, s15, s16, s17⟩
                  go_simp
                  with_reducible rfl
                rotate_left
                · simp only [Act.put, List.setIfInBounds_toArray, List.set_cons_zero, List.set_cons_succ, i64_w, i32_w]
                  rfl
                refine pure_ (i := 39) (N := some 69) (v := ?_) (a' := ?_) #[true, true, true, true, true, true, true, true, true, true, true, true, true, true, true, true, true, true, true, true, true, true, true, true, true, true, true, true, true, true, true, true, true, true, true, true, true, true, true, true, false, false, false, false, false, false, false, false, false] rfl rfl (any_of HT_.out (by kernel_rfl)) (fun _ _ _ h => h) (Or.inl ⟨by rfl, ?_⟩) ?_ ?_
                rotate_left
                · intro w'
                  go_simp
                  with_reducible rfl
                rotate_left
                · simp only [Act.put, List.setIfInBounds_toArray, List.set_cons_zero, List.set_cons_succ, i64_w, i32_w]
                  rfl
                refine pure_ (i := 40) (N := some 70) (v := ?_) (a' := ?_) #[true, true, true, true, true, true, true, true, true, true, true, true, true, true, true, true, true, true, true, true, true, true, true, true, true, true, true, true, true, true, true, true, true, true, true, true, true, true, true, true, true, false, false, false, false, false, false, false, false] rfl rfl (any_of HT_.out (by kernel_rfl)) (fun _ _ _ h => h) (Or.inl ⟨by rfl, ?_⟩) ?_ ?_
                rotate_left
                · intro w'
                  go_simp
                  with_reducible rfl
                rotate_left
                · simp only [Act.put, List.setIfInBounds_toArray, List.set_cons_zero, List.set_cons_succ, i64_w, i32_w]
                  rfl
                refine pure_ (i := 41) (N := some 71) (v := ?_) (a' := ?_) #[true, true, true, true, true, true, true, true, true, true, true, true, true, true, true, true, true, true, true, true, true, true, true, true, true, true, true, true, true, true, true, true, true, true, true, true, true, true, true, true, true, true, false, false, false, false, false, false, false] rfl rfl (any_of HT_.out (by kernel_rfl)) (fun _ _ _ h => h) (Or.inl ⟨by rfl, ?_⟩) ?_ ?_
                rotate_left
                · intro w'
                  go_simp
                  with_reducible rfl
                rotate_left
                · simp only [Act.put, List.setIfInBounds_toArray, List.set_cons_zero, List.set_cons_succ, i64_w, i32_w]
                  rfl
                refine pure_ (i := 42) (N := some 72) (v := ?_) (a' := ?_) #[true, true, true, true, true, true, true, true, true, true, true, true, true, true, true, true, true, true, true, true, true, true, true, true, true, true, true, true, true, true, true, true, true, true, true, true, true, true, true, true, true, true, true, false, false, false, false, false, false] rfl rfl (any_of HT_.out (by kernel_rfl)) (fun _ _ _ h => h) (Or.inl ⟨by rfl, ?_⟩) ?_ ?_
                rotate_left
                · intro w'
                  go_simp
                  with_reducible rfl
                rotate_left
                · simp only [Act.put, List.setIfInBounds_toArray, List.set_cons_zero, List.set_cons_succ, i64_w, i32_w]
                  rfl
                refine pure_ (i := 44) (N := some 74) (v := ?_) (a' := ?_) #[true, true, true, true, true, true, true, true, true, true, true, true, true, true, true, true, true, true, true, true, true, true, true, true, true, true, true, true, true, true, true, true, true, true, true, true, true, true, true, true, true, true, true, false, true, false, false, false, false] rfl rfl (any_of HT_.out (by kernel_rfl)) (fun _ _ _ h => h) (Or.inl ⟨by rfl, ?_⟩) ?_ ?_
                rotate_left
                · intro w'
                  go_simp
                  with_reducible rfl
                rotate_left
                · simp only [Act.put, List.setIfInBounds_toArray, List.set_cons_zero, List.set_cons_succ, i64_w, i32_w]
                  rfl
                refine take_ (i := 43) (N := some 73) (v := ?_) (a' := ?_) #[true, true, true, true, true, true, true, true, true, true, true, true, true, true, true, true, true, true, true, true, true, true, true, true, true, true, true, true, true, true, true, true, true, true, true, true, true, true, true, true, true, true, true, true, true, false, false, false, false] rfl rfl (take_ofW HT_.out HW_.out (by kernel_rfl)) (fun _ _ _ h => h) (Or.inl ⟨by rfl, ?_⟩) hHeld ?_ ?_
                rotate_left
                · rintro w' ⟨s0, s1, s2, s3, s4, s5, s6, s7, s8, s9, s10, s11, s12, s13, s14, s15, s16, s17⟩
                  go_simp
                  with_reducible rfl
                rotate_left
                · simp only [Act.put, List.setIfInBounds_toArray, List.set_cons_zero, List.set_cons_succ, i64_w, i32_w]
                  rfl
                refine take_ (i := 45) (N := some 75) (v := ?_) (a' := ?_) #[true, true, true, true, true, true, true, true, true, true, true, true, true, true, true, true, true, true, true, true, true, true, true, true, true, true, true, true, true, true, true, true, true, true, true, true, true, true, true, true, true, true, true, true, true, true, false, false, false] rfl rfl (take_ofW HT_.out HW_.out (by kernel_rfl)) (fun _ _ _ h => h) (Or.inl ⟨by rfl, ?_⟩) hHeld ?_ ?_
                rotate_left
                · rintro w' ⟨s0, s1, s2, s3, s4, s5, s6, s7, s8, s9, s10, s11, s12, s13, s14, s15, s16, s17⟩
                  go_simp
                  with_reducible rfl
                rotate_left
                · simp only [Act.put, List.setIfInBounds_toArray, List.set_cons_zero, List.set_cons_succ, i64_w, i32_w]
                  rfl
                refine pure_ (i := 46) (N := some 76) (v := ?_) (a' := ?_) #[true, true, true, true, true, true, true, true, true, true, true, true, true, true, true, true, true, true, true, true, true, true, true, true, true, true, true, true, true, true, true, true, true, true, true, true, true, true, true, true, true, true, true, true, true, true, true, false, false] rfl rfl (any_of HT_.out (by kernel_rfl)) (fun _ _ _ h => h) (Or.inl ⟨by rfl, ?_⟩) ?_ ?_
                rotate_left
                · intro w'
                  go_simp
                  with_reducible rfl
                rotate_left
                · simp only [Act.put, List.setIfInBounds_toArray, List.set_cons_zero, List.set_cons_succ, i64_w, i32_w]
                  rfl
                refine pure_ (i := 47) (N := some 77) (v := ?_) (a' := ?_) #[true, true, true, true, true, true, true, true, true, true, true, true, true, true, true, true, true, true, true, true, true, true, true, true, true, true, true, true, true, true, true, true, true, true, true, true, true, true, true, true, true, true, true, true, true, true, true, true, false] rfl rfl (any_of HT_.out (by kernel_rfl)) (fun _ _ _ h => h) (Or.inl ⟨by rfl, ?_⟩) ?_ ?_
                rotate_left
                · intro w'
                  go_simp
                  with_reducible rfl
                rotate_left
                · simp only [Act.put, List.setIfInBounds_toArray, List.set_cons_zero, List.set_cons_succ, i64_w, i32_w]
                  rfl
                refine pure_ (i := 48) (N := some 2) (v := ?_) (a' := ?_) #[true, true, true, true, true, true, true, true, true, true, true, true, true, true, true, true, true, true, true, true, true, true, true, true, true, true, true, true, true, true, true, true, true, true, true, true, true, true, true, true, true, true, true, true, true, true, true, true, true] rfl rfl (any_of HT_.out (by kernel_rfl)) (fun _ _ _ h => h) (Or.inl ⟨by rfl, ?_⟩) ?_ ?_
                rotate_left
                · intro w'
                  go_simp
                  with_reducible rfl
                rotate_left
                · simp only [Act.put, List.setIfInBounds_toArray, List.set_cons_zero, List.set_cons_succ, i64_w, i32_w]
                  rfl
                refine done_ (done_of HT_.out (by kernel_rfl)) ?_
                try go_wp2
                go_ret
                exact ⟨by first | rfl | (simp [errW_none, errW_some] <;> rfl) | (simp [*, errW_none, errW_some] <;> rfl), by repeat (first | (with_reducible first | exact HB.out | apply below_alloc | apply pw_below_drewN | apply below_drew1 | refine below_set ?_ GE747.out | refine below_set ?_ GE757.out | refine below_set ?_ GE764.out) | exact HB.out)⟩
              · rw [if_neg c16] at H
                have c16b0 : (t759 == t752) = false := by simpa using c16
                (try (have c16b1 : decide (t759 = t752) = false := by simpa using c16))
                (try (have c16b2 : (t759 == t752) = false := by simpa using c16))
                (try (have c16b3 : ¬ (t759 = t752) := by simpa using c16))
                clear c16
                exact absurd ((Option.some.inj H).trans hrt_.out) (by decide)
            · rw [if_neg c15] at H
              have c15b0 : (t762 == (t749 == t750)) = false := by simpa using c15
              (try (have c15b1 : decide (t762 = (t749 == t750)) = false := by simpa using c15))
              (try (have c15b2 : (t762 == (t749 == t750)) = false := by simpa using c15))
              (try (have c15b3 : ¬ (t762 = (t749 == t750)) := by simpa using c15))
              clear c15
              exact absurd ((Option.some.inj H).trans hrt_.out) (by decide)
          · rw [if_neg c14] at H
            have c14b0 : (t763 == (decide (t749 ≥ t750))) = false := by simpa using c14
            (try (have c14b1 : decide (t763 = (decide (t749 ≥ t750))) = false := by simpa using c14))
            (try (have c14b2 : (t763 == (decide (t749 ≥ t750))) = false := by simpa using c14))
            (try (have c14b3 : ¬ (t763 = (decide (t749 ≥ t750))) := by simpa using c14))
            clear c14
            exact absurd ((Option.some.inj H).trans hrt_.out) (by decide)
        · rw [if_neg c13] at H
          have c13b0 : (t748 == t777) = false := beq_eq_false_iff_ne.mpr c13
          have c13b1 : (t748 != t777) = true := bne_iff_ne.mpr c13
          exact absurd ((Option.some.inj H).trans hrt_.out) (by decide)
      · rw [if_neg c11] at H
        have c11b0 : (t771 == t740 && (t772 == t741 && (t773 == t742 && (t774 == t743 && (t775 == t744 && (t776 == t745)))))) = false := by simpa using c11
        (try (have c11b1 : decide (t771 = t740 && (t772 == t741 && (t773 == t742 && (t774 == t743 && (t775 == t744 && (t776 == t745)))))) = false := by simpa using c11))
        (try (have c11b2 : (t771 == t740 && (t772 == t741 && (t773 == t742 && (t774 == t743 && (t775 == t744 && (t776 == t745)))))) = false := by simpa using c11))
        (try (have c11b3 : ¬ (t771 = t740 && (t772 == t741 && (t773 == t742 && (t774 == t743 && (t775 == t744 && (t776 == t745)))))) := by simpa using c11))
        clear c11
        exact absurd ((Option.some.inj H).trans hrt_.out) (by decide)
    · rw [if_neg c9] at H
      have c9b0 : (t765 == t740 && (t766 == t741 && (t767 == t742 && (t768 == t743 && (t769 == t744 && (t770 == t745)))))) = false := by simpa using c9
      (try (have c9b1 : decide (t765 = t740 && (t766 == t741 && (t767 == t742 && (t768 == t743 && (t769 == t744 && (t770 == t745)))))) = false := by simpa using c9))
      (try (have c9b2 : (t765 == t740 && (t766 == t741 && (t767 == t742 && (t768 == t743 && (t769 == t744 && (t770 == t745)))))) = false := by simpa using c9))
      (try (have c9b3 : ¬ (t765 = t740 && (t766 == t741 && (t767 == t742 && (t768 == t743 && (t769 == t744 && (t770 == t745)))))) := by simpa using c9))
      clear c9
      exact absurd ((Option.some.inj H).trans hrt_.out) (by decide)

/-- THE ONE PURE STATEMENT of laws_FnFlags: yours. -/
def laws_FnFlags.Pure : Prop := ∀ (l0 : List Int), l0.length ≤ maxLen → l0.length * 1 ≤ 140737488351232 → (∀ x ∈ l0, (Lit.int .u8 x).wf = true) → ∃ k, laws_FnFlags.f k l0 = some true
theorem laws_FnFlags.walk (P : laws_FnFlags.Pure) (a0 : Option Addr) (len0 cap0 : Nat) (z0 : List Int) (w : World) (w0 : (a0 = none ∧ len0 = 0 ∧ cap0 = 0 ∧ z0 = []) ∨ ∃ x, a0 = some x ∧ len0 ≤ cap0 ∧ cap0 ≤ maxLen ∧ z0.length = cap0 ∧ (∀ i, i < z0.length → w.cell? (x.add i) = some (.int .u8 (z0.getD i 0))) ∧ ∀ n ∈ z0, (Lit.int .u8 n).wf = true) (y0 : len0 * 1 ≤ 140737488351232) :
    Calls Try.prog 11 #[.slice a0 len0 cap0] w fun e w' => e = .returned (.bool true) ∧ Below w.heap.size w w' := by
  obtain ⟨l0, rfl, hr0, hm0, hw0, hc0⟩ := ReadsInt.ofRowC w0
  obtain ⟨k, h⟩ := P l0 hm0 y0 hw0
  refine (laws_FnFlags.calls k _ _ l0 true ⟨rfl⟩ w (Kd.C_of_reads (d := (0 : Int)) (h1 := fun _ => rfl) hr0) hc0 h).mono ?_
  rintro e w' ⟨rfl, hd⟩
  exact ⟨rfl, hd⟩

end Go.Proofs.Ythdeemkhbajfgaa.PAll
